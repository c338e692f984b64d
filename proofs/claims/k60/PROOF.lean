import PyProof.Rows.All
import Wide.All
import OpenK.AllK
import Wide.FinOn
import HandS.ForMost
import HandS.ForExc
import HandS.Evl
import HandS.Lambda
import HandS.CallSlots
import HandS.Walk
import HandS.TupAny
import HandS.IsInst
import HandS.TupMul
import HandS.Style
import HandS.RaiseMore
import KE.KExcSuper
import KE.KTypeName
import HandS.ExcInit
import HandS.ExcField
import HandS.ExcIs
import HandS.Iter
import HandS.Zip
import PySem.Challenge.RW_backwardrow_k60_exact_lines
import HandS.EndTab
import KE.KNestM
section
set_option Elab.async false
set_option linter.all false
set_option maxRecDepth 100000
set_option maxHeartbeats 4000000
/-! DBase: data D, what stands for it in the abstract heap (Rep), slots, outcomes, the state St; judgements over data. -/
namespace DL
open PySem PySem.Spec L2
/-! ### data -/
inductive D where
  | non | bl (b : Bool) | int (i : Int) | str (x : Str) | ty (n : String) | ref (n : String)
  | lst (xs : List D) | tup (xs : List D)
  | ins (C : String) (fs : List (Str × D)) | exc (C : String) (fs : List (Str × D))
  | dct (kvs : List (D × D)) | set (xs : List D)
  | scr (xs : List D)
  | adr (a : Addr)
abbrev Flds := List (Str × D)
/-- what is owned: may still change -/
inductive Ob where
  | lst (ds : List D) | ins (C : String) (fs : Flds) | dct (kvs : List (D × D))
inductive Sl where
  | no | val (d : D) | own (k : Nat) (o : Ob)
abbrev Rho := List Sl
structure Er where
  cls : String
  fs : Flds
inductive Out (α : Type) where
  | ok (a : α) (r : Rho) | err (e : Er) (r : Rho) | bad
abbrev M (α : Type) := Rho → Out α
def Out.bind {α β : Type} (o : Out α) (f : α → M β) : Out β := match o with
  | .ok a r => f a r
  | .err e r => .err e r
  | .bad => .bad
def M.bind {α β : Type} (m : M α) (f : α → M β) : M β := fun r => (m r).bind f
def M.pure {α : Type} (a : α) : M α := fun r => .ok a r
def ofO {α : Type} (o : Option α) : M α := fun r => match o with
  | some a => .ok a r
  | none => .bad

/-! ### heaps -/
abbrev Ex := Evl.Ex
theorem Ex.refl (H : Hp) : Ex H H := fun _ _ h => h
theorem Ex.trans {H H1 H2 : Hp} (a : Ex H H1) (b : Ex H1 H2) : Ex H H2 := fun x o h => b x o (a x o h)
theorem Ex.new {H : Hp} {p : Addr} {o : HO} (h : H p = none) : Ex H (upd H p o) := Evl.Ex.new h
/-- the tables of the code objects of the lambdas that are made -/
class Tbls where
  T : List (Addr × Str)
variable [Tbls]
/-- all but the tables of code objects stay -/
def Kp (H H' : Hp) : Prop := LamX.ExtN H H' ∧ (LamX.Tabs Tbls.T H → LamX.Tabs Tbls.T H')
theorem Kp.refl (H : Hp) : Kp H H := ⟨LamX.ExtN.refl H, fun t => t⟩
theorem Kp.trans {H H1 H2 : Hp} (a : Kp H H1) (b : Kp H1 H2) : Kp H H2 := ⟨a.1.trans b.1, fun t => b.2 (a.2 t)⟩
theorem Kp.of {H H' : Hp} (e : Ex H H') : Kp H H' := ⟨LamX.ExtN.of e, fun t => t.ext e⟩
/-- no table -/
def Nt (G : Hp) : Prop := ∀ a ps, G a ≠ some (.tbl ps)
theorem Nt.ex {G H H' : Hp} (n : Nt G) (e : Ex G H) (k : Kp H H') : Ex G H' := fun a o h => k.1 a o (e a o h) fun ps z => n a ps (by rw [h, z])
theorem Nt.new {G : Hp} {p : Addr} {o : HO} (n : Nt G) (h : ∀ ps, o ≠ .tbl ps) : Nt (upd G p o) := fun a ps z => by
  by_cases e : a = p
  · subst e; rw [upd_same] at z; exact h ps (Option.some.inj z)
  · rw [upd_ne e] at z; exact n a ps z

/-- at a: an error of the class at C, its own dict at d -/
def exA (a C : Addr) (d : Option Addr) : HO := .ext fun h => ∃ (oe : Obj) (vs : Array Value), h.get? a = some oe ∧ oe.cls = .ref C ∧ oe.dict = d ∧ oe.data = .fields vs
/-! ### what stands for data -/
mutual
inductive Rep (K : PySem.W.Frag) (cl : String → Addr) (G : Hp) : V → D → Prop
  | non : Rep K cl G .non .non
  | bl (b : Bool) : Rep K cl G (.bl b) (.bl b)
  | int (i : Int) : Rep K cl G (.int i) (.int i)
  | str (x : Str) : Rep K cl G (.str x) (.str x)
  | ty (n : String) : Rep K cl G (.ty n) (.ty n)
  | ref (n : String) : Rep K cl G (.ref (cl n)) (.ref n)
  | lst {a : Addr} {xs : List V} {ds : List D} : G a = some (.lst xs) → RepL K cl G xs ds → Rep K cl G (.ref a) (.lst ds)
  | scr {a : Addr} {xs : List V} {ds : List D} : SqL K G a xs → RepL K cl G xs ds → Rep K cl G (.ref a) (.scr ds)
  | tup {a : Addr} {xs : List V} {ds : List D} : SqT K G a xs → RepL K cl G xs ds → Rep K cl G (.ref a) (.tup ds)
  | ins {a dx : Addr} {C : String} {gs : List (Str × V)} {fs : Flds} : G a = some (.ins (cl C) dx gs) → RepF K cl G gs fs → Rep K cl G (.ref a) (.ins C fs)
  | exc {a d : Addr} {C : String} {gs : List (Str × V)} {fs : Flds} : G a = some (exA a (cl C) (some d)) → G d = some (.xd gs) → RepF K cl G gs fs → Rep K cl G (.ref a) (.exc C fs)
  | adr (a : Addr) : Rep K cl G (.ref a) (.adr a)
inductive RepL (K : PySem.W.Frag) (cl : String → Addr) (G : Hp) : List V → List D → Prop
  | nil : RepL K cl G [] []
  | cons {v : V} {vs : List V} {d : D} {ds : List D} : Rep K cl G v d → RepL K cl G vs ds → RepL K cl G (v :: vs) (d :: ds)
inductive RepF (K : PySem.W.Frag) (cl : String → Addr) (G : Hp) : List (Str × V) → Flds → Prop
  | nil : RepF K cl G [] []
  | cons {f : Str} {v : V} {vs : List (Str × V)} {d : D} {ds : Flds} : Rep K cl G v d → RepF K cl G vs ds → RepF K cl G ((f, v) :: vs) ((f, d) :: ds)
end
section
variable {K : PySem.W.Frag} {cl : String → Addr} {G G' : Hp}
mutual
theorem Rep.mono (e : Ex G G') : ∀ {v : V} {d : D}, Rep K cl G v d → Rep K cl G' v d
  | _, _, .non => .non
  | _, _, .bl b => .bl b
  | _, _, .int i => .int i
  | _, _, .str x => .str x
  | _, _, .ty n => .ty n
  | _, _, .ref a => .ref a
  | _, _, .lst h r => .lst (e _ _ h) (RepL.mono e r)
  | _, _, .scr h r => .scr (Evl.ex_l e h) (RepL.mono e r)
  | _, _, .tup h r => .tup (Evl.ex_t e h) (RepL.mono e r)
  | _, _, .ins h r => .ins (e _ _ h) (RepF.mono e r)
  | _, _, .exc h h2 r => .exc (e _ _ h) (e _ _ h2) (RepF.mono e r)
  | _, _, .adr a => .adr a
theorem RepL.mono (e : Ex G G') : ∀ {v : List V} {d : List D}, RepL K cl G v d → RepL K cl G' v d
  | _, _, .nil => .nil
  | _, _, .cons h r => .cons (Rep.mono e h) (RepL.mono e r)
theorem RepF.mono (e : Ex G G') : ∀ {v : List (Str × V)} {d : Flds}, RepF K cl G v d → RepF K cl G' v d
  | _, _, .nil => .nil
  | _, _, .cons h r => .cons (Rep.mono e h) (RepF.mono e r)
end
theorem RepL.length : ∀ {v : List V} {d : List D}, RepL K cl G v d → v.length = d.length
  | _, _, .nil => rfl
  | _, _, .cons _ r => congrArg (· + 1) r.length
theorem RepL.get : ∀ {vs : List V} {ds : List D} {i : Nat} {d : D}, RepL K cl G vs ds → ds[i]? = some d → ∃ v, vs[i]? = some v ∧ Rep K cl G v d
  | _, _, _, _, .nil, e => by simp at e
  | _, _, 0, _, .cons r _, e => by simp at e; subst e; exact ⟨_, rfl, r⟩
  | _, _, i + 1, d, .cons _ t, e => by
    obtain ⟨u, h1, h2⟩ := RepL.get (i := i) (d := d) t (by simpa using e)
    exact ⟨u, by simpa using h1, h2⟩
theorem RepL.get' : ∀ {vs : List V} {ds : List D} {i : Nat} {v : V}, RepL K cl G vs ds → vs[i]? = some v → ∃ d, ds[i]? = some d ∧ Rep K cl G v d
  | _, _, _, _, .nil, e => by simp at e
  | _, _, 0, _, .cons r _, e => by simp at e; subst e; exact ⟨_, rfl, r⟩
  | _, _, i + 1, d, .cons _ t, e => by
    obtain ⟨u, h1, h2⟩ := RepL.get' (i := i) t (by simpa using e)
    exact ⟨u, by simpa using h1, h2⟩
theorem RepL.append : ∀ {xs ys : List V} {ds es : List D}, RepL K cl G xs ds → RepL K cl G ys es → RepL K cl G (xs ++ ys) (ds ++ es)
  | _, _, _, _, .nil, s => s
  | _, _, _, _, .cons r t, s => .cons r (RepL.append t s)
theorem RepL.set {v : V} {d : D} (r : Rep K cl G v d) : ∀ {xs : List V} {ds : List D} (i : Nat), RepL K cl G xs ds → RepL K cl G (xs.set i v) (ds.set i d)
  | _, _, _, .nil => .nil
  | _, _, 0, .cons _ t => .cons r t
  | _, _, i + 1, .cons q t => .cons q (RepL.set r i t)
theorem RepL.take : ∀ {xs : List V} {ds : List D} (n : Nat), RepL K cl G xs ds → RepL K cl G (xs.take n) (ds.take n)
  | _, _, 0, _ => .nil
  | _, _, _ + 1, .nil => .nil
  | _, _, n + 1, .cons r t => .cons r (RepL.take n t)
theorem RepL.drop : ∀ {xs : List V} {ds : List D} (n : Nat), RepL K cl G xs ds → RepL K cl G (xs.drop n) (ds.drop n)
  | _, _, 0, r => r
  | _, _, _ + 1, .nil => .nil
  | _, _, n + 1, .cons _ t => RepL.drop n t
theorem RepL.dropLast : ∀ {xs : List V} {ds : List D}, RepL K cl G xs ds → RepL K cl G xs.dropLast ds.dropLast := fun {xs ds} r => by
  rw [List.dropLast_eq_take, List.dropLast_eq_take, r.length]; exact r.take _
theorem RepL.reverse : ∀ {xs : List V} {ds : List D}, RepL K cl G xs ds → RepL K cl G xs.reverse ds.reverse
  | _, _, .nil => .nil
  | _, _, .cons r t => by rw [List.reverse_cons, List.reverse_cons]; exact (RepL.reverse t).append (.cons r .nil)
theorem RepF.lookup : ∀ {vs : List (Str × V)} {ds : Flds} {f : Str}, RepF K cl G vs ds → (∃ v d, vs.lookup f = some v ∧ ds.lookup f = some d ∧ Rep K cl G v d) ∨ (vs.lookup f = none ∧ ds.lookup f = none)
  | _, _, _, .nil => .inr ⟨rfl, rfl⟩
  | _, _, f, @RepF.cons _ _ _ g v vs d ds r t => by
    by_cases e : (f == g) = true
    · simp only [List.lookup, e]; exact .inl ⟨v, d, rfl, rfl, r⟩
    · have e' : (f == g) = false := by simpa using e
      simp only [List.lookup, e']; exact RepF.lookup t
theorem RepF.length : ∀ {v : List (Str × V)} {d : Flds}, RepF K cl G v d → v.length = d.length
  | _, _, .nil => rfl
  | _, _, .cons _ r => congrArg (· + 1) r.length
end
/-- putF over data -/
def putD (f : Str) (v : D) : Flds → Flds
  | [] => [(f, v)]
  | (g, x) :: r => if g = f then (g, v) :: r else (g, x) :: putD f v r
theorem RepF.put {K : PySem.W.Frag} {cl : String → Addr} {G : Hp} {f : Str} {v : V} {d : D} (r : Rep K cl G v d) : ∀ {vs : List (Str × V)} {ds : Flds}, RepF K cl G vs ds → RepF K cl G (putF f v vs) (putD f d ds)
  | _, _, .nil => .cons r .nil
  | _, _, @RepF.cons _ _ _ g x vs y ds q t => by
    show RepF K cl G (if g = f then _ else _) (if g = f then _ else _)
    by_cases e : g = f
    · rw [if_pos e, if_pos e]; exact .cons r t
    · rw [if_neg e, if_neg e]; exact .cons q (RepF.put r t)

/-! ### growth: new objects alone -/
structure Grow (G H G' H' : Hp) : Prop where
  ex : Ex G G'
  keep : Kp H H'
  sub : Ex G' H'
  nt : Nt G'
  new : ∀ a, G a = none → G' a ≠ none → ∀ o, H a = some o → ∃ ps, o = .tbl ps
theorem Grow.refl {G H : Hp} (s : Ex G H) (n : Nt G) : Grow G H G H := ⟨Ex.refl G, Kp.refl H, s, n, fun _ h1 h2 => absurd h1 h2⟩
theorem Grow.trans {G H G1 H1 G2 H2 : Hp} (a : Grow G H G1 H1) (b : Grow G1 H1 G2 H2) : Grow G H G2 H2 := by
  refine ⟨a.ex.trans b.ex, a.keep.trans b.keep, b.sub, b.nt, fun x h1 h2 o ho => ?_⟩
  by_cases e : G1 x = none
  · by_cases ht : ∃ ps, o = .tbl ps
    · exact ht
    · exact b.new x e h2 o (a.keep.1 x o ho fun ps z => ht ⟨ps, z⟩)
  · exact a.new x h1 e o ho
/-- a new object that is data from now on -/
theorem Grow.laid {G H : Hp} {p : Addr} {o : HO} (s : Ex G H) (n : Nt G) (h : H p = none) (ho : ∀ ps, o ≠ .tbl ps) : Grow G H (upd G p o) (upd H p o) := by
  have hg : G p = none := by
    cases e : G p with
    | none => rfl
    | some u => have := s p u e; rw [h] at this; cases this
  refine ⟨Ex.new hg, Kp.of (Ex.new h), fun a u e => ?_, n.new ho, fun a h1 h2 u hu => ?_⟩
  · by_cases z : a = p
    · subst z; rw [upd_same] at e ⊢; exact e
    · rw [upd_ne z] at e ⊢; exact s a u e
  · by_cases z : a = p
    · subst z; rw [h] at hu; cases hu
    · rw [upd_ne z] at h2; exact absurd h1 h2
/-- a new object that isn't told of -/
theorem Grow.side {G H : Hp} {p : Addr} {o : HO} (s : Ex G H) (n : Nt G) (h : H p = none) : Grow G H G (upd H p o) :=
  ⟨Ex.refl G, Kp.of (Ex.new h), s.trans (Ex.new h), n, fun _ h1 h2 => absurd h1 h2⟩

/-! ### the state of a def's body -/
def OwnAt (K : PySem.W.Frag) (cl : String → Addr) (G H : Hp) (a : Addr) : Ob → Prop
  | .lst ds => ∃ vs, H a = some (.lst vs) ∧ RepL K cl G vs ds
  | .ins C fs => ∃ dx gs, H a = some (.ins (cl C) dx gs) ∧ RepF K cl G gs fs
  | .dct kvs => False
theorem OwnAt.mut {K : PySem.W.Frag} {cl : String → Addr} {G H : Hp} {a : Addr} : ∀ {o : Ob}, OwnAt K cl G H a o → ∃ u, H a = some u ∧ ∀ ps, u ≠ .tbl ps
  | .lst _, ⟨_, h, _⟩ => ⟨_, h, fun _ z => by cases z⟩
  | .ins _ _, ⟨_, _, h, _⟩ => ⟨_, h, fun _ z => by cases z⟩
theorem OwnAt.mono {K : PySem.W.Frag} {cl : String → Addr} {G H G' H' : Hp} {a : Addr} (e : Ex G G') (k : Kp H H') : ∀ {o : Ob}, OwnAt K cl G H a o → OwnAt K cl G' H' a o
  | .lst _, ⟨vs, h, r⟩ => ⟨vs, k.1 _ _ h (fun _ z => by cases z), r.mono e⟩
  | .ins _ _, ⟨dx, gs, h, r⟩ => ⟨dx, gs, k.1 _ _ h (fun _ z => by cases z), r.mono e⟩
/-- fixed through a def's body: the written part, what must stay, the addresses of what the caller owns and hands in -/
structure Pm where
  cl : String → Addr
  B : Hp
  G0 : Hp
  pa : Nat → Addr
  hid : List (Addr × Ob)
structure St (K : PySem.W.Frag) (p : Pm) (G : Hp) (r : Rho) (σ : L2.St) (H : Hp) : Prop where
  len : r.length = σ.length
  sub : Ex G H
  nt : Nt G
  base : Kp p.B H
  fr : ∀ a, p.G0 a = none → G a ≠ none → ∀ o, p.B a = some o → ∃ ps, o = .tbl ps
  val : ∀ (i : Nat) d, r[i]? = some (.val d) → ∃ v, σ[i]? = some (some v) ∧ Rep K p.cl G v d
  own : ∀ (i k : Nat) o, r[i]? = some (.own k o) → ∃ a, σ[i]? = some (some (.ref a)) ∧ OwnAt K p.cl G H a o ∧ G a = none ∧ (∀ u, p.B a = some u → ∃ ps, u = .tbl ps) ∧ (0 < k → a = p.pa k)
  sep : ∀ (i j k k' : Nat) o o', i ≠ j → r[i]? = some (.own k o) → r[j]? = some (.own k' o') → σ[i]? ≠ σ[j]?
  hid : ∀ q ∈ p.hid, OwnAt K p.cl G H q.1 q.2 ∧ G q.1 = none ∧ (∀ u, p.B q.1 = some u → ∃ ps, u = .tbl ps) ∧ ∀ (i k : Nat) o, r[i]? = some (.own k o) → σ[i]? ≠ some (some (.ref q.1))
  g0 : Ex p.G0 G
  tab : LamX.Tabs Tbls.T p.B
section
variable {p : Pm} {G H G' H' : Hp} {r : Rho} {σ : L2.St}
theorem Grow.apart {cl : String → Addr} (g : Grow G H G' H') {a : Addr} {o : Ob} (q : OwnAt K cl G H a o) (ng : G a = none) : G' a = none := by
  obtain ⟨u, hu, ht⟩ := q.mut
  cases z : G' a with
  | none => rfl
  | some w =>
    obtain ⟨ps, hp⟩ := g.new a ng (by rw [z]; exact fun y => nomatch y) u hu
    exact absurd hp (ht ps)
theorem St.grow (s : St K p G r σ H) (g : Grow G H G' H') : St K p G' r σ H' where
  len := s.len
  sub := g.sub
  nt := g.nt
  base := s.base.trans g.keep
  fr := fun a h0 h1 o ho => by
    by_cases e : G a = none
    · by_cases ht : ∃ ps, o = .tbl ps
      · exact ht
      · exact g.new a e h1 o (s.base.1 a o ho fun ps z => ht ⟨ps, z⟩)
    · exact s.fr a h0 e o ho
  val := fun i d e => let ⟨v, h, q⟩ := s.val i d e; ⟨v, h, q.mono g.ex⟩
  own := fun i k o e => by
    obtain ⟨a, h, q, ng, nb, kk⟩ := s.own i k o e
    exact ⟨a, h, q.mono g.ex g.keep, g.apart q ng, nb, kk⟩
  sep := s.sep
  hid := fun q hq => by
    obtain ⟨h1, h2, h3, h4⟩ := s.hid q hq
    exact ⟨h1.mono g.ex g.keep, g.apart h1 h2, h3, h4⟩
  g0 := s.g0.trans g.ex
  tab := s.tab
/-- the slot i gets a value -/
theorem St.setv (s : St K p G r σ H) {i : Nat} {v : V} {d : D} (h : Rep K p.cl G v d) : St K p G (r.set i (.val d)) (σ.set i (some v)) H where
  len := by rw [List.length_set, List.length_set]; exact s.len
  sub := s.sub
  nt := s.nt
  base := s.base
  fr := s.fr
  val := fun j e hj => by
    by_cases z : i = j
    · subst z
      by_cases l : i < r.length
      · rw [List.getElem?_set_self l] at hj; cases hj
        exact ⟨v, List.getElem?_set_self (by rw [← s.len]; exact l), h⟩
      · rw [List.getElem?_eq_none (by simpa using l)] at hj; cases hj
    · rw [List.getElem?_set_ne z] at hj ⊢; exact s.val j e hj
  own := fun j k o hj => by
    by_cases z : i = j
    · subst z
      by_cases l : i < r.length
      · rw [List.getElem?_set_self l] at hj; cases hj
      · rw [List.getElem?_eq_none (by simpa using l)] at hj; cases hj
    · rw [List.getElem?_set_ne z] at hj ⊢; exact s.own j k o hj
  sep := fun a b k k' o o' ne ha hb => by
    have na : i ≠ a := fun z => by
      subst z
      by_cases l : i < r.length
      · rw [List.getElem?_set_self l] at ha; cases ha
      · rw [List.getElem?_eq_none (by simpa using l)] at ha; cases ha
    have nb : i ≠ b := fun z => by
      subst z
      by_cases l : i < r.length
      · rw [List.getElem?_set_self l] at hb; cases hb
      · rw [List.getElem?_eq_none (by simpa using l)] at hb; cases hb
    rw [List.getElem?_set_ne na] at ha ⊢
    rw [List.getElem?_set_ne nb] at hb ⊢
    exact s.sep a b k k' o o' ne ha hb
  hid := fun q hq => by
    obtain ⟨h1, h2, h3, h4⟩ := s.hid q hq
    refine ⟨h1, h2, h3, fun j k o hj => ?_⟩
    have z : i ≠ j := fun z => by
      subst z
      by_cases l : i < r.length
      · rw [List.getElem?_set_self l] at hj; cases hj
      · rw [List.getElem?_eq_none (by simpa using l)] at hj; cases hj
    rw [List.getElem?_set_ne z] at hj ⊢
    exact h4 j k o hj
  g0 := s.g0
  tab := s.tab
/-- an own object's slot becomes unknown, or forgotten slots -/
theorem St.drop (s : St K p G r σ H) (i : Nat) : St K p G (r.set i .no) σ H where
  len := by rw [List.length_set]; exact s.len
  sub := s.sub
  nt := s.nt
  base := s.base
  fr := s.fr
  val := fun j e hj => by
    by_cases z : i = j
    · subst z
      by_cases l : i < r.length
      · rw [List.getElem?_set_self l] at hj; cases hj
      · rw [List.getElem?_eq_none (by simpa using l)] at hj; cases hj
    · rw [List.getElem?_set_ne z] at hj; exact s.val j e hj
  own := fun j k o hj => by
    by_cases z : i = j
    · subst z
      by_cases l : i < r.length
      · rw [List.getElem?_set_self l] at hj; cases hj
      · rw [List.getElem?_eq_none (by simpa using l)] at hj; cases hj
    · rw [List.getElem?_set_ne z] at hj; exact s.own j k o hj
  sep := fun a b k k' o o' ne ha hb => by
    have na : i ≠ a := fun z => by
      subst z
      by_cases l : i < r.length
      · rw [List.getElem?_set_self l] at ha; cases ha
      · rw [List.getElem?_eq_none (by simpa using l)] at ha; cases ha
    have nb : i ≠ b := fun z => by
      subst z
      by_cases l : i < r.length
      · rw [List.getElem?_set_self l] at hb; cases hb
      · rw [List.getElem?_eq_none (by simpa using l)] at hb; cases hb
    rw [List.getElem?_set_ne na] at ha
    rw [List.getElem?_set_ne nb] at hb
    exact s.sep a b k k' o o' ne ha hb
  hid := fun q hq => by
    obtain ⟨h1, h2, h3, h4⟩ := s.hid q hq
    refine ⟨h1, h2, h3, fun j k o hj => ?_⟩
    have z : i ≠ j := fun z => by
      subst z
      by_cases l : i < r.length
      · rw [List.getElem?_set_self l] at hj; cases hj
      · rw [List.getElem?_eq_none (by simpa using l)] at hj; cases hj
    rw [List.getElem?_set_ne z] at hj
    exact h4 j k o hj
  g0 := s.g0
  tab := s.tab
/-- a slot's name goes -/
theorem St.gone (s : St K p G r σ H) (i : Nat) : St K p G (r.set i .no) (σ.set i none) H where
  len := by rw [List.length_set, List.length_set]; exact s.len
  sub := s.sub
  nt := s.nt
  base := s.base
  fr := s.fr
  val := fun j e hj => by
    have z : i ≠ j := fun z => by
      subst z
      by_cases l : i < r.length
      · rw [List.getElem?_set_self l] at hj; cases hj
      · rw [List.getElem?_eq_none (by simpa using l)] at hj; cases hj
    rw [List.getElem?_set_ne z] at hj ⊢; exact s.val j e hj
  own := fun j k o hj => by
    have z : i ≠ j := fun z => by
      subst z
      by_cases l : i < r.length
      · rw [List.getElem?_set_self l] at hj; cases hj
      · rw [List.getElem?_eq_none (by simpa using l)] at hj; cases hj
    rw [List.getElem?_set_ne z] at hj ⊢; exact s.own j k o hj
  sep := fun a b k k' o o' ne ha hb => by
    have na : i ≠ a := fun z => by
      subst z
      by_cases l : i < r.length
      · rw [List.getElem?_set_self l] at ha; cases ha
      · rw [List.getElem?_eq_none (by simpa using l)] at ha; cases ha
    have nb : i ≠ b := fun z => by
      subst z
      by_cases l : i < r.length
      · rw [List.getElem?_set_self l] at hb; cases hb
      · rw [List.getElem?_eq_none (by simpa using l)] at hb; cases hb
    rw [List.getElem?_set_ne na] at ha ⊢
    rw [List.getElem?_set_ne nb] at hb ⊢
    exact s.sep a b k k' o o' ne ha hb
  hid := fun q hq => by
    obtain ⟨h1, h2, h3, h4⟩ := s.hid q hq
    refine ⟨h1, h2, h3, fun j k o hj => ?_⟩
    have z : i ≠ j := fun z => by
      subst z
      by_cases l : i < r.length
      · rw [List.getElem?_set_self l] at hj; cases hj
      · rw [List.getElem?_eq_none (by simpa using l)] at hj; cases hj
    rw [List.getElem?_set_ne z] at hj ⊢
    exact h4 j k o hj
  g0 := s.g0
  tab := s.tab
/-- the slot i gets a new own object at a -/
theorem St.seto (s : St K p G r σ H) {i : Nat} {a : Addr} {o : Ob} {u : HO} (hn : H a = none) (h : OwnAt K p.cl G (upd H a u) a o) : St K p G (r.set i (.own 0 o)) (σ.set i (some (.ref a))) (upd H a u) := by
  have hg : G a = none := by
    cases e : G a with
    | none => rfl
    | some u => have := s.sub a u e; rw [hn] at this; cases this
  have g := s.grow (Grow.side (o := u) s.sub s.nt hn)
  have nown : ∀ (j k : Nat) o', r[j]? = some (.own k o') → σ[j]? ≠ some (some (.ref a)) := fun j k o' hj z => by
    obtain ⟨b, hb, q, _⟩ := s.own j k o' hj
    rw [hb] at z
    have z1 : b = a := by injection z with z; injection z with z; injection z
    subst z1
    obtain ⟨w, hw, _⟩ := q.mut
    rw [hn] at hw; cases hw
  refine ⟨by rw [List.length_set, List.length_set]; exact s.len, g.sub, s.nt, g.base, s.fr, fun j e hj => ?_, fun j k o' hj => ?_, fun x y k k' o1 o2 ne hx hy => ?_, fun q hq => ?_, s.g0, s.tab⟩
  · by_cases z : i = j
    · subst z
      by_cases l : i < r.length
      · rw [List.getElem?_set_self l] at hj; cases hj
      · rw [List.getElem?_eq_none (by simpa using l)] at hj; cases hj
    · rw [List.getElem?_set_ne z] at hj ⊢; exact g.val j e hj
  · by_cases z : i = j
    · subst z
      by_cases l : i < r.length
      · rw [List.getElem?_set_self l] at hj; cases hj
        refine ⟨a, List.getElem?_set_self (by rw [← s.len]; exact l), h, hg, ?_, fun z => absurd z (Nat.lt_irrefl 0)⟩
        intro w e
        by_cases ht : ∃ ps, w = .tbl ps
        · exact ht
        · have := s.base.1 a w e (fun ps z => ht ⟨ps, z⟩)
          rw [hn] at this; cases this
      · rw [List.getElem?_eq_none (by simpa using l)] at hj; cases hj
    · rw [List.getElem?_set_ne z] at hj ⊢; exact g.own j k o' hj
  · by_cases zx : i = x
    · subst zx
      have nb : i ≠ y := ne
      rw [List.getElem?_set_ne nb] at hy ⊢
      by_cases l : i < r.length
      · rw [List.getElem?_set_self (by rw [← s.len]; exact l)]
        exact fun z => nown y k' o2 hy z.symm
      · rw [List.getElem?_eq_none (by simpa using l)] at hx; cases hx
    · rw [List.getElem?_set_ne zx] at hx ⊢
      by_cases zy : i = y
      · subst zy
        by_cases l : i < r.length
        · rw [List.getElem?_set_self (by rw [← s.len]; exact l)]
          exact nown x k o1 hx
        · rw [List.getElem?_eq_none (by simpa using l)] at hy; cases hy
      · rw [List.getElem?_set_ne zy] at hy ⊢
        exact s.sep x y k k' o1 o2 ne hx hy
  · obtain ⟨h1, h2, h3, h4⟩ := g.hid q hq
    refine ⟨h1, h2, h3, fun j k o' hj => ?_⟩
    by_cases z : i = j
    · subst z
      by_cases l : i < r.length
      · rw [List.getElem?_set_self (by rw [← s.len]; exact l)]
        intro e
        have e' : a = q.1 := by injection e with z; injection z with z; injection z
        obtain ⟨q1, _, _, _⟩ := s.hid q hq
        obtain ⟨w, hw, _⟩ := q1.mut
        rw [← e', hn] at hw; cases hw
      · rw [List.getElem?_eq_none (by simpa using l)] at hj; cases hj
    · rw [List.getElem?_set_ne z] at hj ⊢; exact h4 j k o' hj

theorem Kp.mut {B H : Hp} {a : Addr} {o u : HO} (k : Kp B H) (h : H a = some o) (nb : ∀ u, B a = some u → ∃ ps, u = .tbl ps) (h1 : ∀ ps, o ≠ .tbl ps) (h2 : ∀ φ, o ≠ .ext φ) : Kp B (upd H a u) := by
  refine ⟨fun b w e ht => ?_, fun t q hq => ?_⟩
  · have : b ≠ a := fun z => by
      subst z
      obtain ⟨ps, z⟩ := nb w e
      exact ht ps z
    rw [upd_ne this]; exact k.1 b w e ht
  · obtain ⟨ps, e1, e2, e3⟩ := k.2 t q hq
    have n1 : q.1 ≠ a := fun z => by rw [z, h] at e1; exact h1 ps (Option.some.inj e1)
    refine ⟨ps, by rw [upd_ne n1]; exact e1, e2, fun pos cv hc => ?_⟩
    obtain ⟨c, c1, c2⟩ := e3 pos cv hc
    have n2 : c ≠ a := fun z => by rw [z, h] at c2; exact h2 _ (Option.some.inj c2)
    exact ⟨c, c1, by rw [upd_ne n2]; exact c2⟩
theorem OwnAt.noext {K : PySem.W.Frag} {cl : String → Addr} {G H : Hp} {a : Addr} : ∀ {o : Ob}, OwnAt K cl G H a o → ∃ u, H a = some u ∧ (∀ ps, u ≠ .tbl ps) ∧ ∀ φ, u ≠ .ext φ
  | .lst _, ⟨_, h, _⟩ => ⟨_, h, (fun _ z => by cases z), fun _ z => by cases z⟩
  | .ins _ _, ⟨_, _, h, _⟩ => ⟨_, h, (fun _ z => by cases z), fun _ z => by cases z⟩
theorem OwnAt.ne {K : PySem.W.Frag} {cl : String → Addr} {G H : Hp} {a b : Addr} {u : HO} (n : b ≠ a) : ∀ {o : Ob}, OwnAt K cl G H b o → OwnAt K cl G (upd H a u) b o
  | .lst _, ⟨vs, h, r⟩ => ⟨vs, by rw [upd_ne n]; exact h, r⟩
  | .ins _ _, ⟨dx, gs, h, r⟩ => ⟨dx, gs, by rw [upd_ne n]; exact h, r⟩
/-- an own object is changed -/
theorem St.mut (s : St K p G r σ H) {i k : Nat} {a : Addr} {o o' : Ob} {u : HO} (hi : r[i]? = some (.own k o)) (ha : σ[i]? = some (some (.ref a))) (h : OwnAt K p.cl G (upd H a u) a o') : St K p G (r.set i (.own k o')) σ (upd H a u) := by
  obtain ⟨a', ha', q, ng, nb, kk⟩ := s.own i k o hi
  rw [ha] at ha'
  have e : a = a' := by injection ha' with z; injection z with z; injection z
  subst e
  obtain ⟨w, hw, w1, w2⟩ := q.noext
  have il : i < r.length := (List.getElem?_eq_some_iff.mp hi).1
  refine ⟨by rw [List.length_set]; exact s.len, fun b x e => ?_, s.nt, s.base.mut hw nb w1 w2, s.fr, fun j e hj => ?_, fun j k' x hj => ?_, fun x y k1 k2 o1 o2 ne hx hy => ?_, fun y hy => ?_, s.g0, s.tab⟩
  · have : b ≠ a := fun z => by rw [z, ng] at e; cases e
    rw [upd_ne this]; exact s.sub b x e
  · by_cases z : i = j
    · subst z; rw [List.getElem?_set_self il] at hj; cases hj
    · rw [List.getElem?_set_ne z] at hj; exact s.val j e hj
  · by_cases z : i = j
    · subst z; rw [List.getElem?_set_self il] at hj; cases hj
      exact ⟨a, ha, h, ng, nb, kk⟩
    · rw [List.getElem?_set_ne z] at hj
      obtain ⟨b, hb, qb, ngb, nbb, kb⟩ := s.own j k' x hj
      have : b ≠ a := fun e => by
        subst e
        exact s.sep i j k k' o x z hi hj (by rw [ha, hb])
      exact ⟨b, hb, qb.ne this, ngb, nbb, kb⟩
  · have f : ∀ {x k1 o1}, (r.set i (Sl.own k o'))[x]? = some (Sl.own k1 o1) → ∃ k2 o2, r[x]? = some (Sl.own k2 o2) := fun {x k1 o1} hx => by
      by_cases z : i = x
      · subst z; exact ⟨_, _, hi⟩
      · rw [List.getElem?_set_ne z] at hx; exact ⟨_, _, hx⟩
    obtain ⟨_, _, hx⟩ := f hx
    obtain ⟨_, _, hy⟩ := f hy
    exact s.sep x y _ _ _ _ ne hx hy
  · obtain ⟨h1, h2, h3, h4⟩ := s.hid y hy
    have n1 : y.1 ≠ a := fun e => h4 i k o hi (by rw [ha, e])
    refine ⟨h1.ne n1, h2, h3, fun j k' o1 hj => ?_⟩
    by_cases z : i = j
    · subst z; exact h4 i k o hi
    · rw [List.getElem?_set_ne z] at hj; exact h4 j k' o1 hj
/-- what an own object is as data -/
def Ob.d : Ob → D
  | .lst ds => .lst ds
  | .ins C fs => .ins C fs
  | .dct kvs => .dct kvs
/-- an own object read as it stands -/
theorem OwnAt.rep {K : PySem.W.Frag} {cl : String → Addr} {G H : Hp} {a : Addr} (hg : G a = none) : ∀ {o : Ob}, OwnAt K cl G H a o → ∃ u, H a = some u ∧ (∀ ps, u ≠ .tbl ps) ∧ Rep K cl (upd G a u) (.ref a) o.d
  | .lst _, ⟨_, h, r⟩ => ⟨_, h, (fun _ z => by cases z), .lst upd_same (r.mono (Ex.new hg))⟩
  | .ins _ _, ⟨_, _, h, r⟩ => ⟨_, h, (fun _ z => by cases z), .ins upd_same (r.mono (Ex.new hg))⟩
/-- an own object is let go: data from now on -/
theorem St.freeze (s : St K p G r σ H) {i k : Nat} {o : Ob} (hi : r[i]? = some (.own k o)) : ∃ G' a, σ[i]? = some (some (.ref a)) ∧ Ex G G' ∧ Rep K p.cl G' (.ref a) o.d ∧ St K p G' (r.set i (.val o.d)) σ H := by
  obtain ⟨a, ha, q, ng, nb, kk⟩ := s.own i k o hi
  obtain ⟨u, hu, ht, rp⟩ := q.rep ng
  have il : i < r.length := (List.getElem?_eq_some_iff.mp hi).1
  have ex : Ex G (upd G a u) := Ex.new ng
  refine ⟨upd G a u, a, ha, ex, rp, by rw [List.length_set]; exact s.len, fun b x e => ?_, s.nt.new ht, s.base, (fun b h0 h1 o ho => by
    by_cases z : b = a
    · subst z; exact nb o ho
    · rw [upd_ne z] at h1; exact s.fr b h0 h1 o ho), fun j e hj => ?_, fun j k' x hj => ?_, fun x y k1 k2 o1 o2 ne hx hy => ?_, fun y hy => ?_, s.g0.trans ex, s.tab⟩
  · by_cases z : b = a
    · subst z; rw [upd_same] at e; cases e; exact hu
    · rw [upd_ne z] at e; exact s.sub b x e
  · by_cases z : i = j
    · subst z; rw [List.getElem?_set_self il] at hj; cases hj
      exact ⟨_, ha, rp⟩
    · rw [List.getElem?_set_ne z] at hj
      obtain ⟨v, h1, h2⟩ := s.val j e hj
      exact ⟨v, h1, h2.mono ex⟩
  · by_cases z : i = j
    · subst z; rw [List.getElem?_set_self il] at hj; cases hj
    · rw [List.getElem?_set_ne z] at hj
      obtain ⟨b, hb, qb, ngb, nbb, kb⟩ := s.own j k' x hj
      have : b ≠ a := fun e => by
        subst e
        exact s.sep i j k k' o x z hi hj (by rw [ha, hb])
      exact ⟨b, hb, qb.mono ex (Kp.refl H), by rw [upd_ne this]; exact ngb, nbb, kb⟩
  · have f : ∀ {x k1 o1}, (r.set i (Sl.val o.d))[x]? = some (Sl.own k1 o1) → r[x]? = some (Sl.own k1 o1) := fun {x k1 o1} hx => by
      by_cases z : i = x
      · subst z; rw [List.getElem?_set_self il] at hx; cases hx
      · rw [List.getElem?_set_ne z] at hx; exact hx
    exact s.sep x y _ _ _ _ ne (f hx) (f hy)
  · obtain ⟨h1, h2, h3, h4⟩ := s.hid y hy
    have n1 : y.1 ≠ a := fun e => h4 i k o hi (by rw [ha, e])
    refine ⟨h1.mono ex (Kp.refl H), by rw [upd_ne n1]; exact h2, h3, fun j k' o1 hj => ?_⟩
    by_cases z : i = j
    · subst z; exact h4 i k o hi
    · rw [List.getElem?_set_ne z] at hj; exact h4 j k' o1 hj
end
end DL
end

section
set_option Elab.async false
set_option linter.all false
set_option maxRecDepth 100000
set_option maxHeartbeats 4000000
/-! DJ: judgements over data. -/
namespace DL
open PySem PySem.Spec L2 PyProof.Rows
variable [Tbls]
/-! ### outcomes held against the heap -/
/-- what stands for an error: its class, its own dict -/
def RepX (K : PySem.W.Frag) (cl : String → Addr) (G : Hp) (e : Er) (c : Value) (dd : Option Addr) : Prop := c = .ref (cl e.cls) ∧ ∃ d gs, dd = some d ∧ G d = some (.xd gs) ∧ RepF K cl G gs e.fs
abbrev Rl (α β : Type) := Hp → Rho → L2.St → β → α → Prop
section
variable {α β γ δ : Type}
def Po (K : PySem.W.Frag) (p : Pm) (W : WX) (R : Rl α β) (G : Hp) (σ : L2.St) (Q : β → Hp → Prop) : Out α → Prop
  | .ok a r => ∀ b G' H', St K p G' r σ H' → Ex G G' → R G' r σ b a → Q b H'
  | .err e r => ∀ c dd G' H', St K p G' r σ H' → Ex G G' → RepX K p.cl G' e c dd → W c dd σ H'
  | .bad => False
def tM (K : PySem.W.Frag) (p : Pm) (W : WX) (R : Rl α β) (m : M α) : L2.St → Hp → (β → Hp → Prop) → Prop := fun σ H Q => ∃ G r, St K p G r σ H ∧ Po K p W R G σ Q (m r)
variable {K : PySem.W.Frag} {p : Pm} {W : WX} {R : Rl α β} {R2 : Rl γ δ} {G G1 : Hp} {r : Rho} {σ : L2.St} {H : Hp} {Q : β → Hp → Prop} {Q2 : δ → Hp → Prop}
theorem Po.up (e : Ex G G1) : ∀ {o : Out α}, Po K p W R G σ Q o → Po K p W R G1 σ Q o
  | .ok a r, h => fun b G' H' s e' q => h b G' H' s (e.trans e') q
  | .err x r, h => fun c dd G' H' s e' q => h c dd G' H' s (e.trans e') q
  | .bad, h => h
theorem po_bind {m : M α} {f : α → M γ} (s : St K p G r σ H) (h : Po K p W R2 G σ Q2 ((m.bind f) r))
    (k : ∀ a b G1 r1 H1, St K p G1 r1 σ H1 → Ex G G1 → R G1 r1 σ b a → Po K p W R2 G1 σ Q2 (f a r1) → Q b H1) : tM K p W R m σ H Q := by
  refine ⟨G, r, s, ?_⟩
  unfold M.bind at h
  cases e : m r with
  | ok a r1 =>
    rw [e] at h
    exact fun b G' H' s' ex rr => k a b G' r1 H' s' ex rr (Po.up ex h)
  | err x r1 => rw [e] at h; exact h
  | bad => rw [e] at h; exact h.elim
/-- the end: a value -/
theorem po_ok {a : γ} (s : St K p G r σ H) (h : Po K p W R2 G1 σ Q2 (.ok a r)) (ex : Ex G1 G) {b : δ} (q : R2 G r σ b a) : Q2 b H := h b G H s ex q
end
abbrev RD (K : PySem.W.Frag) (cl : String → Addr) : Rl D V := fun G _ _ v d => Rep K cl G v d
abbrev RL (K : PySem.W.Frag) (cl : String → Addr) (n : Nat) : Rl (List D) (List V) := fun G _ _ v d => RepL K cl G v d ∧ d.length = n
abbrev RB : Rl Bool Bool := fun _ _ _ b a => b = a
/-- an operand: a value, or what the slot i owns -/
inductive Vk where
  | dv (d : D) | os (i : Nat)
def RO (K : PySem.W.Frag) (cl : String → Addr) : Rl Vk V := fun G r σ v k => match k with
  | .dv d => Rep K cl G v d
  | .os i => σ[i]? = some (some v)
def res (r : Rho) : Vk → Option D
  | .dv d => some d
  | .os i => match r[i]? with
    | some (.own _ o) => some o.d
    | _ => none
/-- read as it stands: data, or an own object -/
def Vw (K : PySem.W.Frag) (cl : String → Addr) (G H : Hp) (x : V) (d : D) : Prop := Rep K cl G x d ∨ ∃ a o, x = .ref a ∧ OwnAt K cl G H a o ∧ d = o.d
structure DE (X : Cx) (p : Pm) (W : WX) (e : Expr) (m : M D) : Prop where
  run : PE X e (tM X.K p W (RD X.K p.cl) m)
structure DO (X : Cx) (p : Pm) (W : WX) (e : Expr) (m : M Vk) : Prop where
  run : PE X e (tM X.K p W (RO X.K p.cl) m)
structure DT (X : Cx) (p : Pm) (W : WX) (e : Expr) (m : M Bool) : Prop where
  run : PT X e (tM X.K p W RB m)
structure DW (X : Cx) (p : Pm) (W : WX) (e : Expr) (m : M Bool) : Prop where
  run : PW X e (tM X.K p W RB m)
structure DA (X : Cx) (p : Pm) (W : WX) (es : List Expr) (m : M (List D)) : Prop where
  run : PA X es (tM X.K p W (RL X.K p.cl es.length) m)

theorem PE.imp {X : Cx} {e : Expr} {t t' : TE} (h : PE X e t) (f : ∀ σ H Q, t' σ H Q → t σ H Q) : PE X e t' := ⟨fun pins s σ H Q I q => h.run pins s σ H Q I (f σ H Q q)⟩
theorem PT.imp {X : Cx} {e : Expr} {t t' : TT} (h : PT X e t) (f : ∀ σ H Q, t' σ H Q → t σ H Q) : PT X e t' := ⟨fun pins s σ H Q I q => h.run pins s σ H Q I (f σ H Q q)⟩
theorem PW.imp {X : Cx} {e : Expr} {t t' : TT} (h : PW X e t) (f : ∀ σ H Q, t' σ H Q → t σ H Q) : PW X e t' := ⟨fun wh pins s σ H Q I q => h.run wh pins s σ H Q I (f σ H Q q)⟩
theorem PA.imp {X : Cx} {e : List Expr} {t t' : TA} (h : PA X e t) (f : ∀ σ H Q, t' σ H Q → t σ H Q) : PA X e t' := ⟨fun pos pins s σ H Q I q => h.run pos pins s σ H Q I (f σ H Q q)⟩
theorem PS.imp {X : Cx} {e : Stmt} {t t' : TS} (h : PS X e t) (f : ∀ D σ H, t' D σ H → t D σ H) : PS X e t' := ⟨fun pins s σ H D I q => h.run pins s σ H D I (f D σ H q)⟩
theorem PSs.imp {X : Cx} {e : List Stmt} {t t' : TS} (h : PSs X e t) (f : ∀ D σ H, t' D σ H → t D σ H) : PSs X e t' := ⟨fun pins s σ H D I q => h.run pins s σ H D I (f D σ H q)⟩

/-! ### looks -/
section
variable {K : PySem.W.Frag} {cl : String → Addr} {G H : Hp} {x : V}
theorem Vw.int {i : Int} (h : Vw K cl G H x (.int i)) : x = .int i := by
  rcases h with h | ⟨a, o, _, _, e⟩
  · cases h; rfl
  · cases o <;> cases e
theorem Vw.bl {i : Bool} (h : Vw K cl G H x (.bl i)) : x = .bl i := by
  rcases h with h | ⟨a, o, _, _, e⟩
  · cases h; rfl
  · cases o <;> cases e
theorem Vw.str {i : Str} (h : Vw K cl G H x (.str i)) : x = .str i := by
  rcases h with h | ⟨a, o, _, _, e⟩
  · cases h; rfl
  · cases o <;> cases e
theorem Vw.non (h : Vw K cl G H x .non) : x = .non := by
  rcases h with h | ⟨a, o, _, _, e⟩
  · cases h; rfl
  · cases o <;> cases e
theorem Vw.ty {n : String} (h : Vw K cl G H x (.ty n)) : x = .ty n := by
  rcases h with h | ⟨a, o, _, _, e⟩
  · cases h; rfl
  · cases o <;> cases e
theorem Vw.rf {n : String} (h : Vw K cl G H x (.ref n)) : x = .ref (cl n) := by
  rcases h with h | ⟨a, o, _, _, e⟩
  · cases h; rfl
  · cases o <;> cases e
theorem Vw.lst (ex : Ex G H) {ds : List D} (h : Vw K cl G H x (.lst ds)) : ∃ a vs, x = .ref a ∧ H a = some (.lst vs) ∧ RepL K cl G vs ds := by
  rcases h with h | ⟨a, o, rfl, q, e⟩
  · cases h with | lst h r => exact ⟨_, _, rfl, ex _ _ h, r⟩
  · cases o with
    | lst ds' =>
      cases e
      obtain ⟨vs, h, r⟩ := q
      exact ⟨a, vs, rfl, h, r⟩
    | _ => cases e
theorem Vw.tup (ex : Ex G H) {ds : List D} (h : Vw K cl G H x (.tup ds)) : ∃ a vs, x = .ref a ∧ SqT K H a vs ∧ RepL K cl G vs ds := by
  rcases h with h | ⟨a, o, rfl, q, e⟩
  · cases h with | tup h r => exact ⟨_, _, rfl, Evl.ex_t ex h, r⟩
  · cases o <;> cases e
theorem Vw.ins (ex : Ex G H) {C : String} {fs : Flds} (h : Vw K cl G H x (.ins C fs)) : ∃ a dx gs, x = .ref a ∧ H a = some (.ins (cl C) dx gs) ∧ RepF K cl G gs fs := by
  rcases h with h | ⟨a, o, rfl, q, e⟩
  · cases h with | ins h r => exact ⟨_, _, _, rfl, ex _ _ h, r⟩
  · cases o with
    | ins C' fs' =>
      cases e
      obtain ⟨dx, gs, h, r⟩ := q
      exact ⟨a, dx, gs, rfl, h, r⟩
    | _ => cases e
theorem Vw.of {d : D} (h : Rep K cl G x d) : Vw K cl G H x d := .inl h
/-- all in the heap -/
theorem Vw.all (ex : Ex G H) {d : D} (h : Vw K cl G H x d) : Rep K cl H x d := by
  rcases h with h | ⟨a, o, rfl, q, rfl⟩
  · exact h.mono ex
  · cases o with
    | lst ds => obtain ⟨vs, h, r⟩ := q; exact .lst h (r.mono ex)
    | ins C fs => obtain ⟨dx, gs, h, r⟩ := q; exact .ins h (r.mono ex)
    | dct _ => exact q.elim
theorem St.res {p : Pm} {r : Rho} {σ : L2.St} (s : St K p G r σ H) {k : Vk} {d : D} (h : RO K p.cl G r σ x k) (e : res r k = some d) : Vw K p.cl G H x d := by
  cases k with
  | dv d' =>
    have e' : some d' = some d := e
    cases e'
    exact .inl h
  | os i =>
    have e' : (match r[i]? with | some (.own _ o) => some o.d | _ => none) = some d := e
    split at e'
    · rename_i k o hk
      obtain ⟨a, ha, q, _⟩ := s.own i k o hk
      have h' : σ[i]? = some (some x) := h
      rw [ha] at h'
      cases h'
      cases e'
      exact .inr ⟨a, o, rfl, q, rfl⟩
    · cases e'
end

/-! ### names and constants -/
section
variable {X : Cx} {p : Pm} {W : WX}
def mVar (i : Nat) : M D := fun r => match r[i]? with
  | some (.val d) => .ok d r
  | _ => .bad
/-- an own list read as a value: it is let go -/
def mFrz (i : Nat) : M D := fun r => match r[i]? with
  | some (.val d) => .ok d r
  | some (.own _ o) => .ok o.d (r.set i (.val o.d))
  | _ => .bad
theorem de_var {i : Nat} {e : Expr} (h : PE X e (tVar i)) : DE X p W e (mVar i) := ⟨PE.imp h fun σ H Q ⟨G, r, s, q⟩ => by
  unfold mVar at q
  split at q
  · rename_i d hd
    obtain ⟨v, hv, rv⟩ := s.val i d hd
    exact ⟨v, hv, q v G H s (Ex.refl G) rv⟩
  · exact q.elim⟩
theorem de_frz {i : Nat} {e : Expr} (h : PE X e (tVar i)) : DE X p W e (mFrz i) := ⟨PE.imp h fun σ H Q ⟨G, r, s, q⟩ => by
  unfold mFrz at q
  split at q
  · rename_i d hd
    obtain ⟨v, hv, rv⟩ := s.val i d hd
    exact ⟨v, hv, q v G H s (Ex.refl G) rv⟩
  · rename_i k o hd
    obtain ⟨G', a, ha, ex, rp, s'⟩ := s.freeze hd
    exact ⟨_, ha, q _ G' H s' ex rp⟩
  · exact q.elim⟩
def mOs (i : Nat) : M Vk := fun r => match r[i]? with
  | some (.own _ _) => .ok (.os i) r
  | _ => .bad
theorem do_own {i : Nat} {e : Expr} (h : PE X e (tVar i)) : DO X p W e (mOs i) := ⟨PE.imp h fun σ H Q ⟨G, r, s, q⟩ => by
  unfold mOs at q
  split at q
  · rename_i k o hd
    obtain ⟨a, ha, _⟩ := s.own i k o hd
    exact ⟨_, ha, q _ G H s (Ex.refl G) ha⟩
  · exact q.elim⟩
def mDv (m : M D) : M Vk := m.bind fun d => M.pure (.dv d)
theorem do_e {e : Expr} {m : M D} (h : DE X p W e m) : DO X p W e (mDv m) := ⟨PE.imp h.run fun σ H Q ⟨G, r, s, q⟩ => by
  refine po_bind (R := RD X.K p.cl) s q fun d v G1 r1 H1 s1 ex rv q1 => ?_
  exact po_ok s1 q1 (Ex.refl G1) (show RO X.K p.cl G1 r1 σ v (.dv d) from rv)⟩
theorem de_c {e : Expr} {v : V} {d : D} (h : PE X e (tC v)) (hr : ∀ G, Rep X.K p.cl G v d) : DE X p W e (M.pure d) := ⟨PE.imp h fun σ H Q ⟨G, r, s, q⟩ => q v G H s (Ex.refl G) (hr G)⟩
theorem de_int {i j pos} : DE X p W (.Constant (.int i) j pos) (M.pure (.int i)) := de_c pe_int fun _ => .int i
theorem de_bl {i j pos} : DE X p W (.Constant (.bool i) j pos) (M.pure (.bl i)) := de_c pe_bl fun _ => .bl i
theorem de_str {i j pos} : DE X p W (.Constant (.str i) j pos) (M.pure (.str i)) := de_c pe_str fun _ => .str i
theorem de_non {j pos} : DE X p W (.Constant .none j pos) (M.pure .non) := de_c pe_non fun _ => .non
/-- a module's int constant -/
theorem de_gint {x : Str} {i : Int} {u : Value} {pos : Pos} (hg : Gl X x) (hm : X.mg x = some u) (r : RelV (.int i) u) (hd : (x == ("__debug__" : Str)) = false := by decide) : DE X p W (.Name x pos) (M.pure (.int i)) :=
  de_c (pe_glob hg hm r hd) fun _ => .int i
theorem de_gstr {x : Str} {i : Str} {u : Value} {pos : Pos} (hg : Gl X x) (hm : X.mg x = some u) (r : RelV (.str i) u) (hd : (x == ("__debug__" : Str)) = false := by decide) : DE X p W (.Name x pos) (M.pure (.str i)) :=
  de_c (pe_glob hg hm r hd) fun _ => .str i

/-! ### operators -/
/-- an operation on data -/
def rD (K : PySem.W.Frag) (cl : String → Addr) (g : D → D → Option D) : L2.R2 := fun x y H Q => ∃ G d e z, Ex G H ∧ Nt G ∧ Vw K cl G H x d ∧ Vw K cl G H y e ∧ g d e = some z ∧ ∀ v G' H', Grow G H G' H' → Rep K cl G' v z → Q v H'
def rU1 (K : PySem.W.Frag) (cl : String → Addr) (g : D → Option D) : V → Hp → VK → Prop := fun x H Q => ∃ G d z, Ex G H ∧ Nt G ∧ Vw K cl G H x d ∧ g d = some z ∧ ∀ v G' H', Grow G H G' H' → Rep K cl G' v z → Q v H'
def mOp (g : D → D → Option D) (a b : M Vk) : M D := a.bind fun x => b.bind fun y => fun r => match res r x, res r y with
  | some d, some e => (match g d e with
    | some z => .ok z r
    | none => .bad)
  | _, _ => .bad
theorem op_read {g : D → D → Option D} {a b : Expr} {ma mb : M Vk} {ta tb : TE} (ea : ta = tM X.K p W (RO X.K p.cl) ma) (eb : tb = tM X.K p W (RO X.K p.cl) mb) {σ : L2.St} {H : Hp} {Q : VK} (h : tM X.K p W (RD X.K p.cl) (mOp g ma mb) σ H Q) : tOp (rD X.K p.cl g) ta tb σ H Q := by
  subst ea; subst eb
  obtain ⟨G, r, s, q⟩ := h
  refine po_bind (R := RO X.K p.cl) s q fun k1 x G1 r1 H1 s1 ex1 h1 q1 => ?_
  refine po_bind (R := RO X.K p.cl) s1 q1 fun k2 y G2 r2 H2 s2 ex2 h2 q2 => ?_
  have h1' : RO X.K p.cl G2 r2 σ x k1 := by
    cases k1 with
    | dv d => exact (show Rep X.K p.cl G1 x d from h1).mono ex2
    | os i => exact h1
  split at q2
  · rename_i d e hd he
    split at q2
    · rename_i z hz
      exact ⟨G2, d, e, z, s2.sub, s2.nt, s2.res h1' hd, s2.res h2 he, hz, fun v G' H' g' rv => q2 v G' H' (s2.grow g') g'.ex rv⟩
    · exact q2.elim
  · exact q2.elim
theorem de_op {op : Operator} {g : D → D → Option D} {a b : Expr} {ma mb : M Vk} {pos : Pos} (ho : OpR X (binaryOp op) (rD X.K p.cl g)) (ha : DO X p W a ma) (hb : DO X p W b mb) : DE X p W (.BinOp a op b pos) (mOp g ma mb) :=
  ⟨PE.imp (pe_op ho ha.run hb.run) fun σ H Q h => op_read (a := a) (b := b) rfl rfl h⟩
theorem de_cmp {op : CmpOp} {g : D → D → Option D} {a b : Expr} {ma mb : M Vk} {pos : Pos} (ho : OpR X (compareOp op) (rD X.K p.cl g)) (ha : DO X p W a ma) (hb : DO X p W b mb) (hm : behindInMarks op b = false) : DE X p W (.Compare a [op] [b] pos) (mOp g ma mb) :=
  ⟨PE.imp (pe_cmpR ho ha.run hb.run hm) fun σ H Q h => op_read (a := a) (b := b) rfl rfl h⟩
theorem de_ix {g : D → D → Option D} {a b : Expr} {ma mb : M Vk} {pos : Pos} (ho : IxR X (rD X.K p.cl g)) (ha : DO X p W a ma) (hb : DO X p W b mb) (hs : PlainIx b) : DE X p W (.Subscript a b pos) (mOp g ma mb) :=
  ⟨PE.imp (pe_ix ho ha.run hb.run hs) fun σ H Q h => op_read (a := a) (b := b) rfl rfl h⟩
def mUn (g : D → Option D) (a : M Vk) : M D := a.bind fun x => fun r => match res r x with
  | some d => (match g d with
    | some z => .ok z r
    | none => .bad)
  | none => .bad
theorem de_un {op : UnaryOp} {g : D → Option D} {a : Expr} {ma : M Vk} {pos : Pos} (ho : UnR X (unaryOp op) (rU1 X.K p.cl g)) (ha : DO X p W a ma) : DE X p W (.UnaryOp op a pos) (mUn g ma) :=
  ⟨PE.imp (pe_un ho ha.run) fun σ H Q ⟨G, r, s, q⟩ => by
    refine po_bind (R := RO X.K p.cl) s q fun k1 x G1 r1 H1 s1 ex1 h1 q1 => ?_
    split at q1
    · rename_i d hd
      split at q1
      · rename_i z hz
        exact ⟨G1, d, z, s1.sub, s1.nt, s1.res h1 hd, hz, fun v G' H' g' rv => q1 v G' H' (s1.grow g') g'.ex rv⟩
      · exact q1.elim
    · exact q1.elim⟩

/-! ### tests -/
def mB (m : M D) : M Bool := m.bind fun d => match d with
  | .bl b => M.pure b
  | _ => fun _ => .bad
theorem mB_read {m : M D} {t : TE} (et : t = tM X.K p W (RD X.K p.cl) m) {σ : L2.St} {H : Hp} {Q : Bool → Hp → Prop} (h : tM X.K p W RB (mB m) σ H Q) : t σ H fun x H1 => ∃ c, x = .bl c ∧ Q c H1 := by
  subst et
  obtain ⟨G, r, s, q⟩ := h
  refine po_bind (R := RD X.K p.cl) s q fun d v G1 r1 H1 s1 ex rv q1 => ?_
  cases d with
  | bl b =>
    have rv' : Rep X.K p.cl G1 v (.bl b) := rv
    cases rv'
    exact ⟨b, rfl, q1 b G1 H1 s1 (Ex.refl G1) rfl⟩
  | _ => exact q1.elim
theorem dt_cmp {op : CmpOp} {g : D → D → Option D} {a b : Expr} {ma mb : M Vk} {pos : Pos} (ho : OpR X (compareOp op) (rD X.K p.cl g)) (ha : DO X p W a ma) (hb : DO X p W b mb) (hm : behindInMarks op b = false) : DT X p W (.Compare a [op] [b] pos) (mB (mOp g ma mb)) :=
  ⟨PT.imp (pt_cmpR ho ha.run hb.run hm) fun σ H Q h => op_read (a := a) (b := b) rfl rfl (mB_read rfl h)⟩
/-- an expression that gives a truth, as a test -/
theorem dt_val {e : Expr} {m : M D} (h : DE X p W e m) (he : ∀ whole, isTrue e X.env whole = (do let v ← whole; standAt e.pos; holding [v] (truthy v)) := by intro _; rfl) : DT X p W e (mB m) :=
  ⟨PT.imp (pt_val h.run he) fun σ H Q h => mB_read rfl h⟩
def mAnd (a b : M Bool) : M Bool := a.bind fun c => if c then b else M.pure false
def mOr (a b : M Bool) : M Bool := a.bind fun c => if c then M.pure true else b
def mNot (a : M Bool) : M Bool := a.bind fun c => M.pure (!c)
variable {a b : Expr} {rest : List Expr} {pos : Pos} {ma mb : M Bool}
theorem dw_and1 (ha : DT X p W a ma) : DW X p W (.BoolOp .And [a] pos) ma := ⟨pw_and1 ha.run⟩
theorem dw_or1 (ha : DT X p W a ma) : DW X p W (.BoolOp .Or [a] pos) ma := ⟨pw_or1 ha.run⟩
theorem and_read {σ : L2.St} {H : Hp} {Q : Bool → Hp → Prop} (h : tM X.K p W RB (mAnd ma mb) σ H Q) : tAnd (tM X.K p W RB ma) (tM X.K p W RB mb) σ H Q := by
  obtain ⟨G, r, s, q⟩ := h
  refine po_bind (R := RB) s q fun c c' G1 r1 H1 s1 ex e q1 => ?_
  obtain rfl : c' = c := e
  cases c' with
  | true => exact ⟨G1, r1, s1, q1⟩
  | false => exact q1 false G1 H1 s1 (Ex.refl G1) rfl
theorem or_read {σ : L2.St} {H : Hp} {Q : Bool → Hp → Prop} (h : tM X.K p W RB (mOr ma mb) σ H Q) : tOr (tM X.K p W RB ma) (tM X.K p W RB mb) σ H Q := by
  obtain ⟨G, r, s, q⟩ := h
  refine po_bind (R := RB) s q fun c c' G1 r1 H1 s1 ex e q1 => ?_
  obtain rfl : c' = c := e
  cases c' with
  | false => exact ⟨G1, r1, s1, q1⟩
  | true => exact q1 true G1 H1 s1 (Ex.refl G1) rfl
theorem dw_and (ha : DT X p W a ma) (hb : DW X p W (.BoolOp .And (b :: rest) pos) mb) : DW X p W (.BoolOp .And (a :: b :: rest) pos) (mAnd ma mb) := ⟨PW.imp (pw_and ha.run hb.run) fun σ H Q h => and_read h⟩
theorem dw_or (ha : DT X p W a ma) (hb : DW X p W (.BoolOp .Or (b :: rest) pos) mb) : DW X p W (.BoolOp .Or (a :: b :: rest) pos) (mOr ma mb) := ⟨PW.imp (pw_or ha.run hb.run) fun σ H Q h => or_read h⟩
theorem DW.dt (h : DW X p W a ma) : DT X p W a ma := ⟨h.run.pt⟩
theorem dt_not (ha : DT X p W a ma) : DT X p W (.UnaryOp .Not a pos) (mNot ma) := ⟨PT.imp (pt_not ha.run) fun σ H Q ⟨G, r, s, q⟩ => by
  refine po_bind (R := RB) s q fun c c' G1 r1 H1 s1 ex e q1 => ?_
  obtain rfl : c' = c := e
  exact q1 (!c') G1 H1 s1 (Ex.refl G1) rfl⟩
/-- as values: all but the last are truths -/
def vAnd (a b : M D) : M D := a.bind fun d => match d with
  | .bl c => if c then b else M.pure (.bl false)
  | _ => fun _ => .bad
def vOr (a b : M D) : M D := a.bind fun d => match d with
  | .bl c => if c then M.pure (.bl true) else b
  | _ => fun _ => .bad
def vNot (a : M D) : M D := a.bind fun d => match d with
  | .bl c => M.pure (.bl (!c))
  | _ => fun _ => .bad
variable {va vb : M D}
theorem de_one {op} (h : DE X p W a va) : DE X p W (.BoolOp op [a] pos) va := ⟨pe_one h.run⟩
theorem de_and (ha : DE X p W a va) (hb : DE X p W (.BoolOp .And (b :: rest) pos) vb) : DE X p W (.BoolOp .And (a :: b :: rest) pos) (vAnd va vb) := ⟨PE.imp (pe_and ha.run hb.run) fun σ H Q ⟨G, r, s, q⟩ => by
  refine po_bind (R := RD X.K p.cl) s q fun d v G1 r1 H1 s1 ex e q1 => ?_
  cases d with
  | bl c =>
    have e' : Rep X.K p.cl G1 v (.bl c) := e
    cases e'
    refine ⟨c, rfl, ?_⟩
    cases c with
    | true => exact ⟨G1, r1, s1, q1⟩
    | false => exact q1 _ G1 H1 s1 (Ex.refl G1) (.bl false)
  | _ => exact q1.elim⟩
theorem de_or (ha : DE X p W a va) (hb : DE X p W (.BoolOp .Or (b :: rest) pos) vb) : DE X p W (.BoolOp .Or (a :: b :: rest) pos) (vOr va vb) := ⟨PE.imp (pe_or ha.run hb.run) fun σ H Q ⟨G, r, s, q⟩ => by
  refine po_bind (R := RD X.K p.cl) s q fun d v G1 r1 H1 s1 ex e q1 => ?_
  cases d with
  | bl c =>
    have e' : Rep X.K p.cl G1 v (.bl c) := e
    cases e'
    refine ⟨c, rfl, ?_⟩
    cases c with
    | false => exact ⟨G1, r1, s1, q1⟩
    | true => exact q1 _ G1 H1 s1 (Ex.refl G1) (.bl true)
  | _ => exact q1.elim⟩
theorem de_not (ha : DE X p W a va) : DE X p W (.UnaryOp .Not a pos) (vNot va) := ⟨PE.imp (pe_not ha.run) fun σ H Q ⟨G, r, s, q⟩ => by
  refine po_bind (R := RD X.K p.cl) s q fun d v G1 r1 H1 s1 ex e q1 => ?_
  cases d with
  | bl c =>
    have e' : Rep X.K p.cl G1 v (.bl c) := e
    cases e'
    exact ⟨c, rfl, q1 _ G1 H1 s1 (Ex.refl G1) (.bl (!c))⟩
  | _ => exact q1.elim⟩
def mIf (c : M Bool) (a b : M D) : M D := c.bind fun t => if t then a else b
theorem de_if {c : Expr} {mc : M Bool} (hc : DT X p W c mc) (ha : DE X p W a va) (hb : DE X p W b vb) : DE X p W (.IfExp c a b pos) (mIf mc va vb) := ⟨PE.imp (pe_ifExp hc.run ha.run hb.run) fun σ H Q ⟨G, r, s, q⟩ => by
  refine po_bind (R := RB) s q fun c c' G1 r1 H1 s1 ex e q1 => ?_
  obtain rfl : c' = c := e
  cases c' with
  | true => exact ⟨G1, r1, s1, q1⟩
  | false => exact ⟨G1, r1, s1, q1⟩⟩

/-! ### argument lists, displays -/
def mNil : M (List D) := M.pure []
def mCons (a : M D) (as : M (List D)) : M (List D) := a.bind fun d => as.bind fun ds => M.pure (d :: ds)
variable {es : List Expr} {ms : M (List D)}
theorem da_nil : DA X p W [] mNil := ⟨PA.imp pa_nil fun σ H Q ⟨G, r, s, q⟩ => q [] G H s (Ex.refl G) ⟨.nil, rfl⟩⟩
theorem da_cons (ha : DE X p W a va) (hr : DA X p W es ms) (hs : starEach (a :: es) X.env = (false, eval a X.env) :: starEach es X.env := by rfl) : DA X p W (a :: es) (mCons va ms) := ⟨PA.imp (pa_cons ha.run hr.run hs) fun σ H Q ⟨G, r, s, q⟩ => by
  refine po_bind (R := RD X.K p.cl) s q fun d v G1 r1 H1 s1 ex h1 q1 => ?_
  refine po_bind (R := RL X.K p.cl es.length) s1 q1 fun ds vs G2 r2 H2 s2 ex2 h2 q2 => ?_
  exact q2 _ G2 H2 s2 (Ex.refl G2) ⟨.cons ((show Rep X.K p.cl G1 v d from h1).mono ex2) h2.1, congrArg (· + 1) h2.2⟩⟩
def short {α : Type} (l : List α) : Bool := decide (l.length ≤ 1000000)
theorem short_le {α : Type} {l : List α} (h : short l = true) : l.length ≤ sizeLine := Nat.le_trans (of_decide_eq_true h) (by decide)
theorem short_lt {α : Type} {l : List α} (h : short l = true) : l.length < sizeLine := Nat.lt_of_le_of_lt (of_decide_eq_true h) (by decide)
def mTup (m : M (List D)) : M D := m.bind fun ds r => if short ds then .ok (.tup ds) r else .bad
def mLst (m : M (List D)) : M D := m.bind fun ds r => if short ds then .ok (.lst ds) r else .bad
theorem de_tup {k} (h : DA X p W es ms) : DE X p W (.Tuple es k pos) (mTup ms) := ⟨PE.imp (pe_tup h.run) fun σ H Q ⟨G, r, s, q⟩ => by
  refine po_bind (R := RL X.K p.cl es.length) s q fun ds vs G1 r1 H1 s1 ex h1 q1 => ?_
  have h1' : RepL X.K p.cl G1 vs ds := h1.1
  split at q1
  · rename_i hs
    refine ⟨by rw [h1'.length]; exact short_le hs, fun a ha => ?_⟩
    have g := Grow.laid (o := .tup vs) s1.sub s1.nt ha (fun _ z => by cases z)
    exact q1 _ _ _ (s1.grow g) g.ex (.tup (SqT.of upd_same) (h1'.mono g.ex))
  · exact q1.elim⟩
theorem de_lst (h : DA X p W es ms) : DE X p W (.List es pos) (mLst ms) := ⟨PE.imp (pe_lst h.run) fun σ H Q ⟨G, r, s, q⟩ => by
  refine po_bind (R := RL X.K p.cl es.length) s q fun ds vs G1 r1 H1 s1 ex h1 q1 => ?_
  have h1' : RepL X.K p.cl G1 vs ds := h1.1
  split at q1
  · rename_i hs
    refine ⟨by rw [h1'.length]; exact short_le hs, fun a ha => ?_⟩
    have g := Grow.laid (o := .lst vs) s1.sub s1.nt ha (fun _ z => by cases z)
    exact q1 _ _ _ (s1.grow g) g.ex (.lst upd_same (h1'.mono g.ex))
  · exact q1.elim⟩
end
end DL
end

section
set_option Elab.async false
set_option linter.all false
set_option maxRecDepth 100000
set_option maxHeartbeats 4000000
/-! DS: statements over data, loops. -/
namespace DL
open PySem PySem.Spec L2 PyProof.Rows
variable [Tbls]
inductive Fl where
  | nx | rt (d : D) | ro (o : Ob) | bk | ct
def PoS (K : PySem.W.Frag) (p : Pm) (W : WX) (G : Hp) (D : Ends) : Out Fl → Prop
  | .ok .nx r => ∀ G' σ' H', St K p G' r σ' H' → Ex G G' → D.nx σ' H'
  | .ok (.rt d) r => ∀ v G' σ' H', St K p G' r σ' H' → Ex G G' → Rep K p.cl G' v d → D.rt v H'
  | .ok (.ro o) r => ∀ a G' σ' H', St K p G' r σ' H' → Ex G G' → OwnAt K p.cl G' H' a o → G' a = none → (∀ u, p.B a = some u → ∃ ps, u = .tbl ps) → D.rt (.ref a) H'
  | .ok .bk r => ∀ G' σ' H', St K p G' r σ' H' → Ex G G' → D.bk σ' H'
  | .ok .ct r => ∀ G' σ' H', St K p G' r σ' H' → Ex G G' → D.ct σ' H'
  | .err e r => ∀ c dd G' σ' H', St K p G' r σ' H' → Ex G G' → RepX K p.cl G' e c dd → W c dd σ' H'
  | .bad => False
def tS (K : PySem.W.Frag) (p : Pm) (W : WX) (m : M Fl) : TS := fun D σ H => ∃ G r, St K p G r σ H ∧ PoS K p W G D (m r)
structure DS (X : Cx) (p : Pm) (W : WX) (st : Stmt) (m : M Fl) : Prop where
  run : PS X st (tS X.K p W m)
structure DSs (X : Cx) (p : Pm) (W : WX) (st : List Stmt) (m : M Fl) : Prop where
  run : PSs X st (tS X.K p W m)
section
variable {K : PySem.W.Frag} {p : Pm} {W : WX} {G G1 : Hp} {r : Rho} {σ : L2.St} {H : Hp} {D : Ends}
theorem PoS.up (e : Ex G G1) : ∀ {o : Out Fl}, PoS K p W G D o → PoS K p W G1 D o
  | .ok .nx r, h => fun G' σ' H' s e' => h G' σ' H' s (e.trans e')
  | .ok (.rt d) r, h => fun v G' σ' H' s e' q => h v G' σ' H' s (e.trans e') q
  | .ok (.ro o) r, h => fun a G' σ' H' s e' q => h a G' σ' H' s (e.trans e') q
  | .ok .bk r, h => fun G' σ' H' s e' => h G' σ' H' s (e.trans e')
  | .ok .ct r, h => fun G' σ' H' s e' => h G' σ' H' s (e.trans e')
  | .err x r, h => fun c dd G' σ' H' s e' q => h c dd G' σ' H' s (e.trans e') q
  | .bad, h => h
/-- an expression ahead of a statement's end -/
theorem pos_bind {α β : Type} {R : Rl α β} {m : M α} {f : α → M Fl} {Q : β → Hp → Prop} (s : St K p G r σ H) (h : PoS K p W G D ((m.bind f) r))
    (k : ∀ a b G1 r1 H1, St K p G1 r1 σ H1 → Ex G G1 → R G1 r1 σ b a → PoS K p W G1 D (f a r1) → Q b H1) : tM K p W R m σ H Q := by
  refine ⟨G, r, s, ?_⟩
  unfold M.bind at h
  cases e : m r with
  | ok a r1 =>
    rw [e] at h
    exact fun b G' H' s' ex rr => k a b G' r1 H' s' ex rr (PoS.up ex h)
  | err x r1 => rw [e] at h; exact fun c dd G' H' s' e' q => h c dd G' σ H' s' e' q
  | bad => rw [e] at h; exact h.elim
/-- a statement ahead of others -/
theorem pos_next {m : M Fl} {f : M Fl} {D1 : Ends} (s : St K p G r σ H)
    (h : PoS K p W G D ((fun r => match m r with | .ok .nx r1 => f r1 | o => o) r)) (hrt : D1.rt = D.rt) (hbk : D1.bk = D.bk) (hct : D1.ct = D.ct)
    (k : ∀ G1 r1 σ1 H1, St K p G1 r1 σ1 H1 → Ex G G1 → PoS K p W G1 D (f r1) → D1.nx σ1 H1) : tS K p W m D1 σ H := by
  refine ⟨G, r, s, ?_⟩
  dsimp only at h
  cases e : m r with
  | ok fl r1 =>
    rw [e] at h
    cases fl with
    | nx => exact fun G' σ' H' s' ex => k G' r1 σ' H' s' ex (PoS.up ex h)
    | rt d => show ∀ v G' σ' H', _ → _ → _ → D1.rt v H'; rw [hrt]; exact h
    | ro d => show ∀ a G' σ' H', _ → _ → _ → _ → _ → D1.rt (.ref a) H'; rw [hrt]; exact h
    | bk => show ∀ G' σ' H', _ → _ → D1.bk σ' H'; rw [hbk]; exact h
    | ct => show ∀ G' σ' H', _ → _ → D1.ct σ' H'; rw [hct]; exact h
  | err x r1 => rw [e] at h; exact h
  | bad => rw [e] at h; exact h.elim
end
def sSeq (a b : M Fl) : M Fl := fun r => match a r with
  | .ok .nx r1 => b r1
  | o => o
def sNx : M Fl := fun r => .ok .nx r
section
variable {X : Cx} {p : Pm} {W : WX} {st : Stmt} {rest : List Stmt} {a b : M Fl} {e : Expr} {m : M D} {pos : Pos}
theorem dss_nil : DSs X p W [] sNx := ⟨PSs.imp pss_nil fun D σ H ⟨G, r, s, q⟩ => q G σ H s (Ex.refl G)⟩
theorem dss_cons (h1 : DS X p W st a) (h2 : DSs X p W rest b) : DSs X p W (st :: rest) (sSeq a b) := ⟨PSs.imp (pss_cons h1.run h2.run) fun D σ H ⟨G, r, s, q⟩ =>
  pos_next (f := b) s q rfl rfl rfl fun G1 r1 σ1 H1 s1 ex q1 => ⟨G1, r1, s1, q1⟩⟩
theorem dss_one (h1 : DS X p W st a) : DSs X p W [st] a := ⟨pss_one h1.run⟩
theorem ds_pass : DS X p W (.Pass pos) sNx := ⟨PS.imp ps_pass fun D σ H ⟨G, r, s, q⟩ => q G σ H s (Ex.refl G)⟩
def sBk : M Fl := fun r => .ok .bk r
def sCt : M Fl := fun r => .ok .ct r
theorem ds_break : DS X p W (.Break pos) sBk := ⟨PS.imp ps_break fun D σ H ⟨G, r, s, q⟩ => q G σ H s (Ex.refl G)⟩
theorem ds_continue : DS X p W (.Continue pos) sCt := ⟨PS.imp ps_continue fun D σ H ⟨G, r, s, q⟩ => q G σ H s (Ex.refl G)⟩
def sDrop (m : M D) : M Fl := m.bind fun _ r => .ok .nx r
theorem ds_expr (he : DE X p W e m) (hs : swapsWith e none pos.line X.env = pure false := by rfl) : DS X p W (.Expr e pos) (sDrop m) := ⟨PS.imp (ps_expr he.run hs) fun D σ H ⟨G, r, s, q⟩ =>
  pos_bind (R := RD X.K p.cl) s q fun d v G1 r1 H1 s1 ex h1 q1 => q1 G1 σ H1 s1 (Ex.refl G1)⟩
def sRet (m : M D) : M Fl := m.bind fun d r => .ok (.rt d) r
theorem ds_ret (he : DE X p W e m) : DS X p W (.Return (some e) pos) (sRet m) := ⟨PS.imp (ps_ret he.run) fun D σ H ⟨G, r, s, q⟩ =>
  pos_bind (R := RD X.K p.cl) s q fun d v G1 r1 H1 s1 ex h1 q1 => q1 v G1 σ H1 s1 (Ex.refl G1) h1⟩
def sRetN : M Fl := fun r => .ok (.rt .non) r
theorem ds_retN : DS X p W (.Return none pos) sRetN := ⟨PS.imp ps_retN fun D σ H ⟨G, r, s, q⟩ => q .non G σ H s (Ex.refl G) .non⟩
/-- return of a list just displayed: the caller owns it -/
def sRetO (m : M (List D)) : M Fl := m.bind fun ds r => if short ds then .ok (.ro (.lst ds)) r else .bad
theorem ds_reto {es : List Expr} {ms : M (List D)} {pos' : Pos} (h : DA X p W es ms) : DS X p W (.Return (some (.List es pos')) pos) (sRetO ms) := ⟨PS.imp (ps_ret (pe_lst h.run)) fun D σ H ⟨G, r, s, q⟩ => by
  refine pos_bind (R := RL X.K p.cl es.length) s q fun ds vs G1 r1 H1 s1 ex h1 q1 => ?_
  have h1' : RepL X.K p.cl G1 vs ds := h1.1
  split at q1
  · rename_i hs
    refine ⟨by rw [h1'.length]; exact short_le hs, fun a ha => ?_⟩
    have g := Grow.side (o := .lst vs) s1.sub s1.nt ha
    refine q1 a G1 σ _ (s1.grow g) (Ex.refl G1) ⟨vs, upd_same, h1'⟩ ?_ fun u hu => ?_
    · cases z : G1 a with
      | none => rfl
      | some u => have := s1.sub a u z; rw [ha] at this; cases this
    · by_cases ht : ∃ ps, u = .tbl ps
      · exact ht
      · have := s1.base.1 a u hu (fun ps z => ht ⟨ps, z⟩); rw [ha] at this; cases this
  · exact q1.elim⟩
def sIf (c : M Bool) (a b : M Fl) : M Fl := c.bind fun t => if t then a else b
theorem ds_if {c : Expr} {mc : M Bool} {as bs : List Stmt} (hc : DT X p W c mc) (ha : DSs X p W as a) (hb : DSs X p W bs b) : DS X p W (.If c as bs pos) (sIf mc a b) := ⟨PS.imp (ps_if hc.run ha.run hb.run) fun D σ H ⟨G, r, s, q⟩ => by
  refine pos_bind (R := RB) s q fun t t' G1 r1 H1 s1 ex e q1 => ?_
  obtain rfl : t' = t := e
  cases t' with
  | true => exact ⟨G1, r1, s1, q1⟩
  | false => exact ⟨G1, r1, s1, q1⟩⟩
/-! ### targets -/
inductive Pat where
  | nm (i : Nat) | tp (ps : List Pat)
mutual
def bindP : Pat → D → Rho → Option Rho
  | .nm i, d, r => some (r.set i (.val d))
  | .tp ps, .tup ds, r => bindPs ps ds r
  | .tp ps, _, r => none
def bindPs : List Pat → List D → Rho → Option Rho
  | [], [], r => some r
  | q :: qs, d :: ds, r => match bindP q d r with
    | some r1 => bindPs qs ds r1
    | none => none
  | _, _, _ => none
end
mutual
def slotsP : Pat → List Nat
  | .nm i => [i]
  | .tp ps => slotsPs ps
def slotsPs : List Pat → List Nat
  | [] => []
  | q :: qs => slotsP q ++ slotsPs qs
end
/-- alike but for the slots is -/
def Alike (is : List Nat) (σ σ' : L2.St) : Prop := ∀ ws, (∀ i ∈ is, i ∈ ws) → wipe σ' ws = wipe σ ws
theorem wipe_set {σ : L2.St} {i : Nat} {v : Option V} : ∀ {ws : List Nat}, i ∈ ws → wipe (σ.set i v) ws = wipe σ ws
  | w :: ws, h => by
    unfold wipe
    by_cases e : i ∈ ws
    · rw [wipe_set e]
    · have e' : i = w := by
        rcases List.mem_cons.mp h with z | z
        · exact z
        · exact absurd z e
      subst e'
      have hs : ∀ (ws : List Nat), i ∉ ws → wipe (σ.set i v) ws = (wipe σ ws).set i v := by
        intro ws
        induction ws with
        | nil => intro _; rfl
        | cons w ws ih =>
          intro hn
          have n1 : i ≠ w := fun z => hn (by rw [z]; exact List.mem_cons_self)
          have n2 : i ∉ ws := fun z => hn (List.mem_cons_of_mem _ z)
          unfold wipe
          rw [ih n2, List.set_comm _ _ n1]
      rw [hs ws e, List.set_set]
theorem Alike.refl (is : List Nat) (σ : L2.St) : Alike is σ σ := fun _ _ => rfl
theorem Alike.trans {is js : List Nat} {σ σ1 σ2 : L2.St} (a : Alike is σ σ1) (b : Alike js σ1 σ2) : Alike (is ++ js) σ σ2 := fun ws h => by
  rw [b ws fun i hi => h i (List.mem_append_right _ hi), a ws fun i hi => h i (List.mem_append_left _ hi)]
def tG (K : PySem.W.Frag) (p : Pm) (t : Pat) : TG := fun v σ H Q => ∃ G r d, St K p G r σ H ∧ Rep K p.cl G v d ∧ match bindP t d r with
  | some r' => ∀ σ', St K p G r' σ' H → Alike (slotsP t) σ σ' → Q σ' H
  | none => False
def tGs (K : PySem.W.Frag) (p : Pm) (t : List Pat) : TGs := fun vs σ H Q => ∃ G r ds, St K p G r σ H ∧ RepL K p.cl G vs ds ∧ match bindPs t ds r with
  | some r' => ∀ σ', St K p G r' σ' H → Alike (slotsPs t) σ σ' → Q σ' H
  | none => False
structure DG (X : Cx) (p : Pm) (target : Expr) (t : Pat) : Prop where
  run : PG X target (tG X.K p t)
structure DGs (X : Cx) (p : Pm) (ts : List Expr) (t : List Pat) : Prop where
  run : PGs X ts (tGs X.K p t)
theorem PG.imp {X : Cx} {e : Expr} {t t' : TG} (h : PG X e t) (f : ∀ v σ H Q, t' v σ H Q → t v σ H Q) : PG X e t' := ⟨fun pins s σ H v u Q I r q => h.run pins s σ H v u Q I r (f v σ H Q q)⟩
theorem PGs.imp {X : Cx} {e : List Expr} {t t' : TGs} (h : PGs X e t) (f : ∀ v σ H Q, t' v σ H Q → t v σ H Q) : PGs X e t' := ⟨fun pins s σ H v u Q I r q => h.run pins s σ H v u Q I r (f v σ H Q q)⟩
theorem dg_name {i : Nat} {e : Expr} (h : PG X e (gName i)) : DG X p e (.nm i) := ⟨PG.imp h fun v σ H Q ⟨G, r, d, s, rv, q⟩ => q _ (s.setv rv) (fun ws h => wipe_set (h i (by simp [slotsP])))⟩
theorem dgs_nil : DGs X p [] [] := ⟨PGs.imp pgs_nil fun vs σ H Q ⟨G, r, ds, s, rv, q⟩ => by
  cases rv with
  | nil => exact ⟨rfl, q σ s (Alike.refl _ _)⟩
  | cons _ _ => exact q.elim⟩
theorem dgs_cons {t : Pat} {ts : List Pat} {es : List Expr} (h1 : DG X p e t) (h2 : DGs X p es ts) (hs : (assignEach (e :: es) X.env).map (·.2) = assign e X.env :: (assignEach es X.env).map (·.2) := by rfl) : DGs X p (e :: es) (t :: ts) :=
  ⟨PGs.imp (pgs_cons h1.run h2.run hs) fun vs σ H Q ⟨G, r, ds, s, rv, q⟩ => by
    cases rv with
    | nil => exact q.elim
    | @cons v vs d ds rv rvs =>
      have q' : match (match bindP t d r with | some r1 => bindPs ts ds r1 | none => none) with | some r' => ∀ σ', St X.K p G r' σ' H → Alike (slotsPs (t :: ts)) σ σ' → Q σ' H | none => False := q
      cases e1 : bindP t d r with
      | none => rw [e1] at q'; exact q'.elim
      | some r1 =>
        rw [e1] at q'
        dsimp only at q'
        refine ⟨v, vs, rfl, G, r, d, s, rv, ?_⟩
        rw [e1]
        refine fun σ1 s1 a1 => ⟨G, r1, ds, s1, rvs, ?_⟩
        cases e2 : bindPs ts ds r1 with
        | none => rw [e2] at q'; exact q'.elim
        | some r2 => rw [e2] at q'; exact fun σ2 s2 a2 => q' σ2 s2 (a1.trans a2)⟩
theorem dg_tup {es : List Expr} {k : Nat} {ts : List Pat} {n : Nat} (hc : X.calm = true) (h : DGs X p es ts)
    (hn : (assignEach es X.env).length = n := by rfl) (hst : (assignEach es X.env).findIdx? (·.1) = none := by rfl) (hts : ts.length = n := by rfl) : DG X p (.Tuple es k pos) (.tp ts) :=
  ⟨PG.imp (pg_tup hc h.run hn hst) fun v σ H Q ⟨G, r, d, s, rv, q⟩ => by
    cases d with
    | tup ds =>
      cases rv with
      | @tup a xs _ h1 h2 =>
        refine ⟨a, xs, rfl, Evl.ex_t s.sub h1, ?_, G, r, ds, s, h2, q⟩
        rw [h2.length, ← hts]
        have q' : match bindPs ts ds r with | some r' => ∀ σ', St X.K p G r' σ' H → Alike (slotsPs ts) σ σ' → Q σ' H | none => False := q
        have len : ∀ (ts : List Pat) (ds : List D) (r r' : Rho), bindPs ts ds r = some r' → ds.length = ts.length := by
          intro ts
          induction ts with
          | nil =>
            intro ds r r' h
            cases ds with
            | nil => rfl
            | cons _ _ => cases h
          | cons t ts ih =>
            intro ds r r' h
            cases ds with
            | nil => cases h
            | cons d ds =>
              have h' : (match bindP t d r with | some r1 => bindPs ts ds r1 | none => none) = some r' := h
              cases e1 : bindP t d r with
              | none => rw [e1] at h'; cases h'
              | some r1 => rw [e1] at h'; exact congrArg (· + 1) (ih ds r1 r' h')
        cases e1 : bindPs ts ds r with
        | none => rw [e1] at q'; exact q'.elim
        | some r' => exact len ts ds r r' e1
    | _ => exact q.elim⟩
/-- target = value -/
def sAsg (t : Pat) (m : M D) : M Fl := m.bind fun d r => match bindP t d r with
  | some r' => .ok .nx r'
  | none => .bad
theorem ds_asg {tg : Expr} {t : Pat} (he : DE X p W e m) (hg : DG X p tg t) (hs : swapsWithSole [tg] e pos.line X.env = pure false := by rfl) (hw : swappedStores [tg] e X.env = pure none := by rfl)
    (h1 : (assignEach [tg] X.env).map (·.2) = [assign tg X.env] := by rfl) : DS X p W (.Assign [tg] e pos) (sAsg t m) := ⟨PS.imp (ps_asg he.run hg.run hs hw h1) fun D σ H ⟨G, r, s, q⟩ =>
  pos_bind (R := RD X.K p.cl) s q fun d v G1 r1 H1 s1 ex hv q1 => by
    refine ⟨G1, r1, d, s1, hv, ?_⟩
    cases e1 : bindP t d r1 with
    | none => rw [e1] at q1; exact q1.elim
    | some r' => rw [e1] at q1; exact fun σ' s' _ => q1 G1 σ' H1 s' (Ex.refl G1)⟩
def sSet (i : Nat) (m : M D) : M Fl := m.bind fun d r => .ok .nx (r.set i (.val d))
theorem ds_set {i : Nat} {st : Stmt} (h : ∀ te, PE X e te → PS X st (tAsg te (gName i))) (he : DE X p W e m) : DS X p W st (sSet i m) := ⟨PS.imp (h _ he.run) fun D σ H ⟨G, r, s, q⟩ =>
  pos_bind (R := RD X.K p.cl) s q fun d v G1 r1 H1 s1 ex hv q1 => q1 G1 _ H1 (s1.setv hv) (Ex.refl G1)⟩
/-- name = [..]: an own list -/
def sOwn (i : Nat) (m : M (List D)) : M Fl := m.bind fun ds r => if short ds then .ok .nx (r.set i (.own 0 (.lst ds))) else .bad
theorem ds_own {i : Nat} {es : List Expr} {ms : M (List D)} {st : Stmt} {pos' : Pos} (h : ∀ te, PE X (.List es pos') te → PS X st (tAsg te (gName i))) (ha : DA X p W es ms) : DS X p W st (sOwn i ms) := ⟨PS.imp (h _ (pe_lst ha.run)) fun D σ H ⟨G, r, s, q⟩ =>
  pos_bind (R := RL X.K p.cl es.length) s q fun ds vs G1 r1 H1 s1 ex h1 q1 => by
    have h1' : RepL X.K p.cl G1 vs ds := h1.1
    split at q1
    · rename_i hs
      exact ⟨by rw [h1'.length]; exact short_le hs, fun a ha => q1 G1 _ _ (s1.seto ha ⟨vs, upd_same, h1'⟩) (Ex.refl G1)⟩
    · exact q1.elim⟩
/-- a, b = x, y -/
def sPar (i j : Nat) (m : M (List D)) : M Fl := m.bind fun ds r => match ds with
  | [d, e] => .ok .nx ((r.set i (.val d)).set j (.val e))
  | _ => .bad
theorem ds_par {i j : Nat} {es : List Expr} {ms : M (List D)} {st : Stmt} (h : ∀ ta, PA X es ta → PS X st (tPar i j ta)) (ha : DA X p W es ms) : DS X p W st (sPar i j ms) := ⟨PS.imp (h _ ha.run) fun D σ H ⟨G, r, s, q⟩ =>
  pos_bind (R := RL X.K p.cl es.length) s q fun ds vs G1 r1 H1 s1 ex h1 q1 => by
    have h1' : RepL X.K p.cl G1 vs ds := h1.1
    cases h1' with
    | nil => exact q1.elim
    | cons r1' h2 =>
      cases h2 with
      | nil => exact q1.elim
      | cons r2' h3 =>
        cases h3 with
        | nil => exact ⟨_, _, rfl, q1 G1 _ H1 ((s1.setv r1').setv r2') (Ex.refl G1)⟩
        | cons _ _ => exact q1.elim⟩
/-! ### loops -/
structure WalkD (K : PySem.W.Frag) (cl : String → Addr) (J : It) (ds : List D) (G : Hp) : Prop where
  goes : ∀ i H G', i < ds.length → Ex G G' → Ex G' H → Nt G' → J.go i H
  stops : ∀ H G', Ex G G' → Ex G' H → J.stop ds.length H
  yields : ∀ i H x H' G', i < ds.length → Ex G G' → Ex G' H → Nt G' → J.yld i H x H' → ∃ d G'', ds[i]? = some d ∧ Grow G' H G'' H' ∧ Rep K cl G'' x d
abbrev RW (K : PySem.W.Frag) (cl : String → Addr) : Rl (List D) It := fun G _ _ J ds => WalkD K cl J ds G
structure DI (X : Cx) (p : Pm) (W : WX) (tg iter : Expr) (m : M (List D)) : Prop where
  run : PI X tg iter (tM X.K p W (RW X.K p.cl) m)
theorem PI.imp {X : Cx} {tg e : Expr} {t t' : TI} (h : PI X tg e t) (f : ∀ σ H Q, t' σ H Q → t σ H Q) : PI X tg e t' := ⟨fun pins s σ H R I q => h.run pins s σ H R I (f σ H R q)⟩
def loopD (t : Pat) (b : M Fl) : List D → M Fl
  | [], r => .ok .nx r
  | d :: ds, r => match bindP t d r with
    | none => .bad
    | some r1 => match b r1 with
      | .ok .nx r2 => loopD t b ds r2
      | .ok .ct r2 => loopD t b ds r2
      | .ok .bk r2 => .ok .nx r2
      | o => o
def sFor (it : M (List D)) (t : Pat) (b : M Fl) : M Fl := it.bind fun ds => loopD t b ds
theorem loop_turn {t : Pat} {b : M Fl} {K : PySem.W.Frag} {G G2 : Hp} {r : Rho} {d : D} {ds : List D} {D' : Ends} {N : L2.St → Hp → Prop} (h : PoS K p W G D' (loopD t b (d :: ds) r)) (ex : Ex G G2)
    (hN : ∀ G3 r3 σ3 H3, St K p G3 r3 σ3 H3 → Ex G2 G3 → PoS K p W G3 D' (loopD t b ds r3) → N σ3 H3) {σ : L2.St} {H : Hp} {v : V} (s : St K p G2 r σ H) (rv : Rep K p.cl G2 v d) :
    tG K p t v σ H fun σ2 H2 => tS K p W b { D' with nx := N, ct := N, bk := D'.nx } σ2 H2 := by
  refine ⟨G2, r, d, s, rv, ?_⟩
  unfold loopD at h
  cases e1 : bindP t d r with
  | none => rw [e1] at h; exact h.elim
  | some r1 =>
    rw [e1] at h
    refine fun σ1 s1 _ => ⟨G2, r1, s1, ?_⟩
    dsimp only at h
    cases e2 : b r1 with
    | ok fl r2 =>
      rw [e2] at h
      cases fl with
      | nx => exact fun G3 σ3 H3 s3 ex3 => hN G3 r2 σ3 H3 s3 ex3 (PoS.up (ex.trans ex3) h)
      | ct => exact fun G3 σ3 H3 s3 ex3 => hN G3 r2 σ3 H3 s3 ex3 (PoS.up (ex.trans ex3) h)
      | bk => exact fun G3 σ3 H3 s3 ex3 => h G3 σ3 H3 s3 (ex.trans ex3)
      | rt d => exact fun v G3 σ3 H3 s3 ex3 => h v G3 σ3 H3 s3 (ex.trans ex3)
      | ro d => exact fun v G3 σ3 H3 s3 ex3 => h v G3 σ3 H3 s3 (ex.trans ex3)
    | err x r2 => rw [e2] at h; exact fun c dd G3 σ3 H3 s3 ex3 => h c dd G3 σ3 H3 s3 (ex.trans ex3)
    | bad => rw [e2] at h; exact h.elim
theorem ds_for {tg iter : Expr} {body : List Stmt} {it : M (List D)} {t : Pat} (hp : PassesOwn (model X.prog X.w) X.A X.env X.xe) (hc : X.calm = true) (hi : DI X p W tg iter it) (hg : DG X p tg t) (hb : DSs X p W body b)
    (hs : ∀ x, foldedSetIterable iter X.env x = pure x := by intro _; rfl) : DS X p W (.For tg iter body [] pos) (sFor it t b) := ⟨PS.imp (ps_for hp hc hi.run hg.run hb.run hs) fun D' σ H ⟨G, r, s, q⟩ =>
  pos_bind (R := RW X.K p.cl) s q fun ds J G1 r1 H1 s1 ex w q1 => by
    have w' : WalkD X.K p.cl J ds G1 := w
    refine ⟨fun i m σ' H' => m = ds.length - i ∧ i ≤ ds.length ∧ ∃ G' r', St X.K p G' r' σ' H' ∧ Ex G1 G' ∧ PoS X.K p W G' D' (loopD t b (ds.drop i) r'), ⟨ds.length, by simp, Nat.zero_le _, G1, r1, s1, Ex.refl G1, by rw [List.drop_zero]; exact q1⟩, ?_⟩
    rintro i m σ' H' ⟨rfl, hi, G', r', s', ex', q'⟩
    by_cases hlt : i < ds.length
    · refine .inr ⟨w'.goes i H' G' hlt ex' s'.sub s'.nt, fun σ3 H3 => ∃ G3 r3, St X.K p G3 r3 σ3 H3 ∧ Ex G' G3 ∧ PoS X.K p W G3 D' (loopD t b (ds.drop (i + 1)) r3), ?_, fun x H2 hy => ?_⟩
      · rintro σ3 H3 ⟨G3, r3, s3, ex3, q3⟩
        exact ⟨ds.length - (i + 1), by omega, rfl, hlt, G3, r3, s3, ex'.trans ex3, q3⟩
      · obtain ⟨d, G2, hd, g, rv⟩ := w'.yields i H' x H2 G' hlt ex' s'.sub s'.nt hy
        have e : ds.drop i = d :: ds.drop (i + 1) := by
          rw [List.drop_eq_getElem_cons hlt]
          rw [List.getElem?_eq_getElem hlt] at hd
          cases hd; rfl
        rw [e] at q'
        exact loop_turn q' g.ex (fun G3 r3 σ3 H3 s3 ex3 q3 => ⟨G3, r3, s3, g.ex.trans ex3, q3⟩) (s'.grow g) rv
    · have e : i = ds.length := by omega
      subst e
      refine .inl ⟨w'.stops H' G' ex' s'.sub, ?_⟩
      rw [List.drop_length] at q'
      exact q' G' σ' H' s' (Ex.refl G')⟩
def whileD (c : M Bool) (b : M Fl) : Nat → M Fl
  | 0, r => .bad
  | n + 1, r => match c r with
    | .ok true r1 => (match b r1 with
      | .ok .nx r2 => whileD c b n r2
      | .ok .ct r2 => whileD c b n r2
      | .ok .bk r2 => .ok .nx r2
      | o => o)
    | .ok false r1 => .ok .nx r1
    | .err e r1 => .err e r1
    | .bad => .bad
def sWhile (n : Nat) (c : M Bool) (b : M Fl) : M Fl := whileD c b n
theorem ds_while {c : Expr} {mc : M Bool} {body : List Stmt} (n : Nat) (hp : PassesOwn (model X.prog X.w) X.A X.env X.xe) (hc : DT X p W c mc) (hb : DSs X p W body b) : DS X p W (.While c body [] pos) (sWhile n mc b) := ⟨PS.imp (ps_while hp hc.run hb.run) fun D' σ H ⟨G, r, s, q⟩ => by
  refine ⟨fun m σ' H' => ∃ G' r', St X.K p G' r' σ' H' ∧ Ex G G' ∧ PoS X.K p W G' D' (whileD mc b m r'), ⟨n, G, r, s, Ex.refl G, q⟩, ?_⟩
  rintro m σ' H' ⟨G', r', s', ex', q'⟩
  cases m with
  | zero => exact q'.elim
  | succ m =>
    unfold whileD at q'
    refine ⟨G', r', s', ?_⟩
    cases e1 : mc r' with
    | ok t r1 =>
      rw [e1] at q'
      refine fun t' G1 H1 s1 ex1 et => ?_
      obtain rfl : t' = t := et
      cases t' with
      | false => exact q' G1 σ' H1 s1 ex1
      | true =>
        refine ⟨fun σ3 H3 => ∃ G3 r3, St X.K p G3 r3 σ3 H3 ∧ Ex G' G3 ∧ PoS X.K p W G3 D' (whileD mc b m r3), fun σ3 H3 ⟨G3, r3, s3, ex3, q3⟩ => ⟨m, Nat.lt_succ_self m, G3, r3, s3, ex'.trans ex3, q3⟩, G1, r1, s1, ?_⟩
        dsimp only at q'
        cases e2 : b r1 with
        | ok fl r2 =>
          rw [e2] at q'
          cases fl with
          | nx => exact fun G3 σ3 H3 s3 ex3 => ⟨G3, r2, s3, ex1.trans ex3, PoS.up (ex1.trans ex3) q'⟩
          | ct => exact fun G3 σ3 H3 s3 ex3 => ⟨G3, r2, s3, ex1.trans ex3, PoS.up (ex1.trans ex3) q'⟩
          | bk => exact fun G3 σ3 H3 s3 ex3 => q' G3 σ3 H3 s3 (ex1.trans ex3)
          | rt d => exact fun v G3 σ3 H3 s3 ex3 => q' v G3 σ3 H3 s3 (ex1.trans ex3)
          | ro d => exact fun v G3 σ3 H3 s3 ex3 => q' v G3 σ3 H3 s3 (ex1.trans ex3)
        | err x r2 => rw [e2] at q'; exact fun c dd G3 σ3 H3 s3 ex3 => q' c dd G3 σ3 H3 s3 (ex1.trans ex3)
        | bad => rw [e2] at q'; exact q'.elim
    | err x r1 => rw [e1] at q'; exact fun c dd G3 H3 s3 ex3 => q' c dd G3 σ' H3 s3 ex3
    | bad => rw [e1] at q'; exact q'.elim⟩
end
end DL
end

section
set_option Elab.async false
set_option linter.all false
set_option maxRecDepth 100000
set_option maxHeartbeats 4000000
/-! DF: defs over data: promises, bodies, calls. -/
namespace DL
open PySem PySem.Spec L2 PyProof.Rows
variable [Tbls]
inductive Rs where
  | ok (d : D) | err (e : Er) | bad
/-- a def over data: n arguments -/
def spP (K : PySem.W.Frag) (cl : String → Addr) (n : Nat) (f : List D → Rs) : Sp := fun vs H Q E => ∃ G ds, LamX.Tabs Tbls.T H ∧ Ex G H ∧ Nt G ∧ RepL K cl G vs ds ∧ ds.length = n ∧ match f ds with
  | .ok d => ∀ v G' H', Grow G H G' H' → Rep K cl G' v d → Q v H'
  | .err e => ∀ c dd G' H', Grow G H G' H' → RepX K cl G' e c dd → E c dd H'
  | .bad => False
def startR (N : Nat) (ds : List D) : Rho := ds.map Sl.val ++ List.replicate (N - ds.length) Sl.no
def fnD (N : Nat) (m : M Fl) (ds : List D) : Rs := match m (startR N ds) with
  | .ok .nx _ => .ok .non
  | .ok (.rt d) _ => .ok d
  | .err e _ => .err e
  | _ => .bad
theorem start_get {N : List Str} {vs : List V} {i : Nat} {v : V} (h : vs[i]? = some v) : (L2.start N vs)[i]? = some (some v) := by
  unfold L2.start
  have hi := (List.getElem?_eq_some_iff.mp h).1
  rw [List.getElem?_append_left (by rw [List.length_map]; exact hi), List.getElem?_map, h]; rfl
theorem startR_val {N : Nat} {ds : List D} {i : Nat} {d : D} (h : (startR N ds)[i]? = some (.val d)) : ds[i]? = some d := by
  unfold startR at h
  by_cases hi : i < ds.length
  · rw [List.getElem?_append_left (by rw [List.length_map]; exact hi), List.getElem?_map] at h
    cases e : ds[i]? with
    | none => rw [e] at h; cases h
    | some x => rw [e] at h; cases h; rfl
  · rw [List.getElem?_append_right (by rw [List.length_map]; omega)] at h
    have := List.mem_of_getElem? h
    rw [List.mem_replicate] at this
    cases this.2
theorem startR_own {N : Nat} {ds : List D} {i k : Nat} {o : Ob} : (startR N ds)[i]? ≠ some (.own k o) := fun h => by
  unfold startR at h
  have := List.mem_of_getElem? h
  rcases List.mem_append.mp this with z | z
  · obtain ⟨x, _, e⟩ := List.mem_map.mp z; cases e
  · rw [List.mem_replicate] at z; cases z.2
theorem St.start {K : PySem.W.Frag} {cl : String → Addr} {G H : Hp} {N : List Str} {vs : List V} {ds : List D} {pa : Nat → Addr} (tb : LamX.Tabs Tbls.T H) (ex : Ex G H) (nt : Nt G) (r : RepL K cl G vs ds) : St K ⟨cl, H, G, pa, []⟩ G (startR N.length ds) (L2.start N vs) H where
  len := by unfold startR L2.start; simp [r.length]
  sub := ex
  nt := nt
  base := Kp.refl H
  fr := fun a h0 h1 => absurd h0 h1
  val := fun i d h => by
    obtain ⟨v, h1, h2⟩ := r.get (startR_val h)
    exact ⟨v, start_get h1, h2⟩
  own := fun i k o h => absurd h startR_own
  sep := fun i j k k' o o' _ h => absurd h startR_own
  hid := fun q hq => absurd hq (by simp)
  g0 := Ex.refl G
  tab := tb
section
variable {P : Program} {w : World} {K : PySem.W.Frag} {mg : Str → Option Value} {base : Heap}
theorem St.grew {p : Pm} {G : Hp} {r : Rho} {σ : L2.St} {H : Hp} (s : St K p G r σ H) (ex : Ex p.G0 G) : Grow p.G0 p.B G H := ⟨ex, s.base, s.sub, s.nt, s.fr⟩
theorem St.grown {p : Pm} {G : Hp} {r : Rho} {σ : L2.St} {H : Hp} (s : St K p G r σ H) : Grow p.G0 p.B G H := s.grew s.g0
/-- THE RULE for a def over data -/
theorem fn_pure {cl : String → Addr} {x qual : Str} {st : Stmt} {f : Addr} {fd : FuncData} {N ps : List Str} {k : Nat} {m : M Fl} (F : Fun K x qual st f fd) (S : FnScope N ps (defScope st))
    (hb : ∀ (cdv : Value) (A : Around) (outer : List Env) (s : Shared) (H G : Hp) (E : XK), Room k (A.deeper (envOfC qual (defScope st) s.heap.objs.size f cdv)) →
      DSs (cxOf (L2.CX P w) P w K mg base N qual (defScope st) f cdv A outer s H E) ⟨cl, H, G, fun _ => 0, []⟩ (fun c d _ H' => E c d H') (defBody st) m) :
    FnOk P w K mg base (L2.CX P w) (k + 1) f fd ps (spP K cl ps.length (fnD N.length m)) := by
  refine F.okX S (fun vs H Q E ⟨G, ds, _, _, _, r, hl, _⟩ => by rw [r.length, hl]) fun cdv A outer s H vs Q E hr ⟨G, ds, tb, ex, nt, r, hl, h⟩ => ?_
  refine ⟨_, (hb cdv A outer s H G E hr).run, G, startR N.length ds, St.start tb ex nt r, ?_⟩
  unfold fnD at h
  cases e : m (startR N.length ds) with
  | ok fl r1 =>
    rw [e] at h
    cases fl with
    | nx => exact fun G' σ' H' s' ex' => h .non G' H' (s'.grew ex') .non
    | rt d => exact fun v G' σ' H' s' ex' rv => h v G' H' (s'.grew ex') rv
    | ro d => exact h.elim
    | bk => exact h.elim
    | ct => exact h.elim
  | err x r1 => rw [e] at h; exact fun c dd G' σ' H' s' ex' rx => h c dd G' H' (s'.grew ex') rx
  | bad => rw [e] at h; exact h.elim
end
/-- a def over data as the module's name x holds it; dds: what stands for the parameters that the call leaves out -/
structure Pf (X : Cx) (cl : String → Addr) (x : Str) (k n : Nat) (dds : List D) (g : List D → Rs) : Prop where
  ex : ∃ (f : Addr) (fd : FuncData) (ps : List Str) (ds : List Value) (dvs : List V), FnOk X.prog X.w X.K X.mg X.base (L2.CX X.prog X.w) k f fd ps (spP X.K cl n g) ∧ X.mg x = some (.ref f) ∧ PySem.W.keepIn X.K (.ref f) = true ∧ Binds X.K fd ps ds ∧ Vals dvs ds ∧ ∀ G, RepL X.K cl G dvs dds
def mCall (g : List D → Rs) (ms : M (List D)) : M D := ms.bind fun ds r => match g ds with
  | .ok d => .ok d r
  | .err e => .err e r
  | .bad => .bad
section
variable {X : Cx} {p : Pm} {W : WX} {e : Expr} {es : List Expr} {x : Str} {k n : Nat} {dds : List D} {g : List D → Rs} {ms : M (List D)} {pos p1 : Pos}
theorem call_read {vs : List V} {dvs : List V} {ds : List D} {G G1 : Hp} {r1 : Rho} {σ : L2.St} {H1 : Hp} {Q : VK} (s1 : St X.K p G1 r1 σ H1) (h1 : RepL X.K p.cl G1 vs ds) (hd : ∀ G, RepL X.K p.cl G dvs dds) (hn : ds.length + dds.length = n)
    (q1 : Po X.K p W (RD X.K p.cl) G1 σ Q ((match g (ds ++ dds) with | .ok d => .ok d r1 | .err e => .err e r1 | .bad => .bad : Out D))) : spP X.K p.cl n g (vs ++ dvs) H1 Q (WE W σ) := by
  refine ⟨G1, ds ++ dds, s1.base.2 s1.tab, s1.sub, s1.nt, h1.append (hd G1), by rw [List.length_append]; exact hn, ?_⟩
  cases e : g (ds ++ dds) with
  | ok d => rw [e] at q1; exact fun v G' H' g' rv => q1 v G' H' (s1.grow g') g'.ex rv
  | err x => rw [e] at q1; exact fun c dd G' H' g' rx => q1 c dd G' H' (s1.grow g') g'.ex rx
  | bad => rw [e] at q1; exact q1.elim
/-- f(e, ..) -/
theorem de_call (F : Pf X p.cl x k n dds g) (hr : Room k X.A) (hg : Gl X x) (tk : Takes X W) (ha : DA X p W (e :: es) ms) (hn : (e :: es).length + dds.length = n := by rfl) (hdb : (x == ("__debug__" : Str)) = false := by decide)
    (he : starEach (e :: es) X.env = (false, eval e X.env) :: starEach es X.env := by rfl) (hpl : (backTo pos (starEach es X.env)).any (·.1) = false := by rfl) :
    DE X p W (.Call (.Name x p1) (e :: es) [] pos) (mCall (fun ds => g (ds ++ dds)) ms) := by
  obtain ⟨f, fd, ps, ds', dvs, hF, hm, hk, hb, hd, hrd⟩ := F.ex
  refine ⟨PE.imp (pe_callSD (E := WE W) hF hr hg hm hk hb hd (fun σ => passAt tk σ) ha.run hdb he hpl) fun σ H Q ⟨G, r, s, q⟩ => ?_⟩
  refine po_bind (R := RL X.K p.cl (e :: es).length) s q fun ds vs G1 r1 H1 s1 ex h1 q1 => ?_
  exact call_read (G := G1) s1 h1.1 hrd (by rw [h1.2]; exact hn) q1
end
end DL
namespace DL
open PySem PySem.Spec L2 PyProof.Rows
variable [Tbls]
/-! ### defs whose first argument is owned by the caller and may change -/
def cut (H : Hp) (a : Addr) : Hp := fun b => if b = a then none else H b
theorem cut_ne {H : Hp} {a b : Addr} (h : b ≠ a) : cut H a b = H b := if_neg h
theorem cut_same {H : Hp} {a : Addr} : cut H a a = none := if_pos rfl
theorem cut_ex {H : Hp} {a : Addr} : Ex (cut H a) H := fun b o h => by
  by_cases e : b = a
  · subst e; rw [cut_same] at h; cases h
  · rw [cut_ne e] at h; exact h
inductive Ro where
  | ok (d : D) (o : Ob) | err (e : Er) (o : Ob) | bad
def spO (K : PySem.W.Frag) (cl : String → Addr) (n : Nat) (f : Ob → List D → Ro) : Sp := fun vs H Q E => ∃ G a o ds ws, vs = .ref a :: ws ∧ LamX.Tabs Tbls.T H ∧ Ex G H ∧ Nt G ∧ OwnAt K cl G H a o ∧ G a = none ∧ RepL K cl G ws ds ∧ ds.length = n ∧ match f o ds with
  | .ok d o' => ∀ v G' H', Grow G (cut H a) G' H' → G' a = none → OwnAt K cl G' H' a o' → Rep K cl G' v d → Q v H'
  | .err e o' => ∀ c dd G' H', Grow G (cut H a) G' H' → G' a = none → OwnAt K cl G' H' a o' → RepX K cl G' e c dd → E c dd H'
  | .bad => False
def own0 (r : Rho) : Option Ob := match r[0]? with
  | some (Sl.own 1 o) => some o
  | _ => none
def fnO (N : Nat) (m : M Fl) (o : Ob) (ds : List D) : Ro := match m (.own 1 o :: startR (N - 1) ds) with
  | .ok .nx r => (match own0 r with | some o' => .ok .non o' | none => .bad)
  | .ok (.rt d) r => (match own0 r with | some o' => .ok d o' | none => .bad)
  | .err e r => (match own0 r with | some o' => .err e o' | none => .bad)
  | _ => .bad
theorem tabs_cut {T : List (Addr × Str)} {H : Hp} {a : Addr} {u : HO} (h : H a = some u) (h1 : ∀ ps, u ≠ .tbl ps) (h2 : ∀ φ, u ≠ .ext φ) (t : LamX.Tabs T H) : LamX.Tabs T (cut H a) := fun z hz => by
  obtain ⟨ps, e1, e2, e3⟩ := t z hz
  have n1 : z.1 ≠ a := fun y => by rw [y, h] at e1; exact h1 ps (Option.some.inj e1)
  refine ⟨ps, by rw [cut_ne n1]; exact e1, e2, fun pos cv hc => ?_⟩
  obtain ⟨c, c1, c2⟩ := e3 pos cv hc
  have n2 : c ≠ a := fun y => by rw [y, h] at c2; exact h2 _ (Option.some.inj c2)
  exact ⟨c, c1, by rw [cut_ne n2]; exact c2⟩
theorem St.startO {K : PySem.W.Frag} {cl : String → Addr} {G H : Hp} {n : Nat} {N : List Str} {ws : List V} {ds : List D} {a : Addr} {o : Ob} (tb : LamX.Tabs Tbls.T H) (ex : Ex G H) (nt : Nt G) (q : OwnAt K cl G H a o) (ga : G a = none) (r : RepL K cl G ws ds) (hN : n = N.length) :
    St K ⟨cl, cut H a, G, fun _ => a, []⟩ G (.own 1 o :: startR (n - 1) ds) (L2.start N (.ref a :: ws)) H where
  len := by subst hN; unfold startR L2.start; simp [r.length]; omega
  sub := ex
  nt := nt
  base := Kp.of cut_ex
  fr := fun b h0 h1 => absurd h0 h1
  val := fun i d h => by
    cases i with
    | zero => simp at h
    | succ i =>
      have h' : (startR (n - 1) ds)[i]? = some (.val d) := by simpa using h
      obtain ⟨v, h1, h2⟩ := r.get (startR_val h')
      exact ⟨v, start_get (by simpa using h1), h2⟩
  own := fun i k o' h => by
    cases i with
    | zero =>
      have h' : Sl.own 1 o = Sl.own k o' := by simpa using h
      cases h'
      exact ⟨a, start_get (i := 0) rfl, q, ga, fun u hu => by (have hu' : cut H a a = some u := hu; rw [cut_same] at hu'; cases hu'), fun _ => rfl⟩
    | succ i =>
      have h' : (startR (n - 1) ds)[i]? = some (.own k o') := by simpa using h
      exact absurd h' startR_own
  sep := fun i j k k' o1 o2 ne h1 h2 => by
    cases i with
    | succ i =>
      have h' : (startR (n - 1) ds)[i]? = some (.own k o1) := by simpa using h1
      exact absurd h' startR_own
    | zero =>
      cases j with
      | zero => exact absurd rfl ne
      | succ j =>
        have h' : (startR (n - 1) ds)[j]? = some (.own k' o2) := by simpa using h2
        exact absurd h' startR_own
  hid := fun q hq => absurd hq (by simp)
  g0 := Ex.refl G
  tab := by
    obtain ⟨u, h, h1, h2⟩ := q.noext
    exact tabs_cut h h1 h2 tb
section
variable {P : Program} {w : World} {K : PySem.W.Frag} {mg : Str → Option Value} {base : Heap}
theorem St.own0 {cl : String → Addr} {B G0 G H : Hp} {a : Addr} {r : Rho} {σ : L2.St} {o : Ob} (s : St K ⟨cl, B, G0, fun _ => a, []⟩ G r σ H) (h : DL.own0 r = some o) : OwnAt K cl G H a o ∧ G a = none := by
  unfold DL.own0 at h
  split at h
  · rename_i o1 h1
    cases h
    obtain ⟨b, _, q, g, _, e⟩ := s.own 0 1 o h1
    have e' : b = a := e (by decide)
    subst e'
    exact ⟨q, g⟩
  · cases h
theorem fn_own {cl : String → Addr} {x qual : Str} {st : Stmt} {f : Addr} {fd : FuncData} {N ps : List Str} {k n : Nat} {m : M Fl} (F : Fun K x qual st f fd) (S : FnScope N ps (defScope st)) (hn : ps.length = n + 1)
    (hb : ∀ (cdv : Value) (A : Around) (outer : List Env) (s : Shared) (H B G : Hp) (a : Addr) (E : XK), Room k (A.deeper (envOfC qual (defScope st) s.heap.objs.size f cdv)) →
      DSs (cxOf (L2.CX P w) P w K mg base N qual (defScope st) f cdv A outer s H E) ⟨cl, B, G, fun _ => a, []⟩ (fun c d _ H' => E c d H') (defBody st) m) :
    FnOk P w K mg base (L2.CX P w) (k + 1) f fd ps (spO K cl n (fnO N.length m)) := by
  refine F.okX S (fun vs H Q E ⟨G, a, o, ds, ws, e, _, _, _, _, _, r, hl, _⟩ => by rw [e, hn, ← hl, ← r.length]; rfl) fun cdv A outer s H vs Q E hr ⟨G, a, o, ds, ws, e, tb, ex, nt, q, ga, r, hl, h⟩ => ?_
  subst e
  refine ⟨_, (hb cdv A outer s H (cut H a) G a E hr).run, G, .own 1 o :: startR (N.length - 1) ds, St.startO tb ex nt q ga r rfl, ?_⟩
  unfold fnO at h
  cases e : m (.own 1 o :: startR (N.length - 1) ds) with
  | ok fl r1 =>
    rw [e] at h
    cases fl with
    | nx =>
      dsimp only at h
      cases e2 : own0 r1 with
      | none => rw [e2] at h; exact h.elim
      | some o' =>
        rw [e2] at h
        exact fun G' σ' H' s' ex' => h .non G' H' (s'.grew ex') (s'.own0 e2).2 (s'.own0 e2).1 .non
    | rt d =>
      dsimp only at h
      cases e2 : own0 r1 with
      | none => rw [e2] at h; exact h.elim
      | some o' =>
        rw [e2] at h
        exact fun v G' σ' H' s' ex' rv => h v G' H' (s'.grew ex') (s'.own0 e2).2 (s'.own0 e2).1 rv
    | ro d => exact h.elim
    | bk => exact h.elim
    | ct => exact h.elim
  | err x r1 =>
    rw [e] at h
    dsimp only at h
    cases e2 : own0 r1 with
    | none => rw [e2] at h; exact h.elim
    | some o' =>
      rw [e2] at h
      exact fun c dd G' σ' H' s' ex' rx => h c dd G' H' (s'.grew ex') (s'.own0 e2).2 (s'.own0 e2).1 rx
  | bad => rw [e] at h; exact h.elim
end
/-- behind a call that may have changed what the slot i owns -/
theorem St.after {K : PySem.W.Frag} {p : Pm} {G H G' H' : Hp} {r : Rho} {σ : L2.St} {i k : Nat} {a : Addr} {o o' : Ob} (s : St K p G r σ H) (hi : r[i]? = some (.own k o)) (ha : σ[i]? = some (some (.ref a)))
    (g : Grow G (cut H a) G' H') (ga : G' a = none) (q' : OwnAt K p.cl G' H' a o') : St K p G' (r.set i (.own k o')) σ H' := by
  obtain ⟨a', ha', q, ng, nb, kk⟩ := s.own i k o hi
  rw [ha] at ha'
  have e : a = a' := by injection ha' with z; injection z with z; injection z
  subst e
  have il : i < r.length := (List.getElem?_eq_some_iff.mp hi).1
  obtain ⟨w, hw, w1, w2⟩ := q.noext
  refine ⟨by rw [List.length_set]; exact s.len, g.sub, g.nt, ⟨fun b u hb ht => ?_, fun t => g.keep.2 fun z hz => ?_⟩, fun b h0 h1 u hu => ?_, fun j d hj => ?_, fun j k' x hj => ?_, fun x y k1 k2 o1 o2 ne hx hy => ?_, fun y hy => ?_, s.g0.trans g.ex, s.tab⟩
  · have hne : b ≠ a := fun z => by
      subst z
      obtain ⟨ps, z⟩ := nb u hb
      exact ht ps z
    exact g.keep.1 b u (by rw [cut_ne hne]; exact s.base.1 b u hb ht) ht
  · obtain ⟨ps, e1, e2, e3⟩ := s.base.2 t z hz
    have n1 : z.1 ≠ a := fun y => by rw [y, hw] at e1; exact w1 ps (Option.some.inj e1)
    refine ⟨ps, by rw [cut_ne n1]; exact e1, e2, fun pos cv hc => ?_⟩
    obtain ⟨c, c1, c2⟩ := e3 pos cv hc
    have n2 : c ≠ a := fun y => by rw [y, hw] at c2; exact w2 _ (Option.some.inj c2)
    exact ⟨c, c1, by rw [cut_ne n2]; exact c2⟩
  · by_cases z : G b = none
    · by_cases ht : ∃ ps, u = .tbl ps
      · exact ht
      · have hne : b ≠ a := fun y => by subst y; exact ht (nb u hu)
        exact g.new b z h1 u (by rw [cut_ne hne]; exact s.base.1 b u hu fun ps y => ht ⟨ps, y⟩)
    · exact s.fr b h0 z u hu
  · by_cases z : i = j
    · subst z; rw [List.getElem?_set_self il] at hj; cases hj
    · rw [List.getElem?_set_ne z] at hj
      obtain ⟨v, h1, h2⟩ := s.val j d hj
      exact ⟨v, h1, h2.mono g.ex⟩
  · by_cases z : i = j
    · subst z; rw [List.getElem?_set_self il] at hj; cases hj
      exact ⟨a, ha, q', ga, nb, kk⟩
    · rw [List.getElem?_set_ne z] at hj
      obtain ⟨b, hb, qb, ngb, nbb, kb⟩ := s.own j k' x hj
      have hne : b ≠ a := fun e => by
        subst e
        exact s.sep i j k k' o x z hi hj (by rw [ha, hb])
      obtain ⟨u, hu, ht⟩ := qb.mut
      refine ⟨b, hb, ?_, ?_, nbb, kb⟩
      · have hc : OwnAt K p.cl G (cut H a) b x := by
          cases x with
          | lst ds => obtain ⟨vs, h, r⟩ := qb; exact ⟨vs, by rw [cut_ne hne]; exact h, r⟩
          | ins C fs => obtain ⟨dx, gs, h, r⟩ := qb; exact ⟨dx, gs, by rw [cut_ne hne]; exact h, r⟩
          | dct _ => exact qb.elim
        exact hc.mono g.ex g.keep
      · cases y : G' b with
        | none => rfl
        | some w' =>
          obtain ⟨ps, hp⟩ := g.new b ngb (by rw [y]; exact fun z => nomatch z) u (by rw [cut_ne hne]; exact hu)
          exact absurd hp (ht ps)
  · have f : ∀ {x k1 o1}, (r.set i (Sl.own k o'))[x]? = some (Sl.own k1 o1) → ∃ k2 o2, r[x]? = some (Sl.own k2 o2) := fun {x k1 o1} hx => by
      by_cases z : i = x
      · subst z; exact ⟨_, _, hi⟩
      · rw [List.getElem?_set_ne z] at hx; exact ⟨_, _, hx⟩
    obtain ⟨_, _, hx⟩ := f hx
    obtain ⟨_, _, hy⟩ := f hy
    exact s.sep x y _ _ _ _ ne hx hy
  · obtain ⟨h1, h2, h3, h4⟩ := s.hid y hy
    have n1 : y.1 ≠ a := fun e => h4 i k o hi (by rw [ha, e])
    have hc : OwnAt K p.cl G (cut H a) y.1 y.2 := by
      obtain ⟨b, x⟩ := y
      cases x with
      | lst ds => obtain ⟨vs, h, r⟩ := h1; exact ⟨vs, by rw [cut_ne n1]; exact h, r⟩
      | ins C fs => obtain ⟨dx, gs, h, r⟩ := h1; exact ⟨dx, gs, by rw [cut_ne n1]; exact h, r⟩
      | dct _ => exact h1.elim
    refine ⟨hc.mono g.ex g.keep, g.apart hc h2, h3, fun j k' o1 hj => ?_⟩
    by_cases z : i = j
    · subst z; exact h4 i k o hi
    · rw [List.getElem?_set_ne z] at hj; exact h4 j k' o1 hj
/-- a def as above, as the module's name holds it -/
structure Of (X : Cx) (cl : String → Addr) (x : Str) (k n : Nat) (g : Ob → List D → Ro) : Prop where
  ex : ∃ (f : Addr) (fd : FuncData) (ps : List Str), FnOk X.prog X.w X.K X.mg X.base (L2.CX X.prog X.w) k f fd ps (spO X.K cl n g) ∧ X.mg x = some (.ref f) ∧ PySem.W.keepIn X.K (.ref f) = true ∧ Binds X.K fd ps []
def setO (i : Nat) (o' : Ob) (r : Rho) : Rho := match r[i]? with
  | some (.own k _) => r.set i (.own k o')
  | _ => r
def gOwn {α : Type} (i : Nat) (m : M α) : M α := fun r => match r[i]? with
  | some (.own _ _) => m r
  | _ => .bad
def mCallO (i : Nat) (g : Ob → List D → Ro) (ms : M (List D)) : M D := ms.bind fun ds r => match r[i]? with
  | some (.own k o) => (match g o ds with
    | .ok d o' => .ok d (r.set i (.own k o'))
    | .err e o' => .err e (r.set i (.own k o'))
    | .bad => .bad)
  | _ => .bad
section
variable {X : Cx} {p : Pm} {W : WX} {e : Expr} {es : List Expr} {x : Str} {k n i : Nat} {g : Ob → List D → Ro} {ms : M (List D)} {pos p1 : Pos}
theorem callO_read {a : Addr} {vs : List V} {ds : List D} {G1 : Hp} {r1 : Rho} {σ : L2.St} {H1 : Hp} {Q : VK} (s1 : St X.K p G1 r1 σ H1) (ha : σ[i]? = some (some (.ref a))) (h1 : RepL X.K p.cl G1 vs ds) (hn : ds.length = n)
    (q1 : Po X.K p W (RD X.K p.cl) G1 σ Q ((match r1[i]? with
      | some (.own k o) => (match g o ds with | .ok d o' => .ok d (r1.set i (.own k o')) | .err e o' => .err e (r1.set i (.own k o')) | .bad => .bad)
      | _ => .bad : Out D))) : spO X.K p.cl n g (.ref a :: vs) H1 Q (WE W σ) := by
  cases e0 : r1[i]? with
  | none => rw [e0] at q1; exact q1.elim
  | some sl =>
    rw [e0] at q1
    cases sl with
    | own k' o =>
      obtain ⟨a', ha', q, ng, nb, kk⟩ := s1.own i k' o e0
      rw [ha] at ha'
      have e' : a = a' := by injection ha' with z; injection z with z; injection z
      subst e'
      refine ⟨G1, a, o, ds, vs, rfl, s1.base.2 s1.tab, s1.sub, s1.nt, q, ng, h1, hn, ?_⟩
      dsimp only at q1
      cases e : g o ds with
      | ok d o' => rw [e] at q1; exact fun v G' H' g' ga qa rv => q1 v G' H' (s1.after e0 ha g' ga qa) g'.ex rv
      | err x o' => rw [e] at q1; exact fun c dd G' H' g' ga qa rx => q1 c dd G' H' (s1.after e0 ha g' ga qa) g'.ex rx
      | bad => rw [e] at q1; exact q1.elim
    | no => exact q1.elim
    | val _ => exact q1.elim
/-- f(x, ..), x owned -/
theorem de_callO (F : Of X p.cl x k n g) (hr : Room k X.A) (hg : Gl X x) (tk : Takes X W) (h0 : PE X e (tVar i)) (ha : DA X p W es ms) (hn : es.length = n := by rfl) (hdb : (x == ("__debug__" : Str)) = false := by decide)
    (he : starEach (e :: es) X.env = (false, eval e X.env) :: starEach es X.env := by rfl) (hpl : (backTo pos (starEach es X.env)).any (·.1) = false := by rfl) :
    DE X p W (.Call (.Name x p1) (e :: es) [] pos) (gOwn i (mCallO i g ms)) := by
  obtain ⟨f, fd, ps, hF, hm, hk, hb⟩ := F.ex
  refine ⟨PE.imp (pe_callSD (E := WE W) (dvs := []) hF hr hg hm hk hb .nil (fun σ => passAt tk σ) (pa_cons h0 ha.run he) hdb he hpl) fun σ H Q ⟨G, r, s, q⟩ => ?_⟩
  unfold gOwn at q
  cases e0 : r[i]? with
  | none => rw [e0] at q; exact q.elim
  | some sl =>
    rw [e0] at q
    cases sl with
    | own k' o =>
      obtain ⟨a, ha', _⟩ := s.own i k' o e0
      refine ⟨_, ha', ?_⟩
      refine po_bind (R := RL X.K p.cl es.length) s q fun ds vs G1 r1 H1 s1 ex h1 q1 => ?_
      show spO X.K p.cl n g ((V.ref a :: vs) ++ []) H1 Q (WE W σ)
      rw [List.append_nil]
      exact callO_read s1 ha' h1.1 (by rw [h1.2]; exact hn) q1
    | no => exact q.elim
    | val _ => exact q.elim
end
end DL
end

section
set_option Elab.async false
set_option linter.all false
set_option maxRecDepth 100000
set_option maxHeartbeats 4000000
/-! DOp: operators over data. -/
namespace DL
open PySem PySem.Spec L2 PyProof.Rows
variable [Tbls]
section
variable {X : Cx} {cl : String → Addr}
theorem opr_of {f : Value → Value → Sem Value} {g : D → D → Option D} (h : ∀ (G H : Hp) (d e z : D) (x y : V) (Q : VK), Ex G H → Nt G → Vw X.K cl G H x d → Vw X.K cl G H y e → g d e = some z → (∀ v G' H', Grow G H G' H' → Rep X.K cl G' v z → Q v H') →
    ∃ r : L2.R2, OpR X f r ∧ r x y H Q) : OpR X f (rD X.K cl g) := by
  intro pins s σ H x y v u Q I rx ry ⟨G, d, e, z, ex, nt, vd, ve, hz, q⟩
  obtain ⟨r, hr, hq⟩ := h G H d e z x y Q ex nt vd ve hz q
  exact hr pins s σ H x y v u Q I rx ry hq
/-! ### arithmetic -/
def addD : D → D → Option D
  | .int i, .int j => some (.int (i + j))
  | .str x, .str y => if x.length + y.length ≤ 1000000 then some (.str (x ++ y)) else none
  | .lst a, .lst b => if a.length + b.length ≤ 1000000 then some (.lst (a ++ b)) else none
  | .tup a, .tup b => if a.length + b.length ≤ 1000000 then some (.tup (a ++ b)) else none
  | _, _ => none
theorem mill {n : Nat} (h : n ≤ 1000000) : n ≤ sizeLine := Nat.le_trans h (by decide)
theorem o_add : OpR X (binaryOp .Add) (rD X.K cl addD) := opr_of fun G H d e z x y Q ex nt vd ve hz q => by
  unfold addD at hz
  split at hz
  · cases hz
    exact ⟨_, op_add, _, _, vd.int, ve.int, q _ G H (Grow.refl ex nt) (.int _)⟩
  · split at hz
    · rename_i hl
      cases hz
      exact ⟨_, op_add_str, _, _, vd.str, ve.str, mill hl, q _ G H (Grow.refl ex nt) (.str _)⟩
    · cases hz
  · split at hz
    · rename_i hl
      cases hz
      obtain ⟨a, vs, rfl, ha, ra⟩ := vd.lst ex
      obtain ⟨b, ws, rfl, hb, rb⟩ := ve.lst ex
      refine ⟨_, op_cat, a, b, vs, ws, rfl, rfl, ha, hb, by rw [ra.length, rb.length]; exact mill hl, fun p hp => ?_⟩
      have g := Grow.laid (o := .lst (vs ++ ws)) ex nt hp (fun _ z => by cases z)
      exact q _ _ _ g (.lst upd_same ((ra.append rb).mono g.ex))
    · cases hz
  · split at hz
    · rename_i a b hl
      cases hz
      obtain ⟨a', vs, rfl, ha, ra⟩ := vd.tup ex
      obtain ⟨b', ws, rfl, hb, rb⟩ := ve.tup ex
      refine ⟨_, op_catA, a', b', vs, ws, rfl, rfl, ha, hb, by rw [ra.length, rb.length]; exact mill hl, fun e => ?_, fun _ e => ?_, fun _ _ p hp => ?_⟩
      · subst e
        cases ra
        exact q _ G H (Grow.refl ex nt) (by
          rcases ve with h | ⟨_, o, _, _, e⟩
          · rw [List.nil_append]; exact h
          · cases o <;> cases e)
      · subst e
        cases rb
        exact q _ G H (Grow.refl ex nt) (by
          rcases vd with h | ⟨_, o, _, _, e⟩
          · rw [List.append_nil]; exact h
          · cases o <;> cases e)
      · have g := Grow.laid (o := .tup (vs ++ ws)) ex nt hp (fun _ z => by cases z)
        exact q _ _ _ g (.tup (SqT.of upd_same) ((ra.append rb).mono g.ex))
    · cases hz
  · cases hz
def subD : D → D → Option D
  | .int i, .int j => some (.int (i - j))
  | _, _ => none
theorem o_sub : OpR X (binaryOp .Sub) (rD X.K cl subD) := opr_of fun G H d e z x y Q ex nt vd ve hz q => by
  unfold subD at hz
  split at hz
  · cases hz
    exact ⟨_, op_sub, _, _, vd.int, ve.int, q _ G H (Grow.refl ex nt) (.int _)⟩
  · cases hz
def small64 (i : Int) : Bool := decide (-(2 ^ 64) < i) && decide (i < 2 ^ 64)
theorem small64_iff {i : Int} (h : small64 i = true) : -(2 ^ 64) < i ∧ i < 2 ^ 64 := by
  unfold small64 at h
  rw [Bool.and_eq_true] at h
  exact ⟨of_decide_eq_true h.1, of_decide_eq_true h.2⟩
def repL {α : Type} (l : List α) (k : Int) : List α := (List.replicate k.toNat l).flatten
def mulD : D → D → Option D
  | .int i, .int j => if small64 i || small64 j then some (.int (i * j)) else none
  | .lst a, .int k => if -(2 ^ 63) ≤ k ∧ k < 2 ^ 63 ∧ a.length * k.toNat ≤ 1000000 then some (.lst (repL a k)) else none
  | _, _ => none
theorem RepL.flat {K : PySem.W.Frag} {G : Hp} {vs : List V} {ds : List D} (r : RepL K cl G vs ds) : ∀ n : Nat, RepL K cl G (List.replicate n vs).flatten (List.replicate n ds).flatten
  | 0 => .nil
  | n + 1 => by rw [List.replicate_succ, List.replicate_succ, List.flatten_cons, List.flatten_cons]; exact r.append (RepL.flat r n)
theorem o_mul : OpR X (binaryOp .Mult) (rD X.K cl mulD) := opr_of fun G H d e z x y Q ex nt vd ve hz q => by
  unfold mulD at hz
  split at hz
  · split at hz
    · rename_i hs
      cases hz
      refine ⟨_, op_mul, _, _, vd.int, ve.int, ?_, q _ G H (Grow.refl ex nt) (.int _)⟩
      rw [Bool.or_eq_true] at hs
      rcases hs with h | h
      · exact .inl (small64_iff h)
      · exact .inr (small64_iff h)
    · cases hz
  · split at hz
    · rename_i ds k hs
      cases hz
      obtain ⟨a', vs, rfl, ha, ra⟩ := vd.lst ex
      refine ⟨_, op_rep, a', _, vs, rfl, ve.int, ha, hs.1, hs.2.1, by rw [ra.length]; exact mill hs.2.2, fun p hp => ?_⟩
      have g := Grow.laid (o := .lst (List.replicate k.toNat vs).flatten) ex nt hp (fun _ z => by cases z)
      exact q _ _ _ g (.lst upd_same ((ra.flat _).mono g.ex))
    · cases hz
  · cases hz
def fdivD : D → D → Option D
  | .int i, .int j => if j ≠ 0 ∧ j.natAbs < 1073741824 then some (.int (i.fdiv j)) else none
  | _, _ => none
theorem o_fdiv : OpR X (binaryOp .FloorDiv) (rD X.K cl fdivD) := opr_of fun G H d e z x y Q ex nt vd ve hz q => by
  unfold fdivD at hz
  split at hz
  · split at hz
    · rename_i hs
      cases hz
      exact ⟨_, op_fdivN, _, _, vd.int, ve.int, hs, q _ G H (Grow.refl ex nt) (.int _)⟩
    · cases hz
  · cases hz
def modD : D → D → Option D
  | .int i, .int j => if j ≠ 0 then some (.int (i.fmod j)) else none
  | _, _ => none
theorem o_mod : OpR X (binaryOp .Mod) (rD X.K cl modD) := opr_of fun G H d e z x y Q ex nt vd ve hz q => by
  unfold modD at hz
  split at hz
  · split at hz
    · rename_i hs
      cases hz
      exact ⟨_, op_modN, _, _, vd.int, ve.int, hs, q _ G H (Grow.refl ex nt) (.int _)⟩
    · cases hz
  · cases hz
def powD : D → D → Option D
  | .int i, .int j => if 0 ≤ j ∧ j ≤ 1000000 ∧ i.natAbs < 2 ^ 64 then some (.int (i ^ j.toNat)) else none
  | _, _ => none
theorem o_pow : OpR X (binaryOp .Pow) (rD X.K cl powD) := opr_of fun G H d e z x y Q ex nt vd ve hz q => by
  unfold powD at hz
  split at hz
  · split at hz
    · rename_i hs
      cases hz
      exact ⟨_, op_pow, _, _, vd.int, ve.int, hs, q _ G H (Grow.refl ex nt) (.int _)⟩
    · cases hz
  · cases hz
def negD : D → Option D
  | .int i => some (.int (-i))
  | _ => none
theorem unr_of {f : Value → Sem Value} {g : D → Option D} (h : ∀ (G H : Hp) (d z : D) (x : V) (Q : VK), Ex G H → Nt G → Vw X.K cl G H x d → g d = some z → (∀ v G' H', Grow G H G' H' → Rep X.K cl G' v z → Q v H') →
    ∃ r : V → Hp → VK → Prop, UnR X f r ∧ r x H Q) : UnR X f (rU1 X.K cl g) := by
  intro pins s σ H x v Q I rx ⟨G, d, z, ex, nt, vd, hz, q⟩
  obtain ⟨r, hr, hq⟩ := h G H d z x Q ex nt vd hz q
  exact hr pins s σ H x v Q I rx hq
theorem o_neg : UnR X (unaryOp .USub) (rU1 X.K cl negD) := unr_of fun G H d z x Q ex nt vd hz q => by
  unfold negD at hz
  split at hz
  · cases hz; exact ⟨_, un_neg, _, vd.int, q _ G H (Grow.refl ex nt) (.int _)⟩
  · cases hz
/-! ### comparisons -/
def cmpD (c : Int → Int → Bool) : D → D → Option D
  | .int i, .int j => some (.bl (c i j))
  | _, _ => none
theorem o_cmp {f : Value → Value → Sem Value} {c : Int → Int → Bool} (h : OpR X f (rI0 fun i j => .bl (c i j))) : OpR X f (rD X.K cl (cmpD c)) := opr_of fun G H d e z x y Q ex nt vd ve hz q => by
  unfold cmpD at hz
  split at hz
  · cases hz; exact ⟨_, h, _, _, vd.int, ve.int, q _ G H (Grow.refl ex nt) (.bl _)⟩
  · cases hz
abbrev ltD := cmpD fun i j => decide (i < j)
abbrev leD := cmpD fun i j => decide (i ≤ j)
abbrev gtD := cmpD fun i j => decide (j < i)
abbrev geD := cmpD fun i j => decide (j ≤ i)
theorem o_lt : OpR X (compareOp .Lt) (rD X.K cl ltD) := o_cmp op_lt
theorem o_le : OpR X (compareOp .LtE) (rD X.K cl leD) := o_cmp op_le
theorem o_gt : OpR X (compareOp .Gt) (rD X.K cl gtD) := o_cmp op_gt
theorem o_ge : OpR X (compareOp .GtE) (rD X.K cl geD) := o_cmp op_ge
def isNon : D → Bool
  | .non => true
  | _ => false
def isD : D → D → Option D
  | d, .non => some (.bl (isNon d))
  | _, _ => none
def isnD : D → D → Option D
  | d, .non => some (.bl (!isNon d))
  | _, _ => none
theorem Vw.isnon {G H : Hp} {x : V} {d : D} (h : Vw X.K cl G H x d) : decide (x = .non) = isNon d := by
  rcases h with h | ⟨a, o, rfl, _, rfl⟩
  · cases h <;> first | rfl | exact decide_eq_false (fun z => by cases z)
  · cases o <;> exact decide_eq_false (fun z => by cases z)
theorem o_is : OpR X (compareOp .Is) (rD X.K cl isD) := opr_of fun G H d e z x y Q ex nt vd ve hz q => by
  unfold isD at hz
  split at hz
  · cases hz
    exact ⟨_, op_isN, ve.non, q _ G H (Grow.refl ex nt) (by rw [vd.isnon]; exact .bl _)⟩
  · cases hz
theorem o_isn : OpR X (compareOp .IsNot) (rD X.K cl isnD) := opr_of fun G H d e z x y Q ex nt vd ve hz q => by
  unfold isnD at hz
  split at hz
  · cases hz
    exact ⟨_, op_notN, ve.non, q _ G H (Grow.refl ex nt) (by rw [vd.isnon]; exact .bl _)⟩
  · cases hz
mutual
def toP : D → Option PyData
  | .non => some .none
  | .bl b => some (.bool b)
  | .int i => some (.int i)
  | .str x => some (.str x)
  | .lst ds => (toPs ds).map .list
  | .tup ds => (toPs ds).map .tuple
  | _ => none
def toPs : List D → Option (List PyData)
  | [] => some []
  | d :: ds => match toP d, toPs ds with
    | some x, some xs => some (x :: xs)
    | _, _ => none
end
section
variable {K : PySem.W.Frag} {H : Hp}
mutual
theorem Rep.dp : ∀ {v : V} {d : D} {x : PyData}, Rep K cl H v d → toP d = some x → Dp K H v x
  | _, _, _, .non, e => by cases e; exact .non
  | _, _, _, .bl b, e => by cases e; exact .bl b
  | _, _, _, .int b, e => by cases e; exact .int b
  | _, _, _, .str b, e => by cases e; exact .str b
  | _, _, _, .ty _, e => by cases e
  | _, _, _, .ref _, e => by cases e
  | _, _, _, .scr _ _, e => by cases e
  | _, _, _, .ins _ _, e => by cases e
  | _, _, x, @Rep.lst _ _ _ a xs ds h r, e => by
    have e' : (toPs ds).map PyData.list = some x := e
    cases q : toPs ds with
    | none => rw [q] at e'; cases e'
    | some ys => rw [q] at e'; cases e'; exact .lst (SqL.of h) (RepL.dp r q)
  | _, _, x, @Rep.tup _ _ _ a xs ds h r, e => by
    have e' : (toPs ds).map PyData.tuple = some x := e
    cases q : toPs ds with
    | none => rw [q] at e'; cases e'
    | some ys => rw [q] at e'; cases e'; exact .tup h (RepL.dp r q)
theorem RepL.dp : ∀ {v : List V} {d : List D} {x : List PyData}, RepL K cl H v d → toPs d = some x → DpAll K H v x
  | _, _, _, .nil, e => by cases e; exact .nil
  | _, _, x, @RepL.cons _ _ _ v vs d ds h r, e => by
    have e' : (match toP d, toPs ds with | some x, some xs => some (x :: xs) | _, _ => none) = some x := e
    cases q1 : toP d with
    | none => rw [q1] at e'; cases e'
    | some y =>
      cases q2 : toPs ds with
      | none => rw [q1, q2] at e'; cases e'
      | some ys => rw [q1, q2] at e'; cases e'; exact .cons (Rep.dp h q1) (RepL.dp r q2)
end
end
/-- == of data -/
def eqB (d e : D) : Option Bool := match toP d, toP e with
  | some x, some y => if SeqAt.shaped x && SeqAt.shaped y then some (PyData.eqv x y) else none
  | _, _ => none
def eqD (d e : D) : Option D := (eqB d e).map .bl
def neD (d e : D) : Option D := (eqB d e).map fun b => .bl (!b)
theorem eq_ok {G H : Hp} {x y : V} {d e : D} {b : Bool} (ex : Ex G H) (vd : Vw X.K cl G H x d) (ve : Vw X.K cl G H y e) (h : eqB d e = some b) : ∃ a c, Dp X.K H x a ∧ Dp X.K H y c ∧ SeqAt.shaped a = true ∧ SeqAt.shaped c = true ∧ PyData.eqv a c = b := by
  unfold eqB at h
  split at h
  · rename_i a c ha hc
    split at h
    · rename_i hs
      rw [Bool.and_eq_true] at hs
      cases h
      exact ⟨a, c, (vd.all ex).dp ha, (ve.all ex).dp hc, hs.1, hs.2, rfl⟩
    · cases h
  · cases h
theorem o_eq (hu : X.A.units + 64 < cLine) : OpR X (compareOp .Eq) (rD X.K cl eqD) := opr_of fun G H d e z x y Q ex nt vd ve hz q => by
  unfold eqD at hz
  cases h : eqB d e with
  | none => rw [h] at hz; cases hz
  | some b =>
    rw [h] at hz; cases hz
    obtain ⟨a, c, h1, h2, h3, h4, h5⟩ := eq_ok ex vd ve h
    exact ⟨_, op_eqD hu, a, c, h1, h2, h3, h4, q _ G H (Grow.refl ex nt) (by rw [h5]; exact .bl _)⟩
theorem o_ne (hu : X.A.units + 64 < cLine) : OpR X (compareOp .NotEq) (rD X.K cl neD) := opr_of fun G H d e z x y Q ex nt vd ve hz q => by
  unfold neD at hz
  cases h : eqB d e with
  | none => rw [h] at hz; cases hz
  | some b =>
    rw [h] at hz; cases hz
    obtain ⟨a, c, h1, h2, h3, h4, h5⟩ := eq_ok ex vd ve h
    exact ⟨_, op_neD hu, a, c, h1, h2, h3, h4, q _ G H (Grow.refl ex nt) (by rw [h5]; exact .bl _)⟩
/-! ### places -/
def ixD : D → D → Option D
  | .lst ds, .int i => atI ds i
  | .tup ds, .int i => atI ds i
  | .scr ds, .int i => atI ds i
  | .str z, .int i => if z.length ≤ 1000000 then (atI z.cps.toList i).map fun c => .str ⟨#[c]⟩ else none
  | _, _ => none
theorem RepL.atI {K : PySem.W.Frag} {G : Hp} {vs : List V} {ds : List D} {i : Int} {d : D} (r : RepL K cl G vs ds) (h : L2.atI ds i = some d) : ∃ v, L2.atI vs i = some v ∧ Rep K cl G v d := by
  unfold L2.atI at h ⊢
  rw [r.length]
  cases e : ixN ds.length i with
  | none => rw [e] at h; cases h
  | some j => rw [e] at h; exact r.get h
theorem ixr_of {g : D → D → Option D} (h : ∀ (G H : Hp) (d e z : D) (x y : V) (Q : VK), Ex G H → Nt G → Vw X.K cl G H x d → Vw X.K cl G H y e → g d e = some z → (∀ v G' H', Grow G H G' H' → Rep X.K cl G' v z → Q v H') →
    ∃ r : L2.R2, IxR X r ∧ r x y H Q) : IxR X (rD X.K cl g) := by
  intro value slice pins s σ H x y v u Q I rx ry ⟨G, d, e, z, ex, nt, vd, ve, hz, q⟩ hs
  obtain ⟨r, hr, hq⟩ := h G H d e z x y Q ex nt vd ve hz q
  exact hr value slice pins s σ H x y v u Q I rx ry hq hs
theorem Vw.scr {G H : Hp} {x : V} (ex : Ex G H) {ds : List D} (h : Vw X.K cl G H x (.scr ds)) : ∃ a vs, x = .ref a ∧ SqL X.K H a vs ∧ RepL X.K cl G vs ds := by
  rcases h with h | ⟨a, o, rfl, q, e⟩
  · cases h with | scr h r => exact ⟨_, _, rfl, Evl.ex_l ex h, r⟩
  · cases o <;> cases e
theorem o_ix : IxR X (rD X.K cl ixD) := ixr_of fun G H d e z x y Q ex nt vd ve hz q => by
  unfold ixD at hz
  split at hz
  · obtain ⟨a, vs, rfl, ha, ra⟩ := vd.lst ex
    obtain ⟨v, hv, rv⟩ := ra.atI hz
    exact ⟨_, ix_list, a, vs, _, v, rfl, ve.int, SqL.of ha, hv, q _ G H (Grow.refl ex nt) rv⟩
  · obtain ⟨a, vs, rfl, ha, ra⟩ := vd.tup ex
    obtain ⟨v, hv, rv⟩ := ra.atI hz
    exact ⟨_, ix_tup, a, vs, _, v, rfl, ve.int, ha, hv, q _ G H (Grow.refl ex nt) rv⟩
  · obtain ⟨a, vs, rfl, ha, ra⟩ := vd.scr ex
    obtain ⟨v, hv, rv⟩ := ra.atI hz
    exact ⟨_, ix_list, a, vs, _, v, rfl, ve.int, ha, hv, q _ G H (Grow.refl ex nt) rv⟩
  · split at hz
    · rename_i w i hl
      cases e1 : atI w.cps.toList i with
      | none => rw [e1] at hz; cases hz
      | some c => rw [e1] at hz; cases hz; exact ⟨_, ix_str, _, _, c, vd.str, ve.int, mill hl, e1, q _ G H (Grow.refl ex nt) (.str _)⟩
    · cases hz
  · cases hz
/-! ### slices -/
def cutD (ds : List D) (lo hi : Option Int) : List D := (ds.drop (HT.sIx ds.length 0 lo)).take (HT.sIx ds.length ds.length hi - HT.sIx ds.length 0 lo)
theorem RepL.cut {K : PySem.W.Frag} {G : Hp} {vs : List V} {ds : List D} (r : RepL K cl G vs ds) (lo hi : Option Int) : RepL K cl G (cutV vs lo hi) (cutD ds lo hi) := by
  unfold cutV cutD
  rw [r.length]
  exact (r.drop _).take _
def slD (d : D) (lo hi : Option Int) : Option D := match d with
  | .lst ds => some (.lst (cutD ds lo hi))
  | .scr ds => some (.lst (cutD ds lo hi))
  | .tup ds => some (.tup (cutD ds lo hi))
  | .str z => if z.length ≤ 1000000 then some (.str (cutS z lo hi)) else none
  | _ => none
def rS (K : PySem.W.Frag) (cl : String → Addr) : V → Option Int → Option Int → Hp → VK → Prop := fun x lo hi H Q => ∃ G d z, Ex G H ∧ Nt G ∧ Vw K cl G H x d ∧ slD d lo hi = some z ∧ ∀ v G' H', Grow G H G' H' → Rep K cl G' v z → Q v H'
theorem o_sl : SlR X (rS X.K cl) := by
  intro pins s σ H x v vl vu lo hi sl Q I rx hs pl pu ⟨G, d, z, ex, nt, vd, hz, q⟩
  unfold slD at hz
  split at hz
  · cases hz
    obtain ⟨a, vs, rfl, ha, ra⟩ := vd.lst ex
    refine sl_list pins s σ H _ v vl vu lo hi sl Q I rx hs pl pu ⟨a, vs, rfl, SqL.of ha, fun p hp => ?_⟩
    have g := Grow.laid (o := .lst (cutV vs lo hi)) ex nt hp (fun _ z => by cases z)
    exact q _ _ _ g (.lst upd_same ((ra.cut lo hi).mono g.ex))
  · cases hz
    obtain ⟨a, vs, rfl, ha, ra⟩ := vd.scr ex
    refine sl_list pins s σ H _ v vl vu lo hi sl Q I rx hs pl pu ⟨a, vs, rfl, ha, fun p hp => ?_⟩
    have g := Grow.laid (o := .lst (cutV vs lo hi)) ex nt hp (fun _ z => by cases z)
    exact q _ _ _ g (.lst upd_same ((ra.cut lo hi).mono g.ex))
  · rename_i ds
    cases hz
    obtain ⟨a, vs, rfl, ha, ra⟩ := vd.tup ex
    refine sl_tupA pins s σ H _ v vl vu lo hi sl Q I rx hs pl pu ⟨a, vs, rfl, ha, fun hw => ?_, fun _ p hp => ?_⟩
    · rw [ra.length] at hw
      have e : cutD ds lo hi = ds := by
        unfold cutD
        rw [hw.1, hw.2, List.drop_zero, Nat.sub_zero, List.take_length]
      rw [e] at q
      exact q _ G H (Grow.refl ex nt) (by
        rcases vd with h | ⟨_, o, _, _, e⟩
        · exact h
        · cases o <;> cases e)
    · have g := Grow.laid (o := .tup (cutV vs lo hi)) ex nt hp (fun _ z => by cases z)
      exact q _ _ _ g (.tup (SqT.of upd_same) ((ra.cut lo hi).mono g.ex))
  · split at hz
    · rename_i hl
      cases hz
      exact sl_str pins s σ H _ v vl vu lo hi sl Q I rx hs pl pu ⟨_, vd.str, mill hl, q _ G H (Grow.refl ex nt) (.str _)⟩
    · cases hz
  · cases hz
structure DP (X : Cx) (p : Pm) (W : WX) (e : Option Expr) (m : M (Option Int)) : Prop where
  run : PO X e (tM X.K p W (fun _ _ _ b a => b = a) m)
theorem PO.imp {X : Cx} {e : Option Expr} {t t' : TO} (h : PO X e t) (f : ∀ σ H Q, t' σ H Q → t σ H Q) : PO X e t' := ⟨fun pins s σ H Q I q => h.run pins s σ H Q I (f σ H Q q)⟩
variable {p : Pm} {W : WX}
theorem dp_none : DP X p W none (M.pure none) := ⟨PO.imp po_none fun σ H Q ⟨G, r, s, q⟩ => q none G H s (Ex.refl G) rfl⟩
def mPart (m : M D) : M (Option Int) := m.bind fun d => match d with
  | .int i => M.pure (some i)
  | _ => fun _ => .bad
theorem dp_some {e : Expr} {m : M D} (h : DE X p W e m) : DP X p W (some e) (mPart m) := ⟨PO.imp (po_some h.run) fun σ H Q ⟨G, r, s, q⟩ => by
  refine po_bind (R := RD X.K p.cl) s q fun d v G1 r1 H1 s1 ex rv q1 => ?_
  cases d with
  | int i =>
    have rv' : Rep X.K p.cl G1 v (.int i) := rv
    cases rv'
    exact ⟨i, rfl, q1 _ G1 H1 s1 (Ex.refl G1) rfl⟩
  | _ => exact q1.elim⟩
def mSl (a : M Vk) (lo hi : M (Option Int)) : M D := a.bind fun x => lo.bind fun l => hi.bind fun h r => match res r x with
  | some d => (match slD d l h with
    | some z => .ok z r
    | none => .bad)
  | none => .bad
theorem de_sl {e : Expr} {lo hi : Option Expr} {m : M Vk} {ml mh : M (Option Int)} {p2 pos : Pos} (he : DO X p W e m) (hl : DP X p W lo ml) (hh : DP X p W hi mh) : DE X p W (.Subscript e (.Slice lo hi none p2) pos) (mSl m ml mh) :=
  ⟨PE.imp (pe_slice (o_sl (cl := p.cl)) he.run hl.run hh.run) fun σ H Q ⟨G, r, s, q⟩ => by
    refine po_bind (R := RO X.K p.cl) s q fun k x G1 r1 H1 s1 ex1 h1 q1 => ?_
    refine po_bind (R := fun _ _ _ b a => b = a) s1 q1 fun l l' G2 r2 H2 s2 ex2 h2 q2 => ?_
    refine po_bind (R := fun _ _ _ b a => b = a) s2 q2 fun u u' G3 r3 H3 s3 ex3 h3 q3 => ?_
    obtain rfl : l' = l := h2
    obtain rfl : u' = u := h3
    have h1' : RO X.K p.cl G3 r3 σ x k := by
      cases k with
      | dv d => exact (show Rep X.K p.cl G1 x d from h1).mono (ex2.trans ex3)
      | os i => exact h1
    split at q3
    · rename_i d hd
      split at q3
      · rename_i z hz
        exact ⟨G3, d, z, s3.sub, s3.nt, s3.res h1' hd, hz, fun v G' H' g' rv => q3 v G' H' (s3.grow g') g'.ex rv⟩
      · exact q3.elim
    · exact q3.elim⟩
end
end DL
end

section
set_option Elab.async false
set_option linter.all false
set_option maxRecDepth 100000
set_option maxHeartbeats 4000000
/-! DN: expressions that make an own object; comprehensions. -/
namespace DL
open PySem PySem.Spec L2 PyProof.Rows
variable [Tbls]
structure Free (K : PySem.W.Frag) (p : Pm) (G : Hp) (r : Rho) (σ : L2.St) (H : Hp) (a : Addr) (o : Ob) : Prop where
  own : OwnAt K p.cl G H a o
  ng : G a = none
  nb : ∀ u, p.B a = some u → ∃ ps, u = .tbl ps
  sep : ∀ (i k : Nat) o', r[i]? = some (.own k o') → σ[i]? ≠ some (some (.ref a))
  hid : ∀ q ∈ p.hid, q.1 ≠ a
section
variable {K : PySem.W.Frag} {p : Pm} {G H : Hp} {r : Rho} {σ : L2.St} {a : Addr} {o : Ob}
theorem St.none_of (s : St K p G r σ H) (h : H a = none) : G a = none := by
  cases e : G a with
  | none => rfl
  | some u => have := s.sub a u e; rw [h] at this; cases this
theorem Free.new {u : HO} (s : St K p G r σ H) (h : H a = none) (q : OwnAt K p.cl G (upd H a u) a o) : Free K p G r σ (upd H a u) a o := by
  refine ⟨q, s.none_of h, fun w e => ?_, fun i k o' hi z => ?_, fun q hq z => ?_⟩
  · by_cases ht : ∃ ps, w = .tbl ps
    · exact ht
    · have := s.base.1 a w e (fun ps z => ht ⟨ps, z⟩)
      rw [h] at this; cases this
  · obtain ⟨b, hb, q', _⟩ := s.own i k o' hi
    rw [hb] at z
    have e : b = a := by injection z with z; injection z with z; injection z
    subst e
    obtain ⟨w, hw, _⟩ := q'.mut
    rw [h] at hw; cases hw
  · obtain ⟨q', _⟩ := s.hid q hq
    obtain ⟨w, hw, _⟩ := q'.mut
    rw [z, h] at hw; cases hw
theorem Free.grow {G' H' : Hp} (f : Free K p G r σ H a o) (g : Grow G H G' H') : Free K p G' r σ H' a o := ⟨f.own.mono g.ex g.keep, g.apart f.own f.ng, f.nb, f.sep, f.hid⟩
/-- it becomes data -/
theorem St.frzN (s : St K p G r σ H) (f : Free K p G r σ H a o) : ∃ G', Ex G G' ∧ Rep K p.cl G' (.ref a) o.d ∧ St K p G' r σ H := by
  obtain ⟨u, hu, ht, rp⟩ := f.own.rep f.ng
  have ex : Ex G (upd G a u) := Ex.new f.ng
  refine ⟨upd G a u, ex, rp, s.len, fun b x e => ?_, s.nt.new ht, s.base, fun b h0 h1 w hw => ?_, fun j d hj => ?_, fun j k x hj => ?_, s.sep, fun q hq => ?_, s.g0.trans ex, s.tab⟩
  · by_cases z : b = a
    · subst z; rw [upd_same] at e; cases e; exact hu
    · rw [upd_ne z] at e; exact s.sub b x e
  · by_cases z : b = a
    · subst z; exact f.nb w hw
    · rw [upd_ne z] at h1; exact s.fr b h0 h1 w hw
  · obtain ⟨v, h1, h2⟩ := s.val j d hj
    exact ⟨v, h1, h2.mono ex⟩
  · obtain ⟨b, hb, qb, ngb, nbb, kb⟩ := s.own j k x hj
    have n1 : b ≠ a := fun e => f.sep j k x hj (by rw [hb, e])
    exact ⟨b, hb, qb.mono ex (Kp.refl H), by rw [upd_ne n1]; exact ngb, nbb, kb⟩
  · obtain ⟨h1, h2, h3, h4⟩ := s.hid q hq
    exact ⟨h1.mono ex (Kp.refl H), by rw [upd_ne (f.hid q hq)]; exact h2, h3, h4⟩
/-- it goes into a slot -/
theorem St.putN (s : St K p G r σ H) (f : Free K p G r σ H a o) (i : Nat) : St K p G (r.set i (.own 0 o)) (σ.set i (some (.ref a))) H := by
  refine ⟨by rw [List.length_set, List.length_set]; exact s.len, s.sub, s.nt, s.base, s.fr, fun j d hj => ?_, fun j k o' hj => ?_, fun x y k k' o1 o2 ne hx hy => ?_, fun q hq => ?_, s.g0, s.tab⟩
  · by_cases z : i = j
    · subst z
      by_cases l : i < r.length
      · rw [List.getElem?_set_self l] at hj; cases hj
      · rw [List.getElem?_eq_none (by simpa using l)] at hj; cases hj
    · rw [List.getElem?_set_ne z] at hj ⊢; exact s.val j d hj
  · by_cases z : i = j
    · subst z
      by_cases l : i < r.length
      · rw [List.getElem?_set_self l] at hj; cases hj
        exact ⟨a, List.getElem?_set_self (by rw [← s.len]; exact l), f.own, f.ng, f.nb, fun z => absurd z (Nat.lt_irrefl 0)⟩
      · rw [List.getElem?_eq_none (by simpa using l)] at hj; cases hj
    · rw [List.getElem?_set_ne z] at hj ⊢; exact s.own j k o' hj
  · by_cases zx : i = x
    · subst zx
      rw [List.getElem?_set_ne ne] at hy ⊢
      by_cases l : i < r.length
      · rw [List.getElem?_set_self (by rw [← s.len]; exact l)]
        exact fun z => f.sep y k' o2 hy z.symm
      · rw [List.getElem?_eq_none (by simpa using l)] at hx; cases hx
    · rw [List.getElem?_set_ne zx] at hx ⊢
      by_cases zy : i = y
      · subst zy
        by_cases l : i < r.length
        · rw [List.getElem?_set_self (by rw [← s.len]; exact l)]
          exact f.sep x k o1 hx
        · rw [List.getElem?_eq_none (by simpa using l)] at hy; cases hy
      · rw [List.getElem?_set_ne zy] at hy ⊢
        exact s.sep x y k k' o1 o2 ne hx hy
  · obtain ⟨h1, h2, h3, h4⟩ := s.hid q hq
    refine ⟨h1, h2, h3, fun j k o' hj => ?_⟩
    by_cases z : i = j
    · subst z
      by_cases l : i < r.length
      · rw [List.getElem?_set_self (by rw [← s.len]; exact l)]
        intro e
        exact f.hid q hq (by injection e with z; injection z with z; injection z with z; exact z.symm)
      · rw [List.getElem?_eq_none (by simpa using l)] at hj; cases hj
    · rw [List.getElem?_set_ne z] at hj ⊢; exact h4 j k o' hj
/-- .. or is hidden meanwhile -/
theorem St.hide (s : St K p G r σ H) (f : Free K p G r σ H a o) : St K { p with hid := (a, o) :: p.hid } G r σ H :=
  ⟨s.len, s.sub, s.nt, s.base, s.fr, s.val, s.own, s.sep, fun q hq => by
    rcases List.mem_cons.mp hq with e | h
    · subst e; exact ⟨f.own, f.ng, f.nb, f.sep⟩
    · exact s.hid q h, s.g0, s.tab⟩
theorem St.unhide (s : St K { p with hid := (a, o) :: p.hid } G r σ H) (hn : ∀ q ∈ p.hid, q.1 ≠ a) : St K p G r σ H ∧ Free K p G r σ H a o := by
  obtain ⟨h1, h2, h3, h4⟩ := s.hid (a, o) List.mem_cons_self
  exact ⟨⟨s.len, s.sub, s.nt, s.base, s.fr, s.val, s.own, s.sep, fun q hq => s.hid q (List.mem_cons_of_mem _ hq), s.g0, s.tab⟩, h1, h2, h3, h4, hn⟩
end
section
def PoN (K : PySem.W.Frag) (p : Pm) (W : WX) (G : Hp) (σ : L2.St) (Q : VK) : Out Ob → Prop
  | .ok o r => ∀ a G' H', St K p G' r σ H' → Ex G G' → Free K p G' r σ H' a o → Q (.ref a) H'
  | .err e r => ∀ c dd G' H', St K p G' r σ H' → Ex G G' → RepX K p.cl G' e c dd → W c dd σ H'
  | .bad => False
def tN (K : PySem.W.Frag) (p : Pm) (W : WX) (m : M Ob) : TE := fun σ H Q => ∃ G r, St K p G r σ H ∧ PoN K p W G σ Q (m r)
structure DN (X : Cx) (p : Pm) (W : WX) (e : Expr) (m : M Ob) : Prop where
  run : PE X e (tN X.K p W m)
variable {X : Cx} {p : Pm} {W : WX} {e : Expr} {m : M Ob} {pos : Pos}
def mObD (m : M Ob) : M D := m.bind fun o => M.pure o.d
theorem de_new (h : DN X p W e m) : DE X p W e (mObD m) := ⟨PE.imp h.run fun σ H Q ⟨G, r, s, q⟩ => by
  refine ⟨G, r, s, ?_⟩
  unfold mObD M.bind at q
  cases e1 : m r with
  | ok o r1 =>
    rw [e1] at q
    refine fun a G' H' s' ex f => ?_
    obtain ⟨G2, ex2, rp, s2⟩ := s'.frzN f
    exact q _ G2 H' s2 (ex.trans ex2) rp
  | err x r1 => rw [e1] at q; exact q
  | bad => rw [e1] at q; exact q.elim⟩
def sNew (i : Nat) (m : M Ob) : M Fl := m.bind fun o r => .ok .nx (r.set i (.own 0 o))
theorem ds_new {i : Nat} {st : Stmt} (h : ∀ te, PE X e te → PS X st (tAsg te (gName i))) (hn : DN X p W e m) : DS X p W st (sNew i m) := ⟨PS.imp (h _ hn.run) fun D σ H ⟨G, r, s, q⟩ => by
  refine ⟨G, r, s, ?_⟩
  unfold sNew M.bind at q
  cases e1 : m r with
  | ok o r1 =>
    rw [e1] at q
    exact fun a G' H' s' ex f => q G' _ H' (s'.putN f i) ex
  | err x r1 => rw [e1] at q; exact fun c dd G' H' s' ex rx => q c dd G' σ H' s' ex rx
  | bad => rw [e1] at q; exact q.elim⟩
def sRetN' (m : M Ob) : M Fl := m.bind fun o r => .ok (.ro o) r
theorem ds_retn (hn : DN X p W e m) : DS X p W (.Return (some e) pos) (sRetN' m) := ⟨PS.imp (ps_ret hn.run) fun D σ H ⟨G, r, s, q⟩ => by
  refine ⟨G, r, s, ?_⟩
  unfold sRetN' M.bind at q
  cases e1 : m r with
  | ok o r1 =>
    rw [e1] at q
    exact fun a G' H' s' ex f => q a G' σ H' s' ex f.own f.ng f.nb
  | err x r1 => rw [e1] at q; exact fun c dd G' H' s' ex rx => q c dd G' σ H' s' ex rx
  | bad => rw [e1] at q; exact q.elim⟩
variable {es : List Expr} {ms : M (List D)}
def mNLst (m : M (List D)) : M Ob := m.bind fun ds r => if short ds then .ok (.lst ds) r else .bad
theorem dn_lst (h : DA X p W es ms) : DN X p W (.List es pos) (mNLst ms) := ⟨PE.imp (pe_lst h.run) fun σ H Q ⟨G, r, s, q⟩ => by
  refine ⟨G, r, s, ?_⟩
  unfold mNLst M.bind at q
  cases e1 : ms r with
  | ok ds r1 =>
    rw [e1] at q
    refine fun vs G' H' s' ex h1 => ?_
    have q' : PoN X.K p W G σ Q (if short ds = true then .ok (.lst ds) r1 else .bad) := q
    split at q'
    · rename_i hs
      refine ⟨by rw [h1.1.length]; exact short_le hs, fun a ha => ?_⟩
      have g := Grow.side (o := .lst vs) s'.sub s'.nt ha
      exact q' a G' _ (s'.grow g) ex (Free.new s' ha ⟨vs, upd_same, h1.1⟩)
    · exact q'.elim
  | err x r1 => rw [e1] at q; exact q
  | bad => rw [e1] at q; exact q.elim⟩
end
/-! ### comprehensions -/
def wipeR (r : Rho) : List Nat → Rho
  | [] => r
  | v :: vs => (wipeR r vs).set v .no
theorem wipeR_length (r : Rho) : ∀ vs, (wipeR r vs).length = r.length
  | [] => rfl
  | v :: vs => by unfold wipeR; rw [List.length_set, wipeR_length r vs]
theorem wipeR_some {r : Rho} {i : Nat} {x : Sl} (hx : x ≠ .no) : ∀ {vs : List Nat}, (wipeR r vs)[i]? = some x → r[i]? = some x ∧ i ∉ vs
  | [], h => ⟨h, by simp⟩
  | v :: vs, h => by
    unfold wipeR at h
    by_cases hi : v = i
    · subst hi
      by_cases hv : v < (wipeR r vs).length
      · rw [List.getElem?_set_self hv] at h; exact absurd (Option.some.inj h).symm hx
      · rw [List.getElem?_eq_none (by simpa using hv)] at h; cases h
    · rw [List.getElem?_set_ne hi] at h
      obtain ⟨h1, h2⟩ := wipeR_some hx h
      exact ⟨h1, by simp only [List.mem_cons, not_or]; exact ⟨fun e => hi e.symm, h2⟩⟩
section
variable {K : PySem.W.Frag} {p : Pm} {G H : Hp} {r : Rho} {σ : L2.St}
theorem St.wipe (s : St K p G r σ H) : ∀ vs : List Nat, St K p G (wipeR r vs) (L2.wipe σ vs) H
  | [] => s
  | v :: vs => (St.wipe s vs).gone v
/-- slots that are told of no more -/
theorem St.weak {r' : Rho} {σ' : L2.St} (s : St K p G r σ H) (hl : r'.length = r.length) (hl' : σ'.length = σ.length) (h : ∀ (i : Nat) (x : Sl), x ≠ Sl.no → r'[i]? = some x → r[i]? = some x ∧ σ'[i]? = σ[i]?) : St K p G r' σ' H where
  len := by rw [hl, hl']; exact s.len
  sub := s.sub
  nt := s.nt
  base := s.base
  fr := s.fr
  g0 := s.g0
  tab := s.tab
  val := fun i d hi => by
    obtain ⟨h1, h2⟩ := h i _ (fun z => by cases z) hi
    rw [h2]; exact s.val i d h1
  own := fun i k o hi => by
    obtain ⟨h1, h2⟩ := h i _ (fun z => by cases z) hi
    rw [h2]; exact s.own i k o h1
  sep := fun i j k k' o o' ne hi hj => by
    obtain ⟨h1, h2⟩ := h i _ (fun z => by cases z) hi
    obtain ⟨h3, h4⟩ := h j _ (fun z => by cases z) hj
    rw [h2, h4]; exact s.sep i j k k' o o' ne h1 h3
  hid := fun q hq => by
    obtain ⟨h1, h2, h3, h4⟩ := s.hid q hq
    refine ⟨h1, h2, h3, fun i k o hi => ?_⟩
    obtain ⟨h5, h6⟩ := h i _ (fun z => by cases z) hi
    rw [h6]; exact h4 i k o h5
theorem St.unwipe {vs : List Nat} (s : St K p G r (L2.wipe σ vs) H) : St K p G (wipeR r vs) σ H :=
  s.weak (wipeR_length r vs) (wipe_length σ vs).symm fun i x hx h => by
    obtain ⟨h1, h2⟩ := wipeR_some hx h
    exact ⟨h1, (wipe_out h2).symm⟩
theorem St.rewipe {vs : List Nat} {σ2 : L2.St} (s : St K p G r σ2 H) (e : L2.wipe σ2 vs = L2.wipe σ vs) : St K p G (wipeR r vs) (L2.wipe σ vs) H := by
  rw [← e]; exact s.wipe vs
theorem Free.slots {r' : Rho} {σ' : L2.St} {a : Addr} {o : Ob} (f : Free K p G r σ H a o) (h : ∀ (i : Nat) (x : Sl), x ≠ Sl.no → r'[i]? = some x → r[i]? = some x ∧ σ'[i]? = σ[i]?) : Free K p G r' σ' H a o :=
  ⟨f.own, f.ng, f.nb, fun i k o' hi => by
    obtain ⟨h1, h2⟩ := h i _ (fun z => by cases z) hi
    rw [h2]; exact f.sep i k o' h1, f.hid⟩
end
def compL (t : Pat) (c : M Bool) (e : M D) (vs : List Nat) : List D → List D → M (List D)
  | [], acc, r => .ok acc r
  | d :: ds, acc, r => match bindP t d r with
    | none => .bad
    | some r1 => match c r1 with
      | .ok false r2 => compL t c e vs ds acc (wipeR r2 vs)
      | .ok true r2 => (match e r2 with
        | .ok y r3 => if short acc then compL t c e vs ds (acc ++ [y]) (wipeR r3 vs) else .bad
        | _ => .bad)
      | _ => .bad
def mComp (it : M (List D)) (t : Pat) (c : M Bool) (e : M D) (vs : List Nat) : M Ob := it.bind fun ds r => match compL t c e vs ds [] (wipeR r vs) with
  | .ok acc r' => .ok (.lst acc) r'
  | _ => .bad
/-- nothing is let out -/
abbrev W0 : WX := fun _ _ _ _ => False
structure DTs (X : Cx) (p : Pm) (W : WX) (ifs : List Expr) (m : M Bool) : Prop where
  run : PTs X ifs (tM X.K p W RB m)
section
variable {X : Cx} {p : Pm} {W : WX}
theorem PTs.imp {X : Cx} {e : List Expr} {t t' : TT} (h : PTs X e t) (f : ∀ σ H Q, t' σ H Q → t σ H Q) : PTs X e t' := ⟨fun pins s σ H Q I q => h.run pins s σ H Q I (f σ H Q q)⟩
theorem dts_nil : DTs X p W [] (M.pure true) := ⟨PTs.imp pts_nil fun σ H Q ⟨G, r, s, q⟩ => q true G H s (Ex.refl G) rfl⟩
theorem dts_one {c : Expr} {m : M Bool} (h : DT X p W c m) : DTs X p W [c] m := ⟨pts_one h.run⟩
/-- what is left of a comprehension, from the turn i on -/
def CompW (K : PySem.W.Frag) (p : Pm) (W : WX) (G0 : Hp) (σ : L2.St) (vs : List Nat) (a : Addr) (t : Pat) (c : M Bool) (e : M D) (Q : VK) (ds : List D) (H : Hp) : Prop :=
  ∃ G r acc, St K p G r (L2.wipe σ vs) H ∧ Ex G0 G ∧ Free K p G r (L2.wipe σ vs) H a (.lst acc) ∧ wipeR r vs = r ∧ PoN K p W G σ Q (match compL t c e vs ds acc r with | .ok acc r' => .ok (.lst acc) r' | _ => .bad)
theorem wipeR_idem (r : Rho) (vs : List Nat) : wipeR (wipeR r vs) vs = wipeR r vs := by
  apply List.ext_getElem?
  intro i
  have key : ∀ (l : Rho) (x : Sl), (wipeR l vs)[i]? = some x → x = .no ∨ (l[i]? = some x ∧ i ∉ vs) := fun l x h => by
    by_cases e : x = .no
    · exact .inl e
    · exact .inr (wipeR_some e h)
  have back : ∀ (l : Rho) (vs : List Nat), i ∉ vs → (wipeR l vs)[i]? = l[i]? := by
    intro l vs
    induction vs with
    | nil => intro _; rfl
    | cons v vs ih =>
      intro h
      unfold wipeR
      rw [List.getElem?_set_ne (fun z => h (by rw [z]; exact List.mem_cons_self)), ih fun z => h (List.mem_cons_of_mem _ z)]
  have inn : ∀ (l : Rho) (vs : List Nat), i ∈ vs → i < l.length → (wipeR l vs)[i]? = some .no := by
    intro l vs
    induction vs with
    | nil => intro h; cases h
    | cons v vs ih =>
      intro h hl
      unfold wipeR
      by_cases z : v = i
      · subst z; exact List.getElem?_set_self (by rw [wipeR_length]; exact hl)
      · rw [List.getElem?_set_ne z]
        exact ih ((List.mem_cons.mp h).resolve_left fun y => z y.symm) hl
  by_cases h : i ∈ vs
  · by_cases hl : i < r.length
    · rw [inn _ _ h (by rw [wipeR_length]; exact hl), inn _ _ h hl]
    · rw [List.getElem?_eq_none (by rw [wipeR_length, wipeR_length]; omega), List.getElem?_eq_none (by rw [wipeR_length]; omega)]
  · rw [back _ _ h]
theorem wipe_idem (σ : L2.St) (vs : List Nat) : L2.wipe (L2.wipe σ vs) vs = L2.wipe σ vs := by
  apply List.ext_getElem?
  intro i
  have inn : ∀ (l : L2.St) (vs : List Nat), i ∈ vs → i < l.length → (L2.wipe l vs)[i]? = some none := by
    intro l vs
    induction vs with
    | nil => intro h; cases h
    | cons v vs ih =>
      intro h hl
      unfold L2.wipe
      by_cases z : v = i
      · subst z; exact List.getElem?_set_self (by rw [wipe_length]; exact hl)
      · rw [List.getElem?_set_ne z]
        exact ih ((List.mem_cons.mp h).resolve_left fun y => z y.symm) hl
  by_cases h : i ∈ vs
  · by_cases hl : i < σ.length
    · rw [inn _ _ h (by rw [wipe_length]; exact hl), inn _ _ h hl]
    · rw [List.getElem?_eq_none (by rw [wipe_length, wipe_length]; omega), List.getElem?_eq_none (by rw [wipe_length]; omega)]
  · rw [wipe_out h]
theorem St.mutN {K : PySem.W.Frag} {p : Pm} {G H : Hp} {r : Rho} {σ : L2.St} {a : Addr} {o : Ob} {u : HO} (s : St K p G r σ H) (f : Free K p G r σ H a o) : St K p G r σ (upd H a u) := by
  obtain ⟨w, hw, w1, w2⟩ := f.own.noext
  refine ⟨s.len, fun b x e => ?_, s.nt, s.base.mut hw f.nb w1 w2, s.fr, s.val, fun j k x hj => ?_, s.sep, fun q hq => ?_, s.g0, s.tab⟩
  · have : b ≠ a := fun z => by rw [z, f.ng] at e; cases e
    rw [upd_ne this]; exact s.sub b x e
  · obtain ⟨b, hb, qb, r1⟩ := s.own j k x hj
    exact ⟨b, hb, qb.ne (fun e => f.sep j k x hj (by rw [hb, e])), r1⟩
  · obtain ⟨h1, r1⟩ := s.hid q hq
    exact ⟨h1.ne (f.hid q hq), r1⟩
theorem PE.exs {X : Cx} {e : Expr} {α : Type} {t : α → TE} (h : ∀ a, PE X e (t a)) : PE X e (fun σ H Q => ∃ a, t a σ H Q) := ⟨fun pins s σ H Q I ⟨a, q⟩ => (h a).run pins s σ H Q I q⟩
theorem PTs.exs {X : Cx} {e : List Expr} {α : Type} {t : α → TT} (h : ∀ a, PTs X e (t a)) : PTs X e (fun σ H Q => ∃ a, t a σ H Q) := ⟨fun pins s σ H Q I ⟨a, q⟩ => (h a).run pins s σ H Q I q⟩
theorem PG.exs {X : Cx} {e : Expr} {α : Type} {t : α → TG} (h : ∀ a, PG X e (t a)) : PG X e (fun v σ H Q => ∃ a, t a v σ H Q) := ⟨fun pins s σ H v u Q I r ⟨a, q⟩ => (h a).run pins s σ H v u Q I r q⟩
theorem wiped_of {r : Rho} {vs : List Nat} (h : wipeR r vs = r) : ∀ (i : Nat) (x : Sl), x ≠ Sl.no → r[i]? = some x → i ∉ vs := fun i x hx e => by
  rw [← h] at e
  exact (wipeR_some hx e).2
theorem comp_read {own : List (Str × Nat)} {it : M (List D)} {t : Pat} {c : M Bool} {e : M D} (hsl : ∀ i ∈ slotsP t, i ∈ own.map (·.2)) {σ : L2.St} {H : Hp} {Q : VK} (h : tN X.K p W (mComp it t c e (own.map (·.2))) σ H Q) :
    tLc (tM X.K p W (RW X.K p.cl) it) (fun v σ H Q => ∃ h : List (Addr × Ob), tG X.K { p with hid := h } t v σ H Q) (fun σ H Q => ∃ h : List (Addr × Ob), tM X.K { p with hid := h } W0 RB c σ H Q)
      (fun σ H Q => ∃ h : List (Addr × Ob), tM X.K { p with hid := h } W0 (RD X.K p.cl) e σ H Q) (own.map (·.2)) σ H Q := by
  revert h
  generalize own.map (·.2) = vs at hsl ⊢
  intro ⟨G, r, s, q⟩
  refine ⟨G, r, s, ?_⟩
  unfold mComp M.bind at q
  cases e1 : it r with
  | err x r1 => rw [e1] at q; exact q
  | bad => rw [e1] at q; exact q.elim
  | ok ds r1 =>
  rw [e1] at q
  have q : PoN X.K p W G σ Q (match compL t c e vs ds [] (wipeR r1 vs) with | .ok acc r' => .ok (.lst acc) r' | _ => .bad) := q
  intro J G1 H1 s1 ex1 w a ha
  have w' : WalkD X.K p.cl J ds G1 := w
  have upN : ∀ {G2 : Hp} {o : Out Ob}, Ex G G2 → PoN X.K p W G σ Q o → PoN X.K p W G2 σ Q o := fun {G2 o} ex h => by
    cases o with
    | ok o r => exact fun a G' H' s e' f => h a G' H' s (ex.trans e') f
    | err x r => exact fun c dd G' H' s e' f => h c dd G' H' s (ex.trans e') f
    | bad => exact h
  have g0 := Grow.side (o := .lst []) s1.sub s1.nt ha
  have f0 : Free X.K p G1 r1 σ (upd H1 a (.lst [])) a (.lst []) := Free.new s1 ha ⟨[], upd_same, .nil⟩
  have sl0 : ∀ (i : Nat) (x : Sl), x ≠ Sl.no → (wipeR r1 vs)[i]? = some x → r1[i]? = some x ∧ (L2.wipe σ vs)[i]? = σ[i]? := fun i x hx h => by
    obtain ⟨h1, h2⟩ := wipeR_some hx h
    exact ⟨h1, wipe_out h2⟩
  refine ⟨fun i m H' => m = ds.length - i ∧ i ≤ ds.length ∧ CompW X.K p W G1 σ vs a t c e Q (ds.drop i) H', ⟨ds.length, by simp, Nat.zero_le _, G1, wipeR r1 vs, [], (s1.grow g0).wipe vs, Ex.refl G1, f0.slots sl0, wipeR_idem r1 vs, by rw [List.drop_zero]; exact upN ex1 q⟩, ?_⟩
  rintro i m H' ⟨rfl, hi', G2, r2, acc, s2, ex2, f2, hw, q2⟩
  by_cases hlt : i < ds.length
  · refine .inr ⟨w'.goes i H' G2 hlt ex2 s2.sub s2.nt, fun H3 => CompW X.K p W G1 σ vs a t c e Q (ds.drop (i + 1)) H3, fun H3 h3 => ⟨ds.length - (i + 1), by omega, rfl, hlt, h3⟩, fun x H3 hy => ?_⟩
    obtain ⟨d, G3, hd, g3, rv⟩ := w'.yields i H' x H3 G2 hlt ex2 s2.sub s2.nt hy
    have ed : ds.drop i = d :: ds.drop (i + 1) := by
      rw [List.drop_eq_getElem_cons hlt]
      rw [List.getElem?_eq_getElem hlt] at hd
      cases hd; rfl
    rw [ed] at q2
    unfold compL at q2
    refine ⟨(a, .lst acc) :: p.hid, G3, r2, d, (s2.grow g3).hide (f2.grow g3), rv, ?_⟩
    cases e2 : bindP t d r2 with
    | none => rw [e2] at q2; exact q2.elim
    | some r3 =>
    rw [e2] at q2
    intro σ4 s4 al
    have ew : L2.wipe σ4 vs = L2.wipe σ vs := by rw [al vs hsl, wipe_idem]
    refine ⟨ew, (a, .lst acc) :: p.hid, G3, r3, s4, ?_⟩
    dsimp only at q2
    cases e3 : c r3 with
    | err x r4 => rw [e3] at q2; exact q2.elim
    | bad => rw [e3] at q2; exact q2.elim
    | ok b r4 =>
    rw [e3] at q2
    intro b' G4 H4 s5 ex4 eb
    obtain rfl : b' = b := eb
    have back : ∀ {r5 : Rho} {G5 H5 : Hp} {acc' : List D}, St X.K p G5 r5 σ4 H5 → Free X.K p G5 r5 σ4 H5 a (.lst acc') → St X.K p G5 (wipeR r5 vs) (L2.wipe σ vs) H5 ∧ Free X.K p G5 (wipeR r5 vs) (L2.wipe σ vs) H5 a (.lst acc') := fun {r5 G5 H5 acc'} s f => by
      refine ⟨s.rewipe ew, f.slots fun i x hx h => ?_⟩
      obtain ⟨h1, h2⟩ := wipeR_some hx h
      refine ⟨h1, ?_⟩
      rw [← ew]; exact wipe_out h2
    cases b' with
    | false =>
      obtain ⟨s6, f6⟩ := s5.unhide f2.hid
      obtain ⟨s7, f7⟩ := back s6 f6
      exact ⟨G4, wipeR r4 vs, acc, s7, (ex2.trans g3.ex).trans ex4, f7, wipeR_idem _ _, by
        have exx : Ex G2 G4 := g3.ex.trans ex4
        revert q2
        show PoN X.K p W G2 σ Q (match compL t c e vs (ds.drop (i + 1)) acc (wipeR r4 vs) with | .ok acc r' => .ok (.lst acc) r' | _ => .bad) → _
        cases compL t c e vs (ds.drop (i + 1)) acc (wipeR r4 vs) with
        | ok acc2 r' => exact fun h a G' H' s e' f => h a G' H' s (exx.trans e') f
        | err _ _ => exact fun h => h.elim
        | bad => exact fun h => h.elim⟩
    | true =>
      refine ⟨(a, .lst acc) :: p.hid, G4, r4, s5, ?_⟩
      dsimp only at q2
      cases e4 : e r4 with
      | err x r5 => rw [e4] at q2; exact q2.elim
      | bad => rw [e4] at q2; exact q2.elim
      | ok y r5 =>
      rw [e4] at q2
      intro v G5 H5 s6 ex5 rv5
      obtain ⟨s7, f7⟩ := s6.unhide f2.hid
      obtain ⟨ws, hws, rws⟩ := f7.own
      dsimp only at q2
      by_cases hsh : short acc = true
      · rw [if_pos hsh] at q2
        refine ⟨ws, hws, by rw [rws.length]; exact short_lt hsh, ?_⟩
        have s8 := s7.mutN (u := .lst (ws ++ [v])) f7
        have f8 : Free X.K p G5 r5 σ4 (upd H5 a (.lst (ws ++ [v]))) a (.lst (acc ++ [y])) := ⟨⟨_, upd_same, rws.append (.cons rv5 .nil)⟩, f7.ng, f7.nb, f7.sep, f7.hid⟩
        obtain ⟨s9, f9⟩ := back s8 f8
        exact ⟨G5, wipeR r5 vs, acc ++ [y], s9, ((ex2.trans g3.ex).trans ex4).trans ex5, f9, wipeR_idem _ _, by
          have exx : Ex G2 G5 := (g3.ex.trans ex4).trans ex5
          revert q2
          cases compL t c e vs (ds.drop (i + 1)) (acc ++ [y]) (wipeR r5 vs) with
          | ok acc2 r' => exact fun h a G' H' s e' f => h a G' H' s (exx.trans e') f
          | err _ _ => exact fun h => h.elim
          | bad => exact fun h => h.elim⟩
      · rw [if_neg hsh] at q2; exact q2.elim
  · have ei : i = ds.length := by omega
    subst ei
    refine .inl ⟨w'.stops H' G2 ex2 s2.sub, ?_⟩
    rw [List.drop_length] at q2
    have q3 : PoN X.K p W G2 σ Q (.ok (.lst acc) r2) := q2
    have s3 : St X.K p G2 (wipeR r2 vs) σ H' := s2.unwipe
    rw [hw] at s3
    exact q3 a G2 H' s3 (Ex.refl G2) (f2.slots fun i x hx h => ⟨h, (wipe_out (wiped_of hw i x hx h)).symm⟩)
theorem dn_comp {elt tg iter : Expr} {ifs : List Expr} {scope : Scope} {own : List (Str × Nat)} {pos : Pos} {it : M (List D)} {t : Pat} {c : M Bool} {e : M D} (hc : X.calm = true) (hN : X.N.Nodup) (hi : DI X p W tg iter it) (ok : BlkOk X.N X.env.scope scope own)
    (hg : ∀ (s : Shared) (H : Hp) (C : Addr) (cs : List (Str × Addr)) (fp : List Addr) (p : Pm), DG (X.blk s H scope (compEnvC scope cs C X.env) fp) p tg t)
    (ht : ∀ (s : Shared) (H : Hp) (C : Addr) (cs : List (Str × Addr)) (fp : List Addr) (h : List (Addr × Ob)), DTs (X.blk s H scope (compEnvC scope cs C X.env) fp) { p with hid := h } W0 ifs c)
    (he : ∀ (s : Shared) (H : Hp) (C : Addr) (cs : List (Str × Addr)) (fp : List Addr) (h : List (Addr × Ob)), DE (X.blk s H scope (compEnvC scope cs C X.env) fp) { p with hid := h } W0 elt e)
    (hs : ∀ x, foldedSetIterable iter X.env x = pure x := by intro _; rfl) (hsl : ∀ i ∈ slotsP t, i ∈ own.map (·.2) := by decide) : DN X p W (.ListComp elt [⟨tg, iter, ifs, 0⟩] scope pos) (mComp it t c e (own.map (·.2))) := by
  exact ⟨PE.imp (pe_lc (pos := pos) (g := fun v σ H Q => ∃ h : List (Addr × Ob), tG X.K { p with hid := h } t v σ H Q) (tt := fun σ H Q => ∃ h : List (Addr × Ob), tM X.K { p with hid := h } W0 RB c σ H Q)
    (te := fun σ H Q => ∃ h : List (Addr × Ob), tM X.K { p with hid := h } W0 (RD X.K p.cl) e σ H Q) hc hN hi.run ok
    (fun s H C cs fp => PG.exs fun h => (hg s H C cs fp _).run) (fun s H C cs fp => PTs.exs fun h => (ht s H C cs fp h).run) (fun s H C cs fp => PE.exs fun h => (he s H C cs fp h).run) hs) fun σ H Q h => comp_read hsl h⟩
end
section
variable {X : Cx} {p : Pm} {W : WX} {i : Nat} {st : Stmt} {m : M Ob} {te : TE}
theorem ds_newR (h : PS X st (tAsg te (gName i))) (f : ∀ σ H Q, tN X.K p W m σ H Q → te σ H Q) : DS X p W st (sNew i m) := ⟨PS.imp h fun D σ H ⟨G, r, s, q⟩ => f _ _ _ (by
  refine ⟨G, r, s, ?_⟩
  unfold sNew M.bind at q
  cases e1 : m r with
  | ok o r1 =>
    rw [e1] at q
    exact fun a G' H' s' ex f => q G' _ H' (s'.putN f i) ex
  | err x r1 => rw [e1] at q; exact fun c dd G' H' s' ex rx => q c dd G' σ H' s' ex rx
  | bad => rw [e1] at q; exact q.elim)⟩
theorem ds_setR (h : PS X st (tAsg te (gName i))) (f : ∀ σ H Q, tN X.K p W m σ H Q → te σ H Q) : DS X p W st (sSet i (mObD m)) := ⟨PS.imp h fun D σ H ⟨G, r, s, q⟩ => f _ _ _ (by
  refine ⟨G, r, s, ?_⟩
  unfold sSet mObD M.bind at q
  cases e1 : m r with
  | ok o r1 =>
    rw [e1] at q
    refine fun a G' H' s' ex f => ?_
    obtain ⟨G2, ex2, rp, s2⟩ := s'.frzN f
    exact q G2 _ H' (s2.setv rp) (ex.trans ex2)
  | err x r1 => rw [e1] at q; exact fun c dd G' H' s' ex rx => q c dd G' σ H' s' ex rx
  | bad => rw [e1] at q; exact q.elim)⟩
end
section
variable {X : Cx} {p : Pm} {W : WX}
/-- name = [.. for ..], on one line, the name no other's -/
theorem ps_comp {i : Nat} {y : Str} {py spos : Pos} {elt tg iter : Expr} {ifs : List Expr} {scope : Scope} {own : List (Str × Nat)} {pos : Pos} {it : M (List D)} {t : Pat} {c : M Bool} {e : M D} (hc : X.calm = true) (hN : X.N.Nodup) (hy : X.N[i]? = some y) (hyl : X.env.scope.names.lookup y = some .local) (hsw : swapsWith (.ListComp elt [⟨tg, iter, ifs, 0⟩] scope pos) (some (.Name y py)) spos.line X.env = pure true) (hi : DI X p W tg iter it) (ok : BlkOk X.N X.env.scope scope own)
    (hg : ∀ (s : Shared) (H : Hp) (C : Addr) (cs : List (Str × Addr)) (fp : List Addr) (p : Pm), DG (X.blk s H scope (compEnvC scope cs C X.env) fp) p tg t)
    (ht : ∀ (s : Shared) (H : Hp) (C : Addr) (cs : List (Str × Addr)) (fp : List Addr) (h : List (Addr × Ob)), DTs (X.blk s H scope (compEnvC scope cs C X.env) fp) { p with hid := h } W0 ifs c)
    (he : ∀ (s : Shared) (H : Hp) (C : Addr) (cs : List (Str × Addr)) (fp : List Addr) (h : List (Addr × Ob)), DE (X.blk s H scope (compEnvC scope cs C X.env) fp) { p with hid := h } W0 elt e)
    (hs : ∀ x, foldedSetIterable iter X.env x = pure x := by intro _; rfl) (hsl : ∀ i ∈ slotsP t, i ∈ own.map (·.2) := by decide) : PS X (.Assign [.Name y py] (.ListComp elt [⟨tg, iter, ifs, 0⟩] scope pos) spos) (tAsg (tLc (tM X.K p W (RW X.K p.cl) it) (fun v σ H Q => ∃ h : List (Addr × Ob), tG X.K { p with hid := h } t v σ H Q) (fun σ H Q => ∃ h : List (Addr × Ob), tM X.K { p with hid := h } W0 RB c σ H Q)
      (fun σ H Q => ∃ h : List (Addr × Ob), tM X.K { p with hid := h } W0 (RD X.K p.cl) e σ H Q) (own.map (·.2))) (gName i)) := by
  exact ps_setLc (pos := pos) (py := py) (spos := spos) (g := fun v σ H Q => ∃ h : List (Addr × Ob), tG X.K { p with hid := h } t v σ H Q) (tt := fun σ H Q => ∃ h : List (Addr × Ob), tM X.K { p with hid := h } W0 RB c σ H Q)
    (te := fun σ H Q => ∃ h : List (Addr × Ob), tM X.K { p with hid := h } W0 (RD X.K p.cl) e σ H Q) hc hN hy hyl hsw hi.run ok
    (fun s H C cs fp => PG.exs fun h => (hg s H C cs fp _).run) (fun s H C cs fp => PTs.exs fun h => (ht s H C cs fp h).run) (fun s H C cs fp => PE.exs fun h => (he s H C cs fp h).run) hs
theorem ds_compV {i : Nat} {y : Str} {py spos : Pos} {elt tg iter : Expr} {ifs : List Expr} {scope : Scope} {own : List (Str × Nat)} {pos : Pos} {it : M (List D)} {t : Pat} {c : M Bool} {e : M D} (hc : X.calm = true) (hN : X.N.Nodup) (hy : X.N[i]? = some y) (hyl : X.env.scope.names.lookup y = some .local) (hsw : swapsWith (.ListComp elt [⟨tg, iter, ifs, 0⟩] scope pos) (some (.Name y py)) spos.line X.env = pure true) (hi : DI X p W tg iter it) (ok : BlkOk X.N X.env.scope scope own)
    (hg : ∀ (s : Shared) (H : Hp) (C : Addr) (cs : List (Str × Addr)) (fp : List Addr) (p : Pm), DG (X.blk s H scope (compEnvC scope cs C X.env) fp) p tg t)
    (ht : ∀ (s : Shared) (H : Hp) (C : Addr) (cs : List (Str × Addr)) (fp : List Addr) (h : List (Addr × Ob)), DTs (X.blk s H scope (compEnvC scope cs C X.env) fp) { p with hid := h } W0 ifs c)
    (he : ∀ (s : Shared) (H : Hp) (C : Addr) (cs : List (Str × Addr)) (fp : List Addr) (h : List (Addr × Ob)), DE (X.blk s H scope (compEnvC scope cs C X.env) fp) { p with hid := h } W0 elt e)
    (hs : ∀ x, foldedSetIterable iter X.env x = pure x := by intro _; rfl) (hsl : ∀ i ∈ slotsP t, i ∈ own.map (·.2) := by decide) : DS X p W (.Assign [.Name y py] (.ListComp elt [⟨tg, iter, ifs, 0⟩] scope pos) spos) (sSet i (mObD (mComp it t c e (own.map (·.2))))) :=
  ds_setR (ps_comp hc hN hy hyl hsw hi ok hg ht he hs hsl) fun σ H Q h => comp_read hsl h
theorem ds_compO {i : Nat} {y : Str} {py spos : Pos} {elt tg iter : Expr} {ifs : List Expr} {scope : Scope} {own : List (Str × Nat)} {pos : Pos} {it : M (List D)} {t : Pat} {c : M Bool} {e : M D} (hc : X.calm = true) (hN : X.N.Nodup) (hy : X.N[i]? = some y) (hyl : X.env.scope.names.lookup y = some .local) (hsw : swapsWith (.ListComp elt [⟨tg, iter, ifs, 0⟩] scope pos) (some (.Name y py)) spos.line X.env = pure true) (hi : DI X p W tg iter it) (ok : BlkOk X.N X.env.scope scope own)
    (hg : ∀ (s : Shared) (H : Hp) (C : Addr) (cs : List (Str × Addr)) (fp : List Addr) (p : Pm), DG (X.blk s H scope (compEnvC scope cs C X.env) fp) p tg t)
    (ht : ∀ (s : Shared) (H : Hp) (C : Addr) (cs : List (Str × Addr)) (fp : List Addr) (h : List (Addr × Ob)), DTs (X.blk s H scope (compEnvC scope cs C X.env) fp) { p with hid := h } W0 ifs c)
    (he : ∀ (s : Shared) (H : Hp) (C : Addr) (cs : List (Str × Addr)) (fp : List Addr) (h : List (Addr × Ob)), DE (X.blk s H scope (compEnvC scope cs C X.env) fp) { p with hid := h } W0 elt e)
    (hs : ∀ x, foldedSetIterable iter X.env x = pure x := by intro _; rfl) (hsl : ∀ i ∈ slotsP t, i ∈ own.map (·.2) := by decide) : DS X p W (.Assign [.Name y py] (.ListComp elt [⟨tg, iter, ifs, 0⟩] scope pos) spos) (sNew i (mComp it t c e (own.map (·.2)))) :=
  ds_newR (ps_comp hc hN hy hyl hsw hi ok hg ht he hs hsl) fun σ H Q h => comp_read hsl h
end
end DL
end

section
set_option Elab.async false
set_option linter.all false
set_option maxRecDepth 100000
set_option maxHeartbeats 4000000
/-! DB: built-ins over data, what loops walk, own lists. -/
namespace DL
open PySem PySem.Spec L2 PyProof.Rows
variable [Tbls]
section
variable {X : Cx} {p : Pm} {W : WX} {cl : String → Addr} {e e2 : Expr} {m m2 : M Vk} {x : Str} {pos p1 : Pos} {id T : String}
def rC1 (K : PySem.W.Frag) (cl : String → Addr) (g : D → Option D) : List V → Hp → VK → Prop := fun xs H Q => ∃ x, xs = [x] ∧ rU1 K cl g x H Q
def rC2 (K : PySem.W.Frag) (cl : String → Addr) (g : D → D → Option D) : List V → Hp → VK → Prop := fun xs H Q => ∃ x y, xs = [x, y] ∧ rD K cl g x y H Q
theorem un_read {g : D → Option D} {σ : L2.St} {H : Hp} {Q : VK} (h : tM X.K p W (RD X.K p.cl) (mUn g m) σ H Q) : tM X.K p W (RO X.K p.cl) m σ H fun v H1 => rU1 X.K p.cl g v H1 Q := by
  obtain ⟨G, r, s, q⟩ := h
  refine po_bind (R := RO X.K p.cl) s q fun k1 x G1 r1 H1 s1 ex1 h1 q1 => ?_
  split at q1
  · rename_i d hd
    split at q1
    · rename_i z hz
      exact ⟨G1, d, z, s1.sub, s1.nt, s1.res h1 hd, hz, fun v G' H' g' rv => q1 v G' H' (s1.grow g') g'.ex rv⟩
    · exact q1.elim
  · exact q1.elim
/-- f(e), f a built-in function | a built-in class -/
theorem de_b1 {g : D → Option D} (hr : CallR X (.builtin id) (rC1 X.K p.cl g)) (hg : Gl X x) (hm : X.mg x = none) (hv : bootBuiltins x = some (.builtin id)) (ha : DO X p W e m) (hn : x ≠ "__name__" := by decide) (hdb : (x == ("__debug__" : Str)) = false := by decide)
    (he : starEach (e :: []) X.env = (false, eval e X.env) :: starEach [] X.env := by rfl) (hpl : (backTo pos (starEach [] X.env)).any (·.1) = false := by rfl) : DE X p W (.Call (.Name x p1) [e] [] pos) (mUn g m) :=
  ⟨PE.imp (pe_callB hr hg hm hv (pa_cons ha.run pa_nil he) hn hdb he hpl) fun σ H Q h => by
    obtain ⟨G, r, s, q⟩ := un_read h
    refine ⟨G, r, s, ?_⟩
    cases e1 : m r with
    | ok k r1 => rw [e1] at q; exact fun v G' H' s' ex h => ⟨v, rfl, q v G' H' s' ex h⟩
    | err x r1 => rw [e1] at q; exact q
    | bad => rw [e1] at q; exact q⟩
theorem de_t1 {g : D → Option D} (hr : CallR X (.type T) (rC1 X.K p.cl g)) (hg : Gl X x) (hm : X.mg x = none) (hv : bootBuiltins x = some (.type T)) (ha : DO X p W e m) (hn : x ≠ "__name__" := by decide) (hdb : (x == ("__debug__" : Str)) = false := by decide)
    (he : starEach (e :: []) X.env = (false, eval e X.env) :: starEach [] X.env := by rfl) (hpl : (backTo pos (starEach [] X.env)).any (·.1) = false := by rfl) : DE X p W (.Call (.Name x p1) [e] [] pos) (mUn g m) :=
  ⟨PE.imp (pe_callTy hr hg hm hv (pa_cons ha.run pa_nil he) hn hdb he hpl) fun σ H Q h => by
    obtain ⟨G, r, s, q⟩ := un_read h
    refine ⟨G, r, s, ?_⟩
    cases e1 : m r with
    | ok k r1 => rw [e1] at q; exact fun v G' H' s' ex h => ⟨v, rfl, q v G' H' s' ex h⟩
    | err x r1 => rw [e1] at q; exact q
    | bad => rw [e1] at q; exact q⟩
theorem de_b2 {g : D → D → Option D} (hr : CallR X (.builtin id) (rC2 X.K p.cl g)) (hg : Gl X x) (hm : X.mg x = none) (hv : bootBuiltins x = some (.builtin id)) (ha : DO X p W e m) (hb : DO X p W e2 m2) (hn : x ≠ "__name__" := by decide) (hdb : (x == ("__debug__" : Str)) = false := by decide)
    (he : starEach (e :: [e2]) X.env = (false, eval e X.env) :: starEach [e2] X.env := by rfl) (he2 : starEach (e2 :: []) X.env = (false, eval e2 X.env) :: starEach [] X.env := by rfl) (hpl : (backTo pos (starEach [e2] X.env)).any (·.1) = false := by rfl) : DE X p W (.Call (.Name x p1) [e, e2] [] pos) (mOp g m m2) :=
  ⟨PE.imp (pe_callB hr hg hm hv (pa_cons ha.run (pa_cons hb.run pa_nil he2) he) hn hdb he hpl) fun σ H Q h => by
    have h' := op_read (p := p) (W := W) (a := e) (b := e2) rfl rfl h
    obtain ⟨G, r, s, q⟩ := (show tM X.K p W (RO X.K p.cl) m σ H fun x H1 => tM X.K p W (RO X.K p.cl) m2 σ H1 fun y H2 => rD X.K p.cl g x y H2 Q from h')
    refine ⟨G, r, s, ?_⟩
    cases e1 : m r with
    | ok k r1 =>
      rw [e1] at q
      intro v G' H' s' ex h
      obtain ⟨G2, r2, s2, q2⟩ := q v G' H' s' ex h
      refine ⟨G2, r2, s2, ?_⟩
      cases e3 : m2 r2 with
      | ok k2 r3 => rw [e3] at q2; exact fun v2 G3 H3 s3 ex3 h3 => ⟨v, v2, rfl, q2 v2 G3 H3 s3 ex3 h3⟩
      | err x r3 => rw [e3] at q2; exact q2
      | bad => rw [e3] at q2; exact q2
    | err x r1 => rw [e1] at q; exact q
    | bad => rw [e1] at q; exact q⟩
theorem c1_of {f : Value} {g : D → Option D} (h : ∀ (G H : Hp) (d z : D) (x : V) (Q : VK), Ex G H → Nt G → Vw X.K cl G H x d → g d = some z → (∀ v G' H', Grow G H G' H' → Rep X.K cl G' v z → Q v H') →
    ∃ r : List V → Hp → VK → Prop, CallR X f r ∧ r [x] H Q) : CallR X f (rC1 X.K cl g) := by
  intro pins s σ H xs us Q I r ⟨x, e, G, d, z, ex, nt, vd, hz, q⟩
  subst e
  obtain ⟨r', hr, hq⟩ := h G H d z x Q ex nt vd hz q
  exact hr pins s σ H [x] us Q I r hq
theorem c2_of {f : Value} {g : D → D → Option D} (h : ∀ (G H : Hp) (d e z : D) (x y : V) (Q : VK), Ex G H → Nt G → Vw X.K cl G H x d → Vw X.K cl G H y e → g d e = some z → (∀ v G' H', Grow G H G' H' → Rep X.K cl G' v z → Q v H') →
    ∃ r : List V → Hp → VK → Prop, CallR X f r ∧ r [x, y] H Q) : CallR X f (rC2 X.K cl g) := by
  intro pins s σ H xs us Q I r ⟨x, y, e, G, d, d2, z, ex, nt, vd, ve, hz, q⟩
  subst e
  obtain ⟨r', hr, hq⟩ := h G H d d2 z x y Q ex nt vd ve hz q
  exact hr pins s σ H [x, y] us Q I r hq
/-! ### one by one -/
def lenD : D → Option D
  | .lst ds => some (.int ds.length)
  | .tup ds => some (.int ds.length)
  | .scr ds => some (.int ds.length)
  | .str z => if z.length ≤ 1000000 then some (.int z.length) else none
  | _ => none
theorem b_len : CallR X (.builtin "len") (rC1 X.K cl lenD) := c1_of fun G H d z x Q ex nt vd hz q => by
  unfold lenD at hz
  split at hz
  · cases hz
    obtain ⟨a, vs, rfl, ha, ra⟩ := vd.lst ex
    exact ⟨_, call_len, _, _, rfl, .inl ⟨vs, SqL.of ha, ra.length.symm⟩, q _ G H (Grow.refl ex nt) (.int _)⟩
  · cases hz
    obtain ⟨a, vs, rfl, ha, ra⟩ := vd.tup ex
    exact ⟨_, call_len, _, _, rfl, .inr ⟨vs, ha, ra.length.symm⟩, q _ G H (Grow.refl ex nt) (.int _)⟩
  · cases hz
    obtain ⟨a, vs, rfl, ha, ra⟩ := vd.scr ex
    exact ⟨_, call_len, _, _, rfl, .inl ⟨vs, ha, ra.length.symm⟩, q _ G H (Grow.refl ex nt) (.int _)⟩
  · split at hz
    · rename_i w hl
      cases hz
      obtain rfl := vd.str
      exact ⟨_, call_len, _, _, rfl, ⟨mill hl, rfl⟩, q _ G H (Grow.refl ex nt) (.int _)⟩
    · cases hz
  · cases hz
def absD : D → Option D
  | .int i => some (.int (if i < 0 then -i else i))
  | _ => none
theorem b_abs : CallR X (.builtin "abs") (rC1 X.K cl absD) := c1_of fun G H d z x Q ex nt vd hz q => by
  unfold absD at hz
  split at hz
  · cases hz; obtain rfl := vd.int; exact ⟨_, call_abs, _, rfl, q _ G H (Grow.refl ex nt) (.int _)⟩
  · cases hz
def intD : D → Option D
  | .int i => some (.int i)
  | .bl k => some (.int (if k then 1 else 0))
  | _ => none
theorem b_int : CallR X (.type "int") (rC1 X.K cl intD) := c1_of fun G H d z x Q ex nt vd hz q => by
  unfold intD at hz
  split at hz
  · cases hz; obtain rfl := vd.int; exact ⟨_, call_int1, .inl ⟨_, rfl, q _ G H (Grow.refl ex nt) (.int _)⟩⟩
  · cases hz; obtain rfl := vd.bl; exact ⟨_, call_int1, .inr ⟨_, rfl, q _ G H (Grow.refl ex nt) (.int _)⟩⟩
  · cases hz
def tupleD : D → Option D
  | .lst ds => some (.tup ds)
  | .tup ds => some (.tup ds)
  | .scr ds => some (.tup ds)
  | _ => none
theorem Vw.tupR {G H : Hp} {x : V} {ds : List D} (h : Vw X.K cl G H x (.tup ds)) : Rep X.K cl G x (.tup ds) := by
  rcases h with h | ⟨_, o, _, _, e⟩
  · exact h
  · cases o <;> cases e
theorem b_tuple : CallR X (.type "tuple") (rC1 X.K cl tupleD) := c1_of fun G H d z x Q ex nt vd hz q => by
  unfold tupleD at hz
  split at hz
  · cases hz
    obtain ⟨a, vs, rfl, ha, ra⟩ := vd.lst ex
    refine ⟨_, call_tuple_of, a, vs, rfl, .inl ⟨SqL.of ha, fun l hl => ?_⟩⟩
    have g := Grow.laid (o := .tup vs) ex nt hl (fun _ z => by cases z)
    exact q _ _ _ g (.tup (SqT.of upd_same) (ra.mono g.ex))
  · cases hz
    have rr := vd.tupR
    obtain ⟨a, vs, rfl, ha, ra⟩ := vd.tup ex
    exact ⟨_, call_tuple_of, a, vs, rfl, .inr ⟨ha, q _ G H (Grow.refl ex nt) rr⟩⟩
  · cases hz
    obtain ⟨a, vs, rfl, ha, ra⟩ := vd.scr ex
    refine ⟨_, call_tuple_of, a, vs, rfl, .inl ⟨ha, fun l hl => ?_⟩⟩
    have g := Grow.laid (o := .tup vs) ex nt hl (fun _ z => by cases z)
    exact q _ _ _ g (.tup (SqT.of upd_same) (ra.mono g.ex))
  · cases hz
def listD : D → Option D
  | .lst ds => some (.lst ds)
  | .tup ds => some (.lst ds)
  | .scr ds => some (.lst ds)
  | _ => none
theorem b_list : CallR X (.type "list") (rC1 X.K cl listD) := c1_of fun G H d z x Q ex nt vd hz q => by
  unfold listD at hz
  split at hz
  · cases hz
    obtain ⟨a, vs, rfl, ha, ra⟩ := vd.lst ex
    refine ⟨_, call_list_of, a, vs, rfl, .inl (SqL.of ha), fun l hl => ?_⟩
    have g := Grow.laid (o := .lst vs) ex nt hl (fun _ z => by cases z)
    exact q _ _ _ g (.lst upd_same (ra.mono g.ex))
  · cases hz
    obtain ⟨a, vs, rfl, ha, ra⟩ := vd.tup ex
    refine ⟨_, call_list_of, a, vs, rfl, .inr ha, fun l hl => ?_⟩
    have g := Grow.laid (o := .lst vs) ex nt hl (fun _ z => by cases z)
    exact q _ _ _ g (.lst upd_same (ra.mono g.ex))
  · cases hz
    obtain ⟨a, vs, rfl, ha, ra⟩ := vd.scr ex
    refine ⟨_, call_list_of, a, vs, rfl, .inl ha, fun l hl => ?_⟩
    have g := Grow.laid (o := .lst vs) ex nt hl (fun _ z => by cases z)
    exact q _ _ _ g (.lst upd_same (ra.mono g.ex))
  · cases hz
/-! ### isinstance, by built-in classes -/
def tyN : D → Option String
  | .non => some "NoneType"
  | .bl _ => some "bool"
  | .int _ => some "int"
  | .str _ => some "str"
  | .lst _ => some "list"
  | .tup _ => some "tuple"
  | .scr _ => some "list"
  | _ => none
def tyLe (a b : String) : Bool := a == b || (a == "bool" && b == "int")
def tyAll : List String := ["NoneType", "bool", "int", "str", "list", "tuple"]
def clsAll : List String := ["int", "bool", "str", "list", "tuple", "dict"]
theorem kit_all : ∀ a ∈ tyAll, ∀ b ∈ clsAll, kitB a b = some (tyLe a b) := by decide +kernel
theorem tyN_in {d : D} {a : String} (h : tyN d = some a) : a ∈ tyAll := by
  unfold tyN at h
  split at h <;> first | (cases h; decide) | cases h
theorem Vw.ty' {G H : Hp} {v : V} {d : D} {a : String} (ex : Ex G H) (vd : Vw X.K cl G H v d) (h : tyN d = some a) : TyX X.K H v (.type a) := by
  unfold tyN at h
  split at h
  · cases h; obtain rfl := vd.non; exact .base .non
  · cases h; obtain rfl := vd.bl; exact .base (.bl _)
  · cases h; obtain rfl := vd.int; exact .base (.int _)
  · cases h; obtain rfl := vd.str; exact .base (.str _)
  · cases h
    obtain ⟨a, vs, rfl, ha, ra⟩ := vd.lst ex
    exact .base (.lst ha)
  · cases h
    obtain ⟨a, vs, rfl, ha, ra⟩ := vd.tup ex
    rcases ha with (h | ⟨o, h⟩) | ⟨o, its, n, h1, h2, _⟩
    · exact .base (.tup h)
    · exact .fTuple h
    · exact .kTuple h1 h2
  · cases h
    obtain ⟨a, vs, rfl, ha, ra⟩ := vd.scr ex
    rcases ha with (h | ⟨o, h⟩) | ⟨o, its, n, h1, h2, _⟩
    · exact .base (.lst h)
    · exact .base (.frz h)
    · exact .kList h1 h2
  · cases h
def isiD : D → D → Option D
  | d, .ty n => if clsAll.contains n then (tyN d).map fun a => .bl (tyLe a n) else none
  | _, _ => none
theorem b_isi : CallR X (.builtin "isinstance") (rC2 X.K cl isiD) := c2_of fun G H d e z x y Q ex nt vd ve hz q => by
  unfold isiD at hz
  split at hz
  · split at hz
    · rename_i n hc
      cases e1 : tyN d with
      | none => rw [e1] at hz; cases hz
      | some a =>
        rw [e1] at hz
        cases hz
        obtain rfl := ve.ty
        have hk := kit_all a (tyN_in e1) n (by simpa using hc)
        exact ⟨_, call_isi, _, _, _, _, _, rfl, .ty n, vd.ty' ex e1, kit_ty hk, q _ G H (Grow.refl ex nt) (.bl _)⟩
    · cases hz
  · cases hz
/-- isinstance(e, (T1, T2)) -/
def isi2 (a b : String) (d : D) : Option D := (tyN d).map fun n => .bl (tyLe n a || tyLe n b)
theorem de_isi2 {a b : String} {ea eb : Expr} {xi : Str} {k : Nat} {p3 : Pos} (hg : Gl X xi) (hm : X.mg xi = none) (hv : bootBuiltins xi = some (.builtin "isinstance")) (he : DO X p W e m) (ha : PE X ea (tC (.ty a))) (hb : PE X eb (tC (.ty b)))
    (ca : a ∈ clsAll) (cb : b ∈ clsAll) (hn : xi ≠ "__name__" := by decide) (hdb : (xi == ("__debug__" : Str)) = false := by decide)
    (h1 : starEach (e :: [.Tuple [ea, eb] k p3]) X.env = (false, eval e X.env) :: starEach [.Tuple [ea, eb] k p3] X.env := by rfl) (h2 : starEach (.Tuple [ea, eb] k p3 :: []) X.env = (false, eval (.Tuple [ea, eb] k p3) X.env) :: starEach [] X.env := by rfl)
    (h3 : starEach (ea :: [eb]) X.env = (false, eval ea X.env) :: starEach [eb] X.env := by rfl) (h4 : starEach (eb :: []) X.env = (false, eval eb X.env) :: starEach [] X.env := by rfl) (hpl : (backTo pos (starEach [.Tuple [ea, eb] k p3] X.env)).any (·.1) = false := by rfl) :
    DE X p W (.Call (.Name xi p1) [e, .Tuple [ea, eb] k p3] [] pos) (mUn (isi2 a b) m) :=
  ⟨PE.imp (pe_callB call_isiT hg hm hv (pa_cons he.run (pa_cons (pe_tup (pa_cons ha (pa_cons hb pa_nil h4) h3)) pa_nil h2) h1) hn hdb h1 hpl) fun σ H Q h => by
    obtain ⟨G, r, s, q⟩ := un_read h
    refine ⟨G, r, s, ?_⟩
    cases e1 : m r with
    | ok k r1 =>
      rw [e1] at q
      intro v G' H' s' ex h
      obtain ⟨G2, d, z, ex2, nt2, vd, hz, q2⟩ := q v G' H' s' ex h
      refine ⟨by show 2 ≤ sizeLine; decide, fun tp htp => ?_⟩
      unfold isi2 at hz
      cases e2 : tyN d with
      | none => rw [e2] at hz; cases hz
      | some n =>
        rw [e2] at hz
        cases hz
        have gs := Grow.side (o := .tup [.ty a, .ty b]) ex2 nt2 htp
        have exH : Ex H' (upd H' tp (.tup [.ty a, .ty b])) := Ex.new htp
        have vd' : Vw X.K p.cl G2 (upd H' tp (.tup [.ty a, .ty b])) v d := by
          rcases vd with h | ⟨a', o, h1, h2, h3⟩
          · exact .inl h
          · exact .inr ⟨a', o, h1, h2.mono (Ex.refl G2) gs.keep, h3⟩
        have ka := kit_ty (K := X.K) (kit_all n (tyN_in e2) a ca)
        have kb := kit_ty (K := X.K) (kit_all n (tyN_in e2) b cb)
        refine ⟨v, tp, [.ty a, .ty b], .type n, [.type a, .type b], tyLe n a || tyLe n b, rfl, upd_same, .cons (.ty a) (.cons (.ty b) .nil), vd'.ty' gs.sub e2, ?_, ?_⟩
        · refine kitAny_cons ka (fun e => ?_) (fun e => by rw [e]; rfl)
          rw [e, Bool.false_or]
          refine kitAny_cons kb (fun e => ?_) (fun e => e)
          rw [e]; rfl
        · exact q2 _ G2 _ gs (.bl _)
    | err x r1 => rw [e1] at q; exact q
    | bad => rw [e1] at q; exact q⟩
theorem de_ty {n : String} {x : Str} {pos : Pos} (hg : Gl X x) (hm : X.mg x = none) (hv : bootBuiltins x = some (.type n)) (hn : x ≠ "__name__" := by decide) (hd : (x == ("__debug__" : Str)) = false := by decide) : DE X p W (.Name x pos) (M.pure (.ty n)) :=
  de_c (pe_bltn (v := .ty n) hg hm hv rfl hn hd) fun _ => .ty n
end
end DL
end

section
set_option Elab.async false
set_option linter.all false
set_option maxRecDepth 100000
set_option maxHeartbeats 4000000
/-! DI: what loops walk; own lists. -/
namespace DL
open PySem PySem.Spec L2 PyProof.Rows
variable [Tbls]
section
variable {X : Cx} {p : Pm} {W : WX} {K : PySem.W.Frag} {cl : String → Addr} {G : Hp} {tg e e2 : Expr} {m : M D} {pos p1 : Pos}
/-- the i-th of ds, the heap as it was -/
theorem WalkD.of {J : It} {ds : List D} (n : ∀ (i : Nat) H G', i < ds.length → Ex G G' → Ex G' H → Nt G' → J.go i H) (st : ∀ H G', Ex G G' → Ex G' H → J.stop ds.length H)
    (y : ∀ (i : Nat) H x H' G', i < ds.length → Ex G G' → Ex G' H → J.yld i H x H' → H' = H ∧ ∃ d, ds[i]? = some d ∧ Rep K cl G' x d) : WalkD K cl J ds G :=
  ⟨n, st, fun i H x H' G' hi e1 e2 nt hy => by
    obtain ⟨rfl, d, h1, h2⟩ := y i H x H' G' hi e1 e2 hy
    exact ⟨d, G', h1, Grow.refl e2 nt, h2⟩⟩
theorem walk_l {a : Addr} {xs : List V} {ds : List D} (h : SqL K G a xs) (r : RepL K cl G xs ds) : WalkD K cl (Itl K a) ds G := by
  refine .of (fun i H G' hi e1 e2 _ => ?_) (fun H G' e1 e2 => ⟨xs, Evl.ex_l (e1.trans e2) h, by rw [r.length]; exact Nat.le_refl _⟩) fun i H x H' G' hi e1 e2 hy => ⟨hy.1, ?_⟩
  · rw [← r.length] at hi
    exact ⟨xs, xs[i], Evl.ex_l (e1.trans e2) h, by simp [hi]⟩
  · obtain ⟨d, h1, h2⟩ := r.get' (hy.2 xs (Evl.ex_l (e1.trans e2) h))
    exact ⟨d, h1, h2.mono e1⟩
theorem walk_t {a : Addr} {xs : List V} {ds : List D} (h : SqT K G a xs) (r : RepL K cl G xs ds) : WalkD K cl (Itt K a) ds G := by
  refine .of (fun i H G' hi e1 e2 _ => ?_) (fun H G' e1 e2 => ⟨xs, Evl.ex_t (e1.trans e2) h, by rw [r.length]; exact Nat.le_refl _⟩) fun i H x H' G' hi e1 e2 hy => ⟨hy.1, ?_⟩
  · rw [← r.length] at hi
    exact ⟨xs, xs[i], Evl.ex_t (e1.trans e2) h, by simp [hi]⟩
  · obtain ⟨d, h1, h2⟩ := r.get' (hy.2 xs (Evl.ex_t (e1.trans e2) h))
    exact ⟨d, h1, h2.mono e1⟩
/-- a text's signs -/
def signsD (z : Str) : List D := z.cps.toList.map fun c => .str ⟨#[c]⟩
theorem walk_s {z : Str} : WalkD K cl (Its z) (signsD z) G := by
  have hl : (signsD z).length = z.cps.size := by simp [signsD]
  refine .of (fun i H G' hi e1 e2 _ => ?_) (fun H G' e1 e2 => ?_) fun i H x H' G' hi e1 e2 hy => ⟨hy.1, ?_⟩
  · show i < z.cps.size
    omega
  · show z.cps.size ≤ _
    omega
  · obtain ⟨c, hc, rfl⟩ := hy.2
    exact ⟨.str ⟨#[c]⟩, by simp [signsD, hc], .str _⟩
/-- a list, a tuple, a text -/
def iAny (K : PySem.W.Frag) (tl : TE) : TI := fun σ H R => tl σ H fun x H1 => (∃ a, x = .ref a ∧ (∃ xs, SqL K H1 a xs) ∧ R (Itl K a) H1) ∨ (∃ a, x = .ref a ∧ (∃ xs, SqT K H1 a xs) ∧ R (Itt K a) H1) ∨ ∃ z, x = .str z ∧ R (Its z) H1
theorem pi_any {tl : TE} (hl : PE X e tl) : PI X tg e (iAny X.K tl) := by
  refine ⟨fun pins s σ H R I h => ?_⟩
  refine thn (hl.run pins s σ H _ I h) fun u s1 ⟨x, H1, I1, rx, hq⟩ => ?_
  have nw : ∀ b, b ∈ [s1.heap.objs.size] → FpOk X pins H1 b := fun b hb => by
    have eb : b = s1.heap.objs.size := by simpa using hb
    subst eb
    exact I1.fpOk (Nat.le_refl _) (I1.hok.fresh (Nat.le_refl _))
  rcases hq with ⟨a, rfl, ⟨xs, hx⟩, hr⟩ | ⟨a, rfl, ⟨xs, hx⟩, hr⟩ | ⟨z, rfl, hr⟩
  · cases rx
    obtain ⟨its, rv, pl, _⟩ := I1.list hx
    exact wpAny_pyIter_list pl.isList ⟨_, _, _, _, H1, rfl, I1.kept (t' := s1.toks) fun b o he => Heap.get?_push_of_some _ he, turn_list a _, ⟨_, Heap.get?_push_size _ rfl, rfl, rfl⟩, nw, hr⟩
  · cases rx
    obtain ⟨its, rv, pt, _⟩ := I1.tuple hx
    exact wpAny_pyIter_tuple (show s1.heap.IsTuple a its.toArray from pt) ⟨_, _, _, _, H1, rfl, I1.kept (t' := s1.toks) fun b o he => Heap.get?_push_of_some _ he, turn_tuple a _, ⟨_, Heap.get?_push_size _ rfl, rfl, rfl⟩, nw, hr⟩
  · obtain ⟨t, rfl⟩ := rx
    cases hb : z.cps.all (· < 128)
    · exact wpAny_pyIter_wide hb (pi_one (tk := s1.toks) I1 _ (turn_str _ z t "str_iterator" (.inr rfl)) ⟨_, Heap.get?_push_size _ rfl, rfl, rfl⟩ hr)
    · exact wpAny_pyIter_ascii hb (pi_one (tk := s1.toks) I1 _ (turn_str _ z t "str_ascii_iterator" (.inl rfl)) ⟨_, Heap.get?_push_size _ rfl, rfl, rfl⟩ hr)
def mItems (m : M D) : M (List D) := m.bind fun d => match d with
  | .lst ds => M.pure ds
  | .scr ds => M.pure ds
  | .tup ds => M.pure ds
  | .str z => M.pure (signsD z)
  | _ => fun _ => .bad
theorem di_any (h : DE X p W e m) : DI X p W tg e (mItems m) := ⟨PI.imp (pi_any h.run) fun σ H R ⟨G, r, s, q⟩ => by
  refine po_bind (R := RD X.K p.cl) s q fun d v G1 r1 H1 s1 ex h1 q1 => ?_
  have h1' : Rep X.K p.cl G1 v d := h1
  cases d with
  | lst ds =>
    cases h1' with
    | lst ha ra => exact .inl ⟨_, rfl, ⟨_, SqL.of (s1.sub _ _ ha)⟩, q1 _ G1 H1 s1 (Ex.refl G1) (walk_l (SqL.of ha) ra)⟩
  | scr ds =>
    cases h1' with
    | scr ha ra => exact .inl ⟨_, rfl, ⟨_, Evl.ex_l s1.sub ha⟩, q1 _ G1 H1 s1 (Ex.refl G1) (walk_l ha ra)⟩
  | tup ds =>
    cases h1' with
    | tup ha ra => exact .inr (.inl ⟨_, rfl, ⟨_, Evl.ex_t s1.sub ha⟩, q1 _ G1 H1 s1 (Ex.refl G1) (walk_t ha ra)⟩)
  | str z =>
    cases h1'
    exact .inr (.inr ⟨z, rfl, q1 _ G1 H1 s1 (Ex.refl G1) walk_s⟩)
  | _ => exact q1.elim⟩
/-! ### ranges -/
def rangeD (lo : Int) (n : Nat) : List D := (List.range n).map fun (i : Nat) => D.int (lo + (i : Int))
theorem walk_r {lo : Int} {n : Nat} : WalkD K cl (Itr lo n) (rangeD lo n) G := by
  have hl : (rangeD lo n).length = n := by simp [rangeD]
  refine .of (fun i H G' hi e1 e2 _ => ?_) (fun H G' e1 e2 => ?_) fun i H x H' G' hi e1 e2 hy => ⟨hy.1, .int (lo + (i : Int)), ?_, ?_⟩
  · show i < n
    omega
  · show n ≤ _
    omega
  · rw [hl] at hi
    simp [rangeD, hi]
  · rw [hy.2]; exact .int _
def fit62 (i : Int) : Bool := decide (-(2 ^ 62) ≤ i) && decide (i < 2 ^ 62)
theorem fit62_iff {i : Int} (h : fit62 i = true) : -(2 ^ 62) ≤ i ∧ i < 2 ^ 62 := by
  unfold fit62 at h
  rw [Bool.and_eq_true] at h
  exact ⟨of_decide_eq_true h.1, of_decide_eq_true h.2⟩
def mRange1 (ms : M (List D)) : M (List D) := ms.bind fun ds r => match ds with
  | [.int j] => if fit62 j then .ok (rangeD 0 j.toNat) r else .bad
  | _ => .bad
def mRange2 (ms : M (List D)) : M (List D) := ms.bind fun ds r => match ds with
  | [.int i, .int j] => if fit62 i && fit62 j then .ok (rangeD i (j - i).toNat) r else .bad
  | _ => .bad
variable {ms : M (List D)}
theorem di_range1 (hg : Gl X "range") (hm : X.mg "range" = none) (ha : DA X p W [e] ms) (hs : starEach [e] X.env = [(false, eval e X.env)] := by rfl) : DI X p W tg (.Call (.Name "range" p1) [e] [] pos) (mRange1 ms) :=
  ⟨PI.imp (pi_range1 hg hm ha.run hs) fun σ H R ⟨G, r, s, q⟩ => by
    refine po_bind (R := RL X.K p.cl [e].length) s q fun ds vs G1 r1 H1 s1 ex h1 q1 => ?_
    split at q1
    · rename_i j
      split at q1
      · rename_i hf
        obtain ⟨h2, _⟩ := h1
        cases h2 with
        | cons ha hn =>
          cases ha
          cases hn
          exact ⟨j, rfl, (fit62_iff hf).1, (fit62_iff hf).2, q1 _ G1 H1 s1 (Ex.refl G1) walk_r⟩
      · exact q1.elim
    · exact q1.elim⟩
theorem di_range2 (hg : Gl X "range") (hm : X.mg "range" = none) (ha : DA X p W [e, e2] ms) (hs : starEach [e, e2] X.env = [(false, eval e X.env), (false, eval e2 X.env)] := by rfl) (hs2 : starEach [e2] X.env = [(false, eval e2 X.env)] := by rfl) : DI X p W tg (.Call (.Name "range" p1) [e, e2] [] pos) (mRange2 ms) :=
  ⟨PI.imp (pi_range2 hg hm ha.run hs hs2) fun σ H R ⟨G, r, s, q⟩ => by
    refine po_bind (R := RL X.K p.cl [e, e2].length) s q fun ds vs G1 r1 H1 s1 ex h1 q1 => ?_
    split at q1
    · rename_i i j
      split at q1
      · rename_i hf
        rw [Bool.and_eq_true] at hf
        obtain ⟨h2, _⟩ := h1
        cases h2 with
        | cons ha hn =>
          cases ha
          cases hn with
          | cons hb hn =>
            cases hb
            cases hn
            exact ⟨i, j, rfl, ⟨(fit62_iff hf.1).1, (fit62_iff hf.1).2, (fit62_iff hf.2).1, (fit62_iff hf.2).2⟩, q1 _ G1 H1 s1 (Ex.refl G1) walk_r⟩
      · exact q1.elim
    · exact q1.elim⟩
/-! ### own lists -/
/-- xs.append(e), xs owned -/
def gLst {α : Type} (i : Nat) (m : M α) : M α := fun r => match r[i]? with
  | some (.own _ (.lst _)) => m r
  | _ => .bad
theorem glst {α : Type} {i : Nat} {m : M α} {r : Rho} {P : Out α → Prop} (hb : ¬ P .bad) (h : P (gLst i m r)) : ∃ k ds, r[i]? = some (.own k (.lst ds)) ∧ P (m r) := by
  unfold gLst at h
  split at h
  · rename_i k ds hi; exact ⟨k, ds, hi, h⟩
  · exact absurd h hb
theorem St.lst {r : Rho} {σ : L2.St} {H : Hp} {i k : Nat} {ds : List D} (s : St K p G r σ H) (hi : r[i]? = some (.own k (.lst ds))) : ∃ a vs, σ[i]? = some (some (.ref a)) ∧ H a = some (.lst vs) ∧ RepL K p.cl G vs ds := by
  obtain ⟨a, ha, ⟨vs, hv, rv⟩, _⟩ := s.own i k _ hi
  exact ⟨a, vs, ha, hv, rv⟩
def sApp (i : Nat) (m : M D) : M Fl := gLst i (m.bind fun d r => match r[i]? with
  | some (.own k (.lst ds)) => if short ds then .ok .nx (r.set i (.own k (.lst (ds ++ [d])))) else .bad
  | _ => .bad)
theorem ds_app {i : Nat} {e0 : Expr} {apos : Pos} (h0 : PE X e0 (tVar i)) (h : ∀ to t, PE X e0 to → PA X [e] t → PE X (.Call (.Attribute e0 "append" apos) [e] [] p1) (tBM X.K "list" rAppend to t)) (he : DE X p W e m)
    (hs1 : starEach (e :: []) X.env = (false, eval e X.env) :: starEach [] X.env := by rfl) (hs : swapsWith (.Call (.Attribute e0 "append" apos) [e] [] p1) none pos.line X.env = pure false := by rfl) :
    DS X p W (.Expr (.Call (.Attribute e0 "append" apos) [e] [] p1) pos) (sApp i m) := ⟨PS.imp (ps_expr (h _ _ h0 (pa_cons he.run pa_nil hs1)) hs) fun D σ H ⟨G, r, s, q⟩ => by
  obtain ⟨k, ds, hi, q⟩ := glst (P := PoS X.K p W G D) (fun z => z) q
  obtain ⟨a, vs, ha, hv, rv⟩ := s.lst hi
  refine ⟨_, ha, .inl ⟨rfl, _, .inl (.inl hv)⟩, ?_⟩
  refine pos_bind (R := RD X.K p.cl) s q fun d v G1 r1 H1 s1 ex h1 q1 => ?_
  split at q1
  · rename_i k' ds' hi'
    split at q1
    · rename_i hsh
      obtain ⟨a', vs', ha', hv', rv'⟩ := s1.lst hi'
      rw [ha] at ha'
      have e' : a = a' := by injection ha' with z; injection z with z; injection z
      subst e'
      exact ⟨a, vs', v, rfl, rfl, hv', by rw [rv'.length]; exact short_lt hsh, q1 G1 σ _ (s1.mut hi' ha ⟨_, upd_same, rv'.append (.cons h1 .nil)⟩) (Ex.refl G1)⟩
    · exact q1.elim
  · exact q1.elim⟩
/-- xs.extend(e) -/
def sExt (i : Nat) (m : M D) : M Fl := gLst i (m.bind fun d r => match r[i]?, d with
  | some (.own k (.lst ds)), .lst es => if ds.length + es.length ≤ 1000000 then .ok .nx (r.set i (.own k (.lst (ds ++ es)))) else .bad
  | _, _ => .bad)
theorem ds_ext {i : Nat} {e0 : Expr} {apos : Pos} (h0 : PE X e0 (tVar i)) (h : ∀ to t, PE X e0 to → PA X [e] t → PE X (.Call (.Attribute e0 "extend" apos) [e] [] p1) (tBM X.K "list" rExtend to t)) (he : DE X p W e m)
    (hs1 : starEach (e :: []) X.env = (false, eval e X.env) :: starEach [] X.env := by rfl) (hs : swapsWith (.Call (.Attribute e0 "extend" apos) [e] [] p1) none pos.line X.env = pure false := by rfl) :
    DS X p W (.Expr (.Call (.Attribute e0 "extend" apos) [e] [] p1) pos) (sExt i m) := ⟨PS.imp (ps_expr (h _ _ h0 (pa_cons he.run pa_nil hs1)) hs) fun D σ H ⟨G, r, s, q⟩ => by
  obtain ⟨k, ds, hi, q⟩ := glst (P := PoS X.K p W G D) (fun z => z) q
  obtain ⟨a, vs, ha, hv, rv⟩ := s.lst hi
  refine ⟨_, ha, .inl ⟨rfl, _, .inl (.inl hv)⟩, ?_⟩
  refine pos_bind (R := RD X.K p.cl) s q fun d v G1 r1 H1 s1 ex h1 q1 => ?_
  split at q1
  · rename_i k' ds' es hi'
    split at q1
    · rename_i hsh
      obtain ⟨a', vs', ha', hv', rv'⟩ := s1.lst hi'
      rw [ha] at ha'
      have e' : a = a' := by injection ha' with z; injection z with z; injection z
      subst e'
      have h1' : Rep X.K p.cl G1 v (.lst es) := h1
      cases h1' with
      | @lst b ws _ hb rb =>
        exact ⟨a, b, vs', ws, rfl, rfl, hv', s1.sub _ _ hb, by rw [rv'.length, rb.length]; exact mill hsh, q1 G1 σ _ (s1.mut hi' ha ⟨_, upd_same, rv'.append rb⟩) (Ex.refl G1)⟩
    · exact q1.elim
  · exact q1.elim⟩
/-- xs[j] = e, xs owned -/
def sPut (i : Nat) (m : M D) (mi : M D) : M Fl := m.bind fun d => gLst i (mi.bind fun j r => match r[i]?, j with
  | some (.own k (.lst ds)), .int j => (match ixN ds.length j with
    | some n => .ok .nx (r.set i (.own k (.lst (ds.set n d))))
    | none => .bad)
  | _, _ => .bad)
theorem ds_put {i : Nat} {e0 ei ev : Expr} {mi : M D} {p2 : Pos} (h0 : PE X e0 (tVar i)) (he : DE X p W ev m) (hi : DE X p W ei mi)
    (ha : ∀ v, assign (.Subscript e0 ei p2) X.env v = (do
      let ov ← holding [v] (eval e0 X.env)
      let iv ← holding [v, ov] (eval ei X.env)
      standAt p2
      holding [v, ov, iv] (setItem ov iv v)
      release [v, ov, iv] []) := by intro _; rfl)
    (hs : swapsWithSole [.Subscript e0 ei p2] ev pos.line X.env = pure false := by rfl) (hw : swappedStores [.Subscript e0 ei p2] ev X.env = pure none := by rfl)
    (h1 : (assignEach [.Subscript e0 ei p2] X.env).map (·.2) = [assign (.Subscript e0 ei p2) X.env] := by rfl) :
    DS X p W (.Assign [.Subscript e0 ei p2] ev pos) (sPut i m mi) := ⟨PS.imp (ps_asg he.run (pg_sub h0 hi.run set_list ha) hs hw h1) fun D σ H ⟨G, r, s, q⟩ => by
  refine pos_bind (R := RD X.K p.cl) s q fun d v G1 r1 H1 s1 ex h1 q1 => ?_
  obtain ⟨k, ds, hi, q1⟩ := glst (P := PoS X.K p W G1 D) (fun z => z) q1
  obtain ⟨a, vs, ha, hv, rv⟩ := s1.lst hi
  refine ⟨_, ha, ?_⟩
  refine pos_bind (R := RD X.K p.cl) s1 q1 fun j u G2 r2 H2 s2 ex2 h2 q2 => ?_
  split at q2
  · rename_i k' ds' j hi'
    split at q2
    · rename_i n hn
      obtain ⟨a', vs', ha', hv', rv'⟩ := s2.lst hi'
      rw [ha] at ha'
      have e' : a = a' := by injection ha' with z; injection z with z; injection z
      subst e'
      have h2' : Rep X.K p.cl G2 u (.int j) := h2
      cases h2'
      have h1' : Rep X.K p.cl G1 v d := h1
      exact ⟨a, vs', j, n, rfl, rfl, hv', by rw [rv'.length]; exact hn, q2 G2 σ _ (s2.mut hi' ha ⟨_, upd_same, rv'.set (h1'.mono ex2) n⟩) (Ex.refl G2)⟩
    · exact q2.elim
  · exact q2.elim⟩
end
end DL
end

section
set_option Elab.async false
set_option linter.all false
set_option maxRecDepth 100000
set_option maxHeartbeats 4000000
/-! DX: errors whose __init__ says super().__init__(..) and keeps what it is told of. -/
namespace DX
open PySem PySem.W PySem.Calls PyProof.Rows PySem.HandSPX
open Builtin Builtin.ObjectAttr Builtin.Getset_descriptor
section
variable {prog : Program} {w : World} {A : Around} {E : Value → Shared → Prop} {s : Shared} {K : Frag}
/-- e.__class__, e an error -/
theorem cls_of {x D : Addr} {ox : Obj} {expr : Bool} {Q : Value → Shared → Prop} (hga : findIn K (.ref D) "__getattribute__" = some (some (.builtin "BaseException.__getattribute__"))) (hgt : findIn K (.ref D) "__getattr__" = some none) (hsub : subIn K (.ref D) (.type "BaseException") = some true)
    (hdct : hasDictIn K D = true) (ha : findIn K (.ref D) "__class__" = some (some (.builtin "object.__class__")))
    (hn : specialIn K (.builtin "object.__class__") "__get__" = some (some (.builtin "getset_descriptor.__get__"))) (htk : takesIn K (.builtin "object.__class__") = some true) (hm : mroIn K D (.type "object") = some true)
    (X : K.In s.heap) (I : InstAt s.heap x ox D none) (h : Q (.ref D) { s with toks := s.toks + 1 }) : wpAny (model prog w) A (getAttr (.ref x) "__class__" expr) Q E s := by
  have hf : findObj K D none "__class__" = some (.bind (.builtin "getset_descriptor.__get__") (.builtin "object.__class__")) := findObj_dataN (by obtain ⟨cd, hc, _⟩ := any_some hdct; rw [hc]; rfl) ha hn htk
  obtain ⟨hp, g, d, t, os⟩ := s
  have L0 := I.type (M := model prog w)
  have L1 := looks_findIn (M := model prog w) X hga
  have L2 := looks_findIn (M := model prog w) X hgt
  have L3 := looks_find (M := model prog w) X I hf
  have sub : Looks (model prog w) hp (isInstance (.ref x) (.type "BaseException")) true := L0.andThen (looks_subIn X hsub)
  have hx0 : (expr && onTheHeap (Value.builtin "BaseException.__getattribute__")) = false := by cases expr <;> rfl
  have hx2 : (Value.builtin "BaseException.__getattribute__" == Value.builtin "object.__getattribute__") = false := by decide +kernel
  have hx1 : (onTheHeap (Value.ref D) && Value.builtin "BaseException.__getattribute__" == Value.builtin "object.__getattribute__") = false := by rw [hx2]; rfl
  unfold getAttr getAttrBy
  refine wpAny_bind (wpAny_mkText (wpAny_holding (wpAny_bind (L0.at (wpAny_bind (L1.at ?_))))))
  show wpAny _ _ (if (onTheHeap (Value.ref D) && Value.builtin "BaseException.__getattribute__" == Value.builtin "object.__getattribute__") = true then _ else _) _ _ _
  rw [hx1, if_neg Bool.false_ne_true]
  unfold getAttrByItsOwn hookBefore
  refine wpAny_bind ?_
  rw [if_pos (show onTheHeap (Value.ref D) = true from rfl)]
  refine L2.at ?_
  refine wpAny_bind (wpAny_attempt (wpAny_holding ?_))
  unfold callGetattribute
  rw [hx0, if_neg Bool.false_ne_true]
  unfold boundAndCalled
  rw [PySem.F.excAttr_ValueError.ga.bind (.ref x)]
  refine wpAny_bind (wpAny_pure ?_)
  show wpAny _ _ (call (.builtin "BaseException.__getattribute__") [.ref x, .str "__class__" t]) _ _ _
  refine wpAny_call (codeAny_call_builtin PySem.F.excAttr_ValueError.ga.plain PySem.F.entry_bexc_ga ?_)
  refine @check_slot (model prog w) _ _ ⟨hp, g, d, t + 1, os⟩ "BaseException.__getattribute__" "BaseException" "__getattribute__" (.ref x) [.str "__class__" t] [] _ (by decide +kernel) (by decide +kernel) sub (PySem.F.args_bexc_ga (.ref x) (.str "__class__" t)) ?_
  unfold Builtin.«object.__getattribute__»
  refine wpAny_bind (wpAny_of_eq (a := ((Value.ref x : Value), [Value.str "__class__" t])) (by first | rfl | (simp only [slotArgs]; rfl)) ?_)
  refine wpAny_bind (wpAny_pure (wpAny_bind (L0.at (wpAny_bind (L3.at ?_)))))
  show wpAny _ _ (holding [Value.builtin "object.__class__"] (call (.builtin "getset_descriptor.__get__") [.builtin "object.__class__", .ref x, .ref D]) >>= ret) _ _ _
  refine wpAny_bind (wpAny_holding (wpAny_call (class_get (s := ⟨hp, g, d, t + 1, os⟩) (ox := ox) (od := none) X I hm ?_)))
  refine wpAny_pure ?_
  show wpAny _ _ (handedOut (.ref D)) _ _ _
  rw [handedOut_of (v := .ref D) rfl]
  exact wpAny_pure h

theorem ktyn_dgaR (d tp : Value) (C : Addr) : descrGetArgs ⟨[d, .ref C, tp], []⟩ = pure (d, some (.ref C), given tp) := by kernel_rfl
/-- C.__name__, which was laid when the class was made -/
theorem name_get {C : Addr} {oC : Obj} {nv tp : Value} {R : Result → Shared → Prop} (X : K.In s.heap) (hC : K.lookup C = some oC) (h2 : oC.slots[2]? = some (some nv)) (hin : subIn K (.type "type") (.type "type") = some true) (hty : oC.cls = .type "type") (h : R (.ok (.ret nv)) s) :
    codeAny (model prog w) A (.call (.builtin "getset_descriptor.__get__") ⟨[.builtin "type.__name__", .ref C, tp], []⟩) R s := by
  obtain ⟨hh, g, dr, t, os⟩ := s
  have hc := X _ _ hC
  have L0 : Looks (model prog w) hh (typeOf (.ref C)) (.type "type") := by
    have := looks_typeIn (K := K) (M := model prog w) (h := hh) X (v := .ref C) (t := .type "type") (by show (K.lookup C).map (·.cls) = _; rw [hC]; exact congrArg some hty)
    exact this
  have L1 : Looks (model prog w) hh (isSubtype (.type "type") (.type "type")) true := looks_subIn X hin
  refine codeAny_call_builtin KF.slot_gs.plain KF.entry_gs (KF.slot_gs.check _ _ _ _ _ _ _ _ ktyn_type (KF.args_gs _ _ _) ?_)
  unfold Builtin.«getset_descriptor.__get__» descrGet
  rw [ktyn_dgaR]
  refine wpAny_bind (wpAny_pure ?_)
  unfold descrGetter descrCheckInstance descrNameAndClass isInstance
  simp only [ktyn_owner]
  repeat lk
  refine ⟨Code.quiet_builtin _ (by decide +kernel), codeAny_builtin ktyn_entry ?_⟩
  unfold Builtin.«type.__name__» keptObject slotAt
  dsimp only
  refine wpAny_bind (wpAny_bind (wpAny_loadPart_at hc ?_))
  refine wpAny_pure ?_
  rw [h2]
  exact wpAny_pure h
theorem name_of {C : Addr} {oC : Obj} {nv : Value} {expr : Bool} {Q : Value → Shared → Prop} (X : K.In s.heap) (hC : K.lookup C = some oC) (h2 : oC.slots[2]? = some (some nv)) (hty : oC.cls = .type "type")
    (hop : nsIn K cStatics "thirdparty.any" = some none) (e : findCls K (.ref C) (.type "type") "__name__" = some (.get (.builtin "getset_descriptor.__get__") (.builtin "type.__name__") (.ref C) (.type "type"))) (hh : handedIn nv = true)
    (h : Q nv { s with toks := s.toks + 1 }) : wpAny (model prog w) A (getAttr (.ref C) "__name__" expr) Q E s := by
  have LT : Looks (model prog w) s.heap (typeOf (.ref C)) (.type "type") := looks_typeIn X (by show (K.lookup C).map (·.cls) = _; rw [hC]; exact congrArg some hty)
  have hin : subIn K (.type "type") (.type "type") = some true := by rfl
  refine cls_open X (looks_opaque X hop) LT type_tga (looks_hook X (r := none) (by rfl)) hin e ?_
  show wpAny _ _ (do ret (← holding [Value.builtin "type.__name__"] (call (.builtin "getset_descriptor.__get__") [.builtin "type.__name__", .ref C, .type "type"]))) _ _ _
  refine wpAny_bind (wpAny_holding (wpAny_call (name_get (s := { s with toks := s.toks + 1 }) X hC h2 hin hty ?_)))
  exact wpAny_pure (handed_on hh h)
end
end DX
end

section
set_option Elab.async false
set_option linter.all false
set_option maxRecDepth 100000
set_option maxHeartbeats 4000000
namespace DX
open PySem PySem.W PySem.Calls PyProof.Rows PySem.HandSPX
/-! ### the text of __init__ -/
def iA (p1 p2 : Pos) : Arguments := { posonlyargs := [], args := [{ arg := "self", annotation := none, pos := p1 }, { arg := "part", annotation := none, pos := p2 }], vararg := none, kwonlyargs := [], kw_defaults := [], kwarg := none, defaults := [] }
def iB (q1 q2 q3 q4 q5 q6 q7 q8 r1 r2 r3 r4 : Pos) : List Stmt :=
  [.Expr (.Call (.Attribute (.Call (.Name "super" q1) [] [] q2) "__init__" q3) [.Attribute (.Attribute (.Name "self" q4) "__class__" q5) "__name__" q6] [] q7) q8,
   .Assign [.Attribute (.Name "self" r1) "part" r2] (.Name "part" r3) r4]
def iS : Scope := { kind := .function, names := [(PySem.Str.ofString "self", .local), (PySem.Str.ofString "part", .local), (PySem.Str.ofString "__class__", .free), (PySem.Str.ofString "super", .globalImplicit)], isGenerator := false, isCoroutine := false, more := [] }
/-- what the written part says of an error class at C, and of its __init__, at fI -/
structure PartTxt (P : Program) (K : Frag) (mg : Str → Option Value) (x qual : Str) (C fI : Addr) : Prop where
  gC : mg x = some (.ref C)
  sG : mg "super" = none
  cls : ∃ nm q N bs bm sn sub ab col dd k0 k1 k2 tk k3 k5, K.lookup C = some (excClassObj nm q C N bs bm true sn sub ab col dd k0 k1 (some (.str k2 tk)) k3 k5 "ValueError.__new__") ∧ refsVE bm = true
  sa : findIn K (.ref C) "__setattr__" = some (some (.builtin "object.__setattr__"))
  ga : findIn K (.ref C) "__getattribute__" = some (some (.builtin "BaseException.__getattribute__"))
  gg : findIn K (.ref C) "__getattr__" = some none
  noN : findIn K (.ref C) "part" = some none
  iC : findIn K (.ref C) "__init__" = some (some (.ref fI))
  tC : typeIn K (.ref fI) = some (.type "function")
  kC : keepIn K (.ref C) = true
  exC : subIn K (.ref C) (.type "BaseException") = some true
  veC : subIn K (.ref C) (.type "ValueError") = some true
  tyC : typeIn K (.ref C) = some (.type "type")
  hdC : hasDictIn K C = true
  te : exmOne K (.ref C) (.ref C) = some true
  ca : findIn K (.ref C) "__class__" = some (some (.builtin "object.__class__"))
  cg : specialIn K (.builtin "object.__class__") "__get__" = some (some (.builtin "getset_descriptor.__get__"))
  ct : takesIn K (.builtin "object.__class__") = some true
  ob : mroIn K C (.type "object") = some true
  op : nsIn K cStatics "thirdparty.any" = some none
  nmC : findCls K (.ref C) (.type "type") "__name__" = some (.get (.builtin "getset_descriptor.__get__") (.builtin "type.__name__") (.ref C) (.type "type"))
  sup : ks_superIn K C C "__init__" = some (some (.builtin "ValueError.__init__"))
  sC : mroIn K C (.ref C) = some true
  top : (P.main.scope.names.lookup ("super" : Str)).isSome = false
  fn : ∃ (oc ccl cl : Value) (od cdd cld : Option Addr) (doc pm : Value) (an : Option Addr) (cda cc : Addr) (ct : Value) (osl ccs csl : Array (Option Value)) (vs : Array Value) (file : Str) (tf : Tok) (p1 p2 q1 q2 q3 q4 q5 q6 q7 q8 r1 r2 r3 r4 : Pos),
    K.lookup fI = some ⟨oc, od, .func (ksFn "__init__" qual (iA p1 p2) (iB q1 q2 q3 q4 q5 q6 q7 q8 r1 r2 r3 r4) iS .none .none doc pm an (.ref cda) ct cc), osl⟩ ∧ codeIn K (.ref cda) qual = true ∧
      K.lookup cda = some ⟨ccl, cdd, .fields vs, ccs⟩ ∧ vs[2]? = some (.str file tf) ∧ ((P.main.file : Str) == file) = true ∧ K.lookup cc = some ⟨cl, cld, .cell (some (.ref C)), csl⟩ ∧ (q3.endLine == q7.line) = true
theorem sup_eq {q3 q7 : Pos} {arg : Expr} {env : Env} {ov : Expr} (hl : (q3.endLine == q7.line) = true) (hs : starEach [arg] env = [(false, eval arg env)]) : eval (.Call (.Attribute ov "__init__" q3) [arg] [] q7) env = (do
      let ov' ← attributeBase ov "__init__" env (eval ov env)
      standAt q3.atName
      let (f, first) ← holding [ov'] (getMethod ov' "__init__" (do return (← importBound ov env).getD true))
      callWith q7 f first (backTo q7 (starEach [arg] env)) []) := by
  have hform : methodCallForm ([arg].length + ([] : List Keyword).length) (backTo q7 (starEach [arg] env)) (backToKw q7 (keywordEach [] env)) = true := by
    rw [hs]; rfl
  have hpos : methodCallPos true ov env q3 q7 = pure q7 := by unfold methodCallPos; simp [hl]
  rw [arm_eval_Call]
  unfold methodCall
  rw [hform, hpos]
  rfl
theorem one_size (v : Value) : [v].length ≤ sizeLine := by
  rw [sizeLine_eq]
  exact (by decide : 1 ≤ 16777216)
theorem kept_but {K : Frag} {h h' : Heap} {x : Addr} (X : K.In h) (hx : K.lookup x = none) (k : ∀ b o, b ≠ x → h.get? b = some o → h'.get? b = some o) : K.In h' := fun a o e =>
  k a o (fun z => by rw [z, hx] at e; cases e) (X a o e)
theorem ldX {M : Model} {s : Shared} {name : Str} {scope : Scope} {L a : Addr} {cd : Value} {cl : List (Str × Addr)} {m : Str → Option Value} {x : Str} {pos : Pos} {v : Value} {Q : Value → Shared → Prop} {A : Around} {E : Value → Shared → Prop} (hn : s.heap.Ns L m) (hv : m x = some v) (h : Q v s)
    (hk : scope.kind = .function := by rfl) (hl : (envX name scope L a cd cl).kindOf x = some .local := by rfl) (hd : (x == ("__debug__" : Str)) = false := by decide) :
    wpAny M A (eval (.Name x pos) (envX name scope L a cd cl)) Q E s := wpAny_Name (wpAny_loadName_local hk hl hn hv h) hd
section
variable {prog : Program} {w : World} {A : Around} {E : Value → Shared → Prop} {h : Heap} {g : Array GenState} {d : Drawn} {t : Nat} {os : OsState}
variable {nm q : Str} {C N : Addr} {bs bm : List Value} {hdct : Bool} {sn : List Str} {sub : List Value} {ab : Bool} {col : Option Bool} {dd : Option Addr} {k0 k1 k2 k3 k5 : Option Value}
/-- the bound __init__ called -/
theorem call_mw {u e t0 : Addr} {rest : List Value} {Q : Value → Shared → Prop}
    (hC : h.get? C = some (excClassObj nm q C N bs bm hdct sn sub ab col dd k0 k1 k2 k3 k5 "ValueError.__new__")) (he : h.get? e = some (excO C t0)) (hu : h.get? u = some (kxs_mw "ValueError.__init__" e)) (hrest : rest.length ≤ sizeLine)
    (hq : ∀ h' t1, (∀ b o, b ≠ e → h.get? b = some o → h'.get? b = some o) → h'.get? e = some (excO C t1) → Q .none ⟨h', g, d, t, os⟩) :
    wpAny (model prog w) A (call (.ref u) rest) Q E ⟨h, g, d, t, os⟩ := by
  refine wpAny_call (codeAny_of_tree ?_)
  show wpAny _ A.in1 (callAny (.ref u) ⟨rest, []⟩) _ _ _
  simp only [callAny]
  refine wpAny_bind (wpAny_load hu ?_)
  simp only [kxs_mw, show (Value.type "method-wrapper" == Value.type "method" || Value.type "method-wrapper" == Value.type "builtin_function_or_method" || Value.type "method-wrapper" == Value.type "method-wrapper") = true by decide, if_true]
  refine KFB.if_so (by decide) ?_
  refine wpAny_bind (check_bound_init F.excBase_ValueError.toExcCallFacts hC he rfl ?_)
  refine wpAny_bind (wpAny_pure (wpAny_pure ?_))
  refine ⟨plainId_quiet F.excBase_ValueError.init.plain _, codeAny_builtin F.excBase_ValueError.initEntry ?_⟩
  exact exc_init_tree (cls := .ref C) (t0 := t0) (dv := none) (c2 := .none) (c3 := .none) (b4 := .bool false) he hrest fun h' k' hx _ => hq h' _ k' hx
end
/-- what __init__ leaves of a fresh exception at x -/
structure InitEnd (h h' : Heap) (x C dx t1 : Addr) (f : Str) (v : Value) : Prop where
  keep : ∀ b o, b ≠ x → h.get? b = some o → h'.get? b = some o
  obj : h'.get? x = some { cls := .ref C, dict := some dx, data := .fields #[.ref t1, .none, .none, .none, .bool false, .none] }
  dbig : h.objs.size ≤ dx
  dne : dx ≠ x
  ns : h'.Ns1 dx (fun y => if y = f then some v else none)
section
variable {prog : Program} {w : World} {A : Around} {R : Result → Shared → Prop} {s : Shared} {K : Frag} {mg : Str → Option Value} {C fI : Addr} {xn qual : Str}
theorem part_init (T : PartTxt prog K mg xn qual C fI) {x t0 : Addr} {v : Value} (X : K.In s.heap) (gl : s.heap.Ns mainGlobals mg) (bl : ∃ mb, s.heap.Ns builtinsNs mb ∧ ∀ x : Str, x ≠ "__name__" → mb x = bootBuiltins x)
    (hlim : s.heap.NoLimit) (hx : s.heap.get? x = some (excO C t0)) (hnx : K.lookup x = none) (hroom : A.depth < recursionLimit)
    (hq : ∀ h' tk dx t1, InitEnd s.heap h' x C dx t1 "part" v → R (.ok (.ret .none)) { s with heap := h', toks := tk }) :
    codeAny (model prog w) A (.call (.ref fI) ⟨[.ref x, v], []⟩) R s := by
  obtain ⟨oc, ccl, cl, od, cdd, cld, doc, pm, an, cda, cc, ct, osl, ccs, csl, vs, file, tf, p1, p2, q1, q2, q3, q4, q5, q6, q7, q8, r1, r2, r3, r4, ho, hcd, hcda, hvs, hfile, hcell, hln⟩ := T.fn
  obtain ⟨nm, q, N, bs, bm, sn, sub, ab, col, dd, k0, k1, k2, tk2, k3, k5, hC, hbm⟩ := T.cls
  have hcl : clsIn K C = some { name := nm, bases := bs, mro := .ref C :: bm, ns := N, qualname := q, hasDict := true, slotNames := sn, subclasses := sub, abstract := ab, collection := col, hasDel := false } := by unfold clsIn; rw [hC] <;> rfl
  have hxC : x ≠ C := fun z => by rw [z, hC] at hnx; cases hnx
  refine ks_codeAny_call_defAt (fd := ksFn "__init__" qual (iA p1 p2) (iB q1 q2 q3 q4 q5 q6 q7 q8 r1 r2 r3 r4) iS .none .none doc pm an (.ref cda) ct cc) (body := iB q1 q2 q3 q4 q5 q6 q7 q8 r1 r2 r3 r4) (binds := [("self", .ref x), ("part", v)])
    hroom (X _ _ ho) rfl hlim (codeRec_of X hcd) rfl (BindsTo.of_eq (by first | rfl | with_unfolding_all rfl)) (show ∀ y ∈ iS.names, y.2 ≠ NameKind.cell by decide) (by intro y hy; simp only [List.mem_cons, List.not_mem_nil, or_false] at hy; rcases hy with rfl | rfl <;> rfl) (fun h₁ hn k => ?_)
  have X₁ : K.In h₁ := X.keeps k
  have hx₁ := k _ _ hx
  show _root_.PySem.wpAt (model prog w) (A.deeper (ksEnv qual iS s.heap.objs.size fI (.ref cda) cc)) (.func (iB q1 q2 q3 q4 q5 q6 q7 q8 r1 r2 r3 r4) (ksEnv qual iS s.heap.objs.size fI (.ref cda) cc)) (execs (iB q1 q2 q3 q4 q5 q6 q7 q8 r1 r2 r3 r4) (ksEnv qual iS s.heap.objs.size fI (.ref cda) cc)) _ _ _
  have hself : (fun y : Str => List.lookup y ([(("self" : Str), Value.ref x), ("part", v)] : List (Str × Value)).reverse) "self" = some (.ref x) := by first | rfl | with_unfolding_all rfl | kernel_rfl
  have hpart : (fun y : Str => List.lookup y ([(("self" : Str), Value.ref x), ("part", v)] : List (Str × Value)).reverse) "part" = some v := by first | rfl | with_unfolding_all rfl | kernel_rfl
  have hLx : s.heap.objs.size ≠ x := Nat.ne_of_gt (Heap.lt_size hx)
  -- super().__init__(self.__class__.__name__)
  refine ks_wpAt_execs_cons (ks_wpAt_Expr_any (ks_wpAt_MethodCall ?_ (sup_eq hln (by rfl))))
  refine ks_wpAt_super_base (env := ksEnv qual iS s.heap.objs.size fI (.ref cda) cc) rfl rfl rfl rfl (X₁ _ _ ho) rfl (ar := { arg := "self", annotation := none, pos := p1 }) rfl rfl (X₁ _ _ hcda) rfl hvs hfile T.top ?_
  obtain ⟨mb, hb1, hb2⟩ := bl
  have hsv : mb "super" = some (.type "super") := (hb2 _ (by decide)).trans (by decide +kernel)
  refine ks_loadName_global rfl rfl (loadGlobal_builtin (env := ksEnv qual iS s.heap.objs.size fI (.ref cda) cc) (gl.keeps k) T.sG (hb1.keeps k) hsv ⟨rfl, ?_⟩)
  refine wpAny_loadName_free rfl rfl rfl ⟨_, X₁ _ _ hcell, rfl⟩ ?_
  refine wpAny_loadName_local rfl rfl hn hself ?_
  refine ks_wpAny_isType_cls (X₁ _ _ hC) rfl ⟨rfl, ?_⟩
  refine ks_wpAny_call_super (X₁ _ _ hC) rfl hx₁ rfl (fun c e => by cases e) (looks_mroIn X₁ T.sC) (fun h₂ hso k₂ => ?_)
  have X₂ : K.In h₂ := X₁.keeps k₂
  have hx₂ := k₂ _ _ hx₁
  have I₂ : InstAt h₂ x (excO C t0) C none := ⟨hx₂, rfl, rfl, trivial⟩
  have hsup := T.sup
  unfold ks_superIn at hsup
  rw [hcl] at hsup
  refine kxs_getMethod kxs_ValueError hso (looks_opaque X₂ T.op) (l₀ := .ref C :: bm) (fun A Q E s k q => wpAny_bind ((looks_clsIn X₂ hcl) A _ E s k (wpAny_pure q))) rfl X₂ hsup (I₂.type.andThen (looks_subIn X₂ T.veC)) hxC rfl ?_
  have k₃ : ∀ b o, h₂.get? b = some o → (h₂.push (kxs_mw "ValueError.__init__" x)).get? b = some o := fun b o e => Heap.get?_push_of_some _ e
  have hu : (h₂.push (kxs_mw "ValueError.__init__" x)).get? h₂.objs.size = some (kxs_mw "ValueError.__init__" x) := Heap.get?_push_size _ rfl
  generalize (h₂.push (kxs_mw "ValueError.__init__" x)) = h₃ at hu k₃
  have X₃ := X₂.keeps k₃
  have hx₃ := k₃ _ _ hx₂
  have kn : ∀ b o, h₁.get? b = some o → h₃.get? b = some o := fun b o e => k₃ b o (k₂ b o e)
  show wpAny _ _ (callWith q7 (.ref h₂.objs.size) [] (backTo q7 (starEach [.Attribute (.Attribute (.Name "self" q4) "__class__" q5) "__name__" q6] (ksEnv qual iS s.heap.objs.size fI (.ref cda) cc))) []) _ _ _
  refine kxs_callWith (i := "ValueError.__init__") (x := x) rfl (evalArgs_plain (Calls.spliced_cons ?_))
  refine Attribute_any_ (Attribute_any_ (ldX (hn.keeps kn) hself ?_) (by rfl)) (by rfl)
  refine cls_of T.ga T.gg T.exC T.hdC T.ca T.cg T.ct T.ob X₃ (⟨hx₃, rfl, rfl, trivial⟩ : InstAt h₃ x (excO C t0) C none) ?_
  refine name_of X₃ hC (nv := .str k2 tk2) rfl rfl T.op T.nmC rfl ?_
  refine Calls.spliced_nil ⟨hu, ?_⟩
  refine call_mw (X₃ _ _ hC) hx₃ hu (one_size _) (fun h₄ t1 k₄ hx₄ => ?_)
  -- self.part = part
  have X₄ : K.In h₄ := kept_but X₃ hnx k₄
  have hn₄ : h₄.Ns s.heap.objs.size (fun y : Str => List.lookup y ([(("self" : Str), Value.ref x), ("part", v)] : List (Str × Value)).reverse) := by
    obtain ⟨o, es, ep, e1, e2, e3⟩ := hn.keeps kn
    exact ⟨o, es, ep, k₄ _ _ hLx e1, e2, e3⟩
  refine wpAt_of_wpAny ?_
  refine wpAny_execs_cons (plainObj_wpAny_Assign_Attribute ?_)
  refine ldX hn₄ hpart (ldX hn₄ hself ?_)
  refine set_plain X₄ (ox := excO C t1) (od := none) ⟨hx₄, rfl, rfl, trivial⟩ T.sa ?_
  refine exc_osa X₄ hx₄ hcl (show refsVE (.ref C :: bm) = true from hbm) rfl T.noN (fun h₅ tk₅ dx k₅ dn dne hx₅ hn₅ => ?_)
  refine wpAny_execs_nil (hq h₅ tk₅ dx t1 ⟨fun b o hb e => k₅ b o hb (k₄ b o hb (kn b o (k b o e))), hx₅, ?_, dne, hn₅⟩)
  exact Nat.le_of_lt (Nat.lt_of_lt_of_le hn₄.lt dn)
/-- a made one -/
structure OwnMade (h h' : Heap) (e C d : Addr) (f : Str) (v : Value) : Prop where
  keep : ∀ b o, h.get? b = some o → h'.get? b = some o
  new : h.objs.size ≤ e
  obj : ∃ oe vs, h'.get? e = some oe ∧ oe.cls = .ref C ∧ oe.dict = some d ∧ oe.data = .fields vs ∧ vs[1]? = some .none
  dbig : h.objs.size ≤ d
  dne : d ≠ e
  ns : h'.Ns1 d (fun y => if y = f then some v else none)
theorem part_made (T : PartTxt prog K mg xn qual C fI) {v : Value} (X : K.In s.heap) (gl : s.heap.Ns mainGlobals mg) (bl : ∃ mb, s.heap.Ns builtinsNs mb ∧ ∀ x : Str, x ≠ "__name__" → mb x = bootBuiltins x) (hlim : s.heap.NoLimit) (hroom : A.depth + 1 < recursionLimit)
    (hq : ∀ h' tk e d, OwnMade s.heap h' e C d "part" v → R (.ok (.ret (.ref e))) { s with heap := h', toks := tk }) :
    codeAny (model prog w) A (.call (.ref C) ⟨[v], []⟩) R s := by
  obtain ⟨nm, q, N, bs, bm, sn, sub, ab, col, dd, k0, k1, k2, tk2, k3, k5, hC, hbm⟩ := T.cls
  obtain ⟨hp, g, dr, tk, os⟩ := s
  have k : ∀ b o, hp.get? b = some o → ((hp.push (kdv_tup [v])).push (excO C hp.objs.size)).get? b = some o := fun b o e => Heap.get?_push_of_some _ (Heap.get?_push_of_some _ e)
  have hget : ((hp.push (kdv_tup [v])).push (excO C hp.objs.size)).get? (hp.objs.size + 1) = some (excO C hp.objs.size) := by heap_get
  have hnx : K.lookup (hp.objs.size + 1) = none := by
    cases e : K.lookup (hp.objs.size + 1) with
    | none => rfl
    | some o =>
      have z : hp.get? (hp.objs.size + 1) = some o := X _ _ e
      exact absurd (Nat.lt_of_succ_lt (Heap.lt_size z)) (Nat.lt_irrefl _)
  obtain ⟨mb, b1, b2⟩ := bl
  refine call_own F.excBase_ValueError (fun X => refsVE_contains X bm hbm) (X _ _ hC) (looks_findIn X T.iC) (fun self => bind_fn X self T.tC) (one_size v) ?_
  refine part_init (s := ⟨(hp.push (kdv_tup [v])).push (excO C hp.objs.size), g, dr, tk, os⟩) T (X.keeps k) (gl.keeps k) ⟨mb, b1.keeps k, b2⟩ (hlim.keeps k) hget hnx ?_ fun h' tk' dx t1 ⟨k', hx, dn, dne, hns⟩ => ?_
  · show A.depth + 1 < recursionLimit
    exact hroom
  · have old : ∀ b o, hp.get? b = some o → h'.get? b = some o := fun b o e => k' b o (Nat.ne_of_lt (Nat.lt_succ_of_lt (Heap.lt_size e))) (k b o e)
    have z : hp.objs.size + 1 + 1 ≤ dx := by
      first
        | (simpa only [Heap.size_push] using dn)
        | exact dn
        | (have q := dn; rw [Heap.size_push, Heap.size_push] at q; exact q)
    exact ⟨rfl, hq h' tk' (hp.objs.size + 1) dx ⟨old, Nat.le_succ _, ⟨_, _, hx, rfl, rfl, rfl, rfl⟩, Nat.le_trans (Nat.le_trans (Nat.le_succ _) (Nat.le_succ _)) z, dne, hns⟩⟩
end
end DX
namespace DX
open PySem PySem.Spec L2 PyProof.Rows
theorem relO_one {v : V} {v' : Value} (r : RelV v v') (g f : Str) : RelO (List.lookup f [(g, v)]) (if f = g then some v' else none) := by
  by_cases hw : f = g
  · subst hw
    rw [if_pos rfl]
    have q : List.lookup f [(f, v)] = some v := by simp [List.lookup]
    rw [q]
    exact r
  · rw [if_neg hw]
    have qw : (f == g) = false := by simpa using hw
    have q2 : List.lookup f [(g, v)] = none := by simp [List.lookup, qw]
    rw [q2]
    trivial
section
variable {X : Cx} {C fI : Addr} {x qual : Str}
/-- x(e), x an error class of one part -/
def tMkP (C : Addr) (ta : TA) : L2.St → Hp → XK → Prop := fun σ H Q => ta σ H fun vs H1 => ∃ v, vs = [v] ∧ ∀ d, H1 d = none → Q (.ref C) (some d) (upd H1 d (.xd [(("part" : Str), v)]))
theorem pmk_part {a : Expr} {ta : TA} {p pos : Pos} {k : Nat} (T : PartTxt X.prog X.K X.mg x qual C fI) (hr : Room k X.A) (ha : PA X [a] ta) (hg : Gl X x) (hdb : (x == ("__debug__" : Str)) = false := by decide)
    (he : starEach (a :: []) X.env = (false, eval a X.env) :: starEach [] X.env := by rfl) (hpl : (backTo pos (starEach [] X.env)).any (·.1) = false := by rfl) :
    PMk X (.Call (.Name x p) [a] [] pos) (tMkP C ta) := by
  intro pins s σ H Q I h
  refine wpAny_Call_Name_kw (ld_glob I hg T.gC ?_ hdb)
  refine PySem.W.callWith_K (h₀ := X.base) I.ok.mod.kin T.kC (thn (ha.run pos pins s σ H _ I h) fun us s1 hh => ?_) he hpl
  obtain ⟨vs, H1, I1, r1, v, ev, q1⟩ := hh
  subst ev
  refine ⟨I1.kIn, ?_⟩
  cases r1 with
  | cons rv rn =>
    rename_i v' us'
    cases rn
    show wpAny _ _ (call (.ref C) [v']) _ _ _
    have hlim := I1.nolimit
    have gl := I1.mod.glob.keeps I1.bk
    have bl : ∃ mb, s1.heap.Ns builtinsNs mb ∧ ∀ x : Str, x ≠ "__name__" → mb x = bootBuiltins x := by
      obtain ⟨mb, h1, h2⟩ := I1.mod.blt
      exact ⟨mb, h1.keeps I1.bk, h2⟩
    obtain ⟨hp, g, dr, tk, os⟩ := s1
    refine wpAny_call (part_made T I1.kIn gl bl hlim (by have := hr.dp; omega) fun h' tk' e d M => ?_)
    show MkP X pins σ Q (.ref e) ⟨h', g, dr, tk', os⟩
    obtain ⟨oe, fv, hoe, hc, hd, hdat, h1⟩ := M.obj
    have hns := M.ns
    obtain ⟨G', g1, g2⟩ := restrict h' fun b => decide (b ≠ e)
    have gk : ∀ b, b ≠ e → G'.get? b = h'.get? b := fun b hb => g1 b (decide_eq_true hb)
    have ge : G'.get? e = none := g2 e (by simp)
    have old : ∀ b o, hp.get? b = some o → G'.get? b = some o := fun b o q => (gk b (Nat.ne_of_lt (Nat.lt_of_lt_of_le (Heap.lt_size q) M.new))).trans (M.keep b o q)
    have ob : ObjOk X.prog X.w (upd H1 d (.xd [(("part" : Str), v)])) G' d (.xd [(("part" : Str), v)]) :=
      ⟨_, hns.at (fun o q => (gk d M.dne).trans q), fun f => relO_one rv "part" f⟩
    have J : Inv X pins σ (upd H1 d (.xd [(("part" : Str), v)])) ⟨G', g, dr, tk', os⟩ := I1.laid (t' := tk') old M.dbig ob
    refine ⟨e, oe, fv, ⟨G', g, dr, tk', os⟩, _, .ref C, some d, rfl, J, fun b o q => ?_, ge, hoe, ⟨hc, hd⟩, hdat, h1, ?_, rfl, I1.bare, raises_own T.exC T.tyC, q1 d (I1.hok.fresh M.dbig)⟩
    · by_cases hb : b = e
      · have q' : G'.get? b = some o := q
        rw [hb, ge] at q'; cases q'
      · exact (gk b hb).symm.trans q
    · rw [upd_ne (Ne.symm M.dne)]
      exact I1.hok.fresh M.new
end
end DX
namespace DL
open PySem PySem.Spec L2 PyProof.Rows DX
variable [Tbls]
/-- an error class of one part, as the module's name holds it -/
structure Xp (X : Cx) (cl : String → Addr) (x : String) : Prop where
  ex : ∃ (qual : Str) (fI : Addr), PartTxt X.prog X.K X.mg (PySem.Str.ofString x) qual (cl x) fI
def sRaise (x : String) (m : M D) : M Fl := m.bind fun d r => .err ⟨x, [("part", d)]⟩ r
theorem ds_raise {X : Cx} {p : Pm} {W : WX} {a : Expr} {m : M D} {x : String} {x' : Str} {k : Nat} {p1 p2 pos : Pos} (ex : x' = PySem.Str.ofString x) (hc : X.calm = true) (T : Xp X p.cl x) (hr : Room k X.A) (tk : Takes X W) (ha : DE X p W a m) (hg : Gl X x') (hdb : (x' == ("__debug__" : Str)) = false := by decide)
    (he : starEach (a :: []) X.env = (false, eval a X.env) :: starEach [] X.env := by rfl) (hpl : (backTo p2 (starEach [] X.env)).any (·.1) = false := by rfl) :
    DS X p W (.Raise (some (.Call (.Name x' p1) [a] [] p2)) none pos) (sRaise x m) := by
  subst ex
  obtain ⟨qual, fI, T⟩ := T.ex
  have ha1 : PA X [a] (tM X.K p W (RL X.K p.cl [a].length) (mCons m mNil)) := (da_cons ha da_nil he).run
  refine ⟨PS.imp (ps_raise (W := W) hc tk (pmk_part T hr ha1 hg hdb he hpl)) fun D σ H ⟨G, r, s, q⟩ => ?_⟩
  have q' : PoS X.K p W G D (((mCons m mNil).bind fun ds r => match ds with | [d] => .err ⟨x, [("part", d)]⟩ r | _ => .bad) r) := by
    have e : (((mCons m mNil).bind fun ds r => match ds with | [d] => .err ⟨x, [("part", d)]⟩ r | _ => .bad : M Fl) r) = sRaise x m r := by
      unfold sRaise mCons mNil M.bind M.pure
      cases m r <;> rfl
    rw [e]; exact q
  refine pos_bind (R := RL X.K p.cl 1) s q' fun ds vs G1 r1 H1 s1 ex h1 q1 => ?_
  have h1' : RepL X.K p.cl G1 vs ds := h1.1
  cases h1' with
  | nil => exact q1.elim
  | @cons v vs d ds rv rvs =>
    cases rvs with
    | cons _ _ => exact q1.elim
    | nil =>
      refine ⟨v, rfl, fun dx hdx => ?_⟩
      have g := Grow.laid (o := .xd [(("part" : Str), v)]) s1.sub s1.nt hdx (fun _ z => by cases z)
      exact q1 _ _ _ σ _ (s1.grow g) g.ex ⟨rfl, dx, _, rfl, upd_same, .cons (rv.mono g.ex) .nil⟩
end DL
end

section
set_option Elab.async false
set_option linter.all false
set_option maxRecDepth 100000
set_option maxHeartbeats 4000000
/-! DTry: try: .. except x as n: m = n: the error is kept beyond the clause. -/
namespace DL
open PySem PySem.Spec L2 PyProof.Rows
variable [Tbls]
section
variable {X : Cx} {pins : List (Addr × Obj)} {σ : L2.St} {H : Hp} {s : Shared}
theorem Inv_track {a C : Addr} {d : Option Addr} {oe : Obj} {vs : Array Value} (I : Inv X pins σ H s) (ha : s.heap.get? a = some oe) (hc : oe.cls = .ref C) (hd : oe.dict = d) (hf : oe.data = .fields vs) (na : H a = none) (nL : a ≠ X.env.locals)
    (n0 : X.s_0.heap.get? a = none) (np : ∀ q ∈ X.pn ++ pins, q.1 ≠ a) : Inv X pins σ (upd H a (exA a C d)) s := by
  have un : ∀ {b : Addr} {o : HO}, H b = some o → b ≠ a := fun {b o} e z => by rw [z, na] at e; cases e
  refine ⟨I.ok, I.os, I.bare, ⟨I.base.keep, I.base.slot, fun b o e n hx => ?_, I.base.there, fun b xs e => ?_, fun b o xs e => ?_, fun b ps e => ?_⟩, I.loc, I.cell, ?_, fun y c e => ?_, fun q hq => ?_, fun b o e => ?_, I.len⟩
  · have : b ≠ a := fun z => by rw [z, n0] at e; cases e
    rw [upd_ne this]; exact I.base.free b o e n hx
  · have h1 := I.base.tups b xs e
    rw [upd_ne (un h1)]; exact h1
  · have h1 := I.base.frzs b o xs e
    rw [upd_ne (un h1)]; exact h1
  · obtain ⟨more, h1⟩ := I.base.tbls b ps e
    exact ⟨more, by rw [upd_ne (un h1)]; exact h1⟩
  · rw [upd_ne (Ne.symm nL)]; exact I.free
  · have : c ≠ a := fun z => by
      obtain ⟨v, o, ho, hd'⟩ := I.cell y c e
      rw [z, ha] at ho; cases ho
      rw [hf] at hd'; cases hd'
    rw [upd_ne this]; exact I.freeC y c e
  · obtain ⟨h1, h2, h3⟩ := I.pin q hq
    exact ⟨h1, by rw [upd_ne (np q hq)]; exact h2, h3⟩
  · by_cases z : b = a
    · subst z
      rw [upd_same] at e
      cases e
      exact ⟨⟨oe, vs, ha, hc, hd, hf⟩, ⟨_, ha⟩, fun h1 h2 ⟨oe, vs, x1, x2⟩ k => ⟨oe, vs, k _ x1, x2⟩⟩
    · rw [upd_ne z] at e
      exact (I.hok b o e).stay (fun c v hc q => q) (fun c q => by rw [upd_ne (un q)]; exact q) (fun c xs q => by rw [upd_ne (un q)]; exact q)
end
/-- what the clause wishes of an error of the body: slot i is the clause's name; the error stays tracked -/
def wHold (K : PySem.W.Frag) (c : Value) (i : Nat) (ts : Addr → Value → Option Addr → TS) (Wout : WX) (D : Ends) : WX := fun cls d σ H =>
  ∃ b, PySem.W.exmOne K cls c = some b ∧ (b = true → ∀ a, H a = none → ts a cls d { nx := fun σ' H' => H' a = none → ∃ C, cls = .ref C ∧ D.nx (σ'.set i none) (upd H' a (exA a C d)), rt := fun _ _ => False, bk := fun _ _ => False, ct := fun _ _ => False } (σ.set i (some (.ref a))) H) ∧
    (b = false → Wout cls d σ H)
section
variable {X : Cx} {x n : Str} {c : Value} {i : Nat} {body suite : List Stmt} {b₀ : Stmt} {np pos pos' : Pos} {tb : WX → TS} {ts : Addr → Value → Option Addr → TS} {Wout : WX}
theorem ps_try_hold (hs : X.stack = X.env :: X.outer) (hf : X.env.frame = some X.env.locals) (hex : X.ex = []) (hN : X.N.Nodup) (hi : X.N[i]? = some n) (hln : X.env.kindOf n = some .local) (hc : Names X x c) (tk : Takes X Wout)
    (hb : ∀ (W : WX) (pn : List (Addr × Obj)) (xe : Value → Shared → Prop), Takes (X.tr pn xe) W → PassesOwn (model X.prog X.w) X.A X.env xe → PSs (X.tr pn xe) body (tb W))
    (hsu : ∀ (a : Addr) (oe : Obj) (cls : Value) (d : Option Addr) (pn : List (Addr × Obj)), Zc cls d oe → (∃ vs, oe.data = .fields vs) → PSs (X.suite a ((a, oe) :: pn)) (b₀ :: suite) (ts a cls d)) :
    PS X (.Try body [.ExceptHandler (some (.Name x np)) (some n) (b₀ :: suite) pos'] [] [] pos) (fun D σ H => tb (wHold X.K c i ts Wout D) D σ H) := by
  refine ⟨fun pins s σ H D I h => ?_⟩
  have ok := I.ok
  have hfr : X.A.frames = some (X.env :: X.outer) := by rw [ok.frames, hs]
  have hloc : Loc X.env.scope n := .inl hln
  refine wpAny_Try_except ?_
  refine wpAny_mono ((hb (wHold X.K c i ts Wout D) (X.pn ++ pins) (fun e s₁ => wpAny (model X.prog X.w) X.A (noteFrame e X.env) (fun _ s₂ => wpAny (model X.prog X.w) X.A (setFlight e none) (fun _ s₃ =>
    wpAny (model X.prog X.w) X.A (handleBy e X.env [.ExceptHandler (some (.Name x np)) (some n) (b₀ :: suite) pos']) (SP X pins D) X.xe s₃) X.xe s₂) X.xe s₁) (fun u s' xx => ?_) PassesOwn.looking).run [] s σ H D (I.toTry _) h) (fun f s1 hsp => ?_) (fun e s1 he => he)
  · obtain ⟨a, B, sI, pins', σ', H', cls, d, rfl, J', nb, up, sky, na, os, ag, b, hb1, hyes, hno⟩ := xx
    have J : Inv X pins σ' H' sI := J'.ofTry ok
    have sky' : Sky B (X.env :: X.outer) a (Zc cls d) X.env.locals s'.heap := by rw [← hs]; exact sky
    show wpAny (model X.prog X.w) X.A (noteFrame (.ref a) X.env) _ _ _
    refine Sky.land Zc.steady hfr hf sky' fun h3 fl3 up3 => ?_
    have J3 : Inv X pins σ' H' { s' with heap := h3 } := J.landed nb fl3.1 (up.trans up3) os ag
    obtain ⟨oe3, vs3, he3, hz3, hd3⟩ := fl3.there
    have notFr : ∀ {h : Heap} {o : Obj} {vs : Array Value}, h.FunFrames B (X.env :: X.outer) → h.get? a = some o → o.data = .fields vs → a ∉ frs (X.env :: X.outer) := fun {h o vs} ff e dd hm => by
      obtain ⟨_, o', e', hnf⟩ := ff.mem hm
      rw [e] at e'; cases e'
      exact hnf _ dd
    have nfr := notFr fl3.2.2.1 he3 hd3
    have nI : sI.heap.get? a = none := by
      cases z : sI.heap.get? a with
      | none => rfl
      | some o =>
        have z1 := nb a o z (by rw [hs]; exact nfr)
        rw [fl3.2.1] at z1; cases z1
    have n0 : X.s_0.heap.get? a = none := by
      cases z : X.s_0.heap.get? a with
      | none => rfl
      | some o =>
        obtain ⟨o', z1⟩ := J.base.there a o z (by rw [hex]; exact fun y => nomatch y)
        rw [nI] at z1; cases z1
    have npin : ∀ q ∈ X.pn ++ pins, q.1 ≠ a := fun q hq z => by
      have z1 := (J.pin q hq).1
      rw [z, nI] at z1; cases z1
    have nL : a ≠ X.env.locals := fun z => nfr (List.mem_filterMap.mpr ⟨X.env, List.mem_cons_self, by rw [hf, z]⟩)
    have nF : a ∉ X.fs := fun hm => by
      obtain ⟨e, he, q⟩ := List.mem_filterMap.mp hm
      exact nfr (List.mem_filterMap.mpr ⟨e, List.mem_cons_of_mem _ he, q⟩)
    have S3 := J3.suite he3 hd3 na nL nF
    refine wpAny_handleBy_cons (codeAny_handlers_test ?_) (by intro q; cases q)
    have LT : PySem.W.Looks (model X.prog X.w) h3 (typeOf (.ref a)) cls := fun A Q E s k q => wpAny_typeOf_ref (k _ _ he3) (by rw [hz3.1]; exact q)
    have LM := PySem.W.exm_one (M := model X.prog X.w) (J3.kIn) LT hb1
    have test : ∀ {Q : Value → Shared → Prop} {E : Value → Shared → Prop}, Q c { s' with heap := h3 } → wpAny (model X.prog X.w) (X.A.mark (some (.ref a))) (eval (.Name x np) X.env) Q E { s' with heap := h3 } := fun {Q E} q => by
      obtain ⟨hg, hdbg, hm | ⟨hm, hv, hnn⟩⟩ := hc
      · exact ld_glob (X := X.suite a ((a, oe3) :: (X.pn ++ pins))) S3 hg hm q hdbg
      · exact ld_blt (X := X.suite a ((a, oe3) :: (X.pn ++ pins))) S3 hg hm hv q hnn hdbg
    refine test (LM.here ?_)
    cases b with
    | true =>
      refine codeAny_handlers_suite_as ?_
      refine HandSPX.lands_againZ fl3 fun h4 fl4 up4 => ?_
      have J4 : Inv X pins σ' H' { s' with heap := h4 } := J.landed nb fl4.1 ((up.trans up3).trans up4) os ag
      obtain ⟨oe4, vs4, he4, hz4, hd4⟩ := fl4.there
      have S4 := J4.suite he4 hd4 na nL nF
      refine store_ok (X := X.suite a ((a, oe4) :: (X.pn ++ pins))) (v := .ref a) S4 hN hi hloc rfl (fun s5 S5 => ?_) (.inr hln)
      refine wpAny_mono ((hsu a oe4 cls d (X.pn ++ pins) hz4 ⟨_, hd4⟩).run [] s5 _ H' _ S5 (hyes rfl a na)) (fun f s6 hsp => ?_) (fun _ _ z => False.elim z)
      cases f with
      | next =>
        obtain ⟨σ6, H6, S6, q6⟩ := hsp
        obtain ⟨p1, p2, p3, p4, p5⟩ := S6.pin (a, oe4) (List.mem_append_left _ List.mem_cons_self)
        obtain ⟨C, ec, q7⟩ := q6 p2
        have J6 : Inv X pins σ6 (upd H6 a (exA a C d)) s6 := Inv_track (S6.unsuite ok) p1 (hz4.1.trans ec) hz4.2 hd4 p2 nL n0 npin
        exact gone_ok J6 hN hi hln fun s7 J7 => ⟨_, _, J7, q7⟩
      | brk =>
        obtain ⟨σ6, H6, S6, q6⟩ := hsp
        exact q6.elim
      | cont =>
        obtain ⟨σ6, H6, S6, q6⟩ := hsp
        exact q6.elim
      | ret u =>
        obtain ⟨v6, σ6, H6, S6, r6, q6⟩ := hsp
        exact q6.elim
    | false =>
      show wpAny _ X.A (handleBy (.ref a) X.env []) _ _ _
      refine wpAny_handleBy_nil ?_
      obtain ⟨k1, k2, k3, oe, vs, T, oT, ts', he, hz, hd, h1, hr⟩ := id fl3
      unfold PySem.passOn
      refine wpAny_bind (wpAny_field he hd h1 ?_)
      rw [if_neg (show ¬ ((Value.ref T == Value.none) = true) from by simp)]
      have fin : wpAny (model X.prog X.w) X.A (setFlight (.ref a) X.env.frame) (fun _ s4 => wpAny (model X.prog X.w) X.A (throw (.ref a) : Sem Flow) (SP X pins D) X.xe s4) X.xe { s' with heap := h3 } := by
        rw [hf]
        refine HandSPX.setFlight_upZ fl3 fun h4 hh4 up4 => wpAny_throw (tk _ _ ?_)
        exact ⟨a, B, sI, pins, σ', H', cls, d, rfl, J, nb, (up.trans up3).trans up4, .inr (.inr (by rw [hs]; exact hh4)), na, os, ag, hno rfl⟩
      first
        | exact wpAny_bind (wpAny_pure (wpAny_bind fin))
        | exact wpAny_bind fin
  · cases f with
    | next =>
      obtain ⟨σ', H', J', q⟩ := hsp
      exact wpAny_execs_nil ⟨σ', H', J'.ofTry ok, q⟩
    | brk =>
      obtain ⟨σ', H', J', q⟩ := hsp
      exact ⟨σ', H', J'.ofTry ok, q⟩
    | cont =>
      obtain ⟨σ', H', J', q⟩ := hsp
      exact ⟨σ', H', J'.ofTry ok, q⟩
    | ret u =>
      obtain ⟨v, σ', H', J', r, q⟩ := hsp
      exact ⟨v, σ', H', J'.ofTry ok, r, q⟩
end
/-! ### over data -/
/-- the classes that a clause takes, by name -/
structure Catches (K : PySem.W.Frag) (cl : String → Addr) (c : Value) (f : String → Option Bool) : Prop where
  run : ∀ (C : String) (b : Bool), f C = some b → PySem.W.exmOne K (.ref (cl C)) c = some b
def sTry (i j : Nat) (f : String → Option Bool) (b : M Fl) : M Fl := fun r => match b r with
  | .err e r1 => (match f e.cls with
    | some true => if i < r1.length then .ok .nx ((r1.set j (.val (.exc e.cls e.fs))).set i .no) else .bad
    | some false => .err e r1
    | none => .bad)
  | o => o
theorem ds_try {X : Cx} {p : Pm} {W : WX} {x n m : Str} {c : Value} {i j : Nat} {body : List Stmt} {np p1 p2 p3 pos pos' : Pos} {f : String → Option Bool} {b : M Fl}
    (hs : X.stack = X.env :: X.outer) (hf : X.env.frame = some X.env.locals) (hex : X.ex = []) (hN : X.N.Nodup) (hi : X.N[i]? = some n) (hln : X.env.kindOf n = some .local) (hc : Names X x c) (tk : Takes X W) (ct : Catches X.K p.cl c f)
    (hb : ∀ (W : WX) (pn : List (Addr × Obj)) (xe : Value → Shared → Prop), Takes (X.tr pn xe) W → PassesOwn (model X.prog X.w) X.A X.env xe → DSs (X.tr pn xe) p W body b)
    (hij : i ≠ j)
    (hst : ∀ (a : Addr) (pn : List (Addr × Obj)) te, PE (X.suite a pn) (.Name n p2) te → PS (X.suite a pn) (.Assign [.Name m p1] (.Name n p2) p3) (tAsg te (gName j)))
    (hv : ∀ (a : Addr) (pn : List (Addr × Obj)), PE (X.suite a pn) (.Name n p2) (tVar i)) :
    DS X p W (.Try body [.ExceptHandler (some (.Name x np)) (some n) [.Assign [.Name m p1] (.Name n p2) p3] pos'] [] [] pos) (sTry i j f b) := by
  refine ⟨PS.imp (ps_try_hold (Wout := W) (tb := fun W' => tS X.K p W' b) (ts := fun a cls d => tAsg (tVar i) (gName j)) hs hf hex hN hi hln hc tk (fun W' pn xe tk' po => (hb W' pn xe tk' po).run) (fun a oe cls d pn _ _ => pss_one (hst a _ _ (hv a _)))) fun D σ H ⟨G, r, s, q⟩ => ?_⟩
  refine ⟨G, r, s, ?_⟩
  unfold sTry at q
  cases e : b r with
  | ok fl r1 =>
    rw [e] at q
    cases fl <;> exact q
  | bad => rw [e] at q; exact q.elim
  | err x r1 =>
    rw [e] at q
    dsimp only at q
    intro c' dd G' σ' H' s' ex rx
    obtain ⟨ec, d, gs, ed, hd, rf⟩ := rx
    subst ec; subst ed
    cases ef : f x.cls with
    | none => rw [ef] at q; exact q.elim
    | some bb =>
      rw [ef] at q
      refine ⟨bb, ct.run _ _ ef, fun hbt a na => ?_, fun hbf => ?_⟩
      · subst hbt
        dsimp only at q
        split at q
        · rename_i il0
          have il : i < σ'.length := by rw [← s'.len]; exact il0
          refine ⟨.ref a, List.getElem?_set_self il, fun na' => ⟨_, rfl, ?_⟩⟩
          have g := Grow.laid (o := exA a (p.cl x.cls) (some d)) s'.sub s'.nt na (fun _ z => by cases z)
          have hda : d ≠ a := fun z => by
            have h1 := s'.sub d _ hd
            rw [z, na] at h1; cases h1
          have rp : Rep X.K p.cl (upd G' a (exA a (p.cl x.cls) (some d))) (.ref a) (.exc x.cls x.fs) := .exc upd_same (by rw [upd_ne hda]; exact hd) (rf.mono g.ex)
          have s2 := ((s'.grow g).setv (i := j) rp).gone i
          have e3 : (((σ'.set i (some (V.ref a))).set j (some (V.ref a))).set i none : L2.St) = (σ'.set j (some (V.ref a))).set i none := by
            rw [List.set_comm _ _ hij, List.set_set]
          show D.nx ((((σ'.set i (some (V.ref a))).set j (some (V.ref a))).set i none : L2.St)) _
          rw [e3]
          exact q _ _ _ s2 (ex.trans g.ex)
        · exact q.elim
      · subst hbf
        exact q _ _ G' σ' H' s' ex ⟨rfl, d, gs, rfl, hd, rf⟩
end DL
end

section
set_option Elab.async false
set_option linter.all false
set_option maxRecDepth 100000
set_option maxHeartbeats 4000000
/-! DXI: what is asked of a kept error: its class, its fields. -/
namespace DX
open PySem PySem.W PySem.Calls PyProof.Rows PySem.HandSPX
section
variable {prog : Program} {w : World} {A : Around} {E : Value → Shared → Prop} {s : Shared} {K : Frag} {x D : Addr} {ox od : Obj}
theorem kin_classD {Q : Option Value → Shared → Prop} (hga : findIn K (.ref D) "__getattribute__" = some (some (.builtin "BaseException.__getattribute__"))) (hgt : findIn K (.ref D) "__getattr__" = some none) (hsub : subIn K (.ref D) (.type "BaseException") = some true)
    (hdct : hasDictIn K D = true) (ha : findIn K (.ref D) "__class__" = some (some (.builtin "object.__class__")))
    (hn : specialIn K (.builtin "object.__class__") "__get__" = some (some (.builtin "getset_descriptor.__get__"))) (htk : takesIn K (.builtin "object.__class__") = some true) (hm : mroIn K D (.type "object") = some true)
    (X : K.In s.heap) (I : InstAt s.heap x ox D (some od)) (h : Q (some (.ref D)) { s with toks := s.toks + 1 }) : wpAny (model prog w) A (getAttr? (.ref x) "__class__") Q E s := by
  have hf : findObj K D (some od) "__class__" = some (.bind (.builtin "getset_descriptor.__get__") (.builtin "object.__class__")) := findObj_data (by obtain ⟨cd, hc, _⟩ := any_some hdct; rw [hc]; rfl) ha hn htk
  obtain ⟨hp, g, d, t, os⟩ := s
  have L0 := I.type (M := model prog w)
  have L1 := looks_findIn (M := model prog w) X hga
  have L2 := looks_findIn (M := model prog w) X hgt
  have L3 := looks_find (M := model prog w) X I hf
  have sub : Looks (model prog w) hp (isInstance (.ref x) (.type "BaseException")) true := L0.andThen (looks_subIn X hsub)
  have hx0 : (false && onTheHeap (Value.builtin "BaseException.__getattribute__")) = false := rfl
  have hx2 : (Value.builtin "BaseException.__getattribute__" == Value.builtin "object.__getattribute__") = false := by decide +kernel
  have hx1 : (onTheHeap (Value.ref D) && Value.builtin "BaseException.__getattribute__" == Value.builtin "object.__getattribute__") = false := by rw [hx2]; rfl
  unfold getAttr? getAttrBy? getAttrBy
  refine wpAny_bind (wpAny_mkText (wpAny_bind (wpAny_attempt (wpAny_holding (wpAny_bind (L0.at (wpAny_bind (L1.at ?_))))))))
  show wpAny _ _ (if (onTheHeap (Value.ref D) && Value.builtin "BaseException.__getattribute__" == Value.builtin "object.__getattribute__") = true then _ else _) _ _ _
  rw [hx1, if_neg Bool.false_ne_true]
  unfold getAttrByItsOwn hookBefore
  refine wpAny_bind ?_
  rw [if_pos (show onTheHeap (Value.ref D) = true from rfl)]
  refine L2.at ?_
  refine wpAny_bind (wpAny_attempt (wpAny_holding ?_))
  unfold callGetattribute
  rw [hx0, if_neg Bool.false_ne_true]
  unfold boundAndCalled
  rw [PySem.F.excAttr_ValueError.ga.bind (.ref x)]
  refine wpAny_bind (wpAny_pure ?_)
  show wpAny _ _ (call (.builtin "BaseException.__getattribute__") [.ref x, .str "__class__" t]) _ _ _
  refine wpAny_call (codeAny_call_builtin PySem.F.excAttr_ValueError.ga.plain PySem.F.entry_bexc_ga ?_)
  refine @check_slot (model prog w) _ _ ⟨hp, g, d, t + 1, os⟩ "BaseException.__getattribute__" "BaseException" "__getattribute__" (.ref x) [.str "__class__" t] [] _ (by decide +kernel) (by decide +kernel) sub (PySem.F.args_bexc_ga (.ref x) (.str "__class__" t)) ?_
  unfold Builtin.«object.__getattribute__»
  refine wpAny_bind (wpAny_of_eq (a := ((Value.ref x : Value), [Value.str "__class__" t])) (by first | rfl | (simp only [slotArgs]; rfl)) ?_)
  refine wpAny_bind (wpAny_pure (wpAny_bind (L0.at (wpAny_bind (L3.at ?_)))))
  show wpAny _ _ (holding [Value.builtin "object.__class__"] (call (.builtin "getset_descriptor.__get__") [.builtin "object.__class__", .ref x, .ref D]) >>= ret) _ _ _
  refine wpAny_bind (wpAny_holding (wpAny_call (class_get (s := ⟨hp, g, d, t + 1, os⟩) (ox := ox) (od := some od) X I hm ?_)))
  refine wpAny_pure ?_
  show wpAny _ _ (handedOut (.ref D)) _ _ _
  rw [handedOut_of (v := .ref D) rfl]
  first
    | exact wpAny_pure (wpAny_pure h)
    | exact wpAny_pure h
    | exact wpAny_pure (wpAny_bind (wpAny_pure (wpAny_pure h)))
theorem kitx_excD (hga : findIn K (.ref D) "__getattribute__" = some (some (.builtin "BaseException.__getattribute__"))) (hgt : findIn K (.ref D) "__getattr__" = some none) (hsub : subIn K (.ref D) (.type "BaseException") = some true) (hdct : hasDictIn K D = true) (ha : findIn K (.ref D) "__class__" = some (some (.builtin "object.__class__")))
    (hn : specialIn K (.builtin "object.__class__") "__get__" = some (some (.builtin "getset_descriptor.__get__"))) (htk : takesIn K (.builtin "object.__class__") = some true) (hm : mroIn K D (.type "object") = some true) :
    KitX K (.ref x) (.ref D) (fun h => InstAt h x ox D (some od)) where
  ty := fun _ _ _ I => I.type
  it := fun _ _ X _ => by
    obtain ⟨cdD, hcD, _⟩ := any_some hdct
    unfold clsIn at hcD
    split at hcD
    · rename_i c' d' cd' sl' ho
      intro A' Q' E' s' k q
      unfold isType loadHead
      exact wpAny_bind (wpAny_loadPart (k _ _ (X _ _ ho)) (wpAny_pure q))
    · cases hcD
  ne := fun h tp dd its n sl X htp => by
    obtain ⟨cdD, hcD, _⟩ := any_some hdct
    refine Bool.eq_false_iff.mpr fun q => ?_
    have e : D = tp := Value.ref.inj (beq_iff_eq.mp q)
    subst e
    unfold clsIn at hcD
    split at hcD
    · rename_i c' d' cd' sl' ho
      have z := (X _ _ ho).symm.trans htp
      cases z
    · cases hcD
  ca := fun X I k => kin_classD hga hgt hsub hdct ha hn htk hm X I k
end
end DX
namespace DL
open PySem PySem.Spec L2 PyProof.Rows DX
variable [Tbls]
section
variable {X : Cx} {p : Pm} {W : WX} {cl : String → Addr} {G H : Hp}
theorem Vw.exc (ex : Ex G H) {x : V} {K : PySem.W.Frag} {C : String} {fs : Flds} (h : Vw K cl G H x (.exc C fs)) : ∃ a d gs, x = .ref a ∧ H a = some (exA a (cl C) (some d)) ∧ H d = some (.xd gs) ∧ RepF K cl G gs fs := by
  rcases h with h | ⟨a, o, rfl, q, e⟩
  · cases h with | exc h h2 r => exact ⟨_, _, _, rfl, ex _ _ h, ex _ _ h2, r⟩
  · cases o <;> cases e
theorem inst_at {pins : List (Addr × Obj)} {σ : L2.St} {s : Shared} {a d C : Addr} {gs : List (Str × V)} (I : Inv X pins σ H s) (ha : H a = some (exA a C (some d))) (hd : H d = some (.xd gs)) :
    ∃ (oe od : Obj) (mA : Str → Option Value), PySem.W.InstAt s.heap a oe C (some od) ∧ s.heap.Ns1 d mA ∧ (∀ f, RelO (gs.lookup f) (mA f)) ∧ s.heap.get? d = some od := by
  have x : ObjOk X.prog X.w H s.heap a (.ext fun h => ∃ (oe : Obj) (vs : Array Value), h.get? a = some oe ∧ oe.cls = .ref C ∧ oe.dict = some d ∧ oe.data = .fields vs) := I.hok a _ ha
  obtain ⟨⟨oe, vs, h1, h2, h3, h4⟩, _⟩ := x
  have hx : ObjOk X.prog X.w H s.heap d (.xd gs) := I.hok d _ hd
  obtain ⟨mA, hns, hr⟩ := hx
  obtain ⟨od, ho, hl⟩ := lookIn_ns hns
  exact ⟨oe, od, mA, ⟨h1, h2, by unfold PySem.W.notCls; rw [h4] <;> rfl, by rw [h3]; exact ho⟩, hns, hr, ho⟩
/-- error classes, asked by isinstance: f told | asked -/
structure IsX (K : PySem.W.Frag) (cl : String → Addr) (f : String → String → Option Bool) : Prop where
  exc : ∀ C E b, f C E = some b → ExcC K (cl C) ∧ PySem.W.kitOne K (.ref (cl C)) (.ref (cl E)) = some b
structure IsN (K : PySem.W.Frag) (cl : String → Addr) (f : String → Bool) : Prop where
  non : ∀ E, f E = true → PySem.W.kitOne K (.type "NoneType") (.ref (cl E)) = some false
def isXD (f : String → String → Option Bool) (fn : String → Bool) : D → D → Option D
  | .exc C _, .ref E => (f C E).map .bl
  | .non, .ref E => if fn E then some (.bl false) else none
  | _, _ => none
theorem b_isX {f : String → String → Option Bool} {fn : String → Bool} (T : IsX X.K cl f) (Tn : IsN X.K cl fn) : CallR X (.builtin "isinstance") (rC2 X.K cl (isXD f fn)) := by
  intro pins s σ H xs us Q I r ⟨x, y, e0, G, d, e, z, ex, nt, vd, ve, hz, q⟩
  subst e0
  unfold isXD at hz
  split at hz
  · rename_i C fs E
    cases ef : f C E with
    | none => rw [ef] at hz; cases hz
    | some b =>
      rw [ef] at hz
      cases hz
      obtain ⟨CC, hk⟩ := T.exc _ _ _ ef
      obtain ⟨a, d, gs, rfl, ha, hd, rf⟩ := vd.exc ex
      obtain rfl := ve.rf
      obtain ⟨u1, u2, rfl, r1, r2⟩ := vals2 r
      cases (show u1 = Value.ref a from r1)
      cases (show u2 = Value.ref (cl E) from r2)
      obtain ⟨oe, od, mA, J, _, _, _⟩ := inst_at I ha hd
      exact PySem.W.kia_one (kitx_excD CC.hg CC.hk CC.hs CC.hd CC.ha CC.hn CC.ht CC.hm) I.kIn J hk (fun z => nomatch z) fun tk => ⟨.bl b, H, I.kept (t' := tk) fun _ _ z => z, rfl, q _ G H (Grow.refl ex nt) (.bl b)⟩
  · rename_i E
    split at hz
    · rename_i hf
      cases hz
      obtain rfl := vd.non
      obtain rfl := ve.rf
      exact call_isi pins s σ H _ us Q I r ⟨_, _, _, _, _, rfl, .own _, .base .non, Tn.non _ hf, q _ G H (Grow.refl ex nt) (.bl false)⟩
    · cases hz
  · cases hz
/-- a module's own class or def, as a value -/
theorem de_ref {x : Str} {n : String} {pos : Pos} (hg : Gl X x) (hm : X.mg x = some (.ref (p.cl n))) (hd : (x == ("__debug__" : Str)) = false := by decide) : DE X p W (.Name x pos) (M.pure (.ref n)) :=
  de_c (pe_glob hg hm (v := .ref (p.cl n)) rfl hd) fun _ => .ref n
/-! ### e.f -/
/-- error classes whose instances' field f is read -/
structure AtX (K : PySem.W.Frag) (cl : String → Addr) (f : Str) (ok : String → Bool) : Prop where
  run : ∀ C, ok C = true → XfC K (cl C) ∧ PySem.W.findIn K (.ref (cl C)) f = some none
def fldD (f : Str) (ok : String → Bool) : D → Option D
  | .exc C fs => if ok C then fs.lookup f else none
  | _ => none
theorem de_xfld {f : Str} {ok : String → Bool} {e : Expr} {m : M Vk} {pos : Pos} (T : AtX X.K p.cl f ok) (he : DO X p W e m) (hb : attributeBase e f X.env (eval e X.env) = eval e X.env := by rfl) : DE X p W (.Attribute e f pos) (mUn (fldD f ok) m) := by
  refine ⟨⟨fun pins s σ H Q I h => ?_⟩⟩
  refine attr_of hb (thn (he.run.run pins s σ H _ I (un_read h)) fun u s1 ⟨x, H1, I1, rx, G, d, z, ex, nt, vd, hz, q⟩ => ?_)
  unfold fldD at hz
  split at hz
  · split at hz
    · rename_i C fs hok
      obtain ⟨a, dd, gs, rfl, ha, hd, rf⟩ := vd.exc ex
      obtain rfl : u = Value.ref a := rx
      obtain ⟨TC, hno⟩ := T.run _ hok
      rcases rf.lookup (f := f) with ⟨v, d', l1, l2, rv⟩ | ⟨_, l2⟩
      · rw [l2] at hz
        cases hz
        obtain ⟨oe, od, mA, J, hns, hr, ho⟩ := inst_at I1 ha hd
        obtain ⟨od', ho', hl⟩ := lookIn_ns hns
        rw [ho] at ho'
        cases ho'
        obtain ⟨u, hu, ru⟩ := RelO.some_of (v := v) (o := mA f) (by rw [← l1]; exact hr f)
        exact HandSPX.exc_get I1.kIn J TC.ga TC.gg TC.exC (PySem.W.findObj_own TC.hdC hno rfl (by rw [hl, hu])) (handed_of ru) ⟨v, H1, I1.tok _, ru, q _ G H1 (Grow.refl ex nt) rv⟩
      · rw [l2] at hz; cases hz
    · cases hz
  · cases hz
end
end DL
end

section
set_option Elab.async false
set_option linter.all false
set_option maxRecDepth 100000
set_option maxHeartbeats 4000000
/-! DLam: a lambda (with at most one parameter, which has a constant default) handed to a def. -/
namespace DLam
open PySem PySem.Spec PySem.Calls PyProof.Rows L2 LamX
open PySem.W (CodeHd tabObj)
abbrev lad_fn (qual : Str) (params : Arguments) (body : Expr) (scope : Scope) (cl : List (Str × Addr)) (dv pm cdv ct : Value) : FuncData :=
  { name := "<lambda>", qualname := qual, params, body := .expr body, scope, globals := mainGlobals, closure := cl, defaults := dv, kwdefaults := .none, doc := .none, pyModule := pm, annotations := none, code := cdv, closureTuple := ct, builtins := builtinsNs }
abbrev lad_obj (qual : Str) (params : Arguments) (body : Expr) (scope : Scope) (clos : List (Str × Addr)) (dv pm : Value) (c' : Addr) (ctv : Value) : Obj :=
  { cls := .type "function", data := .func (lad_fn qual params body scope clos dv pm (.ref c') ctv) }
section
variable {M : Model} {A : Around} {E : Value → Shared → Prop} {s : Shared} {name qual : Str} {params : Arguments} {body : Expr} {scope : Scope} {env : Env} {c P : Addr} {ps : Array Value} {pos : Pos} {firstLine : Nat} {mg : Str → Option Value}
  {clos : List (Str × Addr)} {Q : Value → Shared → Prop}
theorem lad_makeTail {dv : Value} (hcl : closureFor scope env = pure clos) (hge0 : env.globals = mainGlobals) (hg : s.heap.Ns mainGlobals mg) (hcode : env.code = .ref c) (C : CodeHd s.heap c P) (hP : s.heap.get? P = some (tabObj ps)) (ht : TriplesOk ps.toList)
    (hnf : codeAmong pos ps.toList = none) (hgP : mainGlobals ≠ P) (hb : s.heap.BuiltinsAt mg P)
    (h : ∀ c' ctv h' tk, Heap.ExtBut P s.heap h' → s.heap.objs.size ≤ c' → c' < h'.objs.size → h'.CodeRec (.ref c') qual → h'.get? P = some (tabObj (ps ++ #[rawInt pos.line, rawInt pos.col, .ref c'])) →
      Q (.ref h'.objs.size) { s with heap := h'.push (lad_obj qual params body scope clos dv ((mg "__name__").getD .none) c' ctv), toks := tk }) :
    wpAny M A (makeTail "<lambda>" qual params (.expr body) scope env dv .none none pos firstLine) Q E s := by
  obtain ⟨bm, ob, hbm, hne0, _, hneP, hbo, hcls, hdict, hdata⟩ := hb
  unfold makeTail
  rw [hcl, hge0]
  refine wpAny_bind (wpAny_pure ?_)
  cases clos with
  | nil =>
    simp only [List.isEmpty_nil, if_true]
    refine wpAny_bind (wpAny_pure ?_)
    refine wpAny_bind (wpAny_functionCodeX hcode (C.code hP ht) (C.tab hP) hnf fun c' h' tk hx hge hlt _ hrec htb _ => ?_)
    have hg' := hg.extBut hx hgP
    refine wpAny_bind (wpAny_builtinsFor hg' hbm hne0 (hx _ _ hneP hbo) hcls hdict hdata ?_)
    refine wpAny_bind (wpAny_nsGet hg' ?_)
    exact wpAny_bind (wpAny_pure (wpAny_newObj_type (h c' .none h' tk hx hge hlt hrec htb.2) (by size_fits)))
  | cons q r =>
    simp only [List.isEmpty_cons, Bool.false_eq_true, if_false]
    refine wpAny_bind (wpAny_newTextTuple ?_)
    refine wpAny_bind (wpAny_functionCodeX hcode ((C.keeps fun b o e => Heap.get?_push_of_some _ e).code (Heap.get?_push_of_some _ hP) ht) ((C.keeps fun b o e => Heap.get?_push_of_some _ e).tab (Heap.get?_push_of_some _ hP)) hnf fun c' h' tk hx hge hlt _ hrec htb _ => ?_)
    have hg' := (hg.push _).extBut hx hgP
    have hx' : Heap.ExtBut P s.heap h' := fun b o hb' e => hx b o hb' (Heap.get?_push_of_some _ e)
    have hge' : s.heap.objs.size ≤ c' := Nat.le_trans (by rw [Heap.size_push]; omega) hge
    refine wpAny_bind (wpAny_builtinsFor hg' hbm hne0 (hx' _ _ hneP hbo) hcls hdict hdata ?_)
    refine wpAny_bind (wpAny_nsGet hg' ?_)
    exact wpAny_bind (wpAny_pure (wpAny_newObj_type (h c' _ h' tk hx' hge' hlt hrec htb.2) (by size_fits)))
theorem lad_makeTailHit {dv cv : Value} (hcl : closureFor scope env = pure clos) (hge0 : env.globals = mainGlobals) (hg : s.heap.Ns mainGlobals mg) (hcode : env.code = .ref c) (C : CodeHd s.heap c P) (hP : s.heap.get? P = some (tabObj ps)) (ht : TriplesOk ps.toList)
    (hf : codeAmong pos ps.toList = some cv) (hb : s.heap.BuiltinsAt mg P)
    (h : ∀ (ctv : Value) (h' : Heap) (tk : Tok), (∀ b o, s.heap.get? b = some o → h'.get? b = some o) → s.heap.objs.size ≤ h'.objs.size →
      Q (.ref h'.objs.size) { s with heap := h'.push { cls := .type "function", data := .func (lad_fn qual params body scope clos dv ((mg "__name__").getD .none) cv ctv) }, toks := tk }) :
    wpAny M A (makeTail "<lambda>" qual params (.expr body) scope env dv .none none pos firstLine) Q E s := by
  obtain ⟨bm, ob, hbm, hne0, _, hneP, hbo, hcls, hdict, hdata⟩ := hb
  unfold makeTail
  rw [hcl, hge0]
  refine wpAny_bind (wpAny_pure ?_)
  cases clos with
  | nil =>
    simp only [List.isEmpty_nil, if_true]
    refine wpAny_bind (wpAny_pure ?_)
    refine wpAny_bind (wpAny_functionCode_hit hcode (C.code hP ht) hf ?_)
    refine wpAny_bind (wpAny_builtinsFor hg hbm hne0 hbo hcls hdict hdata ?_)
    refine wpAny_bind (wpAny_nsGet hg ?_)
    exact wpAny_bind (wpAny_pure (wpAny_newObj_type (h .none s.heap s.toks (fun _ _ e => e) (Nat.le_refl _)) (by size_fits)))
  | cons q r =>
    simp only [List.isEmpty_cons, Bool.false_eq_true, if_false]
    refine wpAny_bind (wpAny_newTextTuple ?_)
    refine wpAny_bind (wpAny_functionCode_hit hcode ((C.keeps fun b o e => Heap.get?_push_of_some _ e).code (Heap.get?_push_of_some _ hP) ht) hf ?_)
    refine wpAny_bind (wpAny_builtinsFor (hg.push _) hbm hne0 (Heap.get?_push_of_some _ hbo) hcls hdict hdata ?_)
    refine wpAny_bind (wpAny_nsGet (hg.push _) ?_)
    have hsz : ∀ oT : Obj, s.heap.objs.size ≤ (s.heap.push oT).objs.size := fun oT => by rw [Heap.size_push]; omega
    exact wpAny_bind (wpAny_pure (wpAny_newObj_type (h _ _ s.toks (fun b o e => Heap.get?_push_of_some _ e) (hsz _)) (by size_fits)))
end
/-- the default: none, or one value in a tuple of its own -/
def DvS (fs : List Addr) (nd : Bool) (dv : Value) (H : Hp) (h : Heap) : Prop := match nd with
  | false => dv = .none
  | true => ∃ (T : Addr) (it : Value), dv = .ref T ∧ h.get? T = some { cls := .type "tuple", data := .seq #[it] } ∧ H T = none ∧ T ∉ fs
theorem DvS.next {fs : List Addr} {dv : Value} {H H' : Hp} {h h' : Heap} : ∀ {nd : Bool}, DvS fs nd dv H h → (∀ T o, h.get? T = some o → H T = none → h'.get? T = some o ∧ H' T = none) → DvS fs nd dv H' h'
  | false, d, _ => d
  | true, ⟨T, it, e, h1, h2, h3⟩, k => ⟨T, it, e, (k _ _ h1 h2).1, (k _ _ h1 h2).2, h3⟩
section
variable {X : Cx} {pins : List (Addr × Obj)} {σ : L2.St} {H : Hp} {s : Shared}
/-- the lambda's function object is made behind its default -/
theorem lad_make {nd : Bool} {dv : Value} {T : List (Addr × Str)} {c P : Addr} {params : Arguments} {body : Expr} {scope : Scope} {pos : Pos} {E : Value → Shared → Prop} {Q : Value → Shared → Prop} (I : Inv X pins σ H s) (TB : TabB X.base X.mg c P) (hcode : X.env.code = .ref c)
    (hm : (P, X.env.qual ++ "<lambda>") ∈ T) (hu : ∀ p ∈ T, p.1 = P → p.2 = X.env.qual ++ "<lambda>") (hT : Tabs T H) (hdv : DvS (frs X.stack) nd dv H s.heap) (hfree : ∀ y ∈ scope.names, y.2 = .free → ∃ c, X.env.cells.lookup y.1 = some c)
    (h : ∀ (f c' : Addr) (pm ctv : Value) (H1 : Hp) (s' : Shared), Inv X pins σ H1 s' → ExtN H H1 → Tabs T H1 →
      s'.heap.get? f = some (lad_obj (X.env.qual ++ "<lambda>") params body scope (cloFrom X.env.cells scope.names []) dv pm c' ctv) → H1 f = none → f ∉ frs X.stack → H1 c' = some (CodeO c' (X.env.qual ++ "<lambda>")) → DvS (frs X.stack) nd dv H1 s'.heap → Q (.ref f) s') :
    wpAny (model X.prog X.w) X.A (makeTail "<lambda>" (X.env.qual ++ "<lambda>") params (.expr body) scope X.env dv .none none pos pos.line) Q E s := by
  obtain ⟨ps, hP, ht, ha⟩ := hT _ hm
  have bP : s.heap.BuiltinsAt X.mg P := TB.bm.keeps I.bk
  have hP' : s.heap.get? P = some { cls := .none, data := .fields ps } := I.hok P _ hP
  have nofr : ∀ f, s.heap.objs.size ≤ f → f ∉ frs X.stack := fun f hf z => by
    rcases List.mem_cons.mp (I.stkSub _ z) with e | e
    · have h1 := I.lt
      rw [← e] at h1
      exact Nat.lt_irrefl _ (Nat.lt_of_lt_of_le h1 hf)
    · exact I.nofs hf e
  cases hc : codeAmong pos ps.toList with
  | none =>
    refine lad_makeTail (mg := X.mg) (c := c) (P := P) (ps := ps) (closure_ok hfree) I.ok.glob (I.mod.glob.keeps I.bk) hcode (TB.code.keeps I.bk) hP' ht hc TB.gP bP fun c' ctv h' tk hx hge hlt hrec htb => ?_
    obtain ⟨c2, oc, vs, t, e2, hoc, hd, hv⟩ := hrec
    cases e2
    have hsz : s.heap.objs.size ≤ h'.objs.size := Nat.le_trans hge (Nat.le_of_lt hlt)
    have nC : H c' = none := I.hok.fresh hge
    have I1 := inv_table (t' := tk) (more := #[rawInt pos.line, rawInt pos.col, .ref c']) (h' := h'.push (lad_obj (X.env.qual ++ "<lambda>") params body scope (cloFrom X.env.cells scope.names []) dv ((X.mg "__name__").getD .none) c' ctv)) I hP
      (fun b o hb e => Heap.get?_push_of_some _ (hx b o hb e)) (Heap.get?_push_of_some _ htb) hge ⟨oc, vs, t, Heap.get?_push_of_some _ hoc, hd, hv⟩
    have hE : ExtN H (upd (upd H P (.tbl (ps ++ #[rawInt pos.line, rawInt pos.col, .ref c']))) c' (CodeO c' (X.env.qual ++ "<lambda>"))) := fun b o e n => by
      rw [upd_ne (ne_of_none e nC), upd_ne (fun z => n ps (Option.some.inj (e.symm.trans (by rw [z]; exact hP))))]
      exact e
    have eL : (ps ++ #[rawInt pos.line, rawInt pos.col, .ref c']).toList = ps.toList ++ [rawInt pos.line, rawInt pos.col, .ref c'] := by simp
    refine h h'.objs.size c' ((X.mg "__name__").getD .none) ctv _ _ I1 hE (fun p hp => ?_) (Heap.get?_push_size _ rfl) ?_ (nofr _ hsz) upd_same (hdv.next fun T o e1 e2 => ⟨?_, ?_⟩)
    · by_cases hb : p.1 = P
      · rw [hu p hp hb, hb]
        refine ⟨_, by rw [upd_ne (ne_of_none hP nC), upd_same], by rw [eL]; exact PySem.TriplesOk_snoc _ _ _ _ ht, fun p' cv hcv => ?_⟩
        rw [eL] at hcv
        rcases among_app _ ht hcv with z | z
        · obtain ⟨c0, e1, e2⟩ := ha p' cv z
          exact ⟨c0, e1, hE _ _ e2 codeO_ne⟩
        · exact ⟨c', z, upd_same⟩
      · obtain ⟨ps', a1, a2, a3⟩ := hT p hp
        refine ⟨ps', by rw [upd_ne (ne_of_none a1 nC), upd_ne hb]; exact a1, a2, fun p' cv hcv => ?_⟩
        obtain ⟨c0, e1, e2⟩ := a3 p' cv hcv
        exact ⟨c0, e1, hE _ _ e2 codeO_ne⟩
    · have n1 : h'.objs.size ≠ c' := Nat.ne_of_gt hlt
      have n2 : h'.objs.size ≠ P := Nat.ne_of_gt (Nat.lt_of_lt_of_le (Heap.lt_size hP') hsz)
      rw [upd_ne n1, upd_ne n2]
      exact I.hok.fresh hsz
    · exact Heap.get?_push_of_some _ (hx _ _ (fun z => by rw [z, hP] at e2; cases e2) e1)
    · rw [upd_ne (Nat.ne_of_lt (Nat.lt_of_lt_of_le (Heap.lt_size e1) hge)), upd_ne (fun z => by rw [z, hP] at e2; cases e2)]
      exact e2
  | some cv =>
    obtain ⟨c', e, hco⟩ := ha pos cv hc
    subst e
    refine lad_makeTailHit (mg := X.mg) (c := c) (P := P) (ps := ps) (closure_ok hfree) I.ok.glob (I.mod.glob.keeps I.bk) hcode (TB.code.keeps I.bk) hP' ht hc bP fun ctv h' tk hx hsz => ?_
    have I1 : Inv X pins σ H { s with heap := h'.push (lad_obj (X.env.qual ++ "<lambda>") params body scope (cloFrom X.env.cells scope.names []) dv ((X.mg "__name__").getD .none) c' ctv), toks := tk } := I.kept fun b o e => Heap.get?_push_of_some _ (hx b o e)
    exact h h'.objs.size c' ((X.mg "__name__").getD .none) ctv H _ I1 (ExtN.refl H) hT (Heap.get?_push_size _ rfl) (I.hok.fresh hsz) (nofr _ hsz) hco (hdv.next fun T o e1 e2 => ⟨Heap.get?_push_of_some _ (hx _ _ e1), e2⟩)

/-- how the lambda is written: its parameter's default -/
def LamP (params : Arguments) (env : Env) (nd : Bool) : Prop := params.kwonlyargs = [] ∧ match nd with
  | false => defaultsOf params env = ([], [])
  | true => ∃ (i : Int) (j : Nat) (p0 : Pos), defaultsOf params env = ([eval (.Constant (.int i) j p0) env], [])
theorem lad_make2 {nd : Bool} {T : List (Addr × Str)} {c P : Addr} {params : Arguments} {body : Expr} {scope : Scope} {pos : Pos} {Q : Value → Shared → Prop} (I : Inv X pins σ H s) (TB : TabB X.base X.mg c P) (hcode : X.env.code = .ref c)
    (hm : (P, X.env.qual ++ "<lambda>") ∈ T) (hu : ∀ p ∈ T, p.1 = P → p.2 = X.env.qual ++ "<lambda>") (hT : Tabs T H) (hp : LamP params X.env nd) (hfree : ∀ y ∈ scope.names, y.2 = .free → ∃ c, X.env.cells.lookup y.1 = some c)
    (h : ∀ (f c' : Addr) (dv pm ctv : Value) (H1 : Hp) (s' : Shared), Inv X pins σ H1 s' → ExtN H H1 → Tabs T H1 →
      s'.heap.get? f = some (lad_obj (X.env.qual ++ "<lambda>") params body scope (cloFrom X.env.cells scope.names []) dv pm c' ctv) → H1 f = none → f ∉ frs X.stack → H1 c' = some (CodeO c' (X.env.qual ++ "<lambda>")) → DvS (frs X.stack) nd dv H1 s'.heap → Q (.ref f) s') :
    wpAny (model X.prog X.w) X.A (eval (.Lambda params body scope pos) X.env) Q X.xe s := by
  rw [arm_eval_Lambda]
  obtain ⟨hk, hd⟩ := hp
  cases nd with
  | false =>
    rw [show defaultsOf params X.env = ([], []) from hd]
    refine wpAny_bind (wpAny_pure (wpAny_bind (wpAny_holding (wpAny_pure ?_))))
    show wpAny _ _ (makeFunction "<lambda>" (X.env.qual ++ "<lambda>") params (.expr body) scope X.env [] [] [] pos pos.line) _ _ _
    rw [makeFunction_eq, hk]
    simp only [List.zip_nil_left, List.filterMap_nil, List.isEmpty_nil, if_true, pure_bind]
    exact lad_make (nd := false) I TB hcode hm hu hT rfl hfree fun f c' pm ctv H1 s' => h f c' _ pm ctv H1 s'
  | true =>
    obtain ⟨i, j, p0, hd⟩ := hd
    rw [hd]
    show wpAny _ _ (do let dv ← (do let v ← eval (.Constant (.int i) j p0) X.env; return v :: (← holding [v] (evalAll []))); let kdv ← holding dv (evalAllOpt []); makeFunction "<lambda>" (X.env.qual ++ "<lambda>") params (.expr body) scope X.env dv kdv [] pos pos.line) _ _ _
    refine wpAny_bind (wpAny_bind (thn ((pe_int (X := X) (i := i) (j := j) (pos := p0)).run pins s σ H (fun v H1 => H1 = H) I rfl) fun v s1 ⟨v', H1, I1, rv, eH⟩ => ?_))
    rw [eH] at I1
    refine wpAny_bind (wpAny_holding (wpAny_pure (wpAny_pure ?_)))
    refine wpAny_bind (wpAny_holding (wpAny_pure ?_))
    show wpAny _ _ (makeFunction "<lambda>" (X.env.qual ++ "<lambda>") params (.expr body) scope X.env [v] [] [] pos pos.line) _ _ _
    rw [makeFunction_eq, hk]
    simp only [List.zip_nil_left, List.filterMap_nil, List.isEmpty_nil, List.isEmpty_cons, Bool.false_eq_true, if_false, if_true, pure_bind]
    refine wpAny_bind (wpAny_newTextTuple ?_)
    have I2 : Inv X pins σ H { s1 with heap := s1.heap.push { cls := .type "tuple", data := .seq [v].toArray }, toks := s1.toks } := I1.kept fun b o e => Heap.get?_push_of_some _ e
    refine lad_make (nd := true) I2 TB hcode hm hu hT ⟨s1.heap.objs.size, v, rfl, Heap.get?_push_size _ rfl, I1.hok.fresh (Nat.le_refl _), fun z => ?_⟩ hfree fun f c' pm ctv H1 s' => h f c' _ pm ctv H1 s'
    rcases List.mem_cons.mp (I1.stkSub _ z) with e | e
    · have h1 := I1.lt
      rw [← e] at h1
      exact Nat.lt_irrefl _ h1
    · exact I1.nofs (Nat.le_refl _) e
end
end DLam
end

section
set_option Elab.async false
set_option linter.all false
set_option maxRecDepth 100000
set_option maxHeartbeats 4000000
namespace DLam
open PySem PySem.Spec PySem.Calls PyProof.Rows L2 LamX
/-- the lambda's names: captured ones, globals, a parameter that nothing else is called -/
structure LamD (sc scope : Scope) (N : List Str) : Prop where
  kind : scope.kind = .function
  co : scope.isCoroutine = false
  gen : scope.isGenerator = false
  cell : ∀ y ∈ scope.names, y.2 ≠ .cell
  own : ∀ y ∈ scope.names, y.2 = .local → y.1 ∉ N
  free : ∀ y ∈ scope.names, y.2 = .free → sc.names.lookup y.1 = some .cell ∨ sc.names.lookup y.1 = some .free
def lamDB (sc scope : Scope) (N : List Str) : Bool :=
  decide (scope.kind = .function) && !scope.isCoroutine && !scope.isGenerator && scope.names.all fun y => !decide (y.2 = .cell) && (!decide (y.2 = .local) || decide (y.1 ∉ N)) && (!decide (y.2 = .free) || decide (sc.names.lookup y.1 = some .cell) || decide (sc.names.lookup y.1 = some .free))
theorem lamD_by {sc scope : Scope} {N : List Str} (h : lamDB sc scope N = true) : LamD sc scope N := by
  unfold lamDB at h
  simp only [Bool.and_eq_true, Bool.or_eq_true, Bool.not_eq_true', decide_eq_true_eq, decide_eq_false_iff_not, List.all_eq_true] at h
  obtain ⟨⟨⟨h1, h2⟩, h3⟩, h4⟩ := h
  refine ⟨h1, h2, h3, fun y hy => (h4 y hy).1.1, fun y hy e => ?_, fun y hy e => ?_⟩
  · rcases (h4 y hy).1.2 with z | z
    · exact absurd e z
    · exact z
  · rcases (h4 y hy).2 with (z | z) | z
    · exact absurd e z
    · exact .inl z
    · exact .inr z
theorem LamD.has {X : Cx} {scope : Scope} {N : List Str} (L : LamD X.env.scope scope N) (ok : X.Ok) : ∀ y ∈ scope.names, y.2 = .free → ∃ c, X.env.cells.lookup y.1 = some c := fun y hy e => by
  rcases L.free y hy e with k | k
  · exact ok.has _ (.inl k)
  · exact ok.has _ (.inr k)
/-- how its parameter is bound -/
def LamB (params : Arguments) (body : Expr) (scope : Scope) (nd : Bool) : Prop := match nd with
  | false => ∀ (q : Str) (cl : List (Str × Addr)) (pm cv ctv : Value), bindArgs (lad_fn q params body scope cl .none pm cv ctv) ⟨[], []⟩ = pure []
  | true => ∃ a, scope.names.lookup a = some .local ∧ ∀ (q : Str) (cl : List (Str × Addr)) (pm cv ctv : Value) (T : Addr) (it : Value), ∃ k : Option (Array Value) → Sem (List (Str × Value)),
      bindArgs (lad_fn q params body scope cl (.ref T) pm cv ctv) ⟨[], []⟩ = seqItems? (.ref T) >>= k ∧ k (some #[it]) = pure [(a, it)]
theorem LamB.to {fs : List Addr} {params : Arguments} {body : Expr} {scope : Scope} {qual : Str} {cl : List (Str × Addr)} {dv pm cv ctv : Value} {H : Hp} {h : Heap} {s : Shared} : ∀ {nd : Bool}, LamB params body scope nd → DvS fs nd dv H h → (∀ T o, h.get? T = some o → H T = none → T ∉ fs → s.heap.get? T = some o) →
    ∃ bnd, BindsTo s (lad_fn qual params body scope cl dv pm cv ctv) ⟨[], []⟩ bnd ∧ ∀ y ∈ bnd, scope.names.lookup y.1 = some .local
  | false, b, d, _ => by
    have d' : dv = .none := d
    subst d'
    exact ⟨[], BindsTo.of_eq (b _ _ _ _ _), fun y hy => absurd hy (by simp)⟩
  | true, ⟨a, ha, b⟩, ⟨T, it, e, h1, h2, h3⟩, k => by
    subst e
    obtain ⟨kk, b1, b2⟩ := b qual cl pm cv ctv T it
    refine ⟨[(a, it)], BindsTo.of_defaults (items := #[it]) rfl (k _ _ h1 h2 h3) rfl b1 b2, fun y hy => ?_⟩
    simp only [List.mem_cons, List.not_mem_nil, or_false] at hy
    subst hy
    exact ha
section
variable {X : Cx} {pins : List (Addr × Obj)} {σ : L2.St} {H HZ : Hp} {s s1 : Shared}
theorem lad_start {A : Around} {outer : List Env} {E : XK} {scope : Scope} {f c' : Addr} {h₁ : Heap} {tk : Nat} (I : Inv X pins σ H s) (L : LamD X.env.scope scope X.N) (e0 : Env0 X.prog X.w X.K X.mg X.base A outer s1 HZ) (hd : A.handled = none)
    (un : Un (frs X.stack) [] H HZ s.heap s1.heap) {bnd : List (Str × Value)} (hns : h₁.Ns s1.heap.objs.size fun y => bnd.reverse.lookup y) (kp : ∀ b o, s1.heap.get? b = some o → h₁.get? b = some o) :
    Inv (lamCx X A outer s1 HZ E scope f c') [] σ HZ { s1 with heap := h₁, toks := tk } := by
  have hfree := L.has I.ok
  have cm : ∀ {y c}, (cloFrom X.env.cells scope.names []).lookup y = some c → X.env.cells.lookup y = some c := fun {y c} e => by
    rcases cloFrom_mem (PySem.mem_of_lookup e) with hm | ⟨h1, h2⟩
    · cases hm
    · obtain ⟨c1, hc⟩ := hfree _ h1 rfl
      have hc : X.env.cells.lookup y = some c1 := hc
      have e2 : c = c1 := by
        rw [h2, hc] <;> rfl
      rw [e2]
      exact hc
  have look : ∀ {y}, scope.names.lookup y = some .free → ∃ c, (cloFrom X.env.cells scope.names []).lookup y = some c := fun {y} hl => by
    have hy : (y, NameKind.free) ∈ scope.names := PySem.mem_of_lookup hl
    exact mem_lookup (cloFrom_has (cells := X.env.cells) (acc := []) hy)
  have cellK : ∀ {c : Addr} {v : Option Value}, H c = none → s.heap.IsCell c v → h₁.IsCell c v := fun {c v} n ⟨o, ho, hd⟩ => by
    obtain ⟨sl, q⟩ := un.any ho n (by simp)
    exact ⟨_, kp _ _ q, hd⟩
  have noA : ∀ b : Addr, b ∉ (lamCx X A outer s1 HZ E scope f c').ex := fun b z => absurd (show b ∈ ([] : List Addr) from z) (by simp)
  refine ⟨⟨e0.mod, L.kind, rfl, rfl, Nat.le_refl _, fun y z c e1 e2 => I.ok.inj y z c (cm e1) (cm e2), fun y hy => ?_, fun y c z _ => ?_, fun _ => hd, Around.frames_deeper e0.frames, .inr ⟨rfl, rfl⟩, fun b z => absurd z (noA b), e0.bs, e0.bsz, fun b _ _ => noA b,
      fun b z => absurd z (noA b), e0.funs, e0.frf⟩,
    rfl, e0.bare, Un.kept kp, ⟨_, hns, fun i y v e1 e2 e3 => ?_⟩, fun y c e => ?_, e0.hok.fresh (Nat.le_refl _), fun y c e => ?_, fun q hq => absurd (show q ∈ ([] : List (Addr × Obj)) ++ [] from hq) (by simp), e0.hok.kept kp, I.len⟩
  · have hy : scope.names.lookup y = some .cell ∨ scope.names.lookup y = some .free := hy
    rcases hy with hy | hy
    · exact absurd rfl (L.cell _ (PySem.mem_of_lookup hy))
    · exact look hy
  · have z : false = true := z
    cases z
  · have e3 : Vis scope y := e3
    rcases e3 with k | k | k
    · exact absurd (List.mem_of_getElem? e1) (L.own _ (PySem.mem_of_lookup k) rfl)
    · exact absurd rfl (L.cell _ (PySem.mem_of_lookup k))
    · obtain ⟨m, hn, hl⟩ := I.loc
      have hvis : Vis X.env.scope y := (L.free _ (PySem.mem_of_lookup k) rfl).elim (fun k => .inr (.inl k)) (fun k => .inr (.inr k))
      obtain ⟨w', r, q⟩ := hl i y v e1 e2 hvis
      obtain ⟨c2, h2⟩ := look k
      refine ⟨w', r, .inr ⟨.inr k, c2, h2, ?_⟩⟩
      have c1 := cm h2
      rcases q with ⟨k', _⟩ | ⟨_, c3, e', z⟩
      · have k' : X.env.scope.names.lookup y = some .local := k'
        rcases L.free _ (PySem.mem_of_lookup k) rfl with k2 | k2 <;> rw [show X.env.scope.names.lookup y = _ from k2] at k' <;> cases k'
      · rw [c1] at e'
        cases e'
        exact cellK (I.freeC y _ c1) z
  · obtain ⟨w', z⟩ := I.cell y c (cm e)
    exact ⟨w', cellK (I.freeC y c (cm e)) z⟩
  · obtain ⟨v, o, ho, hd⟩ := I.cell y c (cm e)
    exact un.free c o ho (I.freeC y c (cm e)) (by simp)
/-- x(), in the def that got the lambda: Z is that def's context, entered at s -/
theorem lad_act {nd : Bool} {dv : Value} {CXg : CXT} {Eg : XK} {Ng : List Str} {qg : Str} {sg : Scope} {g f c' : Addr} {cdg pm ctv : Value} {params : Arguments} {body : Expr} {scope : Scope} {k i : Nat} {a : Str} {pn : List (Addr × Obj)} {xe : Value → Shared → Prop} {W : WX} {tb : XK → TE} {p1 p2 : Pos}
    (I : Inv X pins σ H s) (L : LamD X.env.scope scope X.N) (hf : s.heap.get? f = some (lad_obj (X.env.qual ++ "<lambda>") params body scope (cloFrom X.env.cells scope.names []) dv pm c' ctv)) (hfn : H f = none) (hfr : f ∉ frs X.stack)
    (hdv : DvS (frs X.stack) nd dv H s.heap) (hbind : LamB params body scope nd)
    (tk : Takes ((cxOf CXg X.prog X.w X.K X.mg X.base Ng qg sg g cdg X.A X.stack s H Eg).tr pn xe) W) (hr : Room (k + 1) (X.A.deeper (envOfC qg sg s.heap.objs.size g cdg)))
    (hbody : ∀ (A : Around) (outer : List Env) (s : Shared) (H : Hp) (E : XK), Room k (A.deeper (lamEnv X scope s.heap.objs.size f c')) → PE (lamCx X A outer s H E scope f c') body (tb E))
    (hN : Ng[i]? = some a) (hv : Vis sg a) (hd : (a == ("__debug__" : Str)) = false := by decide) (hcd : (a == ("__classdict__" : Str)) = false := by decide) :
    PE ((cxOf CXg X.prog X.w X.K X.mg X.base Ng qg sg g cdg X.A X.stack s H Eg).tr pn xe) (.Call (.Name a p1) [] [] p2)
      (fun σZ HZ Q => σZ[i]? = some (some (.ref f)) ∧ HZ c' = some (CodeO c' (X.env.qual ++ "<lambda>")) ∧ tb (WE W σZ) σ HZ Q) := by
  refine ⟨fun pinsZ sZ σZ HZ Q IZ h => ?_⟩
  obtain ⟨hs, hc, ht⟩ := h
  refine wpAny_Call_Name_kw (thn ((pe_var (pos := p1) (i := i) hN hv hd hcd).run pinsZ sZ σZ HZ (fun v H1 => v = .ref f ∧ H1 = HZ) IZ ⟨.ref f, hs, rfl, rfl⟩) fun u s1 ⟨v, H1, I1, r1, q1⟩ => ?_)
  obtain ⟨ev, eH⟩ := q1
  subst ev
  rw [eH] at I1
  obtain rfl : u = Value.ref f := r1
  have of1 : s1.heap.get? f = some (lad_obj (X.env.qual ++ "<lambda>") params body scope (cloFrom X.env.cells scope.names []) dv pm c' ctv) := I1.base.keep f _ hf hfn hfr (fun z => nomatch (show f ∈ ([] : List Addr) from z))
  refine PySem.W.callWith_F0 ⟨_, _, _, _, of1⟩ ?_
  have un : Un (frs X.stack) [] H HZ s.heap s1.heap := I1.base
  obtain ⟨⟨oc, vs, t, hoc, hdc, hvc⟩, _, _⟩ := I1.hok c' _ hc
  have rc : codeAny (model X.prog X.w) (X.A.deeper (envOfC qg sg s.heap.objs.size g cdg)) (.call (.ref f) ⟨[], []⟩) (CR (L2.CX X.prog X.w) (envOfC qg sg s.heap.objs.size g cdg :: X.stack) X.prog X.w HZ s1 Q (WE W σZ)) s1 := by
    refine PySem.W.kla_callFunE hr.depth of1 rfl L.co L.gen rfl ⟨c', oc, vs, t, rfl, hoc, hdc, hvc⟩ ?_
    obtain ⟨bnd, hB, hloc⟩ := hbind.to (qual := X.env.qual ++ "<lambda>") (cl := cloFrom X.env.cells scope.names []) (pm := pm) (cv := .ref c') (ctv := ctv) (s := s1) (hdv.next (H' := H) fun T o e1 e2 => ⟨e1, e2⟩) (fun T o e1 e2 e3 => I1.base.keep T o e1 e2 e3 (fun z => nomatch (show T ∈ ([] : List Addr) from z)))
    refine hB _ _ _ _ (wpAny_newFunctionEnv L.cell hloc (fun h₁ hns hsb => ⟨I1.nolimit.fresh _ hsb, ?_⟩) L.kind)
    show codeAny _ _ (.expr body (lamEnv X scope s1.heap.objs.size f c')) _ _
    have kp : ∀ b o, s1.heap.get? b = some o → h₁.get? b = some o := fun b o e => hsb.extBut b o (Nat.ne_of_lt (Heap.lt_size e)) (Heap.get?_push_of_some _ e)
    have J : Inv (lamCx X (X.A.deeper (envOfC qg sg s.heap.objs.size g cdg)) (envOfC qg sg s.heap.objs.size g cdg :: X.stack) s1 HZ (WE W σZ) scope f c') [] σ HZ { s1 with heap := h₁, toks := s1.toks + bnd.length } :=
      lad_start I L I1.env0 hr.hd un hns kp
    refine PySem.W.kla_codeExpr (wpAny_mono ((hbody _ _ s1 HZ _ (hr.deeper _)).run [] _ _ HZ Q J ht) (fun v s' hq => ?_) fun e s' hq => hq)
    obtain ⟨w', H', J', rv, q⟩ := hq
    exact ⟨w', H', J'.os, J'.bare, J'.base, J'.hok, rv, q⟩
  have hx := passAt tk σZ
  refine wpAny_call (codeAny_mono rc fun r s' hq => ?_)
  cases r with
  | error e => exact hx pinsZ HZ s1 e s' I1 hq
  | ok fl =>
    cases fl with
    | ret u => exact I1.after hq
    | next => exact False.elim hq
    | brk => exact False.elim hq
    | cont => exact False.elim hq
end

/-- the def that calls what it got, under its name a; TT: what it makes of the lambda's reading -/
def GivesW (X : Cx) (Ng : List Str) (x : Str) (sg : Scope) (g : Addr) (cdg : Value) (bg : List Stmt) (a : Str) (q : Str) (TT : (XK → Hp → VK → Prop) → Hp → VK → Prop) : Prop :=
  ∀ (f c' : Addr) (s : Shared) (H : Hp) (Q : VK) (tl : XK → Hp → VK → Prop),
    (∀ (W : WX) (pn : List (Addr × Obj)) (xe : Value → Shared → Prop) (p1 p2 : Pos), Takes ((cxOf C8.CX0 X.prog X.w X.K X.mg X.base Ng x sg g cdg X.A X.stack s H C8.E0).tr pn xe) W →
      PE ((cxOf C8.CX0 X.prog X.w X.K X.mg X.base Ng x sg g cdg X.A X.stack s H C8.E0).tr pn xe) (.Call (.Name a p1) [] [] p2) (fun σZ HZ Q => σZ[0]? = some (some (.ref f)) ∧ HZ c' = some (CodeO c' q) ∧ tl (WE W σZ) HZ Q)) →
    H c' = some (CodeO c' q) → Room 1 (X.A.deeper (envOfC x sg s.heap.objs.size g cdg)) → TT tl H Q →
    ∃ t, PSs (cxOf C8.CX0 X.prog X.w X.K X.mg X.base Ng x sg g cdg X.A X.stack s H C8.E0).nox bg t ∧ t { nx := fun _ H' => Q .non H', rt := Q } (L2.start Ng [.ref f]) H
section
variable {X : Cx}
/-- x(lambda: body) -/
theorem lad_call {nd : Bool} {T : List (Addr × Str)} {TT : (XK → Hp → VK → Prop) → Hp → VK → Prop} {x a : Str} {g c P : Addr} {k : Nat} {pg : Arguments} {bg : List Stmt} {sg : Scope} {dV kV doc pm cdv ct oc : Value} {an od : Option Addr} {osl : Array (Option Value)} {Ng : List Str}
    {params : Arguments} {body : Expr} {scope : Scope} {t : XK → TE} {p lpos pos : Pos} (hg : Gl X x) (hm : X.mg x = some (.ref g)) (hk : PySem.W.keepIn X.K (.ref g) = true)
    (lk : X.K.lookup g = some ⟨oc, od, .func (PySem.W.fnOf x x pg bg sg dV kV doc pm an cdv ct), osl⟩) (hcg : PySem.W.codeIn X.K cdv x = true) (hb : L2.Binds X.K (PySem.W.fnOf x x pg bg sg dV kV doc pm an cdv ct) [a] []) (Sg : FnScope Ng [a] sg) (hNg : Ng[0]? = some a) (hva : Vis sg a)
    (hG : GivesW X Ng x sg g cdv bg a (X.env.qual ++ "<lambda>") TT)
    (TB : TabB X.base X.mg c P) (hcode : X.env.code = .ref c) (hmT : (P, X.env.qual ++ "<lambda>") ∈ T) (hu : ∀ p ∈ T, p.1 = P → p.2 = X.env.qual ++ "<lambda>") (hr : Room (k + 2) X.A) (L : LamD X.env.scope scope X.N) (hdef : LamP params X.env nd)
    (hbind : LamB params body scope nd)
    (hbody : ∀ (A : Around) (outer : List Env) (s : Shared) (H : Hp) (E : XK) (f c' : Addr), Room k (A.deeper (lamEnv X scope s.heap.objs.size f c')) → PE (lamCx X A outer s H E scope f c') body (t E))
    (hdb : (x == ("__debug__" : Str)) = false := by decide) (hd : (a == ("__debug__" : Str)) = false := by decide) (hcd : (a == ("__classdict__" : Str)) = false := by decide) :
    PE X (.Call (.Name x p) [.Lambda params body scope lpos] [] pos) (tLam T TT t) := by
  refine ⟨fun pins s σ H Q I h => ?_⟩
  obtain ⟨hT, h⟩ := h
  refine wpAny_Call_Name_kw (ld_glob I hg hm ?_ hdb)
  refine PySem.W.callWith_K (h₀ := X.base) I.ok.mod.kin hk ?_ (by rfl) (by rfl)
  show wpAny _ _ (spliced ((false, eval (.Lambda params body scope lpos) X.env) :: backTo pos (starEach [] X.env))) _ _ s
  refine Calls.spliced_cons (lad_make2 I TB hcode hmT hu hT hdef (L.has I.ok) fun f c' dv pm' ctv H1 s' I1 eN T1 hf hfn hfr hco hdv => ?_)
  refine Calls.spliced_nil ⟨I1.kIn, ?_⟩
  have rc : codeAny (model X.prog X.w) X.A (.call (.ref g) ⟨[.ref f], []⟩) (CR C8.CX0 X.stack X.prog X.w H1 s' Q C8.E0) s' := by
    refine run_ofS (N := Ng) (ps := [a]) (us := [.ref f]) (vs := [.ref f]) lk hcg Sg hr I1.env0 (hb s' [.ref f] I1.kIn rfl) (.cons rfl .nil) rfl fun hr' => ?_
    obtain ⟨t', ht', hq'⟩ := hG f c' s' H1 Q (fun E H' Q' => t E σ H' Q') (fun W pn xe p1 p2 tk => lad_act (i := 0) I1 L hf hfn hfr hdv hbind tk hr' (fun A outer s H E hr2 => hbody A outer s H E f c' hr2) hNg hva hd hcd) hco (hr'.mono (Nat.le_add_left 1 k)) (h H1 eN T1)
    exact ⟨t', ht'.nox, hq'⟩
  refine wpAny_call (codeAny_mono rc fun r s2 hq => ?_)
  cases r with
  | error e => exact (show False from hq).elim
  | ok fl =>
    cases fl with
    | ret u => exact I1.after hq
    | next => exact False.elim hq
    | brk => exact False.elim hq
    | cont => exact False.elim hq
end
end DLam
end

section
set_option Elab.async false
set_option linter.all false
set_option maxRecDepth 100000
set_option maxHeartbeats 4000000
/-! DHeard: a def that is handed a lambda and calls it, over data. -/
namespace DL
open PySem PySem.Spec L2 PyProof.Rows DLam LamX
variable [Tbls]
/-- the slots that hold data -/
def vals (r : Rho) : Rho := r.map fun x => match x with
  | .own _ _ => .no
  | x => x
theorem vals_val {r : Rho} {i : Nat} {d : D} (h : (vals r)[i]? = some (.val d)) : r[i]? = some (.val d) := by
  unfold vals at h
  rw [List.getElem?_map] at h
  cases e : r[i]? with
  | none => rw [e] at h; cases h
  | some x =>
    rw [e] at h
    cases x <;> simp at h
    subst h; rfl
theorem vals_own {r : Rho} {i k : Nat} {o : Ob} : (vals r)[i]? ≠ some (.own k o) := fun h => by
  unfold vals at h
  rw [List.getElem?_map] at h
  cases e : r[i]? with
  | none => rw [e] at h; cases h
  | some x =>
    rw [e] at h
    cases x <;> simp at h
/-- the state of the lambda's body -/
theorem St.vals {K : PySem.W.Frag} {p : Pm} {G Gz H Hz : Hp} {r : Rho} {σ : L2.St} (s : St K p G r σ H) (ex : Ex G Gz) (sub : Ex Gz Hz) (nt : Nt Gz) (tb : Tabs Tbls.T Hz) : St K ⟨p.cl, Hz, Gz, fun _ => 0, []⟩ Gz (DL.vals r) σ Hz where
  len := by unfold DL.vals; rw [List.length_map]; exact s.len
  sub := sub
  nt := nt
  base := Kp.refl Hz
  fr := fun a h0 h1 => absurd h0 h1
  val := fun i d h => by
    obtain ⟨v, h1, h2⟩ := s.val i d (vals_val h)
    exact ⟨v, h1, h2.mono ex⟩
  own := fun i k o h => absurd h vals_own
  sep := fun i j k k' o o' _ h => absurd h vals_own
  hid := fun q hq => absurd hq (by simp)
  g0 := Ex.refl Gz
  tab := tb
/-- what comes of the lambda -/
def lamO (mb : M D) (r : Rho) : Rs := match mb (vals r) with
  | .ok d _ => .ok d
  | .err e _ => .err e
  | .bad => .bad
def mHeard (g : Rs → Rs) (mb : M D) : M D := fun r => match g (lamO mb r) with
  | .ok d => .ok d r
  | _ => .bad
/-- a call of what was handed in; its address is f -/
def mAsk (f : Addr) (o : Rs) : M D := fun (r : Rho) => match (r[0]? : Option Sl) with
  | some (Sl.val (D.adr f')) => if f' = f then (match o with
    | .ok d => .ok d r
    | .err e => .err e r
    | .bad => .bad) else .bad
  | _ => .bad
/-- what the def makes of the reading of a lambda that comes to o -/
def TTh (K : PySem.W.Frag) (cl : String → Addr) (g : Rs → Rs) : (XK → Hp → VK → Prop) → Hp → VK → Prop := fun tl H Q => ∃ G o, Tabs Tbls.T H ∧ Ex G H ∧ Nt G ∧
  (∀ Gz HZ E Qz, Kp H HZ → Ex G Gz → Ex Gz HZ → Nt Gz → (match o with
    | .ok d => ∀ v G' H', Grow Gz HZ G' H' → Rep K cl G' v d → Qz v H'
    | .err e => ∀ c dd G' H', Grow Gz HZ G' H' → RepX K cl G' e c dd → E c dd H'
    | .bad => False) → tl E HZ Qz) ∧
  (match g o with
    | .ok d => ∀ v G' H', Grow G H G' H' → Rep K cl G' v d → Q v H'
    | _ => False)
/-- the def that hears, as the module's name holds it -/
def RH (P : Program) (w : World) (K : PySem.W.Frag) (mg : Str → Option Value) (base : Heap) (cl : String → Addr) (x : Str) (g : Rs → Rs) : Prop :=
  ∃ (gA : Addr) (pg : Arguments) (bg : List Stmt) (sg : Scope) (dV kV doc pm cdg ct oc : Value) (an od : Option Addr) (osl : Array (Option Value)) (Ng : List Str) (a : Str) (mh : Addr → Rs → M Fl),
    mg x = some (.ref gA) ∧ PySem.W.keepIn K (.ref gA) = true ∧ K.lookup gA = some ⟨oc, od, .func (PySem.W.fnOf x x pg bg sg dV kV doc pm an cdg ct), osl⟩ ∧ PySem.W.codeIn K cdg x = true ∧
    L2.Binds K (PySem.W.fnOf x x pg bg sg dV kV doc pm an cdg ct) [a] [] ∧ FnScope Ng [a] sg ∧ Ng[0]? = some a ∧ Vis sg a ∧ (a == ("__debug__" : Str)) = false ∧ (a == ("__classdict__" : Str)) = false ∧
    (∀ f o, fnD Ng.length (mh f o) [.adr f] = g o) ∧
    ∀ (A : Around) (outer : List Env) (s : Shared) (H G : Hp) (f : Addr) (o : Rs), Room 1 (A.deeper (envOfC x sg s.heap.objs.size gA cdg)) →
      (∀ (W : WX) (pn : List (Addr × Obj)) (xe : Value → Shared → Prop) (p1 p2 : Pos), Takes ((cxOf C8.CX0 P w K mg base Ng x sg gA cdg A outer s H C8.E0).tr pn xe) W →
        DE ((cxOf C8.CX0 P w K mg base Ng x sg gA cdg A outer s H C8.E0).tr pn xe) ⟨cl, H, G, fun _ => 0, []⟩ W (.Call (.Name a p1) [] [] p2) (mAsk f o)) →
      DSs (cxOf C8.CX0 P w K mg base Ng x sg gA cdg A outer s H C8.E0).nox ⟨cl, H, G, fun _ => 0, []⟩ (fun _ _ _ _ => False) bg (mh f o)
structure Hf (X : Cx) (cl : String → Addr) (x : Str) (g : Rs → Rs) : Prop where
  ex : RH X.prog X.w X.K X.mg X.base cl x g
theorem gives_h {X : Cx} {cl : String → Addr} {Ng : List Str} {x a : Str} {sg : Scope} {gA : Addr} {cdg : Value} {bg : List Stmt} {q : Str} {g : Rs → Rs} {mh : Addr → Rs → M Fl} (hg : ∀ f o, fnD Ng.length (mh f o) [.adr f] = g o)
    (hD : ∀ (A : Around) (outer : List Env) (s : Shared) (H G : Hp) (f : Addr) (o : Rs), Room 1 (A.deeper (envOfC x sg s.heap.objs.size gA cdg)) →
      (∀ (W : WX) (pn : List (Addr × Obj)) (xe : Value → Shared → Prop) (p1 p2 : Pos), Takes ((cxOf C8.CX0 X.prog X.w X.K X.mg X.base Ng x sg gA cdg A outer s H C8.E0).tr pn xe) W →
        DE ((cxOf C8.CX0 X.prog X.w X.K X.mg X.base Ng x sg gA cdg A outer s H C8.E0).tr pn xe) ⟨cl, H, G, fun _ => 0, []⟩ W (.Call (.Name a p1) [] [] p2) (mAsk f o)) →
      DSs (cxOf C8.CX0 X.prog X.w X.K X.mg X.base Ng x sg gA cdg A outer s H C8.E0).nox ⟨cl, H, G, fun _ => 0, []⟩ (fun _ _ _ _ => False) bg (mh f o)) :
    GivesW X Ng x sg gA cdg bg a q (TTh X.K cl g) := by
  intro f c' s H Q tl act hc hr ⟨G, o, tb, ex, nt, hask, hq⟩
  refine ⟨_, (hD X.A X.stack s H G f o hr fun W pn xe p1 p2 tk => ⟨PE.imp (act W pn xe p1 p2 tk) fun σZ HZ Qz ⟨Gz, r, st, qq⟩ => ?_⟩).run, G, startR Ng.length [.adr f], St.start (vs := [V.ref f]) tb ex nt (.cons (.adr f) .nil), ?_⟩
  · unfold mAsk at qq
    split at qq
    · rename_i f' hf
      split at qq
      · rename_i e
        subst e
        obtain ⟨v, h1, h2⟩ := st.val 0 _ hf
        cases h2
        refine ⟨h1, st.base.1 _ _ hc codeO_ne, hask Gz HZ _ Qz st.base st.g0 st.sub st.nt ?_⟩
        cases o with
        | ok d => exact fun v G' H' g' rv => qq v G' H' (st.grow g') g'.ex rv
        | err e => exact fun c dd G' H' g' rx => qq c dd G' H' (st.grow g') g'.ex rx
        | bad => exact qq.elim
      · exact qq.elim
    · exact qq.elim
  · have e0 := hg f o
    unfold fnD at e0
    rw [← e0] at hq
    cases e : mh f o (startR Ng.length [.adr f]) with
    | ok fl r1 =>
      rw [e] at hq
      cases fl with
      | nx => exact fun G' σ' H' s' ex' => hq .non G' H' (s'.grew ex') .non
      | rt d => exact fun v G' σ' H' s' ex' rv => hq v G' H' (s'.grew ex') rv
      | ro d => exact hq.elim
      | bk => exact hq.elim
      | ct => exact hq.elim
    | err x r1 => rw [e] at hq; exact hq.elim
    | bad => rw [e] at hq; exact hq.elim
/-- x(lambda: body) -/
theorem de_heard {X : Cx} {p : Pm} {W : WX} {x : Str} {g : Rs → Rs} {nd : Bool} {c P : Addr} {k : Nat} {params : Arguments} {body : Expr} {scope : Scope} {mb : M D} {p0 lpos pos : Pos} (F : Hf X p.cl x g) (hg : Gl X x)
    (TB : TabB X.base X.mg c P) (hcode : X.env.code = .ref c) (hmT : (P, X.env.qual ++ "<lambda>") ∈ Tbls.T) (hu : ∀ p ∈ Tbls.T, p.1 = P → p.2 = X.env.qual ++ "<lambda>") (hr : Room (k + 2) X.A) (L : LamD X.env.scope scope X.N) (hdef : LamP params X.env nd)
    (hbind : LamB params body scope nd)
    (hbody : ∀ (A : Around) (outer : List Env) (s : Shared) (H B G : Hp) (E : XK) (f c' : Addr), Room k (A.deeper (lamEnv X scope s.heap.objs.size f c')) → DE (lamCx X A outer s H E scope f c') ⟨p.cl, B, G, fun _ => 0, []⟩ (fun c d _ H' => E c d H') body mb)
    (hdb : (x == ("__debug__" : Str)) = false := by decide) :
    DE X p W (.Call (.Name x p0) [.Lambda params body scope lpos] [] pos) (mHeard g mb) := by
  obtain ⟨gA, pg, bg, sg, dV, kV, doc, pm, cdg, ct, oc, an, od, osl, Ng, a, mh, hm, hk, lk, hcg, hb, Sg, hNg, hva, hd, hcd, hgo, hD⟩ := F.ex
  refine ⟨PE.imp (lad_call (k := k) (t := fun E => fun σ HZ Q => ∃ B G, tM X.K ⟨p.cl, B, G, fun _ => 0, []⟩ (fun c d _ H' => E c d H') (RD X.K p.cl) mb σ HZ Q) hg hm hk lk hcg hb Sg hNg hva (gives_h (cl := p.cl) hgo hD) TB hcode hmT hu hr L hdef hbind
    (fun A outer s H E f c' hr' => ⟨fun pins s1 σ H1 Q I ⟨B, G, h⟩ => (hbody A outer s H B G E f c' hr').run.run pins s1 σ H1 Q I h⟩) hdb hd hcd) fun σ H Q ⟨G, r, s, q⟩ => ?_⟩
  have tb := s.base.2 s.tab
  refine ⟨tb, fun H1 eN T1 => ?_⟩
  have kp : Kp H H1 := ⟨eN, fun _ => T1⟩
  have gr : Grow G H G H1 := ⟨Ex.refl G, kp, s.nt.ex s.sub kp, s.nt, fun a h1 h2 => absurd h1 h2⟩
  have s1 := s.grow gr
  unfold mHeard at q
  refine ⟨G, lamO mb r, T1, s1.sub, s1.nt, fun Gz HZ E Qz k1 e1 e2 n1 qz => ?_, ?_⟩
  · refine ⟨HZ, Gz, Gz, vals r, s1.vals e1 e2 n1 (k1.2 T1), ?_⟩
    unfold lamO at qz
    cases e : mb (vals r) with
    | ok d r2 => rw [e] at qz; exact fun v G' H' s' ex rv => qz v G' H' (s'.grew ex) rv
    | err x r2 => rw [e] at qz; exact fun c dd G' H' s' ex rx => qz c dd G' H' (s'.grew ex) rx
    | bad => rw [e] at qz; exact qz.elim
  · cases e : g (lamO mb r) with
    | ok d => rw [e] at q; exact fun v G' H' g' rv => q v G' H' (s1.grow g') g'.ex rv
    | err x => rw [e] at q; exact q.elim
    | bad => rw [e] at q; exact q.elim
end DL
end

section
set_option Elab.async false
set_option linter.all false
set_option maxRecDepth 100000
set_option maxHeartbeats 4000000
/-! DEz: for t, (x, y) in enumerate(zip(a, b)). -/
namespace DEz
open PySem PySem.Spec PyProof.Rows
open Sem (wp)
abbrev ZipAt (h : Heap) (z TI TO : Addr) (f0 : Value) (c : Bool) : Prop :=
  h.get? z = some { cls := .type "zip", dict := none, data := .fields #[f0, .bool c, .bool false, .ref TI, .ref TO], slots := #[] }
def FreeOr (f0 : Value) : Prop := f0 = .none ∨ ∃ T : Nat, f0 = rawInt T
section
variable {prog : Program} {w : World} {M : Model} {A : Around} {E : Value → Shared → Prop} {s : Shared}
theorem loadIfAlive_any {a : Addr} {Q : Option Obj → Shared → Prop} (h : Q (s.heap.get? a) s) : wpAny M A (loadIfAlive a) Q E s := by
  intro Γ p hΓ
  unfold loadIfAlive
  rw [Sem.wp_loadIfAlive]
  exact h
theorem owned_look {z TI TO : Addr} {f0 : Value} {c : Bool} {Q : Bool → Shared → Prop} (hz : ZipAt s.heap z TI TO f0 c) (hf : FreeOr f0) (h1 : Q true s)
    (h2 : ∀ h', ZipAt h' z TI TO f0 true → Heap.SameBut z s.heap h' → Q false { s with heap := h' }) : wpAny (model prog w) A (Builtin.SmallTypes.ownedTupleIsFree (.ref z)) Q E s := by
  unfold Builtin.SmallTypes.ownedTupleIsFree
  rcases hf with rfl | ⟨T, rfl⟩
  · exact wpAny_bind (wpAny_field hz rfl (x := .none) rfl (wpAny_pure h1))
  · refine wpAny_bind (wpAny_field hz rfl (x := rawInt T) rfl ?_)
    show wpAny _ _ (loadIfAlive (T : Int).toNat >>= _) _ _ _
    refine wpAny_bind (loadIfAlive_any ?_)
    cases e : s.heap.get? (T : Int).toNat with
    | none => exact wpAny_pure h1
    | some o =>
      simp only [Option.isNone_some, Bool.false_eq_true, if_false]
      refine wpAny_bind (wpAny_field hz rfl (x := .bool c) rfl ?_)
      cases c with
      | true => exact wpAny_pure (h2 s.heap hz ⟨rfl, fun _ _ => rfl⟩)
      | false => exact wpAny_bind (wpAny_setField_rec hz (by simp) fun h' hz' hs => wpAny_pure (h2 h' (by simpa using hz') hs))
theorem zip_item {z TI TO i1 i2 l1 l2 : Addr} {k1 k2 : Nat} {xs ys : Array Value} {x y a b f0 : Value} {c : Bool} {Q : Value → Shared → Prop} (D : ZipApart z TI TO i1 i2 l1 l2)
    (hz : ZipAt s.heap z TI TO f0 c) (hf : FreeOr f0) (hTI : IsPair s.heap TI (.ref i1) (.ref i2)) (hTO : IsPair s.heap TO a b)
    (h1 : s.heap.IsListIter i1 l1 k1) (h2 : s.heap.IsListIter i2 l2 k2) (hl1 : s.heap.IsList l1 xs) (hl2 : s.heap.IsList l2 ys) (hx : xs[k1]? = some x) (hy : ys[k2]? = some y)
    (hQ : ∀ h' f0' c' a' b', FreeOr f0' → ZipAt h' z TI TO f0' c' → IsPair h' TO a' b' → h'.IsListIter i1 l1 (k1 + 1) → h'.IsListIter i2 l2 (k2 + 1) → IsPair h' s.heap.objs.size x y → h'.objs.size = s.heap.objs.size + 1 →
      (∀ d o, d ≠ z → d ≠ TO → d ≠ i1 → d ≠ i2 → s.heap.get? d = some o → h'.get? d = some o) → Q (.ref s.heap.objs.size) { s with heap := h' }) :
    wpAny (model prog w) A (Builtin.«zip.__next__» ⟨[.ref z], []⟩) (fun fin s' => ∃ v, fin = .done (.ret v) ∧ Q v s') E s := by
  show wpAny _ _ (field (.ref z) 2 >>= _) _ _ _
  refine wpAny_bind (wpAny_field hz rfl (x := .bool false) rfl ?_)
  show wpAny _ _ (field (.ref z) 3 >>= _) _ _ _
  refine wpAny_bind (wpAny_field hz rfl (x := .ref TI) rfl ?_)
  refine wpAny_bind (wpAny_seqItems hTI rfl ?_)
  show wpAny _ _ (Builtin.SmallTypes.ownedTupleIsFree (.ref z) >>= _) _ _ _
  refine wpAny_bind (owned_look hz hf ?_ fun h₁ hz₁ hs₁ => ?_)
  · simp only [if_true]
    refine wpAny_bind (wpAny_rule ?_)
    refine wpAny_bind (wpAny_field hz rfl (x := .ref TO) rfl ?_)
    refine wpAny_bind (wpAny_setField_rec hz (by simp) fun h₁ hz₁ hs₁ => ?_)
    replace hz₁ : ZipAt h₁ z TI TO .ellipsis c := hz₁
    refine wpAny_bind ?_
    simp only [List.zipIdx_cons, List.zipIdx_nil, List.forIn_cons, List.forIn_nil]
    refine wpAny_bind (wpAny_bind (wpAny_onRaise ?_))
    show wpAny _ _ (Builtin.SmallTypes.nextOf (.ref i1) >>= _) _ _ _
    refine wpAny_bind (wpAny_nextOf_list_item (h1.extBut hs₁.extBut D.i1z) (hl1.extBut hs₁.extBut D.l1z) hx fun h₂ h1₂ hs₂ => wpAny_pure ?_)
    have hTO₂ : IsPair h₂ TO a b := hs₂.extBut _ _ D.TOi1 (hs₁.extBut _ _ D.TOz hTO)
    refine wpAny_bind (wpAny_seqItems hTO₂ rfl ?_)
    refine wpAny_bind (wpAny_updateSeq_pair hTO₂ fun h₃ hTO₃ hs₃ => ?_)
    replace hTO₃ : IsPair h₃ TO x b := hTO₃
    refine wpAny_bind (wpAny_letGo (wpAny_pure ?_))
    refine wpAny_bind (wpAny_bind (wpAny_onRaise ?_))
    show wpAny _ _ (Builtin.SmallTypes.nextOf (.ref i2) >>= _) _ _ _
    refine wpAny_bind (wpAny_nextOf_list_item (((h2.extBut hs₁.extBut D.i2z).extBut hs₂.extBut D.i12.symm).extBut hs₃.extBut D.TOi2.symm)
      (((hl2.extBut hs₁.extBut D.l2z).extBut hs₂.extBut D.l2i1).extBut hs₃.extBut D.l2TO) hy fun h₄ h2₄ hs₄ => wpAny_pure ?_)
    have hTO₄ : IsPair h₄ TO x b := hs₄.extBut _ _ D.TOi2 hTO₃
    refine wpAny_bind (wpAny_seqItems hTO₄ rfl ?_)
    refine wpAny_bind (wpAny_updateSeq_pair hTO₄ fun h₅ hTO₅ hs₅ => ?_)
    replace hTO₅ : IsPair h₅ TO x y := hTO₅
    refine wpAny_bind (wpAny_letGo (wpAny_pure (wpAny_pure ?_)))
    refine wpAny_bind (wpAny_seqItems hTO₅ rfl ?_)
    refine wpAny_bind (wpAny_newTuple ?_)
    have hsz : h₅.objs.size = s.heap.objs.size := by rw [hs₅.1, hs₄.1, hs₃.1, hs₂.1, hs₁.1]
    have hz₅ : ZipAt h₅ z TI TO .ellipsis c := hs₅.extBut _ _ D.TOz.symm (hs₄.extBut _ _ D.i2z.symm (hs₃.extBut _ _ D.TOz.symm (hs₂.extBut _ _ D.i1z.symm hz₁)))
    have hk₅ : ∀ c o, c ≠ z → c ≠ TO → c ≠ i1 → c ≠ i2 → s.heap.get? c = some o → h₅.get? c = some o := fun c o c1 c2 c3 c4 e =>
      hs₅.extBut _ _ c2 (hs₄.extBut _ _ c4 (hs₃.extBut _ _ c2 (hs₂.extBut _ _ c3 (hs₁.extBut _ _ c1 e))))
    have h1₅ : h₅.IsListIter i1 l1 (k1 + 1) := ((h1₂.extBut hs₃.extBut D.TOi1.symm).extBut hs₄.extBut D.i12).extBut hs₅.extBut D.TOi1.symm
    have h2₅ : h₅.IsListIter i2 l2 (k2 + 1) := h2₄.extBut hs₅.extBut D.TOi2.symm
    have hzlt : z < h₅.objs.size := Heap.lt_size hz₅
    show wpAny _ _ (Builtin.SmallTypes.ownedTupleHandOut (.ref z) (.ref h₅.objs.size) >>= _) _ _ _
    refine wpAny_bind ?_
    unfold Builtin.SmallTypes.ownedTupleHandOut
    have hz₆ : ZipAt (h₅.push { cls := .type "tuple", data := .seq #[x, y] }) z TI TO .ellipsis c := Heap.get?_push_of_some _ hz₅
    refine wpAny_bind (wpAny_setField_rec hz₆ (by simp) fun h₇ hz₇ hs₇ => ?_)
    replace hz₇ : ZipAt h₇ z TI TO (rawInt h₅.objs.size) c := hz₇
    refine wpAny_setField_rec hz₇ (by simp) fun h₈ hz₈ hs₈ => ?_
    replace hz₈ : ZipAt h₈ z TI TO (rawInt h₅.objs.size) false := hz₈
    have up : ∀ c o, c ≠ z → h₅.get? c = some o → h₈.get? c = some o := fun c o c1 e => hs₈.extBut _ _ c1 (hs₇.extBut _ _ c1 (Heap.get?_push_of_some _ e))
    have hT₈ : IsPair h₈ h₅.objs.size x y := hs₈.extBut _ _ (Nat.ne_of_gt hzlt) (hs₇.extBut _ _ (Nat.ne_of_gt hzlt) (Heap.get?_push_size _ rfl))
    have hz8 : h₈.objs.size = h₅.objs.size + 1 := by rw [hs₈.1, hs₇.1, Heap.size_push]
    rw [hsz] at hz₈ hT₈ hz8
    refine wpAny_pure ⟨_, rfl, ?_⟩
    show Q (.ref h₅.objs.size) _
    rw [hsz]
    exact hQ h₈ _ _ _ _ (.inr ⟨_, rfl⟩) hz₈ (up _ _ D.TOz hTO₅) (h1₅.at fun o e => up _ o D.i1z e) (h2₅.at fun o e => up _ o D.i2z e) hT₈ hz8 fun c o c1 c2 c3 c4 e => up c o c1 (hk₅ c o c1 c2 c3 c4 e)
  · simp only [Bool.false_eq_true, if_false]
    simp only [List.forIn_toArray, List.forIn_cons, List.forIn_nil]
    refine wpAny_bind (wpAny_bind (wpAny_bind (wpAny_holding ?_)))
    show wpAny _ _ (Builtin.SmallTypes.nextOf (.ref i1) >>= _) _ _ _
    refine wpAny_bind (wpAny_nextOf_list_item (h1.extBut hs₁.extBut D.i1z) (hl1.extBut hs₁.extBut D.l1z) hx fun h₂ h1₂ hs₂ => wpAny_pure (wpAny_pure ?_))
    refine wpAny_bind (wpAny_bind (wpAny_holding ?_))
    show wpAny _ _ (Builtin.SmallTypes.nextOf (.ref i2) >>= _) _ _ _
    refine wpAny_bind (wpAny_nextOf_list_item ((h2.extBut hs₁.extBut D.i2z).extBut hs₂.extBut D.i12.symm)
      ((hl2.extBut hs₁.extBut D.l2z).extBut hs₂.extBut D.l2i1) hy fun h₄ h2₄ hs₄ => wpAny_pure (wpAny_pure (wpAny_pure ?_)))
    refine wpAny_bind (wpAny_newTuple ?_ (by show 2 ≤ sizeLine; decide))
    have hsz : h₄.objs.size = s.heap.objs.size := by rw [hs₄.1, hs₂.1, hs₁.1]
    have hz₄ : ZipAt h₄ z TI TO f0 true := hs₄.extBut _ _ D.i2z.symm (hs₂.extBut _ _ D.i1z.symm hz₁)
    have hTO₄ : IsPair h₄ TO a b := hs₄.extBut _ _ D.TOi2 (hs₂.extBut _ _ D.TOi1 (hs₁.extBut _ _ D.TOz hTO))
    have h1₄ : h₄.IsListIter i1 l1 (k1 + 1) := h1₂.extBut hs₄.extBut D.i12
    refine wpAny_pure ⟨_, rfl, ?_⟩
    show Q (.ref h₄.objs.size) _
    have hT : IsPair (h₄.push { cls := .type "tuple", data := .seq #[x, y] }) h₄.objs.size x y := Heap.get?_push_size _ rfl
    have hp : (h₄.push { cls := .type "tuple", data := .seq #[x, y] }).objs.size = h₄.objs.size + 1 := Heap.size_push ..
    rw [hsz] at hT hp ⊢
    have up : ∀ c o, h₄.get? c = some o → (h₄.push { cls := .type "tuple", data := .seq #[x, y] }).get? c = some o := fun c o e => Heap.get?_push_of_some _ e
    exact hQ _ _ _ _ _ hf (up _ _ hz₄) (up _ _ hTO₄) (h1₄.at fun o e => up _ o e) (h2₄.at fun o e => up _ o e) hT hp fun d o d1 d2 d3 d4 e =>
      up _ _ (hs₄.extBut _ _ d4 (hs₂.extBut _ _ d3 (hs₁.extBut _ _ d1 e)))
theorem zip_end {z TI TO i1 i2 l1 l2 : Addr} {k1 k2 : Nat} {xs ys : Array Value} {a b f0 : Value} {c : Bool} {Q : Fin → Shared → Prop} (hh : A.handled = none) (D : ZipApart z TI TO i1 i2 l1 l2)
    (hz : ZipAt s.heap z TI TO f0 c) (hf : FreeOr f0) (hTI : IsPair s.heap TI (.ref i1) (.ref i2)) (hTO : IsPair s.heap TO a b)
    (h1 : s.heap.IsListIter i1 l1 k1) (h2 : s.heap.IsListIter i2 l2 k2) (hl1 : s.heap.IsList l1 xs) (hl2 : s.heap.IsList l2 ys) (hend : xs[k1]? = none ∨ ys[k2]? = none)
    (hE : ∀ h' e, (∀ c o, c ≠ z → c ≠ TO → c ≠ i1 → c ≠ i2 → s.heap.get? c = some o → h'.get? c = some o) → (∃ o, h'.get? e = some o ∧ o.cls = .type "StopIteration") → E (.ref e) { s with heap := h' }) :
    wpAny (model prog w) A (Builtin.«zip.__next__» ⟨[.ref z], []⟩) Q E s := by
  show wpAny _ _ (field (.ref z) 2 >>= _) _ _ _
  refine wpAny_bind (wpAny_field hz rfl (x := .bool false) rfl ?_)
  show wpAny _ _ (field (.ref z) 3 >>= _) _ _ _
  refine wpAny_bind (wpAny_field hz rfl (x := .ref TI) rfl ?_)
  refine wpAny_bind (wpAny_seqItems hTI rfl ?_)
  show wpAny _ _ (Builtin.SmallTypes.ownedTupleIsFree (.ref z) >>= _) _ _ _
  refine wpAny_bind (owned_look hz hf ?_ fun h₁ hz₁ hs₁ => ?_)
  · simp only [if_true]
    refine wpAny_bind (wpAny_rule ?_)
    refine wpAny_bind (wpAny_field hz rfl (x := .ref TO) rfl ?_)
    refine wpAny_bind (wpAny_setField_rec hz (by simp) fun h₁ hz₁ hs₁ => ?_)
    replace hz₁ : ZipAt h₁ z TI TO .ellipsis c := hz₁
    refine wpAny_bind ?_
    simp only [List.zipIdx_cons, List.zipIdx_nil, List.forIn_cons, List.forIn_nil]
    refine wpAny_bind (wpAny_bind (wpAny_onRaise ?_))
    show wpAny _ _ (Builtin.SmallTypes.nextOf (.ref i1) >>= _) _ _ _
    cases hx : xs[k1]? with
    | none =>
      refine wpAny_bind (wpAny_nextOf_list_end hh (h1.extBut hs₁.extBut D.i1z) (hl1.extBut hs₁.extBut D.l1z) hx fun h₂ e hs₂ he => ?_)
      obtain ⟨oe, hoe, hce⟩ := he
      have hz₂ : ZipAt h₂ z TI TO .ellipsis c := hs₂ _ _ D.i1z.symm hz₁
      have hez : e ≠ z := fun x => by subst x; rw [hz₂] at hoe; cases hoe; simp at hce
      refine wpAny_setField_rec hz₂ (by simp) fun h₃ _ hs₃ => hE h₃ e (fun c o c1 _ c3 _ x => hs₃.extBut _ _ c1 (hs₂ _ _ c3 (hs₁.extBut _ _ c1 x))) ⟨oe, hs₃.extBut _ _ hez hoe, hce⟩
    | some x =>
      have hy : ys[k2]? = none := by rcases hend with h | h; rw [hx] at h; cases h; exact h
      refine wpAny_bind (wpAny_nextOf_list_item (h1.extBut hs₁.extBut D.i1z) (hl1.extBut hs₁.extBut D.l1z) hx fun h₂ h1₂ hs₂ => wpAny_pure ?_)
      have hTO₂ : IsPair h₂ TO a b := hs₂.extBut _ _ D.TOi1 (hs₁.extBut _ _ D.TOz hTO)
      refine wpAny_bind (wpAny_seqItems hTO₂ rfl ?_)
      refine wpAny_bind (wpAny_updateSeq_pair hTO₂ fun h₃ hTO₃ hs₃ => ?_)
      refine wpAny_bind (wpAny_letGo (wpAny_pure ?_))
      refine wpAny_bind (wpAny_bind (wpAny_onRaise ?_))
      show wpAny _ _ (Builtin.SmallTypes.nextOf (.ref i2) >>= _) _ _ _
      refine wpAny_bind (wpAny_nextOf_list_end hh (((h2.extBut hs₁.extBut D.i2z).extBut hs₂.extBut D.i12.symm).extBut hs₃.extBut D.TOi2.symm)
        (((hl2.extBut hs₁.extBut D.l2z).extBut hs₂.extBut D.l2i1).extBut hs₃.extBut D.l2TO) hy fun h₄ e hs₄ he => ?_)
      obtain ⟨oe, hoe, hce⟩ := he
      have hz₄ : ZipAt h₄ z TI TO .ellipsis c := hs₄ _ _ D.i2z.symm (hs₃.extBut _ _ D.TOz.symm (hs₂.extBut _ _ D.i1z.symm hz₁))
      have hez : e ≠ z := fun x => by subst x; rw [hz₄] at hoe; cases hoe; simp at hce
      refine wpAny_setField_rec hz₄ (by simp) fun h₅ _ hs₅ => hE h₅ e (fun c o c1 c2 c3 c4 x => hs₅.extBut _ _ c1 (hs₄ _ _ c4 (hs₃.extBut _ _ c2 (hs₂.extBut _ _ c3 (hs₁.extBut _ _ c1 x))))) ⟨oe, hs₅.extBut _ _ hez hoe, hce⟩
  · simp only [Bool.false_eq_true, if_false]
    simp only [List.forIn_toArray, List.forIn_cons, List.forIn_nil]
    refine wpAny_bind (wpAny_bind (wpAny_bind (wpAny_holding ?_)))
    show wpAny _ _ (Builtin.SmallTypes.nextOf (.ref i1) >>= _) _ _ _
    cases hx : xs[k1]? with
    | none =>
      exact wpAny_bind (wpAny_nextOf_list_end hh (h1.extBut hs₁.extBut D.i1z) (hl1.extBut hs₁.extBut D.l1z) hx fun h₂ e hs₂ he =>
        hE h₂ e (fun c o c1 _ c3 _ x => hs₂ _ _ c3 (hs₁.extBut _ _ c1 x)) he)
    | some x =>
      have hy : ys[k2]? = none := by rcases hend with h | h; rw [hx] at h; cases h; exact h
      refine wpAny_bind (wpAny_nextOf_list_item (h1.extBut hs₁.extBut D.i1z) (hl1.extBut hs₁.extBut D.l1z) hx fun h₂ h1₂ hs₂ => wpAny_pure (wpAny_pure ?_))
      refine wpAny_bind (wpAny_bind (wpAny_holding ?_))
      show wpAny _ _ (Builtin.SmallTypes.nextOf (.ref i2) >>= _) _ _ _
      exact wpAny_bind (wpAny_nextOf_list_end hh ((h2.extBut hs₁.extBut D.i2z).extBut hs₂.extBut D.i12.symm)
        ((hl2.extBut hs₁.extBut D.l2z).extBut hs₂.extBut D.l2i1) hy fun h₄ e hs₄ he => hE h₄ e (fun c o c1 _ c3 c4 x => hs₄ _ _ c4 (hs₂.extBut _ _ c3 (hs₁.extBut _ _ c1 x))) he)
theorem nextOf_zip_item {z TI TO i1 i2 l1 l2 : Addr} {k1 k2 : Nat} {xs ys : Array Value} {x y a b f0 : Value} {c : Bool} {Q : Value → Shared → Prop} (D : ZipApart z TI TO i1 i2 l1 l2)
    (hz : ZipAt s.heap z TI TO f0 c) (hf : FreeOr f0) (hTI : IsPair s.heap TI (.ref i1) (.ref i2)) (hTO : IsPair s.heap TO a b)
    (h1 : s.heap.IsListIter i1 l1 k1) (h2 : s.heap.IsListIter i2 l2 k2) (hl1 : s.heap.IsList l1 xs) (hl2 : s.heap.IsList l2 ys) (hx : xs[k1]? = some x) (hy : ys[k2]? = some y)
    (hQ : ∀ h' f0' c' a' b', FreeOr f0' → ZipAt h' z TI TO f0' c' → IsPair h' TO a' b' → h'.IsListIter i1 l1 (k1 + 1) → h'.IsListIter i2 l2 (k2 + 1) → IsPair h' s.heap.objs.size x y → h'.objs.size = s.heap.objs.size + 1 →
      (∀ d o, d ≠ z → d ≠ TO → d ≠ i1 → d ≠ i2 → s.heap.get? d = some o → h'.get? d = some o) → Q (.ref s.heap.objs.size) { s with heap := h' }) :
    wpAny (model prog w) A (Builtin.SmallTypes.nextOf (.ref z)) Q E s := by
  have hT : s.TypeIs (.ref z) "zip" := ⟨_, hz, rfl⟩
  unfold Builtin.SmallTypes.nextOf
  exact wpAny_bind (wpAny_callSpecial?_slot (name := Str.ofString "__next__") hT F.slot_zip_next
    (wpAny_call_entry F.slot_zip_next hT F.entry_zip_next
      (zip_item D hz hf hTI hTO h1 h2 hl1 hl2 hx hy fun h' f0' c' a' b' r1 r2 r3 r4 r5 r6 r7 r8 => wpAny_pure (hQ h' f0' c' a' b' r1 r2 r3 r4 r5 r6 r7 r8)) (F.args_zip_next_1 _)))
theorem nextOf_zip_end {z TI TO i1 i2 l1 l2 : Addr} {k1 k2 : Nat} {xs ys : Array Value} {a b f0 : Value} {c : Bool} {Q : Value → Shared → Prop} (hh : A.handled = none) (D : ZipApart z TI TO i1 i2 l1 l2)
    (hz : ZipAt s.heap z TI TO f0 c) (hf : FreeOr f0) (hTI : IsPair s.heap TI (.ref i1) (.ref i2)) (hTO : IsPair s.heap TO a b)
    (h1 : s.heap.IsListIter i1 l1 k1) (h2 : s.heap.IsListIter i2 l2 k2) (hl1 : s.heap.IsList l1 xs) (hl2 : s.heap.IsList l2 ys) (hend : xs[k1]? = none ∨ ys[k2]? = none)
    (hE : ∀ h' e, (∀ c o, c ≠ z → c ≠ TO → c ≠ i1 → c ≠ i2 → s.heap.get? c = some o → h'.get? c = some o) → (∃ o, h'.get? e = some o ∧ o.cls = .type "StopIteration") → E (.ref e) { s with heap := h' }) :
    wpAny (model prog w) A (Builtin.SmallTypes.nextOf (.ref z)) Q E s := by
  have hT : s.TypeIs (.ref z) "zip" := ⟨_, hz, rfl⟩
  unfold Builtin.SmallTypes.nextOf
  exact wpAny_bind (wpAny_callSpecial?_slot (name := Str.ofString "__next__") hT F.slot_zip_next
    (wpAny_call_entry F.slot_zip_next hT F.entry_zip_next (zip_end (A := A.in1) hh D hz hf hTI hTO h1 h2 hl1 hl2 hend hE) (F.args_zip_next_1 _)))
/-- the zip's state -/
structure ZSt (h : Heap) (z TI TO i1 i2 l1 l2 : Addr) (k : Nat) : Prop where
  z : ∃ f0 c, FreeOr f0 ∧ ZipAt h z TI TO f0 c
  TI : IsPair h TI (.ref i1) (.ref i2)
  TO : ∃ a b, IsPair h TO a b
  i1 : h.IsListIter i1 l1 k
  i2 : h.IsListIter i2 l2 k
theorem ZSt.keep {h h' : Heap} {z TI TO i1 i2 l1 l2 : Addr} {k : Nat} (st : ZSt h z TI TO i1 i2 l1 l2 k) (kp : ∀ b o, b = z ∨ b = TI ∨ b = TO ∨ b = i1 ∨ b = i2 → h.get? b = some o → h'.get? b = some o) : ZSt h' z TI TO i1 i2 l1 l2 k := by
  obtain ⟨⟨f0, c, hf, hz⟩, hTI, ⟨a, b, hTO⟩, h1, h2⟩ := st
  exact ⟨⟨f0, c, hf, kp _ _ (.inl rfl) hz⟩, kp _ _ (.inr (.inl rfl)) hTI, ⟨a, b, kp _ _ (.inr (.inr (.inl rfl))) hTO⟩, h1.at fun o e => kp _ o (.inr (.inr (.inr (.inl rfl)))) e, h2.at fun o e => kp _ o (.inr (.inr (.inr (.inr rfl)))) e⟩
theorem enumz_item {e z TI TO i1 i2 l1 l2 : Addr} {i : Nat} {xs ys : Array Value} {x y old : Value} {Q : Value → Shared → Prop} (D : ZipApart z TI TO i1 i2 l1 l2) (De : e ≠ z ∧ e ≠ TI ∧ e ≠ TO ∧ e ≠ i1 ∧ e ≠ i2)
    (he : IsEnum s.heap e z i old) (st : ZSt s.heap z TI TO i1 i2 l1 l2 i) (hl1 : s.heap.IsList l1 xs) (hl2 : s.heap.IsList l2 ys) (hx : xs[i]? = some x) (hy : ys[i]? = some y)
    (hQ : ∀ h', IsEnumOut h' e z ((i : Int) + 1) (.ref s.heap.objs.size) (s.heap.objs.size + 1) → ZSt h' z TI TO i1 i2 l1 l2 (i + 1) → IsPair h' s.heap.objs.size x y →
      h'.get? (s.heap.objs.size + 1) = some { cls := .type "tuple", data := .seq #[.int i s.toks, .ref s.heap.objs.size] } → h'.objs.size = s.heap.objs.size + 2 →
      (∀ b o, b ≠ e → b ≠ z → b ≠ TO → b ≠ i1 → b ≠ i2 → s.heap.get? b = some o → h'.get? b = some o) → Q (.ref (s.heap.objs.size + 1)) { s with heap := h', toks := s.toks + 1 }) :
    wpAny (model prog w) A (Builtin.«enumerate.__next__» ⟨[.ref e], []⟩) (fun fin s' => ∃ v, fin = .done (.ret v) ∧ Q v s') E s := by
  obtain ⟨d1, d2, d3, d4, d5⟩ := De
  obtain ⟨⟨f0, c, hf, hz⟩, hTI, ⟨a, b, hTO⟩, h1, h2⟩ := st
  obtain ⟨hp, g, d, tk, os⟩ := s
  have hel : e < hp.objs.size := Heap.lt_size he
  show wpAny _ _ (field (.ref e) 2 >>= _) _ _ _
  refine wpAny_bind (wpAny_field he rfl (x := .ref z) rfl ?_)
  refine wpAny_bind (nextOf_zip_item D hz hf hTI hTO h1 h2 hl1 hl2 hx hy fun h₁ f0' c' a' b' hf' hz₁ hTO₁ h1₁ h2₁ hT₁ hs₁ hk₁ => ?_)
  have he₁ : IsEnum h₁ e z i old := hk₁ _ _ d1 d3 d4 d5 he
  have st₁ : ZSt h₁ z TI TO i1 i2 l1 l2 (i + 1) := ⟨⟨_, _, hf', hz₁⟩, hk₁ _ _ D.TIz D.TITO D.TIi1 D.TIi2 hTI, ⟨_, _, hTO₁⟩, h1₁, h2₁⟩
  have hT₁' : IsPair h₁ hp.objs.size x y := hT₁
  replace hs₁ : h₁.objs.size = hp.objs.size + 1 := hs₁
  show wpAny _ _ (field (.ref e) 3 >>= _) _ _ ⟨h₁, g, d, tk, os⟩
  refine wpAny_bind (wpAny_field he₁ rfl (x := rawInt i) rfl ?_)
  show wpAny _ _ (field (.ref e) 4 >>= _) _ _ ⟨h₁, g, d, tk, os⟩
  refine wpAny_bind (wpAny_field he₁ rfl (x := .none) rfl ?_)
  show wpAny _ _ (mkInt i >>= _) _ _ ⟨h₁, g, d, tk, os⟩
  refine wpAny_bind (wpAny_mkInt ?_)
  show wpAny _ _ (setField (.ref e) 3 (rawInt ((i : Int) + 1)) >>= _) _ _ ⟨h₁, g, d, tk + 1, os⟩
  refine wpAny_bind (wpAny_setField_rec he₁ (by simp) fun h₂ he₂ hs₂ => ?_)
  replace hs₂ : Heap.SameBut e h₁ h₂ := hs₂
  replace he₂ : IsEnum h₂ e z ((i : Int) + 1) old := he₂
  show wpAny _ _ (setField (.ref e) 4 .none >>= _) _ _ ⟨h₂, g, d, tk + 1, os⟩
  refine wpAny_bind (wpAny_setField_rec he₂ (by simp) fun h₃ he₃ hs₃ => ?_)
  replace hs₃ : Heap.SameBut e h₂ h₃ := hs₃
  replace he₃ : IsEnum h₃ e z ((i : Int) + 1) old := he₃
  show wpAny _ _ (newTuple [.int i tk, .ref hp.objs.size] >>= _) _ _ ⟨h₃, g, d, tk + 1, os⟩
  refine wpAny_bind (wpAny_newTuple ?_)
  have he₄ : IsEnum (h₃.push { cls := .type "tuple", data := .seq #[.int i tk, .ref hp.objs.size] }) e z ((i : Int) + 1) old := Heap.get?_push_of_some _ he₃
  generalize hh₄ : h₃.push { cls := .type "tuple", data := .seq #[.int i tk, .ref hp.objs.size] } = h₄ at he₄
  have hsz : h₃.objs.size = hp.objs.size + 1 := by rw [hs₃.1, hs₂.1, hs₁]
  have ht₄ : h₄.get? (hp.objs.size + 1) = some { cls := .type "tuple", data := .seq #[.int i tk, .ref hp.objs.size] } := by rw [← hh₄, ← hsz]; exact Heap.get?_push_size _ rfl
  have hz₄ : h₄.objs.size = hp.objs.size + 2 := by rw [← hh₄, Heap.size_push, hsz]
  have hk₄ : ∀ b o, b ≠ e → h₁.get? b = some o → h₄.get? b = some o := fun b o hbe hb => by
    rw [← hh₄]; exact Heap.get?_push_of_some _ (hs₃.extBut b o hbe (hs₂.extBut b o hbe hb))
  show wpAny _ _ (Builtin.SmallTypes.ownedTupleIsFree (.ref e) >>= _) _ _ ⟨h₄, g, d, tk + 1, os⟩
  rw [hsz]
  clear hh₄ he₃ hs₃ he₂ hs₂ hsz h₃ h₂
  refine wpAny_bind ?_
  unfold Builtin.SmallTypes.ownedTupleIsFree
  refine wpAny_bind (wpAny_field he₄ rfl (x := .none) rfl (wpAny_pure ?_))
  simp only [if_true]
  refine wpAny_bind (wpAny_rule ?_)
  refine wpAny_bind (wpAny_field he₄ rfl (x := old) rfl ?_)
  refine wpAny_bind (wpAny_setField_rec he₄ (by simp) fun h₅ he₅ hs₅ => ?_)
  replace hs₅ : Heap.SameBut e h₄ h₅ := hs₅
  replace he₅ : IsEnum h₅ e z ((i : Int) + 1) (.ref hp.objs.size) := he₅
  show wpAny _ _ (Builtin.SmallTypes.ownedTupleHandOut (.ref e) (.ref (hp.objs.size + 1)) >>= _) _ _ ⟨h₅, g, d, tk + 1, os⟩
  refine wpAny_bind ?_
  unfold Builtin.SmallTypes.ownedTupleHandOut
  refine wpAny_bind (wpAny_setField_rec he₅ (by simp) fun h₆ he₆ hs₆ => ?_)
  replace hs₆ : Heap.SameBut e h₅ h₆ := hs₆
  replace he₆ : IsEnumOut h₆ e z ((i : Int) + 1) (.ref hp.objs.size) (hp.objs.size + 1) := he₆
  refine wpAny_setField_rec he₆ (by simp) fun h₇ he₇ hs₇ => ?_
  replace hs₇ : Heap.SameBut e h₆ h₇ := hs₇
  replace he₇ : IsEnumOut h₇ e z ((i : Int) + 1) (.ref hp.objs.size) (hp.objs.size + 1) := he₇
  have k7 : ∀ b o, b ≠ e → h₄.get? b = some o → h₇.get? b = some o := fun b o hbe hb => hs₇.extBut b o hbe (hs₆.extBut b o hbe (hs₅.extBut b o hbe hb))
  have nb : ∀ b, b = z ∨ b = TI ∨ b = TO ∨ b = i1 ∨ b = i2 → b ≠ e := fun b hb q => by
    subst q
    rcases hb with h | h | h | h | h
    · exact d1 h
    · exact d2 h
    · exact d3 h
    · exact d4 h
    · exact d5 h
  refine wpAny_bind (wpAny_letGo (wpAny_pure ⟨_, rfl, hQ h₇ he₇ (st₁.keep fun b o hb q => k7 b o (nb b hb) (hk₄ b o (nb b hb) q)) ?_ ?_ ?_ ?_⟩))
  · exact k7 _ _ (Nat.ne_of_gt hel) (hk₄ _ _ (Nat.ne_of_gt hel) hT₁')
  · exact k7 _ _ (Nat.ne_of_gt (Nat.lt_succ_of_lt hel)) ht₄
  · rw [hs₇.1, hs₆.1, hs₅.1, hz₄]
  · exact fun b o n1 n2 n3 n4 n5 hb => k7 b o n1 (hk₄ b o n1 (hk₁ b o n2 n3 n4 n5 hb))
theorem pyNext_enumz_item {e z TI TO i1 i2 l1 l2 : Addr} {i : Nat} {xs ys : Array Value} {x y old : Value} {Q : Option Value → Shared → Prop} (D : ZipApart z TI TO i1 i2 l1 l2) (De : e ≠ z ∧ e ≠ TI ∧ e ≠ TO ∧ e ≠ i1 ∧ e ≠ i2)
    (he : IsEnum s.heap e z i old) (st : ZSt s.heap z TI TO i1 i2 l1 l2 i) (hl1 : s.heap.IsList l1 xs) (hl2 : s.heap.IsList l2 ys) (hx : xs[i]? = some x) (hy : ys[i]? = some y)
    (hQ : ∀ h', IsEnumOut h' e z ((i : Int) + 1) (.ref s.heap.objs.size) (s.heap.objs.size + 1) → ZSt h' z TI TO i1 i2 l1 l2 (i + 1) → IsPair h' s.heap.objs.size x y →
      h'.get? (s.heap.objs.size + 1) = some { cls := .type "tuple", data := .seq #[.int i s.toks, .ref s.heap.objs.size] } → h'.objs.size = s.heap.objs.size + 2 →
      (∀ b o, b ≠ e → b ≠ z → b ≠ TO → b ≠ i1 → b ≠ i2 → s.heap.get? b = some o → h'.get? b = some o) → Q (some (.ref (s.heap.objs.size + 1))) { s with heap := h', toks := s.toks + 1 }) :
    wpAny (model prog w) A (pyNext (.ref e)) Q E s := by
  have hT : s.TypeIs (.ref e) "enumerate" := ⟨_, he, rfl⟩
  unfold pyNext
  exact wpAny_bind (wpAny_attempt (wpAny_callSpecial?_slot (name := Str.ofString "__next__") hT F.slot_enumerate_next
    (wpAny_call_entry F.slot_enumerate_next hT F.entry_enumerate_next
      (enumz_item D De he st hl1 hl2 hx hy fun h' a b c d k q => wpAny_pure (hQ h' a b c d k q)) (F.args_enumerate_next_1 _))))
theorem pyNext_enumz_end {e z TI TO i1 i2 l1 l2 : Addr} {i : Nat} {xs ys : Array Value} {old : Value} {Q : Option Value → Shared → Prop} (hh : A.handled = none) (D : ZipApart z TI TO i1 i2 l1 l2)
    (he : IsEnum s.heap e z i old) (st : ZSt s.heap z TI TO i1 i2 l1 l2 i) (hl1 : s.heap.IsList l1 xs) (hl2 : s.heap.IsList l2 ys) (hend : xs[i]? = none ∨ ys[i]? = none)
    (hQ : ∀ h', (∀ c o, c ≠ z → c ≠ TO → c ≠ i1 → c ≠ i2 → s.heap.get? c = some o → h'.get? c = some o) → Q none { s with heap := h' }) : wpAny (model prog w) A (pyNext (.ref e)) Q E s := by
  obtain ⟨⟨f0, c, hf, hz⟩, hTI, ⟨a, b, hTO⟩, h1, h2⟩ := st
  have hT : s.TypeIs (.ref e) "enumerate" := ⟨_, he, rfl⟩
  unfold pyNext
  refine wpAny_bind (wpAny_attempt (wpAny_callSpecial?_slot (name := Str.ofString "__next__") hT F.slot_enumerate_next
    (wpAny_call_entry F.slot_enumerate_next hT F.entry_enumerate_next ?_ (F.args_enumerate_next_1 _))))
  show wpAny _ _ (field (.ref e) 2 >>= _) _ _ _
  refine wpAny_bind (wpAny_field he rfl (x := .ref z) rfl ?_)
  refine wpAny_bind (nextOf_zip_end hh D hz hf hTI hTO h1 h2 hl1 hl2 hend fun h' x he' hx' => ?_)
  obtain ⟨o, ho, hc⟩ := hx'
  refine wpAny_bind (wpAny_isInstance (T := "StopIteration") (b := true) ⟨o, ho, hc⟩ isSubtype_stop ?_)
  exact wpAny_pure (hQ _ he')
end
end DEz
end

section
set_option Elab.async false
set_option linter.all false
set_option maxRecDepth 100000
set_option maxHeartbeats 4000000
namespace DEz
open PySem PySem.Spec PyProof.Rows
open AutoSeq1 (wpAny_loadPart')
theorem meets_enumz (z TI TO : Addr) :
    Meets (Builtin.«enumerate.__new__» ⟨[.type "enumerate", .ref z], []⟩) (fun _ R s => IsZip s.heap z TI TO .none ∧
      R (.ok (.ret (.ref s.heap.objs.size)))
        { s with heap := s.heap.push { cls := .type "enumerate", data := .fields #[.none, .bool false, .ref z, rawInt 0, .none, .none] } }) :=
  .of_wp fun prog w A R s h => by
    obtain ⟨hp, g, d, tk, os⟩ := s; obtain ⟨hl, h⟩ := h
    have hsub := sub_enumerate
    have hL : IsZip (Shared.heap ⟨hp, g, d, tk, os⟩) z TI TO .none := hl
    wp_walk using wpAny_loadPart' hl
    refine wpAny_stack_any fun st => wpAny_pure ?_
    split
    · rename_i c _ _ _ _ _
      cases (c == Value.type "enumerate")
      · wp_walk using wpAny_loadPart' hl, wpAny_pyIter_zip hL
        exact ⟨_, rfl, h⟩
      · wp_walk using wpAny_loadPart' hl, wpAny_pyIter_zip hL
        exact ⟨_, rfl, h⟩
    · wp_walk using wpAny_loadPart' hl, wpAny_pyIter_zip hL
      exact ⟨_, rfl, h⟩
section
variable {prog : Program} {w : World} {A : Around} {E : Value → Shared → Prop} {s : Shared}
theorem call_enumz {z TI TO : Addr} {Q : Value → Shared → Prop} (hz : IsZip s.heap z TI TO .none)
    (h : ∀ h', IsEnum h' s.heap.objs.size z 0 .none → h'.objs.size = s.heap.objs.size + 1 → (∀ b o, s.heap.get? b = some o → h'.get? b = some o) → Q (.ref s.heap.objs.size) { s with heap := h' }) :
    wpAny (model prog w) A (call (.type "enumerate") [.ref z]) Q E s := by
  refine callType_new F.called_enumerate (by decide) (F.typeCall_enumerate_1 _) (F.newCall_enumerate_1 _) (fun obj => F.args_object_init_2 obj _) F.entry_enumerate_new
    (meets_enumz z TI TO) ⟨hz, ?_⟩
  refine ⟨⟨_, Heap.get?_push_size _ rfl, rfl⟩, h _ (Heap.get?_push_size _ rfl) (Heap.size_push ..) fun b o e => Heap.get?_push_of_some _ e⟩
end
end DEz
namespace DEz
open PySem PySem.Spec PyProof.Rows L2
section
variable {X : Cx} {pins : List (Addr × Obj)} {σ : L2.St} {H : Hp} {s : Shared}
theorem Inv_add {a : Addr} {o : HO} (I : Inv X pins σ H s) (na : H a = none) (nL : a ≠ X.env.locals) (n0 : X.s_0.heap.get? a = none) (nc : ∀ x c, X.env.cells.lookup x = some c → c ≠ a) (np : ∀ q ∈ X.pn ++ pins, q.1 ≠ a)
    (ok : ObjOk X.prog X.w (upd H a o) s.heap a o) : Inv X pins σ (upd H a o) s := by
  have un : ∀ {b : Addr} {u : HO}, H b = some u → b ≠ a := fun {b u} e z => by rw [z, na] at e; cases e
  refine ⟨I.ok, I.os, I.bare, ⟨I.base.keep, I.base.slot, fun b u e n hx => ?_, I.base.there, fun b xs e => ?_, fun b u xs e => ?_, fun b ps e => ?_⟩, I.loc, I.cell, ?_, fun y c e => ?_, fun q hq => ?_, fun b u e => ?_, I.len⟩
  · have : b ≠ a := fun z => by rw [z, n0] at e; cases e
    rw [upd_ne this]; exact I.base.free b u e n hx
  · have h1 := I.base.tups b xs e
    rw [upd_ne (un h1)]; exact h1
  · have h1 := I.base.frzs b u xs e
    rw [upd_ne (un h1)]; exact h1
  · obtain ⟨more, h1⟩ := I.base.tbls b ps e
    exact ⟨more, by rw [upd_ne (un h1)]; exact h1⟩
  · rw [upd_ne (Ne.symm nL)]; exact I.free
  · rw [upd_ne (nc _ _ e)]; exact I.freeC y c e
  · obtain ⟨h1, h2, h3⟩ := I.pin q hq
    exact ⟨h1, by rw [upd_ne (np q hq)]; exact h2, h3⟩
  · by_cases z : b = a
    · subst z
      rw [upd_same] at e
      cases e
      exact ok
    · rw [upd_ne z] at e
      exact (I.hok b u e).stay (fun c v hc q => q) (fun c q => by rw [upd_ne (un q)]; exact q) (fun c xs q => by rw [upd_ne (un q)]; exact q)
end
/-- the lists at a and b as they stand at each turn, the items in new pairs, counted -/
def Itez (K : PySem.W.Frag) (a b : Addr) : It :=
  ⟨fun i H => ∃ (xs ys : List V) (x y : V), SqL K H a xs ∧ SqL K H b ys ∧ xs[i]? = some x ∧ ys[i]? = some y,
    fun i H v H' => ∃ T1 T2 x y, v = .ref T2 ∧ H T1 = none ∧ H T2 = none ∧ T2 ≠ T1 ∧ H' = upd (upd H T1 (.tup [x, y])) T2 (.tup [.int (i : Nat), .ref T1]) ∧ (∀ xs, SqL K H a xs → xs[i]? = some x) ∧ ∀ ys, SqL K H b ys → ys[i]? = some y,
    fun i H => ∃ xs ys : List V, SqL K H a xs ∧ SqL K H b ys ∧ (xs.length ≤ i ∨ ys.length ≤ i)⟩
theorem turn_ez {P : Program} {w : World} {K : PySem.W.Frag} {elts : List Expr} {kk : Nat} {tpos : Pos} {a b e z TI TO i1 i2 : Addr} (D : ZipApart z TI TO i1 i2 a b) (De : e ≠ z ∧ e ≠ TI ∧ e ≠ TO ∧ e ≠ i1 ∧ e ≠ i2) :
    Turn P w K (.Tuple elts kk tpos) (Itez K a b) [e, z, TI, TO, i1, i2] e (fun i h => (∃ old, IsEnum h e z ((i : Nat) : Int) old) ∧ ZSt h z TI TO i1 i2 a b i) where
  mem := by simp
  obj := fun i h st c hc => by
    obtain ⟨⟨old, he⟩, ⟨⟨f0, c0, hf, hz⟩, hTI, ⟨x, y, hTO⟩, ⟨o1, e1, _, d1⟩, ⟨o2, e2, _, d2⟩⟩⟩ := st
    have e' : c = e ∨ c = z ∨ c = TI ∨ c = TO ∨ c = i1 ∨ c = i2 := by simpa using hc
    rcases e' with q | q | q | q | q | q
    · rw [q]; exact ⟨_, he, fun v q => nomatch q⟩
    · rw [q]; exact ⟨_, hz, fun v q => nomatch q⟩
    · rw [q]; exact ⟨_, hTI, fun v q => nomatch q⟩
    · rw [q]; exact ⟨_, hTO, fun v q => nomatch q⟩
    · rw [q]; exact ⟨o1, e1, fun v q => by rw [d1] at q; cases q⟩
    · rw [q]; exact ⟨o2, e2, fun v q => by rw [d2] at q; cases q⟩
  keep := fun i h h' st k => by
    obtain ⟨⟨old, he⟩, hs⟩ := st
    exact ⟨⟨old, k e (by simp) _ he⟩, hs.keep fun b o hb q => k b (by rcases hb with h | h | h | h | h <;> simp [h]) o q⟩
  item := by
    intro X hP hw hK hc i pins s σ H E I hf st hg
    subst hP hw hK
    obtain ⟨⟨old, he⟩, hst⟩ := st
    obtain ⟨xs, ys, x, y, hqx, hqy, hx, hy⟩ := hg
    obtain ⟨its, rv, p, _⟩ := I.list hqx
    obtain ⟨its2, rv2, p2, _⟩ := I.list hqy
    obtain ⟨u, hu, ru⟩ := rv.get hx
    obtain ⟨u2, hu2, ru2⟩ := rv2.get hy
    have hel : e < s.heap.objs.size := Heap.lt_size he
    have hlt : ∀ c ∈ [e, z, TI, TO, i1, i2], c < s.heap.objs.size := fun c hcm => by
      obtain ⟨⟨f0, c0, hf0, hz⟩, hTI, ⟨x0, y0, hTO⟩, ⟨_, e1, _⟩, ⟨_, e2, _⟩⟩ := hst
      have e' : c = e ∨ c = z ∨ c = TI ∨ c = TO ∨ c = i1 ∨ c = i2 := by simpa using hcm
      rcases e' with q | q | q | q | q | q
      · rw [q]; exact hel
      · rw [q]; exact Heap.lt_size hz
      · rw [q]; exact Heap.lt_size hTI
      · rw [q]; exact Heap.lt_size hTO
      · rw [q]; exact Heap.lt_size e1
      · rw [q]; exact Heap.lt_size e2
    refine pyNext_enumz_item D De he hst p.isList p2.isList (x := u) (y := u2) (by simpa using hu) (by simpa using hu2) fun h' ho st' hT1 hT2 hsz hk => ?_
    refine ⟨_, rfl, wpAny_letOwnedTupleGo_enum (s := { s with heap := h', toks := s.toks + 1 }) ho fun h'' he' sb => ?_⟩
    have hT1' : h''.get? s.heap.objs.size = some { cls := .type "tuple", data := .seq #[u, u2] } := (sb.2 _ (Nat.ne_of_gt hel)).trans hT1
    have hT2' : h''.get? (s.heap.objs.size + 1) = some { cls := .type "tuple", data := .seq #[.int i s.toks, .ref s.heap.objs.size] } := (sb.2 _ (Nat.ne_of_gt (Nat.lt_succ_of_lt hel))).trans hT2
    have new1 : ObjOk X.prog X.w (upd H s.heap.objs.size (.tup [x, y])) h'' s.heap.objs.size (.tup [x, y]) :=
      ⟨by show 2 ≤ sizeLine; decide, [u, u2], .cons ru (.cons ru2 .nil), ⟨_, hT1', rfl, _, rfl⟩⟩
    have I1 : Inv X pins σ (upd H s.heap.objs.size (.tup [x, y])) { s with heap := h'', toks := s.toks + 1 } :=
      I.turnedNew (ch := [e, z, TI, TO, i1, i2]) (fun c o hb q => (sb.2 c (fun q' => hb (by simp [q']))).trans (hk c o (fun q' => hb (by simp [q'])) (fun q' => hb (by simp [q'])) (fun q' => hb (by simp [q'])) (fun q' => hb (by simp [q'])) (fun q' => hb (by simp [q'])) q)) hf (Nat.le_refl _) new1
    have n2 : H (s.heap.objs.size + 1) = none := I.hok.fresh (Nat.le_succ _)
    have ne21 : s.heap.objs.size + 1 ≠ s.heap.objs.size := Nat.succ_ne_self _
    have n2' : upd H s.heap.objs.size (.tup [x, y]) (s.heap.objs.size + 1) = none := by rw [upd_ne ne21]; exact n2
    obtain ⟨f0, f1, f2, f3, f4, f5⟩ := I.fpOk (Nat.le_succ s.heap.objs.size) n2
    have I2 : Inv X pins σ (upd (upd H s.heap.objs.size (.tup [x, y])) (s.heap.objs.size + 1) (.tup [.int (i : Nat), .ref s.heap.objs.size])) { s with heap := h'', toks := s.toks + 1 } :=
      Inv_add I1 n2' f1 (Heap.get?_none_of_le (Nat.le_trans I.sz (Nat.le_succ _))) f4 f5
        ⟨by show 2 ≤ sizeLine; decide, [.int i s.toks, .ref s.heap.objs.size], .cons ⟨_, rfl⟩ (.cons rfl .nil), ⟨_, hT2', rfl, _, rfl⟩⟩
    refine ⟨.ref (s.heap.objs.size + 1), _, I2, rfl, ⟨s.heap.objs.size, s.heap.objs.size + 1, x, y, rfl, I.hok.fresh (Nat.le_refl _), n2, ne21, rfl, fun l hl => by rw [I.list_inj hl hqx]; exact hx, fun l hl => by rw [I.list_inj hl hqy]; exact hy⟩,
      ⟨⟨.ref s.heap.objs.size, ?_⟩, st'.keep fun b o hb q => (sb.2 b fun z' => ?_).trans q⟩, fun c hcm => ?_⟩
    · have e1 : ((i + 1 : Nat) : Int) = (i : Int) + 1 := by omega
      rw [e1]; exact he'
    · obtain ⟨d1, d2, d3, d4, d5⟩ := De
      subst z'
      rcases hb with h | h | h | h | h
      · exact d1 h
      · exact d2 h
      · exact d3 h
      · exact d4 h
      · exact d5 h
    · have h1 := hlt c hcm
      rw [upd_ne (Nat.ne_of_lt (Nat.lt_succ_of_lt h1)), upd_ne (Nat.ne_of_lt h1)]
      exact (hf c hcm).1
  done := by
    intro X hP hw hK hc i pins s σ H E I hf st hg
    subst hP hw hK
    obtain ⟨⟨old, he⟩, hst⟩ := st
    obtain ⟨xs, ys, hqx, hqy, hend⟩ := hg
    obtain ⟨its, rv, p, _⟩ := I.list hqx
    obtain ⟨its2, rv2, p2, _⟩ := I.list hqy
    have l1 := rv.length
    have l2 := rv2.length
    have hen : its.toArray[i]? = none ∨ its2.toArray[i]? = none := by
      rcases hend with q | q
      · exact .inl (by simp; omega)
      · exact .inr (by simp; omega)
    exact pyNext_enumz_end (I.ok.hd hc) D he hst p.isList p2.isList hen fun h' hk => ⟨rfl, I.turnedL (t' := s.toks) (ch := [e, z, TI, TO, i1, i2]) (fun c o hb q =>
      hk c o (fun q' => hb (by simp [q'])) (fun q' => hb (by simp [q'])) (fun q' => hb (by simp [q'])) (fun q' => hb (by simp [q'])) q) hf⟩
  self := fun A i s Q E st h => let ⟨⟨_, he⟩, _⟩ := st; wpAny_pyIter_enum he h
def iEz (K : PySem.W.Frag) (ta : TA) : TI := fun σ H R => ta σ H fun vs H1 => ∃ a b xs ys, vs = [.ref a, .ref b] ∧ SqL K H1 a xs ∧ SqL K H1 b ys ∧ R (Itez K a b) H1
theorem pi_ez {X : Cx} {e e2 : Expr} {ta : TA} {p p' pos pos' tpos : Pos} {elts : List Expr} {kk : Nat} (hge : Gl X "enumerate") (hme : X.mg "enumerate" = none) (hg : Gl X "zip") (hm : X.mg "zip" = none) (ha : PA X [e, e2] ta)
    (hs : starEach [e, e2] X.env = (false, eval e X.env) :: starEach [e2] X.env := by rfl) (hpl : (backTo pos (starEach [e2] X.env)).any (·.1) = false := by rfl) :
    PI X (.Tuple elts kk tpos) (.Call (.Name "enumerate" p') [.Call (.Name "zip" p) [e, e2] [] pos] [] pos') (iEz X.K ta) := by
  refine ⟨fun pins s σ H R I h => ?_⟩
  refine Call_ (ld_blt I hge hme boot_enumerate (PyProof.Rows.callWith_type1 (Calls.spliced_cons ?_) rfl rfl))
  refine Call_ (ld_blt I hg hm PyProof.Rows.boot_zip (PyProof.Rows.callWith_type1 (thn (ha.run pos pins s σ H _ I h) fun us s1 ⟨vs, H1, I1, r1, q1⟩ => ?_) hs hpl))
  obtain ⟨a, b, xs, ys, ex, hqx, hqy, q⟩ := q1
  subst ex
  cases r1 with
  | cons r rr =>
    cases rr with
    | cons r' rr =>
      cases rr
      cases r
      cases r'
      obtain ⟨its, rv, p1, _⟩ := I1.list hqx
      obtain ⟨its2, rv2, p2, _⟩ := I1.list hqy
      have la : a < s1.heap.objs.size := p1.lt
      have lb : b < s1.heap.objs.size := p2.lt
      refine call_zip_2 p1.isList p2.isList fun h' hz hTI hTO h1 h2 hsz hk => ?_
      refine Calls.spliced_nil ?_
      refine call_enumz (s := { s1 with heap := h' }) hz fun h'' he hsz2 hk2 => wpAny_pyIter_enum he ?_
      have hsz' : h'.objs.size = s1.heap.objs.size + 5 := hsz
      have he' : IsEnum h'' (s1.heap.objs.size + 5) (s1.heap.objs.size + 4) 0 .none := by
        have := he
        rw [show ({ s1 with heap := h' } : Shared).heap.objs.size = s1.heap.objs.size + 5 from hsz'] at this
        exact this
      have I2 : Inv X pins σ H1 { s1 with heap := h'' } := I1.kept (t' := s1.toks) fun b o q => hk2 b o (hk b o q)
      have zst : ZSt h'' (s1.heap.objs.size + 4) (s1.heap.objs.size + 2) (s1.heap.objs.size + 3) s1.heap.objs.size (s1.heap.objs.size + 1) a b 0 :=
        ⟨⟨.none, false, .inl rfl, hk2 _ _ hz⟩, hk2 _ _ hTI, ⟨_, _, hk2 _ _ hTO⟩, h1.at fun o q => hk2 _ o q, h2.at fun o q => hk2 _ o q⟩
      have De : s1.heap.objs.size + 5 ≠ s1.heap.objs.size + 4 ∧ s1.heap.objs.size + 5 ≠ s1.heap.objs.size + 2 ∧ s1.heap.objs.size + 5 ≠ s1.heap.objs.size + 3 ∧ s1.heap.objs.size + 5 ≠ s1.heap.objs.size ∧ s1.heap.objs.size + 5 ≠ s1.heap.objs.size + 1 := by
        refine ⟨?_, ?_, ?_, ?_, ?_⟩ <;> (intro q; have q' : (s1.heap.objs.size + 5 : Nat) = _ := q; omega)
      refine ⟨s1.heap.objs.size + 5, [s1.heap.objs.size + 5, s1.heap.objs.size + 4, s1.heap.objs.size + 2, s1.heap.objs.size + 3, s1.heap.objs.size, s1.heap.objs.size + 1], _, _, H1, ?_, I2, turn_ez (PySem.W.ktu_apart s1.heap.objs.size a b la lb) De, ⟨⟨.none, he'⟩, zst⟩, fun c hcm => ?_, q⟩
      · show Value.ref h'.objs.size = _
        rw [hsz']
      · have e' : c = s1.heap.objs.size + 5 ∨ c = s1.heap.objs.size + 4 ∨ c = s1.heap.objs.size + 2 ∨ c = s1.heap.objs.size + 3 ∨ c = s1.heap.objs.size ∨ c = s1.heap.objs.size + 1 := by simpa using hcm
        have hle : s1.heap.objs.size ≤ c := by
          rcases e' with z | z | z | z | z | z
          · rw [z]; exact Nat.le_add_right _ _
          · rw [z]; exact Nat.le_add_right _ _
          · rw [z]; exact Nat.le_add_right _ _
          · rw [z]; exact Nat.le_add_right _ _
          · rw [z]; exact Nat.le_refl _
          · rw [z]; exact Nat.le_add_right _ _
        exact I1.fpOk hle (I1.hok.fresh hle)
end DEz
namespace DL
open PySem PySem.Spec L2 PyProof.Rows DEz
variable [Tbls]
/-- pairs, counted -/
def pairsD (xs ys : List D) : List D := ((xs.zip ys).zipIdx).map fun q => .tup [.int ((q.2 : Nat) : Int), .tup [q.1.1, q.1.2]]
theorem pairsD_get {xs ys : List D} {i : Nat} {x y : D} (hx : xs[i]? = some x) (hy : ys[i]? = some y) : (pairsD xs ys)[i]? = some (.tup [.int (i : Int), .tup [x, y]]) := by
  unfold pairsD
  have h : (xs.zip ys)[i]? = some (x, y) := by rw [List.getElem?_zip_eq_some]; exact ⟨hx, hy⟩
  rw [List.getElem?_map, List.getElem?_zipIdx, h]
  simp
theorem pairsD_length {xs ys : List D} : (pairsD xs ys).length = min xs.length ys.length := by
  unfold pairsD
  rw [List.length_map, List.length_zipIdx, List.length_zip]
theorem walk_ez {K : PySem.W.Frag} {cl : String → Addr} {G : Hp} {a b : Addr} {xs ys : List V} {ds es : List D} (h : SqL K G a xs) (r : RepL K cl G xs ds) (h2 : SqL K G b ys) (r2 : RepL K cl G ys es) : WalkD K cl (Itez K a b) (pairsD ds es) G := by
  refine ⟨fun i H G' hi e1 e2 nt => ?_, fun H G' e1 e2 => ?_, fun i H x H' G' hi e1 e2 nt hy => ?_⟩
  · rw [pairsD_length] at hi
    have l1 : i < xs.length := by rw [r.length]; omega
    have l2 : i < ys.length := by rw [r2.length]; omega
    exact ⟨xs, ys, xs[i], ys[i], Evl.ex_l (e1.trans e2) h, Evl.ex_l (e1.trans e2) h2, by simp [l1], by simp [l2]⟩
  · refine ⟨xs, ys, Evl.ex_l (e1.trans e2) h, Evl.ex_l (e1.trans e2) h2, ?_⟩
    rw [pairsD_length, r.length, r2.length]
    omega
  · obtain ⟨T1, T2, x', y', rfl, n1, n2, ne, rfl, f1, f2⟩ := hy
    obtain ⟨d, g1, g2⟩ := r.get' (f1 xs (Evl.ex_l (e1.trans e2) h))
    obtain ⟨d2, g3, g4⟩ := r2.get' (f2 ys (Evl.ex_l (e1.trans e2) h2))
    have q1 := Grow.laid (o := .tup [x', y']) e2 nt n1 (fun _ z => by cases z)
    have q2 := Grow.laid (o := .tup [.int (i : Nat), .ref T1]) q1.sub q1.nt (show upd H T1 (.tup [x', y']) T2 = none by rw [upd_ne ne]; exact n2) (fun _ z => by cases z)
    refine ⟨_, _, pairsD_get g1 g3, q1.trans q2, ?_⟩
    refine .tup (SqT.of upd_same) (.cons (.int _) (.cons ?_ .nil))
    refine .tup (Evl.ex_t q2.ex (SqT.of upd_same)) (.cons ((g2.mono e1).mono (q1.ex.trans q2.ex)) (.cons ((g4.mono e1).mono (q1.ex.trans q2.ex)) .nil))
def mEz (ms : M (List D)) : M (List D) := ms.bind fun ds r => match ds with
  | [.lst xs, .lst ys] => .ok (pairsD xs ys) r
  | _ => .bad
theorem di_ez {X : Cx} {p : Pm} {W : WX} {e e2 : Expr} {ms : M (List D)} {p1 p2 pos pos' tpos : Pos} {elts : List Expr} {kk : Nat} (hge : Gl X "enumerate") (hme : X.mg "enumerate" = none) (hg : Gl X "zip") (hm : X.mg "zip" = none) (ha : DA X p W [e, e2] ms)
    (hs : starEach [e, e2] X.env = (false, eval e X.env) :: starEach [e2] X.env := by rfl) (hpl : (backTo pos (starEach [e2] X.env)).any (·.1) = false := by rfl) :
    DI X p W (.Tuple elts kk tpos) (.Call (.Name "enumerate" p1) [.Call (.Name "zip" p2) [e, e2] [] pos] [] pos') (mEz ms) :=
  ⟨PI.imp (pi_ez hge hme hg hm ha.run hs hpl) fun σ H R ⟨G, r, s, q⟩ => by
    refine po_bind (R := RL X.K p.cl [e, e2].length) s q fun ds vs G1 r1 H1 s1 ex h1 q1 => ?_
    have h1' : RepL X.K p.cl G1 vs ds := h1.1
    split at q1
    · rename_i xs ys
      cases h1' with
      | cons ra rr =>
        cases rr with
        | cons rb rr =>
          cases rr
          cases ra with
          | lst ha ra =>
            cases rb with
            | lst hb rb => exact ⟨_, _, _, _, rfl, SqL.of (s1.sub _ _ ha), SqL.of (s1.sub _ _ hb), q1 _ G1 H1 s1 (Ex.refl G1) (walk_ez (SqL.of ha) ra (SqL.of hb) rb)⟩
    · exact q1.elim⟩
end DL
end

section
set_option Elab.async false
set_option linter.all false
set_option maxRecDepth 100000
set_option maxHeartbeats 4000000
/-! DMore: repr; calls by keywords; a, b = [..], y; a def whose code object is known. -/
namespace DL
open PySem PySem.Spec L2 PyProof.Rows
variable [Tbls]
section
variable {X : Cx} {p : Pm} {W : WX} {cl : String → Addr}
/-! ### repr -/
theorem call_repr_non : CallR X (.builtin "repr") (fun xs H Q => xs = [.non] ∧ Q (.str "None") H) := by
  intro pins s σ H xs us Q I r h
  obtain ⟨rfl, q⟩ := h
  obtain ⟨u, rfl, rfl⟩ := vals1 r
  exact PySem.P.repr_of_none ⟨.str _, H, I.tok _, ⟨_, rfl⟩, q⟩
def reprD : D → Option D
  | .int i => if decide (-(10 ^ 18) < i) && decide (i < 10 ^ 18) then some (.str (toString i)) else none
  | .non => some (.str "None")
  | _ => none
theorem b_repr : CallR X (.builtin "repr") (rC1 X.K cl reprD) := c1_of fun G H d z x Q ex nt vd hz q => by
  unfold reprD at hz
  split at hz
  · split at hz
    · rename_i i hi
      cases hz
      rw [Bool.and_eq_true] at hi
      have h1 := of_decide_eq_true hi.1
      have h2 := of_decide_eq_true hi.2
      refine ⟨_, SkE.call_repr_int, _, by rw [vd.int], ?_, q _ G H (Grow.refl ex nt) (.str _)⟩
      have h3 : i.natAbs < 2 ^ 64 := by omega
      by_cases h0 : i.natAbs = 0
      · rw [h0]; decide
      · have := (Nat.log2_lt h0).mpr h3
        omega
    · cases hz
  · cases hz
    exact ⟨_, call_repr_non, by rw [vd.non], q _ G H (Grow.refl ex nt) (.str _)⟩
  · cases hz
/-! ### calls by keywords alone -/
structure DK (X : Cx) (p : Pm) (W : WX) (kws : List Keyword) (m : M (List D)) : Prop where
  run : PK X kws (tM X.K p W (RL X.K p.cl kws.length) m)
theorem PK.imp {kws : List Keyword} {t t' : TA} (h : PK X kws t) (f : ∀ σ H Q, t' σ H Q → t σ H Q) : PK X kws t' := ⟨fun pos pins s σ H Q I q => h.run pos pins s σ H Q I (f σ H Q q)⟩
theorem dk_nil : DK X p W [] mNil := ⟨PK.imp pk_nil fun σ H Q ⟨G, r, s, q⟩ => q [] G H s (Ex.refl G) ⟨.nil, rfl⟩⟩
theorem dk_cons {nm : Option Str} {e : Expr} {kpos : Pos} {kws : List Keyword} {va : M D} {ms : M (List D)} (ha : DE X p W e va) (hr : DK X p W kws ms) : DK X p W (⟨nm, e, kpos⟩ :: kws) (mCons va ms) := ⟨PK.imp (pk_cons ha.run hr.run) fun σ H Q ⟨G, r, s, q⟩ => by
  refine po_bind (R := RD X.K p.cl) s q fun d v G1 r1 H1 s1 ex h1 q1 => ?_
  refine po_bind (R := RL X.K p.cl kws.length) s1 q1 fun ds vs G2 r2 H2 s2 ex2 h2 q2 => ?_
  exact q2 _ G2 H2 s2 (Ex.refl G2) ⟨.cons ((show Rep X.K p.cl G1 v d from h1).mono ex2) h2.1, congrArg (· + 1) h2.2⟩⟩
def pick {α : Type} (is : List Nat) (l : List α) : List α := is.filterMap fun i => l[i]?
theorem RepL.pick {K : PySem.W.Frag} {G : Hp} {vs : List V} {ds : List D} (r : RepL K cl G vs ds) : ∀ (is : List Nat), RepL K cl G (DL.pick is vs) (DL.pick is ds)
  | [] => .nil
  | i :: is => by
    unfold DL.pick
    rw [List.filterMap_cons, List.filterMap_cons]
    cases e : vs[i]? with
    | none =>
      have e2 : ds[i]? = none := by
        rw [List.getElem?_eq_none_iff] at e ⊢
        rw [← r.length]; exact e
      rw [e2]
      exact RepL.pick r is
    | some v =>
      obtain ⟨d, e2, rv⟩ := r.get' e
      rw [e2]
      exact .cons rv (RepL.pick r is)
theorem vals_pick {vs : List V} {us : List Value} (r : Vals vs us) : ∀ (is : List Nat), Vals (DL.pick is vs) (DL.pick is us)
  | [] => .nil
  | i :: is => by
    unfold DL.pick
    rw [List.filterMap_cons, List.filterMap_cons]
    cases e : vs[i]? with
    | none =>
      have e2 : us[i]? = none := by
        rw [List.getElem?_eq_none_iff] at e ⊢
        rw [← Paired.length r]; exact e
      rw [e2]
      exact vals_pick r is
    | some v =>
      obtain ⟨u, e2, rv⟩ := r.get e
      rw [e2]
      exact .cons rv (vals_pick r is)
/-- how a call by the keywords ks binds: is tells for each parameter which of them -/
structure KB (K : PySem.W.Frag) (fd : FuncData) (ps ks : List Str) (is : List Nat) : Prop where
  to : ∀ (s : Shared) (ws : List Value), K.In s.heap → ws.length = ks.length → BindsTo s fd ⟨[], ks.zip ws⟩ (ps.zip (DL.pick is ws))
/-- a def over data that is called by keywords -/
structure Pk (X : Cx) (cl : String → Addr) (x : Str) (k n : Nat) (ks : List Str) (is : List Nat) (g : List D → Rs) : Prop where
  ex : ∃ (f : Addr) (fd : FuncData) (ps : List Str), FnOk X.prog X.w X.K X.mg X.base (L2.CX X.prog X.w) k f fd ps (spP X.K cl n g) ∧ X.mg x = some (.ref f) ∧ PySem.W.keepIn X.K (.ref f) = true ∧ KB X.K fd ps ks is
variable {x : Str} {k n : Nat} {ks : List Str} {is : List Nat} {g : List D → Rs} {kws : List Keyword} {ms : M (List D)} {p1 pos : Pos}
theorem de_callK (F : Pk X p.cl x k n ks is g) (hr : Room k X.A) (hg : Gl X x) (tk : Takes X W) (ha : DK X p W kws ms) (hn : ∀ l : List D, l.length = kws.length → (DL.pick is l).length = n) (hl : kws.length = ks.length := by rfl) (hdb : (x == ("__debug__" : Str)) = false := by decide)
    (hall : (backToKw pos (keywordEach kws X.env)).all (·.1.isSome) = true := by rfl) (hks : (backToKw pos (keywordEach kws X.env)).filterMap (·.1) = ks := by rfl)
    (hpl : ((backTo pos (starEach [] X.env)).any (·.1) || (backToKw pos (keywordEach kws X.env)).any (·.1.isNone)) = false := by rfl) :
    DE X p W (.Call (.Name x p1) [] kws pos) (mCall (fun ds => g (DL.pick is ds)) ms) := by
  obtain ⟨f, fd, ps, hF, hm, hk, hb⟩ := F.ex
  refine ⟨⟨fun pins s σ H Q I ⟨G, r, st, q⟩ => ?_⟩⟩
  refine wpAny_Call_Name_kw (ld_glob I hg hm ?_ hdb)
  refine PySem.W.callWith_KW0 (h₀ := X.base) I.ok.mod.kin hk hall ?_ hpl
  have q' : tM X.K p W (RL X.K p.cl kws.length) ms σ H fun vs H1 => ∃ G1 r1 ds, St X.K p G1 r1 σ H1 ∧ RepL X.K p.cl G1 vs ds ∧ ds.length = kws.length ∧ Po X.K p W (RD X.K p.cl) G1 σ Q (match g (DL.pick is ds) with | .ok d => .ok d r1 | .err e => .err e r1 | .bad => .bad : Out D) :=
    po_bind (R := RL X.K p.cl kws.length) st q fun ds vs G1 r1 H1 s1 ex h1 q1 => ⟨G1, r1, ds, s1, h1.1, h1.2, q1⟩
  refine thn (ha.run.run pos pins s σ H _ I q') fun ws s2 ⟨zs, H2, I2, rz, G1, r1, ds, s1, h1, h2, q1⟩ => ⟨I2.kIn, ?_⟩
  rw [hks]
  have hws : ws.length = ks.length := by rw [← Paired.length rz, h1.length, h2, hl]
  have r2 := vals_pick rz is
  have hsp : spP X.K p.cl n g (DL.pick is zs) H2 Q (WE W σ) := by
    refine ⟨G1, DL.pick is ds, s1.base.2 s1.tab, s1.sub, s1.nt, h1.pick is, hn ds h2, ?_⟩
    cases e : g (DL.pick is ds) with
    | ok d => rw [e] at q1; exact fun v G' H' g' rv => q1 v G' H' (s1.grow g') g'.ex rv
    | err x => rw [e] at q1; exact fun c dd G' H' g' rx => q1 c dd G' H' (s1.grow g') g'.ex rx
    | bad => rw [e] at q1; exact q1.elim
  refine wpAny_call (codeAny_mono (hF.run X.A X.stack s2 H2 ⟨[], ks.zip ws⟩ (DL.pick is ws) (DL.pick is zs) Q (WE W σ) hr I2.env0 (hb.to s2 ws I2.kIn hws) r2 hsp) fun r s' hq => ?_)
  cases r with
  | error e => exact passAt tk σ pins H2 s2 e s' I2 hq
  | ok fl =>
    cases fl with
    | ret u => exact I2.after hq
    | next => exact False.elim hq
    | brk => exact False.elim hq
    | cont => exact False.elim hq
end
end DL
namespace DL
open PySem PySem.Spec L2 PyProof.Rows
variable [Tbls]
/-! ### a, b = [..], y -/
section
variable {X : Cx} {p : Pm} {W : WX}
def sParO (i j : Nat) (m : M (List D)) (d : D) : M Fl := m.bind fun ds r => if short ds then .ok .nx ((r.set i (.own 0 (.lst ds))).set j (.val d)) else .bad
theorem ds_parO {i j : Nat} {es : List Expr} {e2 : Expr} {v : V} {d : D} {ms : M (List D)} {st : Stmt} {pos' : Pos} (h : ∀ ta, PA X [.List es pos', e2] ta → PS X st (tPar i j ta)) (ha : DA X p W es ms) (hc : PE X e2 (tC v)) (hr : ∀ G, Rep X.K p.cl G v d)
    (hs : starEach [.List es pos', e2] X.env = (false, eval (.List es pos') X.env) :: starEach [e2] X.env := by rfl) (hs2 : starEach [e2] X.env = (false, eval e2 X.env) :: starEach [] X.env := by rfl) : DS X p W st (sParO i j ms d) :=
  ⟨PS.imp (h _ (pa_cons (pe_lst ha.run) (pa_cons hc pa_nil hs2) hs)) fun D σ H ⟨G, r, s, q⟩ => by
    refine pos_bind (R := RL X.K p.cl es.length) s q fun ds vs G1 r1 H1 s1 ex h1 q1 => ?_
    have h1' : RepL X.K p.cl G1 vs ds := h1.1
    split at q1
    · rename_i hsh
      refine ⟨by rw [h1'.length]; exact short_le hsh, fun a ha => ?_⟩
      have s2 := (s1.seto (i := i) (u := .lst vs) (o := .lst ds) ha ⟨vs, upd_same, h1'⟩).setv (i := j) (hr G1)
      exact ⟨V.ref a, v, rfl, q1 G1 _ _ s2 (Ex.refl G1)⟩
    · exact q1.elim⟩
end
/-! ### a def whose code object is known -/
section
variable {P : Program} {w : World} {K : PySem.W.Frag} {mg : Str → Option Value} {base : Heap}
theorem okC {x qual : Str} {st : Stmt} {f : Addr} {fd : FuncData} {N ps : List Str} {k : Nat} {sp : Sp} {cdv : Value} (F : Fun K x qual st f fd) (hc : fd.code = cdv) (S : FnScope N ps (defScope st)) (len : ∀ vs H Q E, sp vs H Q E → vs.length = ps.length)
    (hbody : ∀ (A : Around) (outer : List Env) (s : Shared) (H : Hp) (vs : List V) (Q : VK) (E : XK), Room k (A.deeper (envOfC qual (defScope st) s.heap.objs.size f cdv)) → sp vs H Q E →
      ∃ t, PSs (cxOf (L2.CX P w) P w K mg base N qual (defScope st) f cdv A outer s H E) (defBody st) t ∧ t { nx := fun _ H' => Q .non H', rt := Q } (start N vs) H) : FnOk P w K mg base (L2.CX P w) (k + 1) f fd ps sp := by
  obtain ⟨oc, od, kV, doc, pm, an, cdv', ct, osl, rfl, lk, hcd⟩ := F.ex
  have e : cdv' = cdv := hc
  subst e
  exact fn_of lk hcd S len fun A outer s H vs Q E hr hsp => hbody A outer s H vs Q E hr hsp
theorem fn_ownC {cl : String → Addr} {x qual : Str} {st : Stmt} {f : Addr} {fd : FuncData} {N ps : List Str} {k n : Nat} {m : M Fl} {cdv : Value} (F : Fun K x qual st f fd) (hc : fd.code = cdv) (S : FnScope N ps (defScope st)) (hn : ps.length = n + 1)
    (hb : ∀ (A : Around) (outer : List Env) (s : Shared) (H B G : Hp) (a : Addr) (E : XK), Room k (A.deeper (envOfC qual (defScope st) s.heap.objs.size f cdv)) →
      DSs (cxOf (L2.CX P w) P w K mg base N qual (defScope st) f cdv A outer s H E) ⟨cl, B, G, fun _ => a, []⟩ (fun c d _ H' => E c d H') (defBody st) m) :
    FnOk P w K mg base (L2.CX P w) (k + 1) f fd ps (spO K cl n (fnO N.length m)) := by
  refine okC F hc S (fun vs H Q E ⟨G, a, o, ds, ws, e, _, _, _, _, _, r, hl, _⟩ => by rw [e, hn, ← hl, ← r.length]; rfl) fun A outer s H vs Q E hr ⟨G, a, o, ds, ws, e, tb, ex, nt, q, ga, r, hl, h⟩ => ?_
  subst e
  refine ⟨_, (hb A outer s H (cut H a) G a E hr).run, G, .own 1 o :: startR (N.length - 1) ds, St.startO tb ex nt q ga r rfl, ?_⟩
  unfold fnO at h
  cases e : m (.own 1 o :: startR (N.length - 1) ds) with
  | ok fl r1 =>
    rw [e] at h
    cases fl with
    | nx =>
      dsimp only at h
      cases e2 : own0 r1 with
      | none => rw [e2] at h; exact h.elim
      | some o' =>
        rw [e2] at h
        exact fun G' σ' H' s' ex' => h .non G' H' (s'.grew ex') (s'.own0 e2).2 (s'.own0 e2).1 .non
    | rt d =>
      dsimp only at h
      cases e2 : own0 r1 with
      | none => rw [e2] at h; exact h.elim
      | some o' =>
        rw [e2] at h
        exact fun v G' σ' H' s' ex' rv => h v G' H' (s'.grew ex') (s'.own0 e2).2 (s'.own0 e2).1 rv
    | ro d => exact h.elim
    | bk => exact h.elim
    | ct => exact h.elim
  | err x r1 =>
    rw [e] at h
    dsimp only at h
    cases e2 : own0 r1 with
    | none => rw [e2] at h; exact h.elim
    | some o' =>
      rw [e2] at h
      exact fun c dd G' σ' H' s' ex' rx => h c dd G' H' (s'.grew ex') (s'.own0 e2).2 (s'.own0 e2).1 rx
  | bad => rw [e] at h; exact h.elim
end
end DL
end

section
set_option Elab.async false
set_option linter.all false
set_option maxRecDepth 100000
set_option maxHeartbeats 4000000
/-! DNew: defs that hand back a new own object; facts apart from contexts. -/
namespace DL
open PySem PySem.Spec L2 PyProof.Rows
variable [Tbls]
inductive Rn where
  | ok (o : Ob) | err (e : Er) | bad
/-- a def over data that hands back a new own object -/
def spN (K : PySem.W.Frag) (cl : String → Addr) (n : Nat) (f : List D → Rn) : Sp := fun vs H Q E => ∃ G ds, LamX.Tabs Tbls.T H ∧ Ex G H ∧ Nt G ∧ RepL K cl G vs ds ∧ ds.length = n ∧ match f ds with
  | .ok o => ∀ a G' H', Grow G H G' H' → OwnAt K cl G' H' a o → G' a = none → (∀ u, H a = some u → ∃ ps, u = .tbl ps) → Q (.ref a) H'
  | .err e => ∀ c dd G' H', Grow G H G' H' → RepX K cl G' e c dd → E c dd H'
  | .bad => False
def fnN (N : Nat) (m : M Fl) (ds : List D) : Rn := match m (startR N ds) with
  | .ok (.ro o) _ => .ok o
  | .err e _ => .err e
  | _ => .bad
section
variable {P : Program} {w : World} {K : PySem.W.Frag} {mg : Str → Option Value} {base : Heap}
theorem fn_new {cl : String → Addr} {x qual : Str} {st : Stmt} {f : Addr} {fd : FuncData} {N ps : List Str} {k : Nat} {m : M Fl} (F : Fun K x qual st f fd) (S : FnScope N ps (defScope st))
    (hb : ∀ (cdv : Value) (A : Around) (outer : List Env) (s : Shared) (H G : Hp) (E : XK), Room k (A.deeper (envOfC qual (defScope st) s.heap.objs.size f cdv)) →
      DSs (cxOf (L2.CX P w) P w K mg base N qual (defScope st) f cdv A outer s H E) ⟨cl, H, G, fun _ => 0, []⟩ (fun c d _ H' => E c d H') (defBody st) m) :
    FnOk P w K mg base (L2.CX P w) (k + 1) f fd ps (spN K cl ps.length (fnN N.length m)) := by
  refine F.okX S (fun vs H Q E ⟨G, ds, _, _, _, r, hl, _⟩ => by rw [r.length, hl]) fun cdv A outer s H vs Q E hr ⟨G, ds, tb, ex, nt, r, hl, h⟩ => ?_
  refine ⟨_, (hb cdv A outer s H G E hr).run, G, startR N.length ds, St.start tb ex nt r, ?_⟩
  unfold fnN at h
  cases e : m (startR N.length ds) with
  | ok fl r1 =>
    rw [e] at h
    cases fl with
    | ro o => exact fun a G' σ' H' s' ex' q ng nb => h a G' H' (s'.grew ex') q ng nb
    | nx => exact h.elim
    | rt d => exact h.elim
    | bk => exact h.elim
    | ct => exact h.elim
  | err x r1 => rw [e] at h; exact fun c dd G' σ' H' s' ex' rx => h c dd G' H' (s'.grew ex') rx
  | bad => rw [e] at h; exact h.elim
end
structure Nf (X : Cx) (cl : String → Addr) (x : Str) (k n : Nat) (g : List D → Rn) : Prop where
  ex : ∃ (f : Addr) (fd : FuncData) (ps : List Str), FnOk X.prog X.w X.K X.mg X.base (L2.CX X.prog X.w) k f fd ps (spN X.K cl n g) ∧ X.mg x = some (.ref f) ∧ PySem.W.keepIn X.K (.ref f) = true ∧ Binds X.K fd ps []
def mCallN (g : List D → Rn) (ms : M (List D)) : M Ob := ms.bind fun ds r => match g ds with
  | .ok o => .ok o r
  | .err e => .err e r
  | .bad => .bad
section
variable {X : Cx} {p : Pm} {W : WX} {e : Expr} {es : List Expr} {x : Str} {k n : Nat} {g : List D → Rn} {ms : M (List D)} {pos p1 : Pos}
theorem Free.came {K : PySem.W.Frag} {p : Pm} {G H G' H' : Hp} {r : Rho} {σ : L2.St} {a : Addr} {o : Ob} (s : St K p G r σ H) (q : OwnAt K p.cl G' H' a o) (ng : G' a = none) (nb : ∀ u, H a = some u → ∃ ps, u = .tbl ps) : Free K p G' r σ H' a o := by
  refine ⟨q, ng, fun u e => ?_, fun i k o' hi z => ?_, fun y hy z => ?_⟩
  · by_cases ht : ∃ ps, u = .tbl ps
    · exact ht
    · exact nb u (s.base.1 a u e fun ps z => ht ⟨ps, z⟩)
  · obtain ⟨b, hb, q', _⟩ := s.own i k o' hi
    rw [hb] at z
    have e : b = a := by injection z with z; injection z with z; injection z
    subst e
    obtain ⟨w, hw, ht⟩ := q'.mut
    obtain ⟨ps, hp⟩ := nb w hw
    exact ht ps hp
  · obtain ⟨q', _⟩ := s.hid y hy
    obtain ⟨w, hw, ht⟩ := q'.mut
    rw [z] at hw
    obtain ⟨ps, hp⟩ := nb w hw
    exact ht ps hp
/-- f(e, ..), a new own object comes back -/
theorem dn_call (F : Nf X p.cl x k n g) (hr : Room k X.A) (hg : Gl X x) (tk : Takes X W) (ha : DA X p W (e :: es) ms) (hn : (e :: es).length = n := by rfl) (hdb : (x == ("__debug__" : Str)) = false := by decide)
    (he : starEach (e :: es) X.env = (false, eval e X.env) :: starEach es X.env := by rfl) (hpl : (backTo pos (starEach es X.env)).any (·.1) = false := by rfl) :
    DN X p W (.Call (.Name x p1) (e :: es) [] pos) (mCallN g ms) := by
  obtain ⟨f, fd, ps, hF, hm, hk, hb⟩ := F.ex
  refine ⟨PE.imp (pe_callSD (E := WE W) (dvs := []) hF hr hg hm hk hb .nil (fun σ => passAt tk σ) ha.run hdb he hpl) fun σ H Q ⟨G, r, s, q⟩ => ?_⟩
  refine ⟨G, r, s, ?_⟩
  unfold mCallN M.bind at q
  cases e1 : ms r with
  | err x r1 => rw [e1] at q; exact q
  | bad => rw [e1] at q; exact q.elim
  | ok ds r1 =>
    rw [e1] at q
    intro vs G1 H1 s1 ex h1
    show spN X.K p.cl n g (vs ++ []) H1 Q (WE W σ)
    rw [List.append_nil]
    refine ⟨G1, ds, s1.base.2 s1.tab, s1.sub, s1.nt, h1.1, by rw [h1.2]; exact hn, ?_⟩
    have q' : PoN X.K p W G σ Q (match g ds with | .ok o => .ok o r1 | .err e => .err e r1 | .bad => .bad) := q
    cases e2 : g ds with
    | ok o => rw [e2] at q'; exact fun a G' H' g' qa ng nb => q' a G' H' (s1.grow g') (ex.trans g'.ex) (Free.came s1 qa ng nb)
    | err x => rw [e2] at q'; exact fun c dd G' H' g' rx => q' c dd G' H' (s1.grow g') (ex.trans g'.ex) rx
    | bad => rw [e2] at q'; exact q'.elim
end
/-! ### facts apart from contexts -/
section
variable (P : Program) (w : World) (K : PySem.W.Frag) (mg : Str → Option Value) (base : Heap) (cl : String → Addr) (x : Str) (k n : Nat)
def RP (dds : List D) (g : List D → Rs) : Prop := ∃ (f : Addr) (fd : FuncData) (ps : List Str) (ds : List Value) (dvs : List V), FnOk P w K mg base (L2.CX P w) k f fd ps (spP K cl n g) ∧ mg x = some (.ref f) ∧ PySem.W.keepIn K (.ref f) = true ∧ Binds K fd ps ds ∧ Vals dvs ds ∧ ∀ G, RepL K cl G dvs dds
def RO' (g : Ob → List D → Ro) : Prop := ∃ (f : Addr) (fd : FuncData) (ps : List Str), FnOk P w K mg base (L2.CX P w) k f fd ps (spO K cl n g) ∧ mg x = some (.ref f) ∧ PySem.W.keepIn K (.ref f) = true ∧ Binds K fd ps []
def RN (g : List D → Rn) : Prop := ∃ (f : Addr) (fd : FuncData) (ps : List Str), FnOk P w K mg base (L2.CX P w) k f fd ps (spN K cl n g) ∧ mg x = some (.ref f) ∧ PySem.W.keepIn K (.ref f) = true ∧ Binds K fd ps []
def RK (ks : List Str) (is : List Nat) (g : List D → Rs) : Prop := ∃ (f : Addr) (fd : FuncData) (ps : List Str), FnOk P w K mg base (L2.CX P w) k f fd ps (spP K cl n g) ∧ mg x = some (.ref f) ∧ PySem.W.keepIn K (.ref f) = true ∧ KB K fd ps ks is
end
end DL
end

section
set_option Elab.async false
set_option linter.all false
set_option maxRecDepth 100000
set_option maxHeartbeats 4000000
/-! DEv: mirrors evaluated. -/
namespace DL
open PySem L2
theorem e_bind {α β : Type} {m : M α} {f : α → M β} {r : Rho} : M.bind m f r = (match m r with | .ok a r1 => f a r1 | .err e r1 => .err e r1 | .bad => .bad) := by
  show (m r).bind _ = _
  cases m r <;> rfl
theorem e_pure {α : Type} {a : α} {r : Rho} : M.pure a r = .ok a r := rfl
theorem e_var {i : Nat} {r : Rho} : mVar i r = (match r[i]? with | some (.val d) => .ok d r | _ => .bad) := rfl
theorem e_frz {i : Nat} {r : Rho} : mFrz i r = (match r[i]? with | some (.val d) => .ok d r | some (.own _ o) => .ok o.d (r.set i (.val o.d)) | _ => .bad) := rfl
theorem e_os {i : Nat} {r : Rho} : mOs i r = (match r[i]? with | some (.own _ _) => .ok (.os i) r | _ => .bad) := rfl
theorem e_dv {m : M D} {r : Rho} : mDv m r = (match m r with | .ok a r1 => .ok (.dv a) r1 | .err e r1 => .err e r1 | .bad => .bad) := by
  show (m r).bind _ = _
  cases m r <;> rfl
theorem e_op {g : D → D → Option D} {a b : M Vk} {r : Rho} : mOp g a b r = (match a r with | .ok x r1 => (match b r1 with | .ok y r2 => (match res r2 x, res r2 y with | some d, some e => (match g d e with | some z => .ok z r2 | none => .bad) | _, _ => .bad) | .err e r2 => .err e r2 | .bad => .bad) | .err e r1 => .err e r1 | .bad => .bad) := by
  show (a r).bind _ = _
  cases a r with
  | ok x r1 =>
    show (b r1).bind _ = _
    dsimp only
    cases b r1 <;> rfl
  | _ => rfl
theorem e_un {g : D → Option D} {a : M Vk} {r : Rho} : mUn g a r = (match a r with | .ok x r1 => (match res r1 x with | some d => (match g d with | some z => .ok z r1 | none => .bad) | none => .bad) | .err e r1 => .err e r1 | .bad => .bad) := by
  show (a r).bind _ = _
  cases a r <;> rfl
theorem e_B {m : M D} {r : Rho} : mB m r = (match m r with | .ok d r1 => (match d with | .bl b => .ok b r1 | _ => .bad) | .err e r1 => .err e r1 | .bad => .bad) := by
  show (m r).bind _ = _
  cases m r with
  | ok d r1 => cases d <;> rfl
  | _ => rfl
theorem e_and {a b : M Bool} {r : Rho} : mAnd a b r = (match a r with | .ok c r1 => if c then b r1 else .ok false r1 | .err e r1 => .err e r1 | .bad => .bad) := by
  show (a r).bind _ = _
  cases a r with
  | ok c r1 => cases c <;> rfl
  | _ => rfl
theorem e_or {a b : M Bool} {r : Rho} : mOr a b r = (match a r with | .ok c r1 => if c then .ok true r1 else b r1 | .err e r1 => .err e r1 | .bad => .bad) := by
  show (a r).bind _ = _
  cases a r with
  | ok c r1 => cases c <;> rfl
  | _ => rfl
theorem e_not {a : M Bool} {r : Rho} : mNot a r = (match a r with | .ok c r1 => .ok (!c) r1 | .err e r1 => .err e r1 | .bad => .bad) := by
  show (a r).bind _ = _
  cases a r <;> rfl
theorem e_vand {a b : M D} {r : Rho} : vAnd a b r = (match a r with | .ok (.bl c) r1 => if c then b r1 else .ok (.bl false) r1 | .ok _ r1 => .bad | .err e r1 => .err e r1 | .bad => .bad) := by
  show (a r).bind _ = _
  cases a r with
  | ok d r1 => cases d with
    | bl c => cases c <;> rfl
    | _ => rfl
  | _ => rfl
theorem e_vor {a b : M D} {r : Rho} : vOr a b r = (match a r with | .ok (.bl c) r1 => if c then .ok (.bl true) r1 else b r1 | .ok _ r1 => .bad | .err e r1 => .err e r1 | .bad => .bad) := by
  show (a r).bind _ = _
  cases a r with
  | ok d r1 => cases d with
    | bl c => cases c <;> rfl
    | _ => rfl
  | _ => rfl
theorem e_vnot {a : M D} {r : Rho} : vNot a r = (match a r with | .ok (.bl c) r1 => .ok (.bl (!c)) r1 | .ok _ r1 => .bad | .err e r1 => .err e r1 | .bad => .bad) := by
  show (a r).bind _ = _
  cases a r with
  | ok d r1 => cases d <;> rfl
  | _ => rfl
theorem e_if {c : M Bool} {a b : M D} {r : Rho} : mIf c a b r = (match c r with | .ok t r1 => if t then a r1 else b r1 | .err e r1 => .err e r1 | .bad => .bad) := by
  show (c r).bind _ = _
  cases c r with
  | ok t r1 => cases t <;> rfl
  | _ => rfl
theorem e_nil {r : Rho} : mNil r = .ok [] r := rfl
theorem e_cons {a : M D} {as : M (List D)} {r : Rho} : mCons a as r = (match a r with | .ok d r1 => (match as r1 with | .ok ds r2 => .ok (d :: ds) r2 | .err e r2 => .err e r2 | .bad => .bad) | .err e r1 => .err e r1 | .bad => .bad) := by
  show (a r).bind _ = _
  cases a r with
  | ok x r1 =>
    show (as r1).bind _ = _
    dsimp only
    cases as r1 <;> rfl
  | _ => rfl
theorem e_tup {m : M (List D)} {r : Rho} : mTup m r = (match m r with | .ok ds r1 => if short ds then .ok (.tup ds) r1 else .bad | .err e r1 => .err e r1 | .bad => .bad) := by
  show (m r).bind _ = _
  cases m r <;> rfl
theorem e_lst {m : M (List D)} {r : Rho} : mLst m r = (match m r with | .ok ds r1 => if short ds then .ok (.lst ds) r1 else .bad | .err e r1 => .err e r1 | .bad => .bad) := by
  show (m r).bind _ = _
  cases m r <;> rfl
theorem e_call {g : List D → Rs} {ms : M (List D)} {r : Rho} : mCall g ms r = (match ms r with | .ok ds r1 => (match g ds with | .ok d => .ok d r1 | .err e => .err e r1 | .bad => .bad) | .err e r1 => .err e r1 | .bad => .bad) := by
  show (ms r).bind _ = _
  cases ms r <;> rfl
theorem e_callN {g : List D → Rn} {ms : M (List D)} {r : Rho} : mCallN g ms r = (match ms r with | .ok ds r1 => (match g ds with | .ok d => .ok d r1 | .err e => .err e r1 | .bad => .bad) | .err e r1 => .err e r1 | .bad => .bad) := by
  show (ms r).bind _ = _
  cases ms r <;> rfl
theorem e_gown {α : Type} {i : Nat} {m : M α} {r : Rho} : gOwn i m r = (match r[i]? with | some (.own _ _) => m r | _ => .bad) := rfl
theorem e_callO {i : Nat} {g : Ob → List D → Ro} {ms : M (List D)} {r : Rho} : mCallO i g ms r = (match ms r with | .ok ds r1 => (match r1[i]? with | some (.own k o) => (match g o ds with | .ok d o' => .ok d (r1.set i (.own k o')) | .err e o' => .err e (r1.set i (.own k o')) | .bad => .bad) | _ => .bad) | .err e r1 => .err e r1 | .bad => .bad) := by
  show (ms r).bind _ = _
  cases ms r <;> rfl
theorem e_seq {a b : M Fl} {r : Rho} : sSeq a b r = (match a r with | .ok .nx r1 => b r1 | o => o) := rfl
theorem e_nx {r : Rho} : sNx r = .ok .nx r := rfl
theorem e_drop {m : M D} {r : Rho} : sDrop m r = (match m r with | .ok _ r1 => .ok .nx r1 | .err e r1 => .err e r1 | .bad => .bad) := by
  show (m r).bind _ = _
  cases m r <;> rfl
theorem e_ret {m : M D} {r : Rho} : sRet m r = (match m r with | .ok d r1 => .ok (.rt d) r1 | .err e r1 => .err e r1 | .bad => .bad) := by
  show (m r).bind _ = _
  cases m r <;> rfl
theorem e_retO {m : M (List D)} {r : Rho} : sRetO m r = (match m r with | .ok ds r1 => if short ds then .ok (.ro (.lst ds)) r1 else .bad | .err e r1 => .err e r1 | .bad => .bad) := by
  show (m r).bind _ = _
  cases m r <;> rfl
theorem e_sif {c : M Bool} {a b : M Fl} {r : Rho} : sIf c a b r = (match c r with | .ok t r1 => if t then a r1 else b r1 | .err e r1 => .err e r1 | .bad => .bad) := by
  show (c r).bind _ = _
  cases c r with
  | ok t r1 => cases t <;> rfl
  | _ => rfl
theorem e_set {i : Nat} {m : M D} {r : Rho} : sSet i m r = (match m r with | .ok d r1 => .ok .nx (r1.set i (.val d)) | .err e r1 => .err e r1 | .bad => .bad) := by
  show (m r).bind _ = _
  cases m r <;> rfl
theorem e_par {i j : Nat} {m : M (List D)} {r : Rho} : sPar i j m r = (match m r with | .ok [d, e] r1 => .ok .nx ((r1.set i (.val d)).set j (.val e)) | .ok _ r1 => .bad | .err e r1 => .err e r1 | .bad => .bad) := by
  show (m r).bind _ = _
  cases m r with
  | ok ds r1 => rcases ds with _ | ⟨_, _ | ⟨_, _ | ⟨_, _⟩⟩⟩ <;> rfl
  | _ => rfl
theorem e_parO {i j : Nat} {m : M (List D)} {d : D} {r : Rho} : sParO i j m d r = (match m r with | .ok ds r1 => if short ds then .ok .nx ((r1.set i (.own 0 (.lst ds))).set j (.val d)) else .bad | .err e r1 => .err e r1 | .bad => .bad) := by
  show (m r).bind _ = _
  cases m r <;> rfl
theorem e_asg {t : Pat} {m : M D} {r : Rho} : sAsg t m r = (match m r with | .ok d r1 => (match bindP t d r1 with | some r' => .ok .nx r' | none => .bad) | .err e r1 => .err e r1 | .bad => .bad) := by
  show (m r).bind _ = _
  cases m r <;> rfl
theorem e_raise {x : String} {m : M D} {r : Rho} : sRaise x m r = (match m r with | .ok d r1 => .err ⟨x, [("part", d)]⟩ r1 | .err e r1 => .err e r1 | .bad => .bad) := by
  show (m r).bind _ = _
  cases m r <;> rfl
theorem e_for {it : M (List D)} {t : Pat} {b : M Fl} {r : Rho} : sFor it t b r = (match it r with | .ok ds r1 => loopD t b ds r1 | .err e r1 => .err e r1 | .bad => .bad) := by
  show (it r).bind _ = _
  cases it r <;> rfl
theorem e_range1 {ms : M (List D)} {r : Rho} : mRange1 ms r = (match ms r with | .ok [.int j] r1 => if fit62 j then .ok (rangeD 0 j.toNat) r1 else .bad | .ok _ r1 => .bad | .err e r1 => .err e r1 | .bad => .bad) := by
  show (ms r).bind _ = _
  cases ms r with
  | ok ds r1 =>
    rcases ds with _ | ⟨d, _ | ⟨_, _⟩⟩
    · rfl
    · cases d <;> rfl
    · cases d <;> rfl
  | _ => rfl
theorem e_items {m : M D} {r : Rho} : mItems m r = (match m r with | .ok (.lst ds) r1 => .ok ds r1 | .ok (.scr ds) r1 => .ok ds r1 | .ok (.tup ds) r1 => .ok ds r1 | .ok (.str z) r1 => .ok (signsD z) r1 | .ok _ r1 => .bad | .err e r1 => .err e r1 | .bad => .bad) := by
  show (m r).bind _ = _
  cases m r with
  | ok d r1 => cases d <;> rfl
  | _ => rfl
theorem e_part {m : M D} {r : Rho} : mPart m r = (match m r with | .ok (.int i) r1 => .ok (some i) r1 | .ok _ r1 => .bad | .err e r1 => .err e r1 | .bad => .bad) := by
  show (m r).bind _ = _
  cases m r with
  | ok d r1 => cases d <;> rfl
  | _ => rfl
theorem e_sl {a : M Vk} {lo hi : M (Option Int)} {r : Rho} : mSl a lo hi r = (match a r with | .ok x r1 => (match lo r1 with | .ok l r2 => (match hi r2 with | .ok h r3 => (match res r3 x with | some d => (match slD d l h with | some z => .ok z r3 | none => .bad) | none => .bad) | .err e r3 => .err e r3 | .bad => .bad) | .err e r2 => .err e r2 | .bad => .bad) | .err e r1 => .err e r1 | .bad => .bad) := by
  show (a r).bind _ = _
  cases a r with
  | ok x r1 =>
    show (lo r1).bind _ = _
    dsimp only
    cases lo r1 with
    | ok l r2 =>
      show (hi r2).bind _ = _
      dsimp only
      cases hi r2 <;> rfl
    | _ => rfl
  | _ => rfl
theorem e_glst {α : Type} {i : Nat} {m : M α} {r : Rho} : gLst i m r = (match r[i]? with | some (.own _ (.lst _)) => m r | _ => .bad) := rfl
theorem e_app {i : Nat} {m : M D} {r : Rho} : sApp i m r = (match r[i]? with | some (.own _ (.lst _)) => (match m r with | .ok d r1 => (match r1[i]? with | some (.own k (.lst ds)) => if short ds then .ok .nx (r1.set i (.own k (.lst (ds ++ [d])))) else .bad | _ => .bad) | .err e r1 => .err e r1 | .bad => .bad) | _ => .bad) := by
  show (match r[i]? with | some (.own _ (.lst _)) => _ | _ => _) = _
  split <;> (try rfl)
  show (m r).bind _ = _
  cases m r <;> rfl
theorem e_put {i : Nat} {m mi : M D} {r : Rho} : sPut i m mi r = (match m r with | .ok d r1 => (match r1[i]? with | some (.own _ (.lst _)) => (match mi r1 with | .ok j r2 => (match r2[i]?, j with | some (.own k (.lst ds)), .int j => (match ixN ds.length j with | some n => .ok .nx (r2.set i (.own k (.lst (ds.set n d)))) | none => .bad) | _, _ => .bad) | .err e r2 => .err e r2 | .bad => .bad) | _ => .bad) | .err e r1 => .err e r1 | .bad => .bad) := by
  show (m r).bind _ = _
  cases m r with
  | ok d r1 =>
    show (match r1[i]? with | some (.own _ (.lst _)) => _ | _ => _) = _
    dsimp only
    split <;> (try rfl)
    show (mi r1).bind _ = _
    cases mi r1 <;> rfl
  | _ => rfl
theorem e_new {i : Nat} {m : M Ob} {r : Rho} : sNew i m r = (match m r with | .ok o r1 => .ok .nx (r1.set i (.own 0 o)) | .err e r1 => .err e r1 | .bad => .bad) := by
  show (m r).bind _ = _
  cases m r <;> rfl
theorem e_obd {m : M Ob} {r : Rho} : mObD m r = (match m r with | .ok o r1 => .ok o.d r1 | .err e r1 => .err e r1 | .bad => .bad) := by
  show (m r).bind _ = _
  cases m r <;> rfl
theorem e_comp {it : M (List D)} {t : Pat} {c : M Bool} {e : M D} {vs : List Nat} {r : Rho} : mComp it t c e vs r = (match it r with | .ok ds r1 => (match compL t c e vs ds [] (wipeR r1 vs) with | .ok acc r' => .ok (.lst acc) r' | _ => .bad) | .err e r1 => .err e r1 | .bad => .bad) := by
  show (it r).bind _ = _
  cases it r <;> rfl
theorem e_ez {ms : M (List D)} {r : Rho} : mEz ms r = (match ms r with | .ok [.lst xs, .lst ys] r1 => .ok (pairsD xs ys) r1 | .ok _ r1 => .bad | .err e r1 => .err e r1 | .bad => .bad) := by
  show (ms r).bind _ = _
  cases ms r with
  | ok ds r1 =>
    rcases ds with _ | ⟨d, _ | ⟨d2, _ | ⟨_, _⟩⟩⟩
    · rfl
    · cases d <;> rfl
    · cases d <;> cases d2 <;> rfl
    · cases d <;> cases d2 <;> rfl
  | _ => rfl
theorem e_heard {g : Rs → Rs} {mb : M D} {r : Rho} : mHeard g mb r = (match g (lamO mb r) with | .ok d => .ok d r | _ => .bad) := rfl
theorem e_loop0 {t : Pat} {b : M Fl} {r : Rho} : loopD t b [] r = .ok .nx r := rfl
theorem e_loop1 {t : Pat} {b : M Fl} {d : D} {ds : List D} {r : Rho} : loopD t b (d :: ds) r = (match bindP t d r with | none => .bad | some r1 => match b r1 with | .ok .nx r2 => loopD t b ds r2 | .ok .ct r2 => loopD t b ds r2 | .ok .bk r2 => .ok .nx r2 | o => o) := rfl
theorem e_resd {r : Rho} {d : D} : res r (.dv d) = some d := rfl
theorem e_reso {r : Rho} {i : Nat} : res r (.os i) = (match r[i]? with | some (.own _ o) => some o.d | _ => none) := rfl
theorem e_atI {ds : List D} {n : Nat} {z : D} (h : ds[n]? = some z) : atI ds (n : Int) = some z := by
  obtain ⟨h1, h2⟩ := List.getElem?_eq_some_iff.mp h
  unfold atI ixN
  rw [if_pos (Int.natCast_nonneg n), if_pos (by omega)]
  simpa using h
end DL
end

section
set_option Elab.async false
set_option linter.all false
set_option maxRecDepth 100000
set_option maxHeartbeats 4000000
namespace DL
open PySem PySem.Spec L2 PyProof.Rows DLam
variable [Tbls]
def topS (i : Nat) : Stmt := PySem.Challenge.pw_backwardrow_k60_exact_lines.main.body.getD i (.Pass ⟨0, 0, 0, 0⟩)
theorem hu64 {k : Nat} {A : Around} (hr : Room k A) : A.units + 64 < cLine := by have := hr.un; omega
theorem pick_len3 {l : List D} (h : l.length = 3) {a b c : Nat} (ha : a < 3 := by decide) (hb : b < 3 := by decide) (hc : c < 3 := by decide) : (pick [a, b, c] l).length = 3 := by
  unfold pick
  simp [List.filterMap_cons, List.getElem?_eq_getElem (show a < l.length by omega), List.getElem?_eq_getElem (show b < l.length by omega), List.getElem?_eq_getElem (show c < l.length by omega)]
theorem pick_len4 {l : List D} (h : l.length = 4) {a b c d : Nat} (ha : a < 4 := by decide) (hb : b < 4 := by decide) (hc : c < 4 := by decide) (hd : d < 4 := by decide) : (pick [a, b, c, d] l).length = 4 := by
  unfold pick
  simp [List.filterMap_cons, List.getElem?_eq_getElem (show a < l.length by omega), List.getElem?_eq_getElem (show b < l.length by omega), List.getElem?_eq_getElem (show c < l.length by omega), List.getElem?_eq_getElem (show d < l.length by omega)]
def blkB (N : List Str) (sc scope : Scope) (own : List (Str × Nat)) : Bool :=
  decide (scope.kind = .function) && (scope.names.all (fun y => decide (scope.names.lookup y.1 = some y.2))) && (own.all (fun p => decide (N[p.2]? = some p.1))) &&
    (scope.names.all (fun y => !decide (y.2 = .free) || decide (sc.names.lookup y.1 = some .cell) || decide (sc.names.lookup y.1 = some .free))) && (scope.names.all (fun y => !(decide (y.2 = .local) || decide (y.2 = .cell)) || decide (y.1 ∈ own.map (·.1)) || decide (y.1 ∉ N)))
theorem blk_by {N : List Str} {sc scope : Scope} {own : List (Str × Nat)} (h : blkB N sc scope own = true) : BlkOk N sc scope own := by
  unfold blkB at h
  simp only [Bool.and_eq_true, Bool.or_eq_true, Bool.not_eq_true', decide_eq_true_eq, decide_eq_false_iff_not, List.all_eq_true, Bool.or_eq_false_iff] at h
  obtain ⟨⟨⟨⟨h1, h2⟩, h3⟩, h4⟩, h5⟩ := h
  refine ⟨h1, h2, h3, fun y hy e => ?_, fun y hy e => ?_⟩
  · rcases h4 y hy with (z | z) | z
    · exact absurd e z
    · exact .inl z
    · exact .inr z
  · rcases h5 y hy with (z | z) | z
    · rcases e with e | e
      · exact absurd e z.1
      · exact absurd e z.2
    · exact .inl z
    · exact .inr z
def fX (a b : String) : Option Bool := if a = "BadNumber" ∧ b = "BadNumber" then some true else none
def fN (b : String) : Bool := b == "BadNumber"
def fC_RowError (a : String) : Option Bool := if a = "BadNumber" then some true else none
def okX (a : String) : Bool := a == "BadNumber"
/-- what the walk asks of the text as the top has made it -/
structure Txt (P : Program) (K : PySem.W.Frag) (mg : Str → Option Value) (base : Heap) (cl : String → Addr) : Prop where
  b_abs : mg "abs" = none
  b_bool : mg "bool" = none
  b_enumerate : mg "enumerate" = none
  b_int : mg "int" = none
  b_isinstance : mg "isinstance" = none
  b_len : mg "len" = none
  b_list : mg "list" = none
  b_range : mg "range" = none
  b_repr : mg "repr" = none
  b_tuple : mg "tuple" = none
  b_zip : mg "zip" = none
  c_MOST_TICKS : ∃ t, mg "MOST_TICKS" = some (.int 1000 t)
  c_MOST_WAIT : ∃ t, mg "MOST_WAIT" = some (.int 5 t)
  r_BadNumber : mg "BadNumber" = some (.ref (cl "BadNumber"))
  r_RowError : mg "RowError" = some (.ref (cl "RowError"))
  x_BadNumber : ∃ (qual : Str) (fI : Addr), DX.PartTxt P K mg (PySem.Str.ofString "BadNumber") qual (cl "BadNumber") fI
  isX : IsX K cl fX
  isN : IsN K cl fN
  ca_RowError : Catches K cl (.ref (cl "RowError")) fC_RowError
  at_part : AtX K cl "part" okX
/-! ### is_integer -/
def s_is_integer : Stmt := topS 4
theorem sc_is_integer : FnScope ["value"] ["value"] (defScope s_is_integer) := ⟨rfl, rfl, rfl, by decide +kernel, rfl, by decide +kernel, by decide +kernel⟩
def m_is_integer : M Fl :=
  sRet (vAnd (mOp isiD (mDv (mVar 0)) (mDv (M.pure (.ty "int")))) (vNot (mOp isiD (mDv (mVar 0)) (mDv (M.pure (.ty "bool"))))))
def f_is_integer : List D → Rs := fnD 1 m_is_integer
theorem ok_is_integer {P : Program} {w : World} {K : PySem.W.Frag} {mg : Str → Option Value} {base : Heap} {cl : String → Addr} (T : Txt P K mg base cl) {fA : Addr} {fd : FuncData} (F : Fun K "is_integer" "is_integer" s_is_integer fA fd)  : FnOk P w K mg base (L2.CX P w) 1 fA fd ["value"] (spP K cl 1 f_is_integer) :=
  fn_pure F sc_is_integer fun cdv A outer s H G E hr =>
    dss_one (ds_ret (de_and (de_b2 b_isi rfl T.b_isinstance boot_isinstance (do_e (de_var (pv 0))) (do_e (de_ty rfl T.b_int boot_int))) (de_one (de_not (de_b2 b_isi rfl T.b_isinstance boot_isinstance (do_e (de_var (pv 0))) (do_e (de_ty rfl T.b_bool boot_bool)))))))
/-! ### is_within -/
def s_is_within : Stmt := topS 5
theorem sc_is_within : FnScope ["value", "least", "most"] ["value", "least", "most"] (defScope s_is_within) := ⟨rfl, rfl, rfl, by decide +kernel, rfl, by decide +kernel, by decide +kernel⟩
def m_is_within : M Fl :=
  sSeq (sIf (mNot (mB (mCall (fun ds => f_is_integer (ds ++ [])) (mCons (mVar 0) (mNil))))) (sRet (M.pure (.bl false))) (sNx)) (sRet (vAnd (vOr (mOp isD (mDv (mVar 1)) (mDv (M.pure .non))) (mOp leD (mDv (mVar 1)) (mDv (mVar 0)))) (vOr (mOp isD (mDv (mVar 2)) (mDv (M.pure .non))) (mOp leD (mDv (mVar 0)) (mDv (mVar 2))))))
def f_is_within : List D → Rs := fnD 3 m_is_within
theorem ok_is_within {P : Program} {w : World} {K : PySem.W.Frag} {mg : Str → Option Value} {base : Heap} {cl : String → Addr} (T : Txt P K mg base cl) {fA : Addr} {fd : FuncData} (F : Fun K "is_within" "is_within" s_is_within fA fd) (h_is_integer : RP P w K mg base cl "is_integer" 1 1 [] f_is_integer) : FnOk P w K mg base (L2.CX P w) 2 fA fd ["value", "least", "most"] (spP K cl 3 f_is_within) :=
  fn_pure F sc_is_within fun cdv A outer s H G E hr =>
    dss_cons (ds_if (dt_not (dt_val (de_call ⟨h_is_integer⟩ (hr.mono (by decide)) rfl (takes_of rfl rfl rfl rfl) (da_cons (de_var (pv 0)) (da_nil))))) (dss_one (ds_ret (de_bl))) (dss_nil))
    (dss_one (ds_ret (de_and (de_or (de_cmp o_is (do_e (de_var (pv 1))) (do_e (de_non)) (nomark _)) (de_one (de_cmp o_le (do_e (de_var (pv 1))) (do_e (de_var (pv 0))) (nomark _)))) (de_one (de_or (de_cmp o_is (do_e (de_var (pv 2))) (do_e (de_non)) (nomark _)) (de_one (de_cmp o_le (do_e (de_var (pv 0))) (do_e (de_var (pv 2))) (nomark _))))))))
/-! ### need_number -/
def s_need_number : Stmt := topS 6
theorem sc_need_number : FnScope ["value", "part", "least", "most"] ["value", "part", "least", "most"] (defScope s_need_number) := ⟨rfl, rfl, rfl, by decide +kernel, rfl, by decide +kernel, by decide +kernel⟩
def m_need_number : M Fl :=
  sIf (mNot (mB (mCall (fun ds => f_is_within (ds ++ [])) (mCons (mVar 0) (mCons (mVar 2) (mCons (mVar 3) (mNil))))))) (sRaise "BadNumber" (mVar 1)) (sNx)
def f_need_number : List D → Rs := fnD 4 m_need_number
theorem ok_need_number {P : Program} {w : World} {K : PySem.W.Frag} {mg : Str → Option Value} {base : Heap} {cl : String → Addr} (T : Txt P K mg base cl) {fA : Addr} {fd : FuncData} (F : Fun K "need_number" "need_number" s_need_number fA fd) (h_is_within : RP P w K mg base cl "is_within" 2 3 [] f_is_within) : FnOk P w K mg base (L2.CX P w) 3 fA fd ["value", "part", "least", "most"] (spP K cl 4 f_need_number) :=
  fn_pure F sc_need_number fun cdv A outer s H G E hr =>
    dss_one (ds_if (dt_not (dt_val (de_call ⟨h_is_within⟩ (hr.mono (by decide)) rfl (takes_of rfl rfl rfl rfl) (da_cons (de_var (pv 0)) (da_cons (de_var (pv 2)) (da_cons (de_var (pv 3)) (da_nil))))))) (dss_one (ds_raise (x := "BadNumber") rfl rfl ⟨T.x_BadNumber⟩ hr (takes_of rfl rfl rfl rfl) (de_var (pv 1)) rfl)) (dss_nil))
/-! ### is_kind -/
def s_is_kind : Stmt := topS 10
theorem sc_is_kind : FnScope ["value"] ["value"] (defScope s_is_kind) := ⟨rfl, rfl, rfl, by decide +kernel, rfl, by decide +kernel, by decide +kernel⟩
def m_is_kind : M Fl :=
  sSeq (sIf (mOr (mNot (mB (mUn (isi2 "list" "tuple") (mDv (mVar 0))))) (mOr (mB (mOp neD (mDv (mUn lenD (mDv (mVar 0)))) (mDv (M.pure (.int 2))))) (mNot (mB (mCall (fun ds => f_is_within (ds ++ [])) (mCons (mOp ixD (mDv (mVar 0)) (mDv (M.pure (.int 0)))) (mCons (mUn negD (mDv (M.pure (.int 1)))) (mCons (M.pure (.int 1)) (mNil))))))))) (sRet (M.pure (.bl false))) (sNx)) (sRet (mCall (fun ds => f_is_within (ds ++ [])) (mCons (mOp ixD (mDv (mVar 0)) (mDv (M.pure (.int 1)))) (mCons (M.pure (.int 1)) (mCons (mIf (mB (mOp neD (mDv (mOp ixD (mDv (mVar 0)) (mDv (M.pure (.int 0))))) (mDv (M.pure (.int 0))))) (M.pure (.int 5)) (M.pure (.int 1))) (mNil))))))
def f_is_kind : List D → Rs := fnD 1 m_is_kind
theorem ok_is_kind {P : Program} {w : World} {K : PySem.W.Frag} {mg : Str → Option Value} {base : Heap} {cl : String → Addr} (T : Txt P K mg base cl) {fA : Addr} {fd : FuncData} (F : Fun K "is_kind" "is_kind" s_is_kind fA fd) (h_is_within : RP P w K mg base cl "is_within" 2 3 [] f_is_within) : FnOk P w K mg base (L2.CX P w) 3 fA fd ["value"] (spP K cl 1 f_is_kind) :=
  fn_pure F sc_is_kind fun cdv A outer s H G E hr =>
    dss_cons (ds_if (DW.dt (dw_or (dt_not (dt_val (de_isi2 rfl T.b_isinstance boot_isinstance (do_e (de_var (pv 0))) (pe_bltn rfl T.b_list boot_list rfl) (pe_bltn rfl T.b_tuple boot_tuple rfl) (by decide) (by decide)))) (dw_or (dt_cmp (o_ne (hu64 hr)) (do_e (de_b1 b_len rfl T.b_len boot_len (do_e (de_var (pv 0))))) (do_e (de_int)) (nomark _)) (dw_or1 (dt_not (dt_val (de_call ⟨h_is_within⟩ (hr.mono (by decide)) rfl (takes_of rfl rfl rfl rfl) (da_cons (de_ix o_ix (do_e (de_var (pv 0))) (do_e (de_int)) (fun _ _ => rfl)) (da_cons (de_un o_neg (do_e (de_int))) (da_cons (de_int) (da_nil))))))))))) (dss_one (ds_ret (de_bl))) (dss_nil))
    (dss_one (ds_ret (de_call ⟨h_is_within⟩ (hr.mono (by decide)) rfl (takes_of rfl rfl rfl rfl) (da_cons (de_ix o_ix (do_e (de_var (pv 0))) (do_e (de_int)) (fun _ _ => rfl)) (da_cons (de_int) (da_cons (de_if (dt_cmp (o_ne (hu64 hr)) (do_e (de_ix o_ix (do_e (de_var (pv 0))) (do_e (de_int)) (fun _ _ => rfl))) (do_e (de_int)) (nomark _)) ((T.c_MOST_WAIT.elim fun t h => de_gint rfl h ⟨t, rfl⟩)) (de_int)) (da_nil)))))))
/-! ### place_of -/
def s_place_of : Stmt := topS 12
theorem sc_place_of : FnScope ["kind", "cell", "tick"] ["kind", "cell", "tick"] (defScope s_place_of) := ⟨rfl, rfl, rfl, by decide +kernel, rfl, by decide +kernel, by decide +kernel⟩
def m_place_of : M Fl :=
  sRet (mOp addD (mDv (mVar 1)) (mDv (mOp mulD (mDv (mOp ixD (mDv (mVar 0)) (mDv (M.pure (.int 0))))) (mDv (mOp fdivD (mDv (mVar 2)) (mDv (mOp ixD (mDv (mVar 0)) (mDv (M.pure (.int 1))))))))))
def f_place_of : List D → Rs := fnD 3 m_place_of
theorem ok_place_of {P : Program} {w : World} {K : PySem.W.Frag} {mg : Str → Option Value} {base : Heap} {cl : String → Addr} (T : Txt P K mg base cl) {fA : Addr} {fd : FuncData} (F : Fun K "place_of" "place_of" s_place_of fA fd)  : FnOk P w K mg base (L2.CX P w) 1 fA fd ["kind", "cell", "tick"] (spP K cl 3 f_place_of) :=
  fn_pure F sc_place_of fun cdv A outer s H G E hr =>
    dss_one (ds_ret (de_op o_add (do_e (de_var (pv 1))) (do_e (de_op o_mul (do_e (de_ix o_ix (do_e (de_var (pv 0))) (do_e (de_int)) (fun _ _ => rfl))) (do_e (de_op o_fdiv (do_e (de_var (pv 2))) (do_e (de_ix o_ix (do_e (de_var (pv 0))) (do_e (de_int)) (fun _ _ => rfl)))))))))
/-! ### need_kind -/
def s_need_kind : Stmt := topS 13
theorem sc_need_kind : FnScope ["value", "part"] ["value", "part"] (defScope s_need_kind) := ⟨rfl, rfl, rfl, by decide +kernel, rfl, by decide +kernel, by decide +kernel⟩
def m_need_kind : M Fl :=
  sSeq (sIf (mNot (mB (mCall (fun ds => f_is_kind (ds ++ [])) (mCons (mVar 0) (mNil))))) (sRaise "BadNumber" (mVar 1)) (sNx)) (sRet (mUn tupleD (mDv (mVar 0))))
def f_need_kind : List D → Rs := fnD 2 m_need_kind
theorem ok_need_kind {P : Program} {w : World} {K : PySem.W.Frag} {mg : Str → Option Value} {base : Heap} {cl : String → Addr} (T : Txt P K mg base cl) {fA : Addr} {fd : FuncData} (F : Fun K "need_kind" "need_kind" s_need_kind fA fd) (h_is_kind : RP P w K mg base cl "is_kind" 3 1 [] f_is_kind) : FnOk P w K mg base (L2.CX P w) 4 fA fd ["value", "part"] (spP K cl 2 f_need_kind) :=
  fn_pure F sc_need_kind fun cdv A outer s H G E hr =>
    dss_cons (ds_if (dt_not (dt_val (de_call ⟨h_is_kind⟩ (hr.mono (by decide)) rfl (takes_of rfl rfl rfl rfl) (da_cons (de_var (pv 0)) (da_nil))))) (dss_one (ds_raise (x := "BadNumber") rfl rfl ⟨T.x_BadNumber⟩ hr (takes_of rfl rfl rfl rfl) (de_var (pv 1)) rfl)) (dss_nil))
    (dss_one (ds_ret (de_t1 b_tuple rfl T.b_tuple boot_tuple (do_e (de_var (pv 0))))))
/-! ### line_at -/
def s_line_at : Stmt := topS 14
theorem sc_line_at : FnScope ["kind", "cell", "tick", "told", "place"] ["kind", "cell", "tick"] (defScope s_line_at) := ⟨rfl, rfl, rfl, by decide +kernel, rfl, by decide +kernel, by decide +kernel⟩
def m_line_at : M Fl :=
  sSeq (sSet 3 (mCall (fun ds => f_need_kind (ds ++ [])) (mCons (mVar 0) (mCons (M.pure (.str "kind")) (mNil))))) (sSeq (sDrop (mCall (fun ds => f_need_number (ds ++ [])) (mCons (mVar 1) (mCons (M.pure (.str "cell")) (mCons (M.pure (.int 0)) (mCons (M.pure (.int 1000)) (mNil))))))) (sSeq (sDrop (mCall (fun ds => f_need_number (ds ++ [])) (mCons (mVar 2) (mCons (M.pure (.str "tick")) (mCons (M.pure (.int 0)) (mCons (M.pure (.int 1000)) (mNil))))))) (sSeq (sSet 4 (mCall (fun ds => f_place_of (ds ++ [])) (mCons (mVar 3) (mCons (mVar 1) (mCons (mVar 2) (mNil)))))) (sRet (mIf (mB (mOp geD (mDv (mVar 4)) (mDv (M.pure (.int 0))))) (mVar 4) (M.pure .non))))))
def f_line_at : List D → Rs := fnD 5 m_line_at
theorem ok_line_at {P : Program} {w : World} {K : PySem.W.Frag} {mg : Str → Option Value} {base : Heap} {cl : String → Addr} (T : Txt P K mg base cl) {fA : Addr} {fd : FuncData} (F : Fun K "line_at" "line_at" s_line_at fA fd) (h_need_kind : RP P w K mg base cl "need_kind" 4 2 [] f_need_kind) (h_need_number : RP P w K mg base cl "need_number" 3 4 [] f_need_number) (h_place_of : RP P w K mg base cl "place_of" 1 3 [] f_place_of) : FnOk P w K mg base (L2.CX P w) 5 fA fd ["kind", "cell", "tick"] (spP K cl 3 f_line_at) :=
  fn_pure F sc_line_at fun cdv A outer s H G E hr =>
    dss_cons (ds_set (fun te h => ps_set (i := 3) sc_line_at.nd rfl (.inl rfl) h) (de_call ⟨h_need_kind⟩ (hr.mono (by decide)) rfl (takes_of rfl rfl rfl rfl) (da_cons (de_var (pv 0)) (da_cons (de_str) (da_nil)))))
    (dss_cons (ds_expr (de_call ⟨h_need_number⟩ (hr.mono (by decide)) rfl (takes_of rfl rfl rfl rfl) (da_cons (de_var (pv 1)) (da_cons (de_str) (da_cons (de_int) (da_cons ((T.c_MOST_TICKS.elim fun t h => de_gint rfl h ⟨t, rfl⟩)) (da_nil)))))))
    (dss_cons (ds_expr (de_call ⟨h_need_number⟩ (hr.mono (by decide)) rfl (takes_of rfl rfl rfl rfl) (da_cons (de_var (pv 2)) (da_cons (de_str) (da_cons (de_int) (da_cons ((T.c_MOST_TICKS.elim fun t h => de_gint rfl h ⟨t, rfl⟩)) (da_nil)))))))
    (dss_cons (ds_set (fun te h => ps_set (i := 4) sc_line_at.nd rfl (.inl rfl) h) (de_call ⟨h_place_of⟩ (hr.mono (by decide)) rfl (takes_of rfl rfl rfl rfl) (da_cons (de_var (pv 3)) (da_cons (de_var (pv 1)) (da_cons (de_var (pv 2)) (da_nil))))))
    (dss_one (ds_ret (de_if (dt_cmp o_ge (do_e (de_var (pv 4))) (do_e (de_int)) (nomark _)) (de_var (pv 4)) (de_non)))))))
/-! ### meeting -/
def s_meeting : Stmt := topS 15
theorem sc_meeting : FnScope ["one", "place", "other", "spot", "mine", "its", "tick", "here", "there"] ["one", "place", "other", "spot"] (defScope s_meeting) := ⟨rfl, rfl, rfl, by decide +kernel, rfl, by decide +kernel, by decide +kernel⟩
def m_meeting_l1 : M Fl :=
  sSeq (sPar 7 8 (mCons (mCall (fun ds => f_place_of (ds ++ [])) (mCons (mVar 4) (mCons (mVar 1) (mCons (mVar 6) (mNil))))) (mCons (mCall (fun ds => f_place_of (ds ++ [])) (mCons (mVar 5) (mCons (mVar 3) (mCons (mVar 6) (mNil))))) (mNil)))) (sSeq (sIf (mOr (mB (mOp ltD (mDv (mVar 7)) (mDv (M.pure (.int 0))))) (mB (mOp ltD (mDv (mVar 8)) (mDv (M.pure (.int 0)))))) (sRet (M.pure .non)) (sNx)) (sIf (mB (mOp eqD (mDv (mVar 7)) (mDv (mVar 8)))) (sRet (mVar 6)) (sNx)))
def m_meeting : M Fl :=
  sSeq (sSet 4 (mCall (fun ds => f_need_kind (ds ++ [])) (mCons (mVar 0) (mCons (M.pure (.str "one")) (mNil))))) (sSeq (sDrop (mCall (fun ds => f_need_number (ds ++ [])) (mCons (mVar 1) (mCons (M.pure (.str "place")) (mCons (M.pure (.int 0)) (mCons (M.pure (.int 1000)) (mNil))))))) (sSeq (sSet 5 (mCall (fun ds => f_need_kind (ds ++ [])) (mCons (mVar 2) (mCons (M.pure (.str "other")) (mNil))))) (sSeq (sDrop (mCall (fun ds => f_need_number (ds ++ [])) (mCons (mVar 3) (mCons (M.pure (.str "spot")) (mCons (M.pure (.int 0)) (mCons (M.pure (.int 1000)) (mNil))))))) (sSeq (sFor (mRange1 (mCons (mOp mulD (mDv (M.pure (.int 20))) (mDv (mOp addD (mDv (mUn absD (mDv (mOp subD (mDv (mVar 3)) (mDv (mVar 1)))))) (mDv (M.pure (.int 20)))))) (mNil))) (.nm 6) (m_meeting_l1)) (sRet (M.pure .non))))))
def f_meeting : List D → Rs := fnD 9 m_meeting
theorem ok_meeting {P : Program} {w : World} {K : PySem.W.Frag} {mg : Str → Option Value} {base : Heap} {cl : String → Addr} (T : Txt P K mg base cl) {fA : Addr} {fd : FuncData} (F : Fun K "meeting" "meeting" s_meeting fA fd) (h_need_kind : RP P w K mg base cl "need_kind" 4 2 [] f_need_kind) (h_need_number : RP P w K mg base cl "need_number" 3 4 [] f_need_number) (h_place_of : RP P w K mg base cl "place_of" 1 3 [] f_place_of) : FnOk P w K mg base (L2.CX P w) 5 fA fd ["one", "place", "other", "spot"] (spP K cl 4 f_meeting) :=
  fn_pure F sc_meeting fun cdv A outer s H G E hr =>
    dss_cons (ds_set (fun te h => ps_set (i := 4) sc_meeting.nd rfl (.inl rfl) h) (de_call ⟨h_need_kind⟩ (hr.mono (by decide)) rfl (takes_of rfl rfl rfl rfl) (da_cons (de_var (pv 0)) (da_cons (de_str) (da_nil)))))
    (dss_cons (ds_expr (de_call ⟨h_need_number⟩ (hr.mono (by decide)) rfl (takes_of rfl rfl rfl rfl) (da_cons (de_var (pv 1)) (da_cons (de_str) (da_cons (de_int) (da_cons ((T.c_MOST_TICKS.elim fun t h => de_gint rfl h ⟨t, rfl⟩)) (da_nil)))))))
    (dss_cons (ds_set (fun te h => ps_set (i := 5) sc_meeting.nd rfl (.inl rfl) h) (de_call ⟨h_need_kind⟩ (hr.mono (by decide)) rfl (takes_of rfl rfl rfl rfl) (da_cons (de_var (pv 2)) (da_cons (de_str) (da_nil)))))
    (dss_cons (ds_expr (de_call ⟨h_need_number⟩ (hr.mono (by decide)) rfl (takes_of rfl rfl rfl rfl) (da_cons (de_var (pv 3)) (da_cons (de_str) (da_cons (de_int) (da_cons ((T.c_MOST_TICKS.elim fun t h => de_gint rfl h ⟨t, rfl⟩)) (da_nil)))))))
    (dss_cons (ds_for (passes_of rfl) rfl (di_range1 rfl T.b_range (da_cons (de_op o_mul (do_e (de_int)) (do_e (de_op o_add (do_e (de_b1 b_abs rfl T.b_abs boot_abs (do_e (de_op o_sub (do_e (de_var (pv 3))) (do_e (de_var (pv 1))))))) (do_e (de_int))))) (da_nil))) (dg_name (pg_name (i := 6) sc_meeting.nd rfl (.inl rfl))) (dss_cons (ds_par (fun ta h => ps_par rfl sc_meeting.nd rfl rfl (by decide) rfl rfl h rfl) (da_cons (de_call ⟨h_place_of⟩ (hr.mono (by decide)) rfl (takes_of rfl rfl rfl rfl) (da_cons (de_var (pv 4)) (da_cons (de_var (pv 1)) (da_cons (de_var (pv 6)) (da_nil))))) (da_cons (de_call ⟨h_place_of⟩ (hr.mono (by decide)) rfl (takes_of rfl rfl rfl rfl) (da_cons (de_var (pv 5)) (da_cons (de_var (pv 3)) (da_cons (de_var (pv 6)) (da_nil))))) (da_nil))))
    (dss_cons (ds_if (DW.dt (dw_or (dt_cmp o_lt (do_e (de_var (pv 7))) (do_e (de_int)) (nomark _)) (dw_or1 (dt_cmp o_lt (do_e (de_var (pv 8))) (do_e (de_int)) (nomark _))))) (dss_one (ds_ret (de_non))) (dss_nil))
    (dss_one (ds_if (dt_cmp (o_eq (hu64 hr)) (do_e (de_var (pv 7))) (do_e (de_var (pv 8))) (nomark _)) (dss_one (ds_ret (de_var (pv 6)))) (dss_nil))))))
    (dss_one (ds_ret (de_non)))))))
/-! ### _law_ruler -/
def s__law_ruler : Stmt := topS 17
theorem sc__law_ruler : FnScope ["_law_script", "_law_cell"] ["_law_script"] (defScope s__law_ruler) := ⟨rfl, rfl, rfl, by decide +kernel, rfl, by decide +kernel, by decide +kernel⟩
def m__law_ruler : M Fl :=
  sRetO (mCons (mObD (mComp (mItems (mSl (mDv (mVar 0)) (M.pure none) (mPart (M.pure (.int 60))))) (.nm 1) (M.pure true) (mUn intD (mDv (mVar 1))) [1])) (mCons (M.pure (.int 0)) (mCons (M.pure (.int 0)) (mNil))))
def f__law_ruler : List D → Rn := fnN 2 m__law_ruler
theorem ok__law_ruler {P : Program} {w : World} {K : PySem.W.Frag} {mg : Str → Option Value} {base : Heap} {cl : String → Addr} (T : Txt P K mg base cl) {fA : Addr} {fd : FuncData} (F : Fun K "_law_ruler" "_law_ruler" s__law_ruler fA fd)  : FnOk P w K mg base (L2.CX P w) 1 fA fd ["_law_script"] (spN K cl 1 f__law_ruler) :=
  fn_new F sc__law_ruler fun cdv A outer s H G E hr =>
    dss_one (ds_reto (da_cons (de_new (dn_comp (own := [("_law_cell", 1)]) rfl sc__law_ruler.nd (di_any (de_sl (do_e (de_var (pv 0))) (dp_none) (dp_some (de_int)))) (blk_by (N := ["_law_script", "_law_cell"]) (sc := defScope s__law_ruler) (by decide +kernel)) (fun _ _ _ _ _ _ => dg_name (pg_name (i := 1) sc__law_ruler.nd rfl (.inl rfl))) (fun _ _ _ _ _ _ => dts_nil) (fun _ _ _ _ _ _ => de_t1 b_int rfl T.b_int boot_int (do_e (de_var (pv 1)))))) (da_cons (de_int) (da_cons (de_int) (da_nil)))))
/-! ### _law_draw_on -/
def s__law_draw_on : Stmt := topS 18
theorem sc__law_draw_on : FnScope ["_law_ruler_here", "_law_many", "_law_left", "_law_turn", "_law_cell", "_law_mixed"] ["_law_ruler_here", "_law_many"] (defScope s__law_draw_on) := ⟨rfl, rfl, rfl, by decide +kernel, rfl, by decide +kernel, by decide +kernel⟩
def m__law_draw_on : M Fl :=
  sSeq (sIf (mB (mOp gtD (mDv (mOp ixD (mOs 0) (mDv (M.pure (.int 2))))) (mDv (M.pure (.int 0))))) (sSeq (sSet 2 (mUn intD (mDv (mOp ixD (mOs 0) (mDv (M.pure (.int 2))))))) (sSeq (sPut 0 (mOp fdivD (mDv (mVar 2)) (mDv (mVar 1))) (M.pure (.int 2))) (sRet (mOp modD (mDv (mUn intD (mDv (mVar 2)))) (mDv (mVar 1)))))) (sNx)) (sSeq (sSet 3 (mOp ixD (mOs 0) (mDv (M.pure (.int 1))))) (sSeq (sPut 0 (mOp addD (mDv (mVar 3)) (mDv (M.pure (.int 1)))) (M.pure (.int 1))) (sSeq (sSet 4 (mOp addD (mDv (mOp mulD (mDv (M.pure (.int 93113))) (mDv (mVar 3)))) (mDv (M.pure (.int 8609))))) (sSeq (sIf (mB (mOp neD (mDv (mOp ixD (mOs 0) (mDv (M.pure (.int 0))))) (mDv (mLst (mNil))))) (sSet 4 (mOp ixD (mDv (mOp ixD (mOs 0) (mDv (M.pure (.int 0))))) (mDv (mOp modD (mDv (mUn intD (mDv (mVar 3)))) (mDv (mUn lenD (mDv (mOp ixD (mOs 0) (mDv (M.pure (.int 0))))))))))) (sNx)) (sSeq (sIf (mAnd (mB (mOp ltD (mDv (mVar 3)) (mDv (mUn lenD (mDv (mOp ixD (mOs 0) (mDv (M.pure (.int 0))))))))) (mB (mOp geD (mDv (mUn absD (mDv (mVar 4)))) (mDv (mOp powD (mDv (M.pure (.int 10))) (mDv (M.pure (.int 18)))))))) (sSeq (sSet 2 (mOp addD (mDv (mOp mulD (mDv (M.pure (.int 2))) (mDv (mOp subD (mDv (mUn absD (mDv (mUn intD (mDv (mVar 4)))))) (mDv (mOp powD (mDv (M.pure (.int 10))) (mDv (M.pure (.int 18))))))))) (mDv (mUn intD (mDv (mOp ltD (mDv (mVar 4)) (mDv (M.pure (.int 0))))))))) (sSeq (sPut 0 (mOp fdivD (mDv (mVar 2)) (mDv (mVar 1))) (M.pure (.int 2))) (sRet (mOp modD (mDv (mUn intD (mDv (mVar 2)))) (mDv (mVar 1)))))) (sNx)) (sSeq (sSet 5 (mOp modD (mDv (mUn intD (mDv (mOp powD (mDv (mOp addD (mDv (mOp addD (mDv (mOp modD (mDv (mUn intD (mDv (mVar 4)))) (mDv (M.pure (.int 2147483629))))) (mDv (mOp mulD (mDv (M.pure (.int 45161))) (mDv (mVar 3)))))) (mDv (M.pure (.int 8609))))) (mDv (M.pure (.int 5))))))) (mDv (M.pure (.int 2147483563))))) (sSeq (sSet 5 (mOp modD (mDv (mUn intD (mDv (mOp powD (mDv (mOp addD (mDv (mOp addD (mDv (mOp mulD (mDv (mVar 5)) (mDv (mOp addD (mDv (mOp mulD (mDv (M.pure (.int 2))) (mDv (mVar 3)))) (mDv (M.pure (.int 3697))))))) (mDv (mOp mulD (mDv (mOp mulD (mDv (M.pure (.int 93113))) (mDv (mVar 3)))) (mDv (mVar 3)))))) (mDv (M.pure (.int 45161))))) (mDv (M.pure (.int 3))))))) (mDv (M.pure (.int 2147483587))))) (sRet (mOp modD (mDv (mUn intD (mDv (mOp fdivD (mDv (mVar 5)) (mDv (M.pure (.int 32))))))) (mDv (mVar 1)))))))))))
def f__law_draw_on : Ob → List D → Ro := fnO 6 m__law_draw_on
theorem ok__law_draw_on {P : Program} {w : World} {K : PySem.W.Frag} {mg : Str → Option Value} {base : Heap} {cl : String → Addr} (T : Txt P K mg base cl) {fA : Addr} {fd : FuncData} (F : Fun K "_law_draw_on" "_law_draw_on" s__law_draw_on fA fd)  : FnOk P w K mg base (L2.CX P w) 1 fA fd ["_law_ruler_here", "_law_many"] (spO K cl 1 f__law_draw_on) :=
  fn_own F sc__law_draw_on rfl fun cdv A outer s H B G a E hr =>
    dss_cons (ds_if (dt_cmp o_gt (do_e (de_ix o_ix (do_own (pv 0)) (do_e (de_int)) (fun _ _ => rfl))) (do_e (de_int)) (nomark _)) (dss_cons (ds_set (fun te h => ps_set (i := 2) sc__law_draw_on.nd rfl (.inl rfl) h) (de_t1 b_int rfl T.b_int boot_int (do_e (de_ix o_ix (do_own (pv 0)) (do_e (de_int)) (fun _ _ => rfl)))))
    (dss_cons (ds_put (pv 0) (de_op o_fdiv (do_e (de_var (pv 2))) (do_e (de_var (pv 1)))) (de_int))
    (dss_one (ds_ret (de_op o_mod (do_e (de_t1 b_int rfl T.b_int boot_int (do_e (de_var (pv 2))))) (do_e (de_var (pv 1)))))))) (dss_nil))
    (dss_cons (ds_set (fun te h => ps_set (i := 3) sc__law_draw_on.nd rfl (.inl rfl) h) (de_ix o_ix (do_own (pv 0)) (do_e (de_int)) (fun _ _ => rfl)))
    (dss_cons (ds_put (pv 0) (de_op o_add (do_e (de_var (pv 3))) (do_e (de_int))) (de_int))
    (dss_cons (ds_set (fun te h => ps_set (i := 4) sc__law_draw_on.nd rfl (.inl rfl) h) (de_op o_add (do_e (de_op o_mul (do_e (de_int)) (do_e (de_var (pv 3))))) (do_e (de_int))))
    (dss_cons (ds_if (dt_cmp (o_ne (hu64 hr)) (do_e (de_ix o_ix (do_own (pv 0)) (do_e (de_int)) (fun _ _ => rfl))) (do_e (de_lst (da_nil))) (nomark _)) (dss_one (ds_set (fun te h => ps_set (i := 4) sc__law_draw_on.nd rfl (.inl rfl) h) (de_ix o_ix (do_e (de_ix o_ix (do_own (pv 0)) (do_e (de_int)) (fun _ _ => rfl))) (do_e (de_op o_mod (do_e (de_t1 b_int rfl T.b_int boot_int (do_e (de_var (pv 3))))) (do_e (de_b1 b_len rfl T.b_len boot_len (do_e (de_ix o_ix (do_own (pv 0)) (do_e (de_int)) (fun _ _ => rfl))))))) (fun _ _ => rfl)))) (dss_nil))
    (dss_cons (ds_if (DW.dt (dw_and (dt_cmp o_lt (do_e (de_var (pv 3))) (do_e (de_b1 b_len rfl T.b_len boot_len (do_e (de_ix o_ix (do_own (pv 0)) (do_e (de_int)) (fun _ _ => rfl))))) (nomark _)) (dw_and1 (dt_cmp o_ge (do_e (de_b1 b_abs rfl T.b_abs boot_abs (do_e (de_var (pv 4))))) (do_e (de_op o_pow (do_e (de_int)) (do_e (de_int)))) (nomark _))))) (dss_cons (ds_set (fun te h => ps_set (i := 2) sc__law_draw_on.nd rfl (.inl rfl) h) (de_op o_add (do_e (de_op o_mul (do_e (de_int)) (do_e (de_op o_sub (do_e (de_b1 b_abs rfl T.b_abs boot_abs (do_e (de_t1 b_int rfl T.b_int boot_int (do_e (de_var (pv 4))))))) (do_e (de_op o_pow (do_e (de_int)) (do_e (de_int)))))))) (do_e (de_t1 b_int rfl T.b_int boot_int (do_e (de_cmp o_lt (do_e (de_var (pv 4))) (do_e (de_int)) (nomark _)))))))
    (dss_cons (ds_put (pv 0) (de_op o_fdiv (do_e (de_var (pv 2))) (do_e (de_var (pv 1)))) (de_int))
    (dss_one (ds_ret (de_op o_mod (do_e (de_t1 b_int rfl T.b_int boot_int (do_e (de_var (pv 2))))) (do_e (de_var (pv 1)))))))) (dss_nil))
    (dss_cons (ds_set (fun te h => ps_set (i := 5) sc__law_draw_on.nd rfl (.inl rfl) h) (de_op o_mod (do_e (de_t1 b_int rfl T.b_int boot_int (do_e (de_op o_pow (do_e (de_op o_add (do_e (de_op o_add (do_e (de_op o_mod (do_e (de_t1 b_int rfl T.b_int boot_int (do_e (de_var (pv 4))))) (do_e (de_int)))) (do_e (de_op o_mul (do_e (de_int)) (do_e (de_var (pv 3))))))) (do_e (de_int)))) (do_e (de_int)))))) (do_e (de_int))))
    (dss_cons (ds_set (fun te h => ps_set (i := 5) sc__law_draw_on.nd rfl (.inl rfl) h) (de_op o_mod (do_e (de_t1 b_int rfl T.b_int boot_int (do_e (de_op o_pow (do_e (de_op o_add (do_e (de_op o_add (do_e (de_op o_mul (do_e (de_var (pv 5))) (do_e (de_op o_add (do_e (de_op o_mul (do_e (de_int)) (do_e (de_var (pv 3))))) (do_e (de_int)))))) (do_e (de_op o_mul (do_e (de_op o_mul (do_e (de_int)) (do_e (de_var (pv 3))))) (do_e (de_var (pv 3))))))) (do_e (de_int)))) (do_e (de_int)))))) (do_e (de_int))))
    (dss_one (ds_ret (de_op o_mod (do_e (de_t1 b_int rfl T.b_int boot_int (do_e (de_op o_fdiv (do_e (de_var (pv 5))) (do_e (de_int)))))) (do_e (de_var (pv 1)))))))))))))
/-! ### _law_pick -/
def s__law_pick : Stmt := topS 19
theorem sc__law_pick : FnScope ["_law_ruler_here", "_law_some"] ["_law_ruler_here", "_law_some"] (defScope s__law_pick) := ⟨rfl, rfl, rfl, by decide +kernel, rfl, by decide +kernel, by decide +kernel⟩
def m__law_pick : M Fl :=
  sRet (mOp ixD (mDv (mVar 1)) (mDv (gOwn 0 (mCallO 0 f__law_draw_on (mCons (mUn lenD (mDv (mVar 1))) (mNil))))))
def f__law_pick : Ob → List D → Ro := fnO 2 m__law_pick
theorem ok__law_pick {P : Program} {w : World} {K : PySem.W.Frag} {mg : Str → Option Value} {base : Heap} {cl : String → Addr} (T : Txt P K mg base cl) {fA : Addr} {fd : FuncData} (F : Fun K "_law_pick" "_law_pick" s__law_pick fA fd) (h__law_draw_on : RO' P w K mg base cl "_law_draw_on" 1 1 f__law_draw_on) : FnOk P w K mg base (L2.CX P w) 2 fA fd ["_law_ruler_here", "_law_some"] (spO K cl 1 f__law_pick) :=
  fn_own F sc__law_pick rfl fun cdv A outer s H B G a E hr =>
    dss_one (ds_ret (de_ix o_ix (do_e (de_var (pv 1))) (do_e (de_callO ⟨h__law_draw_on⟩ (hr.mono (by decide)) rfl (takes_of rfl rfl rfl rfl) (pv 0) (da_cons (de_b1 b_len rfl T.b_len boot_len (do_e (de_var (pv 1)))) (da_nil)))) (fun _ _ => rfl)))
/-! ### _law_kind -/
def s__law_kind : Stmt := topS 20
theorem sc__law_kind : FnScope ["_law_ruler_here", "_law_way"] ["_law_ruler_here"] (defScope s__law_kind) := ⟨rfl, rfl, rfl, by decide +kernel, rfl, by decide +kernel, by decide +kernel⟩
def m__law_kind : M Fl :=
  sSeq (sSet 1 (gOwn 0 (mCallO 0 f__law_pick (mCons (mLst (mCons (M.pure (.int 1)) (mCons (mUn negD (mDv (M.pure (.int 1)))) (mCons (M.pure (.int 0)) (mCons (M.pure (.int 1)) (mNil)))))) (mNil))))) (sRet (mTup (mCons (mVar 1) (mCons (mIf (mB (mOp neD (mDv (mVar 1)) (mDv (M.pure (.int 0))))) (mOp addD (mDv (M.pure (.int 1))) (mDv (gOwn 0 (mCallO 0 f__law_draw_on (mCons (M.pure (.int 5)) (mNil)))))) (M.pure (.int 1))) (mNil)))))
def f__law_kind : Ob → List D → Ro := fnO 2 m__law_kind
theorem ok__law_kind {P : Program} {w : World} {K : PySem.W.Frag} {mg : Str → Option Value} {base : Heap} {cl : String → Addr} (T : Txt P K mg base cl) {fA : Addr} {fd : FuncData} (F : Fun K "_law_kind" "_law_kind" s__law_kind fA fd) (h__law_pick : RO' P w K mg base cl "_law_pick" 2 1 f__law_pick) (h__law_draw_on : RO' P w K mg base cl "_law_draw_on" 1 1 f__law_draw_on) : FnOk P w K mg base (L2.CX P w) 3 fA fd ["_law_ruler_here"] (spO K cl 0 f__law_kind) :=
  fn_own F sc__law_kind rfl fun cdv A outer s H B G a E hr =>
    dss_cons (ds_set (fun te h => ps_set (i := 1) sc__law_kind.nd rfl (.inl rfl) h) (de_callO ⟨h__law_pick⟩ (hr.mono (by decide)) rfl (takes_of rfl rfl rfl rfl) (pv 0) (da_cons (de_lst (da_cons (de_int) (da_cons (de_un o_neg (do_e (de_int))) (da_cons (de_int) (da_cons (de_int) (da_nil)))))) (da_nil))))
    (dss_one (ds_ret (de_tup (da_cons (de_var (pv 1)) (da_cons (de_if (dt_cmp (o_ne (hu64 hr)) (do_e (de_var (pv 1))) (do_e (de_int)) (nomark _)) (de_op o_add (do_e (de_int)) (do_e (de_callO ⟨h__law_draw_on⟩ (hr.mono (by decide)) rfl (takes_of rfl rfl rfl rfl) (pv 0) (da_cons (de_int) (da_nil))))) (de_int)) (da_nil))))))
/-! ### _law_gone -/
def s__law_gone : Stmt := topS 21
theorem sc__law_gone : FnScope ["_law_kind_here", "_law_cell", "_law_ticks", "_law_found", "_law_waited", "_law_tick"] ["_law_kind_here", "_law_cell", "_law_ticks"] (defScope s__law_gone) := ⟨rfl, rfl, rfl, by decide +kernel, rfl, by decide +kernel, by decide +kernel⟩
def m__law_gone_l1 : M Fl :=
  sSeq (sSet 4 (mOp addD (mDv (mVar 4)) (mDv (M.pure (.int 1))))) (sSeq (sIf (mB (mOp eqD (mDv (mVar 4)) (mDv (mOp ixD (mDv (mVar 0)) (mDv (M.pure (.int 1))))))) (sPar 1 4 (mCons (mOp addD (mDv (mVar 1)) (mDv (mOp ixD (mDv (mVar 0)) (mDv (M.pure (.int 0)))))) (mCons (M.pure (.int 0)) (mNil)))) (sNx)) (sApp 3 (mVar 1)))
def m__law_gone : M Fl :=
  sSeq (sParO 3 4 (mCons (mVar 1) (mNil)) (.int 0)) (sSeq (sFor (mRange1 (mCons (mVar 2) (mNil))) (.nm 5) (m__law_gone_l1)) (sRet (mFrz 3)))
def f__law_gone : List D → Rs := fnD 6 m__law_gone
theorem ok__law_gone {P : Program} {w : World} {K : PySem.W.Frag} {mg : Str → Option Value} {base : Heap} {cl : String → Addr} (T : Txt P K mg base cl) {fA : Addr} {fd : FuncData} (F : Fun K "_law_gone" "_law_gone" s__law_gone fA fd)  : FnOk P w K mg base (L2.CX P w) 1 fA fd ["_law_kind_here", "_law_cell", "_law_ticks"] (spP K cl 3 f__law_gone) :=
  fn_pure F sc__law_gone fun cdv A outer s H G E hr =>
    dss_cons (ds_parO (fun ta h => ps_par rfl sc__law_gone.nd rfl rfl (by decide) rfl rfl h rfl) (da_cons (de_var (pv 1)) (da_nil)) pe_int (fun _ => .int _))
    (dss_cons (ds_for (passes_of rfl) rfl (di_range1 rfl T.b_range (da_cons (de_var (pv 2)) (da_nil))) (dg_name (pg_name (i := 5) sc__law_gone.nd rfl (.inl rfl))) (dss_cons (ds_set (fun te h => ps_set (i := 4) sc__law_gone.nd rfl (.inl rfl) h) (de_op o_add (do_e (de_var (pv 4))) (do_e (de_int))))
    (dss_cons (ds_if (dt_cmp (o_eq (hu64 hr)) (do_e (de_var (pv 4))) (do_e (de_ix o_ix (do_e (de_var (pv 0))) (do_e (de_int)) (fun _ _ => rfl))) (nomark _)) (dss_one (ds_par (fun ta h => ps_par rfl sc__law_gone.nd rfl rfl (by decide) rfl rfl h rfl) (da_cons (de_op o_add (do_e (de_var (pv 1))) (do_e (de_ix o_ix (do_e (de_var (pv 0))) (do_e (de_int)) (fun _ _ => rfl)))) (da_cons (de_int) (da_nil))))) (dss_nil))
    (dss_one (ds_app (pv 3) (fun _ _ h1 h2 => pe_bm PySem.F.plainAttrs_list PySem.F.slot_list_append PySem.F.type_list_append mt_append h1 h2) (de_var (pv 1)))))))
    (dss_one (ds_ret (de_frz (pv 3)))))
/-! ### _law_first -/
def s__law_first : Stmt := topS 22
theorem sc__law_first : FnScope ["_law_one", "_law_place", "_law_other", "_law_spot", "_law_ticks", "_law_tick", "_law_mine", "_law_its"] ["_law_one", "_law_place", "_law_other", "_law_spot"] (defScope s__law_first) := ⟨rfl, rfl, rfl, by decide +kernel, rfl, by decide +kernel, by decide +kernel⟩
def m__law_first_l1 : M Fl :=
  sSeq (sIf (mOr (mB (mOp ltD (mDv (mVar 6)) (mDv (M.pure (.int 0))))) (mB (mOp ltD (mDv (mVar 7)) (mDv (M.pure (.int 0)))))) (sRet (M.pure .non)) (sNx)) (sIf (mB (mOp eqD (mDv (mVar 6)) (mDv (mVar 7)))) (sRet (mVar 5)) (sNx))
def m__law_first : M Fl :=
  sSeq (sSet 4 (mOp addD (mDv (mOp mulD (mDv (M.pure (.int 20))) (mDv (mUn absD (mDv (mOp subD (mDv (mVar 3)) (mDv (mVar 1)))))))) (mDv (M.pure (.int 40))))) (sSeq (sFor (mEz (mCons (mCall (fun ds => f__law_gone (ds ++ [])) (mCons (mVar 0) (mCons (mVar 1) (mCons (mVar 4) (mNil))))) (mCons (mCall (fun ds => f__law_gone (ds ++ [])) (mCons (mVar 2) (mCons (mVar 3) (mCons (mVar 4) (mNil))))) (mNil)))) (.tp [.nm 5, .tp [.nm 6, .nm 7]]) (m__law_first_l1)) (sRet (M.pure .non)))
def f__law_first : List D → Rs := fnD 8 m__law_first
theorem ok__law_first {P : Program} {w : World} {K : PySem.W.Frag} {mg : Str → Option Value} {base : Heap} {cl : String → Addr} (T : Txt P K mg base cl) {fA : Addr} {fd : FuncData} (F : Fun K "_law_first" "_law_first" s__law_first fA fd) (h__law_gone : RP P w K mg base cl "_law_gone" 1 3 [] f__law_gone) : FnOk P w K mg base (L2.CX P w) 2 fA fd ["_law_one", "_law_place", "_law_other", "_law_spot"] (spP K cl 4 f__law_first) :=
  fn_pure F sc__law_first fun cdv A outer s H G E hr =>
    dss_cons (ds_set (fun te h => ps_set (i := 4) sc__law_first.nd rfl (.inl rfl) h) (de_op o_add (do_e (de_op o_mul (do_e (de_int)) (do_e (de_b1 b_abs rfl T.b_abs boot_abs (do_e (de_op o_sub (do_e (de_var (pv 3))) (do_e (de_var (pv 1))))))))) (do_e (de_int))))
    (dss_cons (ds_for (passes_of rfl) rfl (di_ez rfl T.b_enumerate rfl T.b_zip (da_cons (de_call ⟨h__law_gone⟩ (hr.mono (by decide)) rfl (takes_of rfl rfl rfl rfl) (da_cons (de_var (pv 0)) (da_cons (de_var (pv 1)) (da_cons (de_var (pv 4)) (da_nil))))) (da_cons (de_call ⟨h__law_gone⟩ (hr.mono (by decide)) rfl (takes_of rfl rfl rfl rfl) (da_cons (de_var (pv 2)) (da_cons (de_var (pv 3)) (da_cons (de_var (pv 4)) (da_nil))))) (da_nil)))) (dg_tup (n := 2) rfl (dgs_cons (dg_name (pg_name (i := 5) sc__law_first.nd rfl (.inl rfl))) (dgs_cons (dg_tup (n := 2) rfl (dgs_cons (dg_name (pg_name (i := 6) sc__law_first.nd rfl (.inl rfl))) (dgs_cons (dg_name (pg_name (i := 7) sc__law_first.nd rfl (.inl rfl))) (dgs_nil)))) (dgs_nil)))) (dss_cons (ds_if (DW.dt (dw_or (dt_cmp o_lt (do_e (de_var (pv 6))) (do_e (de_int)) (nomark _)) (dw_or1 (dt_cmp o_lt (do_e (de_var (pv 7))) (do_e (de_int)) (nomark _))))) (dss_one (ds_ret (de_non))) (dss_nil))
    (dss_one (ds_if (dt_cmp (o_eq (hu64 hr)) (do_e (de_var (pv 6))) (do_e (de_var (pv 7))) (nomark _)) (dss_one (ds_ret (de_var (pv 5)))) (dss_nil)))))
    (dss_one (ds_ret (de_non))))
/-! ### _law_heard -/
def s__law_heard : Stmt := topS 23
theorem sc__law_heard : FnScope ["_law_ask", "_law_caught", "error"] ["_law_ask"] (defScope s__law_heard) := ⟨rfl, rfl, rfl, by decide +kernel, rfl, by decide +kernel, by decide +kernel⟩
def m__law_heard (f : Addr) (o : Rs) : M Fl :=
  sSeq (sSet 1 (M.pure .non)) (sSeq (sTry 2 1 fC_RowError (sDrop (mAsk f o))) (sRet (mIf (mB (mOp (isXD fX fN) (mDv (mVar 1)) (mDv (M.pure (.ref "BadNumber"))))) (mUn (fldD "part" okX) (mDv (mVar 1))) (mIf (mB (mOp isD (mDv (mVar 1)) (mDv (M.pure .non)))) (M.pure .non) (M.pure (.str "other"))))))
def f__law_heard (o : Rs) : Rs := fnD 3 (m__law_heard 0 o) [.adr 0]
theorem d__law_heard {P : Program} {w : World} {K : PySem.W.Frag} {mg : Str → Option Value} {base : Heap} {cl : String → Addr} (T : Txt P K mg base cl) {gA : Addr} {cdg : Value} (A : Around) (outer : List Env) (s : Shared) (H G : Hp) (f : Addr) (o : Rs) (hr : Room 1 (A.deeper (envOfC "_law_heard" (defScope s__law_heard) s.heap.objs.size gA cdg)))
    (hask : ∀ (W : WX) (pn : List (Addr × Obj)) (xe : Value → Shared → Prop) (p1 p2 : Pos), Takes ((cxOf C8.CX0 P w K mg base ["_law_ask", "_law_caught", "error"] "_law_heard" (defScope s__law_heard) gA cdg A outer s H C8.E0).tr pn xe) W →
      DE ((cxOf C8.CX0 P w K mg base ["_law_ask", "_law_caught", "error"] "_law_heard" (defScope s__law_heard) gA cdg A outer s H C8.E0).tr pn xe) ⟨cl, H, G, fun _ => 0, []⟩ W (.Call (.Name "_law_ask" p1) [] [] p2) (mAsk f o)) :
    DSs (cxOf C8.CX0 P w K mg base ["_law_ask", "_law_caught", "error"] "_law_heard" (defScope s__law_heard) gA cdg A outer s H C8.E0).nox ⟨cl, H, G, fun _ => 0, []⟩ (fun _ _ _ _ => False) (defBody s__law_heard) (m__law_heard f o) :=
  dss_cons (ds_set (fun te h => ps_set (i := 1) sc__law_heard.nd rfl (.inl rfl) h) (de_non))
    (dss_cons (ds_try rfl rfl rfl sc__law_heard.nd rfl rfl ⟨rfl, by decide, .inl T.r_RowError⟩ takes0 T.ca_RowError (fun W pn xe tk po => dss_one (ds_expr (hask _ _ _ _ _ tk))) (by decide) (fun a pn te h => ps_set (i := 1) sc__law_heard.nd rfl (.inl rfl) h) (fun a pn => pv 2))
    (dss_one (ds_ret (de_if (dt_val (de_b2 (b_isX T.isX T.isN) rfl T.b_isinstance boot_isinstance (do_e (de_var (pv 1))) (do_e (de_ref rfl T.r_BadNumber)))) (de_xfld T.at_part (do_e (de_var (pv 1)))) (de_if (dt_cmp o_is (do_e (de_var (pv 1))) (do_e (de_non)) (nomark _)) (de_non) (de_str))))))
/-! ### _law_refused_right -/
def s__law_refused_right : Stmt := topS 24
theorem sc__law_refused_right : FnScope ["_law_ruler_here", "_law_odd", "_law_low", "_law_bad", "_law_good", "_law_heard_here"] ["_law_ruler_here"] (defScope s__law_refused_right) := ⟨rfl, rfl, rfl, by decide +kernel, rfl, by decide +kernel, by decide +kernel⟩
def m__law_refused_right : M Fl :=
  sSeq (sSet 1 (gOwn 0 (mCallO 0 f__law_pick (mCons (mLst (mCons (M.pure .non) (mCons (M.pure (.int 5)) (mCons (mTup (mCons (M.pure (.int 1)) (mNil))) (mCons (mTup (mCons (M.pure (.int 1)) (mCons (M.pure (.int 0)) (mNil)))) (mCons (mTup (mCons (M.pure (.int 1)) (mCons (M.pure (.int 6)) (mNil)))) (mCons (mTup (mCons (M.pure (.int 2)) (mCons (M.pure (.int 1)) (mNil)))) (mCons (mTup (mCons (M.pure (.int 0)) (mCons (M.pure (.int 2)) (mNil)))) (mCons (mTup (mCons (M.pure (.bl true)) (mCons (M.pure (.int 1)) (mNil)))) (mCons (mTup (mCons (M.pure (.int 1)) (mCons (M.pure (.bl true)) (mNil)))) (mCons (M.pure (.str "11")) (mCons (mTup (mCons (M.pure (.int 1)) (mCons (M.pure (.int 1)) (mCons (M.pure (.int 1)) (mNil))))) (mCons (mLst (mCons (M.pure .non) (mCons (M.pure (.int 1)) (mNil)))) (mNil)))))))))))))) (mNil))))) (sSeq (sAsg (.tp [.nm 2, .nm 3]) (mTup (mCons (gOwn 0 (mCallO 0 f__law_pick (mCons (mLst (mCons (mUn negD (mDv (M.pure (.int 1)))) (mCons (M.pure (.int 1001)) (mCons (M.pure .non) (mCons (M.pure (.bl true)) (mCons (M.pure (.str "0")) (mCons (mLst (mCons (M.pure (.int 0)) (mNil))) (mNil)))))))) (mNil)))) (mCons (gOwn 0 (mCallO 0 f__law_pick (mCons (mLst (mCons (mUn negD (mDv (M.pure (.int 1)))) (mCons (M.pure (.int 1001)) (mCons (M.pure .non) (mCons (M.pure (.bl false)) (mCons (M.pure (.str "3")) (mCons (mTup (mCons (M.pure (.int 1)) (mNil))) (mNil)))))))) (mNil)))) (mNil))))) (sSeq (sSet 4 (gOwn 0 (mCallO 0 f__law_kind (mNil)))) (sSeq (sSet 5 (mLst (mCons (mHeard f__law_heard (mCall (fun ds => f_line_at (ds ++ [])) (mCons (mVar 1) (mCons (mVar 2) (mCons (mVar 3) (mNil)))))) (mCons (mHeard f__law_heard (mCall (fun ds => f_line_at (ds ++ [])) (mCons (mVar 4) (mCons (mVar 2) (mCons (mVar 3) (mNil)))))) (mCons (mHeard f__law_heard (mCall (fun ds => f_line_at (ds ++ [])) (mCons (mVar 4) (mCons (M.pure (.int 0)) (mCons (mVar 3) (mNil)))))) (mNil)))))) (sSeq (sSet 5 (mOp addD (mDv (mVar 5)) (mDv (mLst (mCons (mHeard f__law_heard (mCall (fun ds => f_meeting (ds ++ [])) (mCons (mVar 1) (mCons (mVar 2) (mCons (mVar 1) (mCons (mVar 3) (mNil))))))) (mCons (mHeard f__law_heard (mCall (fun ds => f_meeting (ds ++ [])) (mCons (mVar 4) (mCons (mVar 2) (mCons (mVar 1) (mCons (mVar 3) (mNil))))))) (mNil))))))) (sSeq (sSet 5 (mOp addD (mDv (mVar 5)) (mDv (mLst (mCons (mHeard f__law_heard (mCall (fun ds => f_meeting (ds ++ [])) (mCons (mVar 4) (mCons (M.pure (.int 3)) (mCons (mVar 1) (mCons (mVar 3) (mNil))))))) (mCons (mHeard f__law_heard (mCall (fun ds => f_meeting (ds ++ [])) (mCons (mVar 4) (mCons (M.pure (.int 3)) (mCons (mUn listD (mDv (mVar 4))) (mCons (mVar 3) (mNil))))))) (mNil))))))) (sRet (mOp eqD (mDv (mVar 5)) (mDv (mLst (mCons (M.pure (.str "kind")) (mCons (M.pure (.str "cell")) (mCons (M.pure (.str "tick")) (mCons (M.pure (.str "one")) (mCons (M.pure (.str "place")) (mCons (M.pure (.str "other")) (mCons (M.pure (.str "spot")) (mNil)))))))))))))))))
def f__law_refused_right : Ob → List D → Ro := fnO 6 m__law_refused_right
theorem ok__law_refused_right {P : Program} {w : World} {K : PySem.W.Frag} {mg : Str → Option Value} {base : Heap} {cl : String → Addr} (T : Txt P K mg base cl) {fA : Addr} {fd : FuncData} (F : Fun K "_law_refused_right" "_law_refused_right" s__law_refused_right fA fd) (h__law_pick : RO' P w K mg base cl "_law_pick" 2 1 f__law_pick) (h__law_kind : RO' P w K mg base cl "_law_kind" 3 0 f__law_kind) (h_line_at : RP P w K mg base cl "line_at" 5 3 [] f_line_at) (h__law_heard : RH P w K mg base cl "_law_heard" f__law_heard) (h_meeting : RP P w K mg base cl "meeting" 5 4 [] f_meeting) {c Pt : Addr} (hcd : fd.code = .ref c) (TB : LamX.TabB base mg c Pt) (hmT : (Pt, ((("_law_refused_right" : Str) ++ ".<locals>." : Str) ++ "<lambda>" : Str)) ∈ Tbls.T) (hu : ∀ p ∈ Tbls.T, p.1 = Pt → p.2 = ((("_law_refused_right" : Str) ++ ".<locals>." : Str) ++ "<lambda>" : Str)) : FnOk P w K mg base (L2.CX P w) 8 fA fd ["_law_ruler_here"] (spO K cl 0 f__law_refused_right) :=
  fn_ownC F hcd sc__law_refused_right rfl fun A outer s H B G a E hr =>
    dss_cons (ds_set (fun te h => ps_set (i := 1) sc__law_refused_right.nd rfl (.inr rfl) h) (de_callO ⟨h__law_pick⟩ (hr.mono (by decide)) rfl (takes_of rfl rfl rfl rfl) (pv 0) (da_cons (de_lst (da_cons (de_non) (da_cons (de_int) (da_cons (de_tup (da_cons (de_int) (da_nil))) (da_cons (de_tup (da_cons (de_int) (da_cons (de_int) (da_nil)))) (da_cons (de_tup (da_cons (de_int) (da_cons (de_int) (da_nil)))) (da_cons (de_tup (da_cons (de_int) (da_cons (de_int) (da_nil)))) (da_cons (de_tup (da_cons (de_int) (da_cons (de_int) (da_nil)))) (da_cons (de_tup (da_cons (de_bl) (da_cons (de_int) (da_nil)))) (da_cons (de_tup (da_cons (de_int) (da_cons (de_bl) (da_nil)))) (da_cons (de_str) (da_cons (de_tup (da_cons (de_int) (da_cons (de_int) (da_cons (de_int) (da_nil))))) (da_cons (de_lst (da_cons (de_non) (da_cons (de_int) (da_nil)))) (da_nil)))))))))))))) (da_nil))))
    (dss_cons (ds_asg (de_tup (da_cons (de_callO ⟨h__law_pick⟩ (hr.mono (by decide)) rfl (takes_of rfl rfl rfl rfl) (pv 0) (da_cons (de_lst (da_cons (de_un o_neg (do_e (de_int))) (da_cons (de_int) (da_cons (de_non) (da_cons (de_bl) (da_cons (de_str) (da_cons (de_lst (da_cons (de_int) (da_nil))) (da_nil)))))))) (da_nil))) (da_cons (de_callO ⟨h__law_pick⟩ (hr.mono (by decide)) rfl (takes_of rfl rfl rfl rfl) (pv 0) (da_cons (de_lst (da_cons (de_un o_neg (do_e (de_int))) (da_cons (de_int) (da_cons (de_non) (da_cons (de_bl) (da_cons (de_str) (da_cons (de_tup (da_cons (de_int) (da_nil))) (da_nil)))))))) (da_nil))) (da_nil)))) (dg_tup (n := 2) rfl (dgs_cons (dg_name (pg_name (i := 2) sc__law_refused_right.nd rfl (.inr rfl))) (dgs_cons (dg_name (pg_name (i := 3) sc__law_refused_right.nd rfl (.inr rfl))) (dgs_nil)))))
    (dss_cons (ds_set (fun te h => ps_set (i := 4) sc__law_refused_right.nd rfl (.inr rfl) h) (de_callO ⟨h__law_kind⟩ (hr.mono (by decide)) rfl (takes_of rfl rfl rfl rfl) (pv 0) (da_nil)))
    (dss_cons (ds_set (fun te h => ps_set (i := 5) sc__law_refused_right.nd rfl (.inl rfl) h) (de_lst (da_cons (de_heard (nd := false) (k := 5) ⟨h__law_heard⟩ rfl TB rfl hmT hu (hr.mono (by decide)) (lamD_by (sc := defScope s__law_refused_right) (N := ["_law_ruler_here", "_law_odd", "_law_low", "_law_bad", "_law_good", "_law_heard_here"]) (by decide +kernel)) ⟨rfl, rfl⟩ (fun _ _ _ _ _ => rfl) (fun A outer s H B G E f c' hr => de_call ⟨h_line_at⟩ (hr.mono (by decide)) rfl (takes_of rfl rfl rfl rfl) (da_cons (de_var (pv 1)) (da_cons (de_var (pv 2)) (da_cons (de_var (pv 3)) (da_nil)))))) (da_cons (de_heard (nd := true) (k := 5) ⟨h__law_heard⟩ rfl TB rfl hmT hu (hr.mono (by decide)) (lamD_by (sc := defScope s__law_refused_right) (N := ["_law_ruler_here", "_law_odd", "_law_low", "_law_bad", "_law_good", "_law_heard_here"]) (by decide +kernel)) ⟨rfl, _, _, _, rfl⟩ ⟨"_law_a1", rfl, fun _ _ _ _ _ _ _ => ⟨_, rfl, rfl⟩⟩ (fun A outer s H B G E f c' hr => de_call ⟨h_line_at⟩ (hr.mono (by decide)) rfl (takes_of rfl rfl rfl rfl) (da_cons (de_var (pv 4)) (da_cons (de_var (pv 2)) (da_cons (de_var (pv 3)) (da_nil)))))) (da_cons (de_heard (nd := true) (k := 5) ⟨h__law_heard⟩ rfl TB rfl hmT hu (hr.mono (by decide)) (lamD_by (sc := defScope s__law_refused_right) (N := ["_law_ruler_here", "_law_odd", "_law_low", "_law_bad", "_law_good", "_law_heard_here"]) (by decide +kernel)) ⟨rfl, _, _, _, rfl⟩ ⟨"_law_a2", rfl, fun _ _ _ _ _ _ _ => ⟨_, rfl, rfl⟩⟩ (fun A outer s H B G E f c' hr => de_call ⟨h_line_at⟩ (hr.mono (by decide)) rfl (takes_of rfl rfl rfl rfl) (da_cons (de_var (pv 4)) (da_cons (de_int) (da_cons (de_var (pv 3)) (da_nil)))))) (da_nil))))))
    (dss_cons (ds_set (fun te h => ps_set (i := 5) sc__law_refused_right.nd rfl (.inl rfl) h) (de_op o_add (do_e (de_var (pv 5))) (do_e (de_lst (da_cons (de_heard (nd := false) (k := 5) ⟨h__law_heard⟩ rfl TB rfl hmT hu (hr.mono (by decide)) (lamD_by (sc := defScope s__law_refused_right) (N := ["_law_ruler_here", "_law_odd", "_law_low", "_law_bad", "_law_good", "_law_heard_here"]) (by decide +kernel)) ⟨rfl, rfl⟩ (fun _ _ _ _ _ => rfl) (fun A outer s H B G E f c' hr => de_call ⟨h_meeting⟩ (hr.mono (by decide)) rfl (takes_of rfl rfl rfl rfl) (da_cons (de_var (pv 1)) (da_cons (de_var (pv 2)) (da_cons (de_var (pv 1)) (da_cons (de_var (pv 3)) (da_nil))))))) (da_cons (de_heard (nd := true) (k := 5) ⟨h__law_heard⟩ rfl TB rfl hmT hu (hr.mono (by decide)) (lamD_by (sc := defScope s__law_refused_right) (N := ["_law_ruler_here", "_law_odd", "_law_low", "_law_bad", "_law_good", "_law_heard_here"]) (by decide +kernel)) ⟨rfl, _, _, _, rfl⟩ ⟨"_law_a1", rfl, fun _ _ _ _ _ _ _ => ⟨_, rfl, rfl⟩⟩ (fun A outer s H B G E f c' hr => de_call ⟨h_meeting⟩ (hr.mono (by decide)) rfl (takes_of rfl rfl rfl rfl) (da_cons (de_var (pv 4)) (da_cons (de_var (pv 2)) (da_cons (de_var (pv 1)) (da_cons (de_var (pv 3)) (da_nil))))))) (da_nil)))))))
    (dss_cons (ds_set (fun te h => ps_set (i := 5) sc__law_refused_right.nd rfl (.inl rfl) h) (de_op o_add (do_e (de_var (pv 5))) (do_e (de_lst (da_cons (de_heard (nd := false) (k := 5) ⟨h__law_heard⟩ rfl TB rfl hmT hu (hr.mono (by decide)) (lamD_by (sc := defScope s__law_refused_right) (N := ["_law_ruler_here", "_law_odd", "_law_low", "_law_bad", "_law_good", "_law_heard_here"]) (by decide +kernel)) ⟨rfl, rfl⟩ (fun _ _ _ _ _ => rfl) (fun A outer s H B G E f c' hr => de_call ⟨h_meeting⟩ (hr.mono (by decide)) rfl (takes_of rfl rfl rfl rfl) (da_cons (de_var (pv 4)) (da_cons (de_int) (da_cons (de_var (pv 1)) (da_cons (de_var (pv 3)) (da_nil))))))) (da_cons (de_heard (nd := true) (k := 5) ⟨h__law_heard⟩ rfl TB rfl hmT hu (hr.mono (by decide)) (lamD_by (sc := defScope s__law_refused_right) (N := ["_law_ruler_here", "_law_odd", "_law_low", "_law_bad", "_law_good", "_law_heard_here"]) (by decide +kernel)) ⟨rfl, _, _, _, rfl⟩ ⟨"_law_a1", rfl, fun _ _ _ _ _ _ _ => ⟨_, rfl, rfl⟩⟩ (fun A outer s H B G E f c' hr => de_call ⟨h_meeting⟩ (hr.mono (by decide)) rfl (takes_of rfl rfl rfl rfl) (da_cons (de_var (pv 4)) (da_cons (de_int) (da_cons (de_t1 b_list rfl T.b_list boot_list (do_e (de_var (pv 4)))) (da_cons (de_var (pv 3)) (da_nil))))))) (da_nil)))))))
    (dss_one (ds_ret (de_cmp (o_eq (hu64 hr)) (do_e (de_var (pv 5))) (do_e (de_lst (da_cons (de_str) (da_cons (de_str) (da_cons (de_str) (da_cons (de_str) (da_cons (de_str) (da_cons (de_str) (da_cons (de_str) (da_nil)))))))))) (nomark _)))))))))
/-! ### law -/
def s_law : Stmt := topS 25
theorem sc_law : FnScope ["_law_script", "_law_ruler_here", "_law_turn", "_law_kind_here", "_law_cell", "_law_tick", "_law_due", "_law_one", "_law_other", "_law_far", "_law_place", "_law_spot", "_law_first_here", "_law_told"] ["_law_script"] (defScope s_law) := ⟨rfl, rfl, rfl, by decide +kernel, rfl, by decide +kernel, by decide +kernel⟩
def m_law_l1 : M Fl :=
  sSeq (sPar 3 4 (mCons (gOwn 1 (mCallO 1 f__law_kind (mNil))) (mCons (gOwn 1 (mCallO 1 f__law_pick (mCons (mLst (mCons (M.pure (.int 0)) (mCons (M.pure (.int 1)) (mCons (gOwn 1 (mCallO 1 f__law_draw_on (mCons (M.pure (.int 20)) (mNil)))) (mCons (gOwn 1 (mCallO 1 f__law_draw_on (mCons (M.pure (.int 1001)) (mNil)))) (mNil)))))) (mNil)))) (mNil)))) (sSeq (sSet 5 (gOwn 1 (mCallO 1 f__law_pick (mCons (mLst (mCons (M.pure (.int 0)) (mCons (M.pure (.int 1)) (mCons (gOwn 1 (mCallO 1 f__law_draw_on (mCons (M.pure (.int 60)) (mNil)))) (mCons (gOwn 1 (mCallO 1 f__law_draw_on (mCons (M.pure (.int 1001)) (mNil)))) (mNil)))))) (mNil))))) (sSeq (sSet 6 (mOp ixD (mDv (mCall (fun ds => f__law_gone (ds ++ [])) (mCons (mVar 3) (mCons (mVar 4) (mCons (mVar 5) (mNil)))))) (mDv (mUn negD (mDv (M.pure (.int 1))))))) (sSeq (sIf (mOr (mB (mOp neD (mDv (mUn reprD (mDv (mCall (fun ds => f_line_at (ds ++ [])) (mCons (mVar 3) (mCons (mVar 4) (mCons (mVar 5) (mNil)))))))) (mDv (mUn reprD (mDv (mIf (mB (mOp geD (mDv (mVar 6)) (mDv (M.pure (.int 0))))) (mVar 6) (M.pure .non))))))) (mB (mOp neD (mDv (mCall (fun ds => f_line_at (pick [2, 1, 0] ds)) (mCons (mVar 5) (mCons (mVar 4) (mCons (mUn listD (mDv (mVar 3))) (mNil)))))) (mDv (mCall (fun ds => f_line_at (ds ++ [])) (mCons (mVar 3) (mCons (mVar 4) (mCons (mVar 5) (mNil))))))))) (sRet (M.pure (.bl false))) (sNx)) (sSeq (sPar 7 8 (mCons (gOwn 1 (mCallO 1 f__law_kind (mNil))) (mCons (gOwn 1 (mCallO 1 f__law_kind (mNil))) (mNil)))) (sSeq (sSet 9 (gOwn 1 (mCallO 1 f__law_pick (mCons (mLst (mCons (M.pure (.int 6)) (mCons (M.pure (.int 20)) (mCons (M.pure (.int 60)) (mNil))))) (mNil))))) (sSeq (sPar 10 11 (mCons (gOwn 1 (mCallO 1 f__law_draw_on (mCons (mVar 9) (mNil)))) (mCons (gOwn 1 (mCallO 1 f__law_draw_on (mCons (mVar 9) (mNil)))) (mNil)))) (sSeq (sSet 12 (mCall (fun ds => f__law_first (ds ++ [])) (mCons (mVar 7) (mCons (mVar 10) (mCons (mVar 8) (mCons (mVar 11) (mNil))))))) (sSeq (sIf (mOr (mB (mOp neD (mDv (mUn reprD (mDv (mCall (fun ds => f_meeting (ds ++ [])) (mCons (mVar 7) (mCons (mVar 10) (mCons (mVar 8) (mCons (mVar 11) (mNil))))))))) (mDv (mUn reprD (mDv (mVar 12)))))) (mB (mOp neD (mDv (mCall (fun ds => f_meeting (pick [3, 2, 1, 0] ds)) (mCons (mVar 11) (mCons (mUn listD (mDv (mVar 8))) (mCons (mVar 10) (mCons (mVar 7) (mNil))))))) (mDv (mVar 12))))) (sRet (M.pure (.bl false))) (sNx)) (sIf (mOr (mB (mOp neD (mDv (mCall (fun ds => f_meeting (ds ++ [])) (mCons (mVar 8) (mCons (mVar 11) (mCons (mVar 7) (mCons (mVar 10) (mNil))))))) (mDv (mVar 12)))) (mB (mOp neD (mDv (mCall (fun ds => f_meeting (ds ++ [])) (mCons (mVar 7) (mCons (mVar 10) (mCons (mVar 7) (mCons (mVar 10) (mNil))))))) (mDv (M.pure (.int 0)))))) (sRet (M.pure (.bl false))) (sNx))))))))))
def m_law : M Fl :=
  sSeq (sNew 1 (mCallN f__law_ruler (mCons (mVar 0) (mNil)))) (sSeq (sFor (mRange1 (mCons (M.pure (.int 6)) (mNil))) (.nm 2) (m_law_l1)) (sSeq (sSet 13 (mObD (mComp (mItems (mTup (mCons (M.pure (.int 10)) (mCons (M.pure (.int 100)) (mCons (M.pure (.int 1000)) (mNil)))))) (.nm 9) (M.pure true) (mCall (fun ds => f_meeting (ds ++ [])) (mCons (mTup (mCons (M.pure (.int 1)) (mCons (M.pure (.int 4)) (mNil)))) (mCons (M.pure (.int 0)) (mCons (mTup (mCons (M.pure (.int 1)) (mCons (M.pure (.int 5)) (mNil)))) (mCons (mVar 9) (mNil)))))) [9]))) (sRet (vAnd (gOwn 1 (mCallO 1 f__law_refused_right (mNil))) (vAnd (mOp eqD (mDv (mCall (fun ds => f_line_at (ds ++ [])) (mCons (mTup (mCons (M.pure (.int 1)) (mCons (M.pure (.int 1)) (mNil)))) (mCons (M.pure (.int 1000)) (mCons (M.pure (.int 1000)) (mNil)))))) (mDv (M.pure (.int 2000)))) (mOp eqD (mDv (mVar 13)) (mDv (mLst (mCons (mCall (fun ds => f__law_first (ds ++ [])) (mCons (mTup (mCons (M.pure (.int 1)) (mCons (M.pure (.int 4)) (mNil)))) (mCons (M.pure (.int 0)) (mCons (mTup (mCons (M.pure (.int 1)) (mCons (M.pure (.int 5)) (mNil)))) (mCons (M.pure (.int 10)) (mNil)))))) (mCons (M.pure (.int 1984)) (mCons (M.pure (.int 19984)) (mNil))))))))))))
def f_law : List D → Rs := fnD 14 m_law
theorem ok_law {P : Program} {w : World} {K : PySem.W.Frag} {mg : Str → Option Value} {base : Heap} {cl : String → Addr} (T : Txt P K mg base cl) {fA : Addr} {fd : FuncData} (F : Fun K "law" "law" s_law fA fd) (h__law_ruler : RN P w K mg base cl "_law_ruler" 1 1 f__law_ruler) (h__law_draw_on : RO' P w K mg base cl "_law_draw_on" 1 1 f__law_draw_on) (h__law_pick : RO' P w K mg base cl "_law_pick" 2 1 f__law_pick) (h__law_kind : RO' P w K mg base cl "_law_kind" 3 0 f__law_kind) (h__law_gone : RP P w K mg base cl "_law_gone" 1 3 [] f__law_gone) (h_line_atKtck : RK P w K mg base cl "line_at" 5 3 ["tick", "cell", "kind"] [2, 1, 0] f_line_at) (h_line_at : RP P w K mg base cl "line_at" 5 3 [] f_line_at) (h__law_first : RP P w K mg base cl "_law_first" 2 4 [] f__law_first) (h_meetingKsopo : RK P w K mg base cl "meeting" 5 4 ["spot", "other", "place", "one"] [3, 2, 1, 0] f_meeting) (h_meeting : RP P w K mg base cl "meeting" 5 4 [] f_meeting) (h__law_refused_right : RO' P w K mg base cl "_law_refused_right" 8 0 f__law_refused_right) : FnOk P w K mg base (L2.CX P w) 9 fA fd ["_law_script"] (spP K cl 1 f_law) :=
  fn_pure F sc_law fun cdv A outer s H G E hr =>
    dss_cons (ds_new (fun te h => ps_set (i := 1) sc_law.nd rfl (.inl rfl) h) (dn_call ⟨h__law_ruler⟩ (hr.mono (by decide)) rfl (takes_of rfl rfl rfl rfl) (da_cons (de_var (pv 0)) (da_nil))))
    (dss_cons (ds_for (passes_of rfl) rfl (di_range1 rfl T.b_range (da_cons (de_int) (da_nil))) (dg_name (pg_name (i := 2) sc_law.nd rfl (.inl rfl))) (dss_cons (ds_par (fun ta h => ps_par rfl sc_law.nd rfl rfl (by decide) rfl rfl h rfl) (da_cons (de_callO ⟨h__law_kind⟩ (hr.mono (by decide)) rfl (takes_of rfl rfl rfl rfl) (pv 1) (da_nil)) (da_cons (de_callO ⟨h__law_pick⟩ (hr.mono (by decide)) rfl (takes_of rfl rfl rfl rfl) (pv 1) (da_cons (de_lst (da_cons (de_int) (da_cons (de_int) (da_cons (de_callO ⟨h__law_draw_on⟩ (hr.mono (by decide)) rfl (takes_of rfl rfl rfl rfl) (pv 1) (da_cons (de_int) (da_nil))) (da_cons (de_callO ⟨h__law_draw_on⟩ (hr.mono (by decide)) rfl (takes_of rfl rfl rfl rfl) (pv 1) (da_cons (de_int) (da_nil))) (da_nil)))))) (da_nil))) (da_nil))))
    (dss_cons (ds_set (fun te h => ps_set (i := 5) sc_law.nd rfl (.inl rfl) h) (de_callO ⟨h__law_pick⟩ (hr.mono (by decide)) rfl (takes_of rfl rfl rfl rfl) (pv 1) (da_cons (de_lst (da_cons (de_int) (da_cons (de_int) (da_cons (de_callO ⟨h__law_draw_on⟩ (hr.mono (by decide)) rfl (takes_of rfl rfl rfl rfl) (pv 1) (da_cons (de_int) (da_nil))) (da_cons (de_callO ⟨h__law_draw_on⟩ (hr.mono (by decide)) rfl (takes_of rfl rfl rfl rfl) (pv 1) (da_cons (de_int) (da_nil))) (da_nil)))))) (da_nil))))
    (dss_cons (ds_set (fun te h => ps_set (i := 6) sc_law.nd rfl (.inl rfl) h) (de_ix o_ix (do_e (de_call ⟨h__law_gone⟩ (hr.mono (by decide)) rfl (takes_of rfl rfl rfl rfl) (da_cons (de_var (pv 3)) (da_cons (de_var (pv 4)) (da_cons (de_var (pv 5)) (da_nil)))))) (do_e (de_un o_neg (do_e (de_int)))) (fun _ _ => rfl)))
    (dss_cons (ds_if (DW.dt (dw_or (dt_cmp (o_ne (hu64 hr)) (do_e (de_b1 b_repr rfl T.b_repr boot_repr (do_e (de_call ⟨h_line_at⟩ (hr.mono (by decide)) rfl (takes_of rfl rfl rfl rfl) (da_cons (de_var (pv 3)) (da_cons (de_var (pv 4)) (da_cons (de_var (pv 5)) (da_nil)))))))) (do_e (de_b1 b_repr rfl T.b_repr boot_repr (do_e (de_if (dt_cmp o_ge (do_e (de_var (pv 6))) (do_e (de_int)) (nomark _)) (de_var (pv 6)) (de_non))))) (nomark _)) (dw_or1 (dt_cmp (o_ne (hu64 hr)) (do_e (de_callK ⟨h_line_atKtck⟩ (hr.mono (by decide)) rfl (takes_of rfl rfl rfl rfl) (dk_cons (de_var (pv 5)) (dk_cons (de_var (pv 4)) (dk_cons (de_t1 b_list rfl T.b_list boot_list (do_e (de_var (pv 3)))) (dk_nil)))) (fun l hl => pick_len3 hl))) (do_e (de_call ⟨h_line_at⟩ (hr.mono (by decide)) rfl (takes_of rfl rfl rfl rfl) (da_cons (de_var (pv 3)) (da_cons (de_var (pv 4)) (da_cons (de_var (pv 5)) (da_nil)))))) (nomark _))))) (dss_one (ds_ret (de_bl))) (dss_nil))
    (dss_cons (ds_par (fun ta h => ps_par rfl sc_law.nd rfl rfl (by decide) rfl rfl h rfl) (da_cons (de_callO ⟨h__law_kind⟩ (hr.mono (by decide)) rfl (takes_of rfl rfl rfl rfl) (pv 1) (da_nil)) (da_cons (de_callO ⟨h__law_kind⟩ (hr.mono (by decide)) rfl (takes_of rfl rfl rfl rfl) (pv 1) (da_nil)) (da_nil))))
    (dss_cons (ds_set (fun te h => ps_set (i := 9) sc_law.nd rfl (.inl rfl) h) (de_callO ⟨h__law_pick⟩ (hr.mono (by decide)) rfl (takes_of rfl rfl rfl rfl) (pv 1) (da_cons (de_lst (da_cons (de_int) (da_cons (de_int) (da_cons (de_int) (da_nil))))) (da_nil))))
    (dss_cons (ds_par (fun ta h => ps_par rfl sc_law.nd rfl rfl (by decide) rfl rfl h rfl) (da_cons (de_callO ⟨h__law_draw_on⟩ (hr.mono (by decide)) rfl (takes_of rfl rfl rfl rfl) (pv 1) (da_cons (de_var (pv 9)) (da_nil))) (da_cons (de_callO ⟨h__law_draw_on⟩ (hr.mono (by decide)) rfl (takes_of rfl rfl rfl rfl) (pv 1) (da_cons (de_var (pv 9)) (da_nil))) (da_nil))))
    (dss_cons (ds_set (fun te h => ps_set (i := 12) sc_law.nd rfl (.inl rfl) h) (de_call ⟨h__law_first⟩ (hr.mono (by decide)) rfl (takes_of rfl rfl rfl rfl) (da_cons (de_var (pv 7)) (da_cons (de_var (pv 10)) (da_cons (de_var (pv 8)) (da_cons (de_var (pv 11)) (da_nil)))))))
    (dss_cons (ds_if (DW.dt (dw_or (dt_cmp (o_ne (hu64 hr)) (do_e (de_b1 b_repr rfl T.b_repr boot_repr (do_e (de_call ⟨h_meeting⟩ (hr.mono (by decide)) rfl (takes_of rfl rfl rfl rfl) (da_cons (de_var (pv 7)) (da_cons (de_var (pv 10)) (da_cons (de_var (pv 8)) (da_cons (de_var (pv 11)) (da_nil))))))))) (do_e (de_b1 b_repr rfl T.b_repr boot_repr (do_e (de_var (pv 12))))) (nomark _)) (dw_or1 (dt_cmp (o_ne (hu64 hr)) (do_e (de_callK ⟨h_meetingKsopo⟩ (hr.mono (by decide)) rfl (takes_of rfl rfl rfl rfl) (dk_cons (de_var (pv 11)) (dk_cons (de_t1 b_list rfl T.b_list boot_list (do_e (de_var (pv 8)))) (dk_cons (de_var (pv 10)) (dk_cons (de_var (pv 7)) (dk_nil))))) (fun l hl => pick_len4 hl))) (do_e (de_var (pv 12))) (nomark _))))) (dss_one (ds_ret (de_bl))) (dss_nil))
    (dss_one (ds_if (DW.dt (dw_or (dt_cmp (o_ne (hu64 hr)) (do_e (de_call ⟨h_meeting⟩ (hr.mono (by decide)) rfl (takes_of rfl rfl rfl rfl) (da_cons (de_var (pv 8)) (da_cons (de_var (pv 11)) (da_cons (de_var (pv 7)) (da_cons (de_var (pv 10)) (da_nil))))))) (do_e (de_var (pv 12))) (nomark _)) (dw_or1 (dt_cmp (o_ne (hu64 hr)) (do_e (de_call ⟨h_meeting⟩ (hr.mono (by decide)) rfl (takes_of rfl rfl rfl rfl) (da_cons (de_var (pv 7)) (da_cons (de_var (pv 10)) (da_cons (de_var (pv 7)) (da_cons (de_var (pv 10)) (da_nil))))))) (do_e (de_int)) (nomark _))))) (dss_one (ds_ret (de_bl))) (dss_nil)))))))))))))
    (dss_cons (ds_compV (own := [("_law_far", 9)]) (i := 13) rfl sc_law.nd rfl rfl (sw_true rfl rfl rfl rfl) (di_any (de_tup (da_cons (de_int) (da_cons (de_int) (da_cons (de_int) (da_nil)))))) (blk_by (N := ["_law_script", "_law_ruler_here", "_law_turn", "_law_kind_here", "_law_cell", "_law_tick", "_law_due", "_law_one", "_law_other", "_law_far", "_law_place", "_law_spot", "_law_first_here", "_law_told"]) (sc := defScope s_law) (by decide +kernel)) (fun _ _ _ _ _ _ => dg_name (pg_name (i := 9) sc_law.nd rfl (.inl rfl))) (fun _ _ _ _ _ _ => dts_nil) (fun _ _ _ _ _ _ => de_call ⟨h_meeting⟩ (hr.mono (by decide)) rfl takes0 (da_cons (de_tup (da_cons (de_int) (da_cons (de_int) (da_nil)))) (da_cons (de_int) (da_cons (de_tup (da_cons (de_int) (da_cons (de_int) (da_nil)))) (da_cons (de_var (pv 9)) (da_nil)))))))
    (dss_one (ds_ret (de_and (de_callO ⟨h__law_refused_right⟩ (hr.mono (by decide)) rfl (takes_of rfl rfl rfl rfl) (pv 1) (da_nil)) (de_and (de_cmp (o_eq (hu64 hr)) (do_e (de_call ⟨h_line_at⟩ (hr.mono (by decide)) rfl (takes_of rfl rfl rfl rfl) (da_cons (de_tup (da_cons (de_int) (da_cons (de_int) (da_nil)))) (da_cons (de_int) (da_cons (de_int) (da_nil)))))) (do_e (de_int)) (nomark _)) (de_one (de_cmp (o_eq (hu64 hr)) (do_e (de_var (pv 13))) (do_e (de_lst (da_cons (de_call ⟨h__law_first⟩ (hr.mono (by decide)) rfl (takes_of rfl rfl rfl rfl) (da_cons (de_tup (da_cons (de_int) (da_cons (de_int) (da_nil)))) (da_cons (de_int) (da_cons (de_tup (da_cons (de_int) (da_cons (de_int) (da_nil)))) (da_cons (de_int) (da_nil)))))) (da_cons (de_int) (da_cons (de_int) (da_nil)))))) (nomark _)))))))))
end DL
end

section
set_option Elab.async false
set_option linter.all false
set_option maxRecDepth 100000
set_option maxHeartbeats 4000000
namespace DL
open PySem L2
theorem is_integer_int (i : Int) : f_is_integer [.int i] = .ok (.bl true) := by rfl
theorem is_integer_bl (i : Bool) : f_is_integer [.bl i] = .ok (.bl false) := by rfl
theorem is_integer_non : f_is_integer [.non] = .ok (.bl false) := by rfl
theorem is_integer_str (x : Str) : f_is_integer [.str x] = .ok (.bl false) := by rfl
theorem is_integer_lst (x : List D) : f_is_integer [.lst x] = .ok (.bl false) := by rfl
theorem is_integer_tup (x : List D) : f_is_integer [.tup x] = .ok (.bl false) := by rfl
theorem within_int (v lo hi : Int) : f_is_within [.int v, .int lo, .int hi] = .ok (.bl (decide (lo ≤ v) && decide (v ≤ hi))) := by
  unfold f_is_within m_is_within
  by_cases h : lo ≤ v <;> simp [fnD, fnO, fnN, own0, startR, e_bind, e_pure, e_var, e_frz, e_os, e_dv, e_op, e_un, e_B, e_and, e_or, e_not, e_vand, e_vor, e_vnot, e_if, e_nil, e_cons, e_tup, e_lst, e_call, e_callN, e_gown, e_callO, e_seq, e_nx, e_drop, e_ret, e_retO, e_sif, e_set, e_par, e_parO, e_asg, e_raise, e_for, e_range1, e_items, e_part, e_sl, e_app, e_put, e_new, e_obd, e_comp, e_ez, e_heard, e_resd, e_reso, short, bindP, bindPs, isD, isnD, isNon, cmpD, ltD, leD, gtD, geD, addD, subD, mulD, fdivD, modD, powD, negD, ixD, absD, intD, lenD, tupleD, listD, Ob.d, is_integer_int, h]
theorem within_no {d lo hi : D} (h : f_is_integer [d] = .ok (.bl false)) : f_is_within [d, lo, hi] = .ok (.bl false) := by
  unfold f_is_within m_is_within
  simp [fnD, fnO, fnN, own0, startR, e_bind, e_pure, e_var, e_frz, e_os, e_dv, e_op, e_un, e_B, e_and, e_or, e_not, e_vand, e_vor, e_vnot, e_if, e_nil, e_cons, e_tup, e_lst, e_call, e_callN, e_gown, e_callO, e_seq, e_nx, e_drop, e_ret, e_retO, e_sif, e_set, e_par, e_parO, e_asg, e_raise, e_for, e_range1, e_items, e_part, e_sl, e_app, e_put, e_new, e_obd, e_comp, e_ez, e_heard, e_resd, e_reso, short, bindP, bindPs, isD, isnD, isNon, cmpD, ltD, leD, gtD, geD, addD, subD, mulD, fdivD, modD, powD, negD, ixD, absD, intD, lenD, tupleD, listD, Ob.d, h]
/-- need_number -/
theorem need_number_ok {v lo hi : Int} {s : Str} (h1 : lo ≤ v) (h2 : v ≤ hi) : f_need_number [.int v, .str s, .int lo, .int hi] = .ok .non := by
  unfold f_need_number m_need_number
  simp [fnD, fnO, fnN, own0, startR, e_bind, e_pure, e_var, e_frz, e_os, e_dv, e_op, e_un, e_B, e_and, e_or, e_not, e_vand, e_vor, e_vnot, e_if, e_nil, e_cons, e_tup, e_lst, e_call, e_callN, e_gown, e_callO, e_seq, e_nx, e_drop, e_ret, e_retO, e_sif, e_set, e_par, e_parO, e_asg, e_raise, e_for, e_range1, e_items, e_part, e_sl, e_app, e_put, e_new, e_obd, e_comp, e_ez, e_heard, e_resd, e_reso, short, bindP, bindPs, isD, isnD, isNon, cmpD, ltD, leD, gtD, geD, addD, subD, mulD, fdivD, modD, powD, negD, ixD, absD, intD, lenD, tupleD, listD, Ob.d, within_int, h1, h2]
theorem need_number_no {d : D} {lo hi : Int} {s : Str} (h : f_is_within [d, .int lo, .int hi] = .ok (.bl false)) : f_need_number [d, .str s, .int lo, .int hi] = .err ⟨"BadNumber", [("part", .str s)]⟩ := by
  unfold f_need_number m_need_number
  simp [fnD, fnO, fnN, own0, startR, e_bind, e_pure, e_var, e_frz, e_os, e_dv, e_op, e_un, e_B, e_and, e_or, e_not, e_vand, e_vor, e_vnot, e_if, e_nil, e_cons, e_tup, e_lst, e_call, e_callN, e_gown, e_callO, e_seq, e_nx, e_drop, e_ret, e_retO, e_sif, e_set, e_par, e_parO, e_asg, e_raise, e_for, e_range1, e_items, e_part, e_sl, e_app, e_put, e_new, e_obd, e_comp, e_ez, e_heard, e_resd, e_reso, short, bindP, bindPs, isD, isnD, isNon, cmpD, ltD, leD, gtD, geD, addD, subD, mulD, fdivD, modD, powD, negD, ixD, absD, intD, lenD, tupleD, listD, Ob.d, h]
theorem need_number_out {v lo hi : Int} {s : Str} (h : ¬ (lo ≤ v ∧ v ≤ hi)) : f_need_number [.int v, .str s, .int lo, .int hi] = .err ⟨"BadNumber", [("part", .str s)]⟩ := by
  apply need_number_no
  rw [within_int]
  by_cases h1 : lo ≤ v
  · have h2 : ¬ v ≤ hi := fun z => h ⟨h1, z⟩
    simp [h1, h2]
  · simp [h1]
theorem place_of (a w cell tick : Int) (ha : -10 ≤ a ∧ a ≤ 10) (hw : 0 < w ∧ w ≤ 10) : f_place_of [.tup [.int a, .int w], .int cell, .int tick] = .ok (.int (cell + a * tick.fdiv w)) := by
  unfold f_place_of m_place_of
  have e0 : atI [D.int a, D.int w] 0 = some (.int a) := rfl
  have e1 : atI [D.int a, D.int w] 1 = some (.int w) := rfl
  have s1 : small64 a = true := by unfold small64; simp; omega
  have n0 : w ≠ 0 := by omega
  have n1 : w.natAbs < 1073741824 := by omega
  simp [fnD, fnO, fnN, own0, startR, e_bind, e_pure, e_var, e_frz, e_os, e_dv, e_op, e_un, e_B, e_and, e_or, e_not, e_vand, e_vor, e_vnot, e_if, e_nil, e_cons, e_tup, e_lst, e_call, e_callN, e_gown, e_callO, e_seq, e_nx, e_drop, e_ret, e_retO, e_sif, e_set, e_par, e_parO, e_asg, e_raise, e_for, e_range1, e_items, e_part, e_sl, e_app, e_put, e_new, e_obd, e_comp, e_ez, e_heard, e_resd, e_reso, short, bindP, bindPs, isD, isnD, isNon, cmpD, ltD, leD, gtD, geD, addD, subD, mulD, fdivD, modD, powD, negD, ixD, absD, intD, lenD, tupleD, listD, Ob.d, e0, e1, s1, n0, n1]
/-- a kind -/
def Kd (a w : Int) : Prop := -1 ≤ a ∧ a ≤ 1 ∧ 1 ≤ w ∧ w ≤ 5 ∧ (a = 0 → w = 1)
theorem kind_pair {l : List D} {a w : Int} {d : D} (hd : d = .tup [.int a, .int w] ∨ d = .lst [.int a, .int w]) (k : Kd a w) : f_is_kind [d] = .ok (.bl true) := by
  obtain ⟨k1, k2, k3, k4, k5⟩ := k
  have e0 : atI [D.int a, D.int w] 0 = some (.int a) := rfl
  have e1 : atI [D.int a, D.int w] 1 = some (.int w) := rfl
  have n1 : ∀ x y : Int, neD (.int x) (.int y) = some (.bl (!(x == y))) := fun x y => rfl
  unfold f_is_kind m_is_kind
  rcases hd with rfl | rfl
  · have i2 : isi2 "list" "tuple" (.tup [.int a, .int w]) = some (.bl true) := rfl
    by_cases h0 : a = 0
    · have hw := k5 h0
      subst h0 hw
      simp [fnD, fnO, fnN, own0, startR, e_bind, e_pure, e_var, e_frz, e_os, e_dv, e_op, e_un, e_B, e_and, e_or, e_not, e_vand, e_vor, e_vnot, e_if, e_nil, e_cons, e_tup, e_lst, e_call, e_callN, e_gown, e_callO, e_seq, e_nx, e_drop, e_ret, e_retO, e_sif, e_set, e_par, e_parO, e_asg, e_raise, e_for, e_range1, e_items, e_part, e_sl, e_app, e_put, e_new, e_obd, e_comp, e_ez, e_heard, e_resd, e_reso, short, bindP, bindPs, isD, isnD, isNon, cmpD, ltD, leD, gtD, geD, addD, subD, mulD, fdivD, modD, powD, negD, ixD, absD, intD, lenD, tupleD, listD, Ob.d, i2, e0, e1, n1, within_int]
    · simp [fnD, fnO, fnN, own0, startR, e_bind, e_pure, e_var, e_frz, e_os, e_dv, e_op, e_un, e_B, e_and, e_or, e_not, e_vand, e_vor, e_vnot, e_if, e_nil, e_cons, e_tup, e_lst, e_call, e_callN, e_gown, e_callO, e_seq, e_nx, e_drop, e_ret, e_retO, e_sif, e_set, e_par, e_parO, e_asg, e_raise, e_for, e_range1, e_items, e_part, e_sl, e_app, e_put, e_new, e_obd, e_comp, e_ez, e_heard, e_resd, e_reso, short, bindP, bindPs, isD, isnD, isNon, cmpD, ltD, leD, gtD, geD, addD, subD, mulD, fdivD, modD, powD, negD, ixD, absD, intD, lenD, tupleD, listD, Ob.d, i2, e0, e1, n1, within_int, k1, k2, k3, k4, h0]
  · have i2 : isi2 "list" "tuple" (.lst [.int a, .int w]) = some (.bl true) := rfl
    by_cases h0 : a = 0
    · have hw := k5 h0
      subst h0 hw
      simp [fnD, fnO, fnN, own0, startR, e_bind, e_pure, e_var, e_frz, e_os, e_dv, e_op, e_un, e_B, e_and, e_or, e_not, e_vand, e_vor, e_vnot, e_if, e_nil, e_cons, e_tup, e_lst, e_call, e_callN, e_gown, e_callO, e_seq, e_nx, e_drop, e_ret, e_retO, e_sif, e_set, e_par, e_parO, e_asg, e_raise, e_for, e_range1, e_items, e_part, e_sl, e_app, e_put, e_new, e_obd, e_comp, e_ez, e_heard, e_resd, e_reso, short, bindP, bindPs, isD, isnD, isNon, cmpD, ltD, leD, gtD, geD, addD, subD, mulD, fdivD, modD, powD, negD, ixD, absD, intD, lenD, tupleD, listD, Ob.d, i2, e0, e1, n1, within_int]
    · simp [fnD, fnO, fnN, own0, startR, e_bind, e_pure, e_var, e_frz, e_os, e_dv, e_op, e_un, e_B, e_and, e_or, e_not, e_vand, e_vor, e_vnot, e_if, e_nil, e_cons, e_tup, e_lst, e_call, e_callN, e_gown, e_callO, e_seq, e_nx, e_drop, e_ret, e_retO, e_sif, e_set, e_par, e_parO, e_asg, e_raise, e_for, e_range1, e_items, e_part, e_sl, e_app, e_put, e_new, e_obd, e_comp, e_ez, e_heard, e_resd, e_reso, short, bindP, bindPs, isD, isnD, isNon, cmpD, ltD, leD, gtD, geD, addD, subD, mulD, fdivD, modD, powD, negD, ixD, absD, intD, lenD, tupleD, listD, Ob.d, i2, e0, e1, n1, within_int, k1, k2, k3, k4, h0]
theorem need_kind_pair {a w : Int} {d : D} {s : Str} (hd : d = .tup [.int a, .int w] ∨ d = .lst [.int a, .int w]) (k : Kd a w) : f_need_kind [d, .str s] = .ok (.tup [.int a, .int w]) := by
  have h := kind_pair (l := []) hd k
  unfold f_need_kind m_need_kind
  rcases hd with rfl | rfl
  · simp [fnD, fnO, fnN, own0, startR, e_bind, e_pure, e_var, e_frz, e_os, e_dv, e_op, e_un, e_B, e_and, e_or, e_not, e_vand, e_vor, e_vnot, e_if, e_nil, e_cons, e_tup, e_lst, e_call, e_callN, e_gown, e_callO, e_seq, e_nx, e_drop, e_ret, e_retO, e_sif, e_set, e_par, e_parO, e_asg, e_raise, e_for, e_range1, e_items, e_part, e_sl, e_app, e_put, e_new, e_obd, e_comp, e_ez, e_heard, e_resd, e_reso, short, bindP, bindPs, isD, isnD, isNon, cmpD, ltD, leD, gtD, geD, addD, subD, mulD, fdivD, modD, powD, negD, ixD, absD, intD, lenD, tupleD, listD, Ob.d, h]
  · simp [fnD, fnO, fnN, own0, startR, e_bind, e_pure, e_var, e_frz, e_os, e_dv, e_op, e_un, e_B, e_and, e_or, e_not, e_vand, e_vor, e_vnot, e_if, e_nil, e_cons, e_tup, e_lst, e_call, e_callN, e_gown, e_callO, e_seq, e_nx, e_drop, e_ret, e_retO, e_sif, e_set, e_par, e_parO, e_asg, e_raise, e_for, e_range1, e_items, e_part, e_sl, e_app, e_put, e_new, e_obd, e_comp, e_ez, e_heard, e_resd, e_reso, short, bindP, bindPs, isD, isnD, isNon, cmpD, ltD, leD, gtD, geD, addD, subD, mulD, fdivD, modD, powD, negD, ixD, absD, intD, lenD, tupleD, listD, Ob.d, h]
theorem need_kind_no {d : D} {s : Str} (h : f_is_kind [d] = .ok (.bl false)) : f_need_kind [d, .str s] = .err ⟨"BadNumber", [("part", .str s)]⟩ := by
  unfold f_need_kind m_need_kind
  simp [fnD, fnO, fnN, own0, startR, e_bind, e_pure, e_var, e_frz, e_os, e_dv, e_op, e_un, e_B, e_and, e_or, e_not, e_vand, e_vor, e_vnot, e_if, e_nil, e_cons, e_tup, e_lst, e_call, e_callN, e_gown, e_callO, e_seq, e_nx, e_drop, e_ret, e_retO, e_sif, e_set, e_par, e_parO, e_asg, e_raise, e_for, e_range1, e_items, e_part, e_sl, e_app, e_put, e_new, e_obd, e_comp, e_ez, e_heard, e_resd, e_reso, short, bindP, bindPs, isD, isnD, isNon, cmpD, ltD, leD, gtD, geD, addD, subD, mulD, fdivD, modD, powD, negD, ixD, absD, intD, lenD, tupleD, listD, Ob.d, h]
/-- where a signal is -/
def at_ (p a w : Int) (t : Int) : Int := p + a * t.fdiv w
def optD (o : Option Nat) : D := match o with
  | some t => .int t
  | none => .non
theorem line_pair {a w c t : Int} {d : D} (hd : d = .tup [.int a, .int w] ∨ d = .lst [.int a, .int w]) (k : Kd a w) (c0 : 0 ≤ c) (c1 : c ≤ 1000) (t0 : 0 ≤ t) (t1 : t ≤ 1000) :
    f_line_at [d, .int c, .int t] = .ok (if 0 ≤ at_ c a w t then .int (at_ c a w t) else .non) := by
  have h := need_kind_pair (s := "kind") hd k
  obtain ⟨k1, k2, k3, k4, k5⟩ := k
  unfold f_line_at m_line_at
  simp [fnD, fnO, fnN, own0, startR, e_bind, e_pure, e_var, e_frz, e_os, e_dv, e_op, e_un, e_B, e_and, e_or, e_not, e_vand, e_vor, e_vnot, e_if, e_nil, e_cons, e_tup, e_lst, e_call, e_callN, e_gown, e_callO, e_seq, e_nx, e_drop, e_ret, e_retO, e_sif, e_set, e_par, e_parO, e_asg, e_raise, e_for, e_range1, e_items, e_part, e_sl, e_app, e_put, e_new, e_obd, e_comp, e_ez, e_heard, e_resd, e_reso, short, bindP, bindPs, isD, isnD, isNon, cmpD, ltD, leD, gtD, geD, addD, subD, mulD, fdivD, modD, powD, negD, ixD, absD, intD, lenD, tupleD, listD, Ob.d, h, need_number_ok c0 c1, need_number_ok t0 t1, place_of a w c t (by omega) (by omega)]
  unfold at_
  by_cases h0 : 0 ≤ c + a * t.fdiv w <;> simp [h0]
/-- the first meeting, told by places -/
def meetF (f g : Int → Int) : Nat → Nat → Option Nat
  | 0, _ => none
  | n + 1, t => if f t < 0 ∨ g t < 0 then none else if f t = g t then some t else meetF f g n (t + 1)
def rng (n t : Nat) : List D := (List.range' t n).map fun (i : Nat) => D.int (i : Int)
theorem rangeD_rng (n : Nat) : rangeD 0 n = rng n 0 := by
  unfold rangeD rng
  rw [List.range_eq_range']
  simp
theorem rng_succ (n t : Nat) : rng (n + 1) t = .int (t : Int) :: rng n (t + 1) := by
  unfold rng
  rw [List.range'_succ]
  simp
theorem meet_loop {p q a w b v : Int} (hk : Kd a w) (hk2 : Kd b v) : ∀ (n t : Nat) (x0 x2 : D) (y6 y7 y8 : Sl), 
    (∃ r', loopD (.nm 6) m_meeting_l1 (rng n t) [.val x0, .val (.int p), .val x2, .val (.int q), .val (.tup [.int a, .int w]), .val (.tup [.int b, .int v]), y6, y7, y8] = .ok (.rt (optD (meetF (at_ p a w) (at_ q b v) n t))) r') ∨
    (∃ r', loopD (.nm 6) m_meeting_l1 (rng n t) [.val x0, .val (.int p), .val x2, .val (.int q), .val (.tup [.int a, .int w]), .val (.tup [.int b, .int v]), y6, y7, y8] = .ok .nx r' ∧ meetF (at_ p a w) (at_ q b v) n t = none)
  | 0, t, x0, x2, y6, y7, y8 => .inr ⟨_, rfl, rfl⟩
  | n + 1, t, x0, x2, y6, y7, y8 => by
    obtain ⟨k1, k2, k3, k4, k5⟩ := id hk
    obtain ⟨l1, l2, l3, l4, l5⟩ := id hk2
    have e1 := place_of a w p (t : Int) (by omega) (by omega)
    have e2 := place_of b v q (t : Int) (by omega) (by omega)
    have n1 : ∀ x y : Int, eqD (.int x) (.int y) = some (.bl (x == y)) := fun x y => rfl
    rw [rng_succ, e_loop1]
    unfold meetF
    by_cases h1 : at_ p a w t < 0
    · left
      rw [if_pos (.inl h1)]
      unfold at_ at h1
      unfold m_meeting_l1
      simp [fnD, fnO, fnN, own0, startR, e_bind, e_pure, e_var, e_frz, e_os, e_dv, e_op, e_un, e_B, e_and, e_or, e_not, e_vand, e_vor, e_vnot, e_if, e_nil, e_cons, e_tup, e_lst, e_call, e_callN, e_gown, e_callO, e_seq, e_nx, e_drop, e_ret, e_retO, e_sif, e_set, e_par, e_parO, e_asg, e_raise, e_for, e_range1, e_items, e_part, e_sl, e_app, e_put, e_new, e_obd, e_comp, e_ez, e_heard, e_resd, e_reso, short, bindP, bindPs, isD, isnD, isNon, cmpD, ltD, leD, gtD, geD, addD, subD, mulD, fdivD, modD, powD, negD, ixD, absD, intD, lenD, tupleD, listD, Ob.d, e1, e2, h1, optD]
    · by_cases h2 : at_ q b v t < 0
      · left
        rw [if_pos (.inr h2)]
        unfold at_ at h1 h2
        unfold m_meeting_l1
        simp [fnD, fnO, fnN, own0, startR, e_bind, e_pure, e_var, e_frz, e_os, e_dv, e_op, e_un, e_B, e_and, e_or, e_not, e_vand, e_vor, e_vnot, e_if, e_nil, e_cons, e_tup, e_lst, e_call, e_callN, e_gown, e_callO, e_seq, e_nx, e_drop, e_ret, e_retO, e_sif, e_set, e_par, e_parO, e_asg, e_raise, e_for, e_range1, e_items, e_part, e_sl, e_app, e_put, e_new, e_obd, e_comp, e_ez, e_heard, e_resd, e_reso, short, bindP, bindPs, isD, isnD, isNon, cmpD, ltD, leD, gtD, geD, addD, subD, mulD, fdivD, modD, powD, negD, ixD, absD, intD, lenD, tupleD, listD, Ob.d, e1, e2, h1, h2, optD]
      · rw [if_neg (fun z => z.elim h1 h2)]
        by_cases h3 : at_ p a w t = at_ q b v t
        · left
          rw [if_pos h3]
          unfold at_ at h1 h2 h3
          unfold m_meeting_l1
          simp [fnD, fnO, fnN, own0, startR, e_bind, e_pure, e_var, e_frz, e_os, e_dv, e_op, e_un, e_B, e_and, e_or, e_not, e_vand, e_vor, e_vnot, e_if, e_nil, e_cons, e_tup, e_lst, e_call, e_callN, e_gown, e_callO, e_seq, e_nx, e_drop, e_ret, e_retO, e_sif, e_set, e_par, e_parO, e_asg, e_raise, e_for, e_range1, e_items, e_part, e_sl, e_app, e_put, e_new, e_obd, e_comp, e_ez, e_heard, e_resd, e_reso, short, bindP, bindPs, isD, isnD, isNon, cmpD, ltD, leD, gtD, geD, addD, subD, mulD, fdivD, modD, powD, negD, ixD, absD, intD, lenD, tupleD, listD, Ob.d, e1, e2, h1, h2, h3, optD, n1]
        · rw [if_neg h3]
          have ih := meet_loop (p := p) (q := q) hk hk2 n (t + 1) x0 x2 (.val (.int t)) (.val (.int (at_ p a w t))) (.val (.int (at_ q b v t)))
          have eb : m_meeting_l1 [.val x0, .val (.int p), .val x2, .val (.int q), .val (.tup [.int a, .int w]), .val (.tup [.int b, .int v]), .val (.int t), y7, y8] = .ok .nx [.val x0, .val (.int p), .val x2, .val (.int q), .val (.tup [.int a, .int w]), .val (.tup [.int b, .int v]), .val (.int t), .val (.int (at_ p a w t)), .val (.int (at_ q b v t))] := by
            unfold at_ at h1 h2 h3 ⊢
            unfold m_meeting_l1
            simp [fnD, fnO, fnN, own0, startR, e_bind, e_pure, e_var, e_frz, e_os, e_dv, e_op, e_un, e_B, e_and, e_or, e_not, e_vand, e_vor, e_vnot, e_if, e_nil, e_cons, e_tup, e_lst, e_call, e_callN, e_gown, e_callO, e_seq, e_nx, e_drop, e_ret, e_retO, e_sif, e_set, e_par, e_parO, e_asg, e_raise, e_for, e_range1, e_items, e_part, e_sl, e_app, e_put, e_new, e_obd, e_comp, e_ez, e_heard, e_resd, e_reso, short, bindP, bindPs, isD, isnD, isNon, cmpD, ltD, leD, gtD, geD, addD, subD, mulD, fdivD, modD, powD, negD, ixD, absD, intD, lenD, tupleD, listD, Ob.d, e1, e2, h1, h2, h3, n1]
          simp only [bindP, List.set]
          rw [eb]
          exact ih
theorem meet_pair {p q a w b v : Int} {d1 d2 : D} (hd1 : d1 = .tup [.int a, .int w] ∨ d1 = .lst [.int a, .int w]) (hd2 : d2 = .tup [.int b, .int v] ∨ d2 = .lst [.int b, .int v]) (hk : Kd a w) (hk2 : Kd b v) (p0 : 0 ≤ p) (p1 : p ≤ 1000) (q0 : 0 ≤ q) (q1 : q ≤ 1000) :
    f_meeting [d1, .int p, d2, .int q] = .ok (optD (meetF (at_ p a w) (at_ q b v) (20 * ((q - p).natAbs + 20)) 0)) := by
  have e1 := need_kind_pair (s := "one") hd1 hk
  have e2 := need_kind_pair (s := "other") hd2 hk2
  have f1 : fit62 (20 * ((if q - p < 0 then -(q - p) else q - p) + 20)) = true := by unfold fit62; simp; split <;> omega
  have f2 : (20 * ((if q - p < 0 then -(q - p) else q - p) + 20) : Int).toNat = 20 * ((q - p).natAbs + 20) := by split <;> omega
  have f1' : fit62 (20 * ((if q < p then p - q else q - p) + 20)) = true := by unfold fit62; simp; split <;> omega
  have f2' : (20 * ((if q < p then p - q else q - p) + 20) : Int).toNat = 20 * ((q - p).natAbs + 20) := by split <;> omega
  have s1 : small64 20 = true := rfl
  unfold f_meeting m_meeting
  have hl := meet_loop (p := p) (q := q) hk hk2 (20 * ((q - p).natAbs + 20)) 0 d1 d2 .no .no .no
  rw [← rangeD_rng, ← f2] at hl
  simp [fnD, fnO, fnN, own0, startR, e_bind, e_pure, e_var, e_frz, e_os, e_dv, e_op, e_un, e_B, e_and, e_or, e_not, e_vand, e_vor, e_vnot, e_if, e_nil, e_cons, e_tup, e_lst, e_call, e_callN, e_gown, e_callO, e_seq, e_nx, e_drop, e_ret, e_retO, e_sif, e_set, e_par, e_parO, e_asg, e_raise, e_for, e_range1, e_items, e_part, e_sl, e_app, e_put, e_new, e_obd, e_comp, e_ez, e_heard, e_resd, e_reso, short, bindP, bindPs, isD, isnD, isNon, cmpD, ltD, leD, gtD, geD, addD, subD, mulD, fdivD, modD, powD, negD, ixD, absD, intD, lenD, tupleD, listD, Ob.d, e1, e2, need_number_ok p0 p1, need_number_ok q0 q1, s1, f1]
  rcases hl with ⟨r', hl⟩ | ⟨r', hl, hn⟩
  · rw [hl]
    simp [f2]
  · rw [hl]
    rw [f2] at hn
    simp [f2, hn, optD]
/-! ### the ruler -/
theorem toPs_ints : ∀ ns : List Int, toPs (ns.map D.int) = some (ns.map PyData.int)
  | [] => by simp [toPs]
  | n :: ns => by simp [toPs, toP, toPs_ints ns]
theorem shaped_ints (ns : List Int) : SeqAt.shaped (.list (ns.map PyData.int)) = true := by
  have h1 : ∀ ns : List Int, PyData.canLayAll0 (ns.map PyData.int) = true := by
    intro ns
    induction ns with
    | nil => simp [PyData.canLayAll0]
    | cons n ns ih => simp [PyData.canLayAll0, PyData.canLay0, ih]
  have h2 : ∀ ns : List Int, PyData.depthAll (ns.map PyData.int) ≤ 1 := by
    intro ns
    induction ns with
    | nil => simp [PyData.depthAll]
    | cons n ns ih => simp [PyData.depthAll, PyData.depth]; omega
  unfold SeqAt.shaped
  have := h2 ns
  simp [PyData.canLay0, h1, PyData.depth]
  omega
theorem ne_nil' (l : List D) (l' : List PyData) (s2 : toPs l = some l') (s1 : SeqAt.shaped (.list l') = true) : neD (.lst l) (.lst []) = some (.bl (!(PyData.eqv (.list l') (.list [])))) := by
  have s0 : SeqAt.shaped (.list []) = true := shaped_ints []
  unfold neD eqB
  simp [toP, s2, s1, s0, toPs]
theorem ne_nil (ns : List Int) : neD (.lst (ns.map D.int)) (.lst []) = some (.bl (!ns.isEmpty)) := by
  rw [ne_nil' _ _ (toPs_ints ns) (shaped_ints ns)]
  cases ns <;> simp [PyData.eqv, PyData.eqvAll]
def RI (ns : List Int) (n : Nat) (o : Ob) : Prop := ∃ turn left : Int, o = .lst [.lst (ns.map D.int), .int turn, .int left] ∧ 0 ≤ turn ∧ turn ≤ n ∧ 0 ≤ left
theorem RI.mono {ns : List Int} {n m : Nat} {o : Ob} (h : RI ns n o) (l : n ≤ m) : RI ns m o := by
  obtain ⟨t, l', e, h1, h2, h3⟩ := h
  exact ⟨t, l', e, h1, by omega, h3⟩
theorem fdiv_nn {a b : Int} (ha : 0 ≤ a) (hb : 0 < b) : 0 ≤ a.fdiv b := by
  rw [Int.fdiv_eq_ediv_of_nonneg _ (by omega)]; exact Int.ediv_nonneg ha (by omega)
theorem fmod_lt {a b : Int} (hb : 0 < b) : 0 ≤ a.fmod b ∧ a.fmod b < b := ⟨Int.fmod_nonneg_of_pos a hb, Int.fmod_lt_of_pos a hb⟩
theorem draw (ns : List Int) (n : Nat) (o : Ob) (many : Int) (h : RI ns n o) (hn : n ≤ 10000) (m1 : 1 ≤ many) (m2 : many ≤ 100000) :
    ∃ (v : Int) (o' : Ob), f__law_draw_on o [.int many] = .ok (.int v) o' ∧ 0 ≤ v ∧ v < many ∧ RI ns (n + 1) o' := by
  obtain ⟨turn, left, rfl, t0, t1, l0⟩ := h
  have a0 : ∀ x y z : D, atI [x, y, z] 0 = some x := fun _ _ _ => rfl
  have a1 : ∀ x y z : D, atI [x, y, z] 1 = some y := fun _ _ _ => rfl
  have a2 : ∀ x y z : D, atI [x, y, z] 2 = some z := fun _ _ _ => rfl
  have i1 : ixN 3 1 = some 1 := rfl
  have i2 : ixN 3 2 = some 2 := rfl
  have mn : many ≠ 0 := by omega
  have mb : many.natAbs < 1073741824 := by omega
  by_cases h1 : 0 < left
  · refine ⟨left.fmod many, .lst [.lst (ns.map D.int), .int turn, .int (left.fdiv many)], ?_, (fmod_lt (by omega)).1, (fmod_lt (by omega)).2, ⟨turn, _, rfl, t0, by omega, fdiv_nn l0 (by omega)⟩⟩
    unfold f__law_draw_on m__law_draw_on
    simp [fnD, fnO, fnN, own0, startR, e_bind, e_pure, e_var, e_frz, e_os, e_dv, e_op, e_un, e_B, e_and, e_or, e_not, e_vand, e_vor, e_vnot, e_if, e_nil, e_cons, e_tup, e_lst, e_call, e_callN, e_gown, e_callO, e_seq, e_nx, e_drop, e_ret, e_retO, e_sif, e_set, e_par, e_parO, e_asg, e_raise, e_for, e_range1, e_items, e_part, e_sl, e_app, e_put, e_new, e_obd, e_comp, e_ez, e_heard, e_resd, e_reso, short, bindP, bindPs, isD, isnD, isNon, cmpD, ltD, leD, gtD, geD, addD, subD, mulD, fdivD, modD, powD, negD, ixD, absD, intD, lenD, tupleD, listD, Ob.d, a0, a1, a2, h1, i2, mn, mb]
  · have hl : left = 0 := by omega
    subst hl
    have p1 : small64 93113 = true := rfl
    have p2 : small64 45161 = true := rfl
    have p3 : small64 (2 * turn + 3697) = true := by unfold small64; simp; omega
    have p4 : small64 (93113 * turn) = true := by unfold small64; simp; omega
    have p5 : small64 2 = true := rfl
    have M0 : ∀ c : Int, 0 ≤ c.fmod 2147483629 ∧ c.fmod 2147483629 < 2147483629 := fun c => fmod_lt (by omega)
    have q5 : ∀ c : Int, (c.fmod 2147483629 + 45161 * turn + 8609).natAbs < 18446744073709551616 := fun c => by have := M0 c; omega
    have q3 : ∀ c : Int, ((c.fmod 2147483563) * (2 * turn + 3697) + 93113 * turn * turn + 45161).natAbs < 18446744073709551616 := fun c => by
      have h1 := fmod_lt (a := c) (b := 2147483563) (by omega)
      have h2 : 0 ≤ (c.fmod 2147483563) * (2 * turn + 3697) := Int.mul_nonneg h1.1 (by omega)
      have h3 : (c.fmod 2147483563) * (2 * turn + 3697) ≤ 2147483563 * 23697 := Int.mul_le_mul (by omega) (by omega) (by omega) (by omega)
      have h4 : 0 ≤ 93113 * turn * turn := Int.mul_nonneg (by omega) t0
      have h5 : 93113 * turn * turn ≤ 931130000 * 10000 := Int.mul_le_mul (by omega) (by omega) (by omega) (by omega)
      omega
    have tt : ¬ turn < 0 := by omega
    have fin : ∀ z : Int, RI ns (n + 1) (.lst [.lst (ns.map D.int), .int (turn + 1), .int 0]) := fun z => ⟨turn + 1, 0, rfl, by omega, by omega, by omega⟩
    rcases Classical.em (ns = []) with h2 | h2
    · subst h2
      have h20 : neD (.lst []) (.lst []) = some (.bl false) := ne_nil []
      refine ⟨?_, .lst [.lst [], .int (turn + 1), .int 0], ?_, ?_, ?_, fin 0⟩
      case refine_2 =>
        unfold f__law_draw_on m__law_draw_on
        simp [fnD, fnO, fnN, own0, startR, e_bind, e_pure, e_var, e_frz, e_os, e_dv, e_op, e_un, e_B, e_and, e_or, e_not, e_vand, e_vor, e_vnot, e_if, e_nil, e_cons, e_tup, e_lst, e_call, e_callN, e_gown, e_callO, e_seq, e_nx, e_drop, e_ret, e_retO, e_sif, e_set, e_par, e_parO, e_asg, e_raise, e_for, e_range1, e_items, e_part, e_sl, e_app, e_put, e_new, e_obd, e_comp, e_ez, e_heard, e_resd, e_reso, short, bindP, bindPs, isD, isnD, isNon, cmpD, ltD, leD, gtD, geD, addD, subD, mulD, fdivD, modD, powD, negD, ixD, absD, intD, lenD, tupleD, listD, Ob.d, a0, a1, a2, i1, i2, mn, mb, h20, p1, p2, p3, p4, p5, tt, q5, q3]
        rfl
      · exact (fmod_lt (by omega)).1
      · exact (fmod_lt (by omega)).2
    · have h3 : ns.isEmpty = false := by cases ns <;> simp_all
      have l0 : 0 < ns.length := List.length_pos_iff.mpr h2
      have l1 : (ns.length : Int) ≠ 0 := by omega
      obtain ⟨k, k1⟩ : ∃ k : Nat, turn.fmod ns.length = k := ⟨(turn.fmod ns.length).toNat, by have := (fmod_lt (a := turn) (b := ns.length) (by omega)).1; omega⟩
      have k2 : k < ns.length := by have := (fmod_lt (a := turn) (b := ns.length) (by omega)).2; omega
      have at1 : atI (ns.map D.int) (turn.fmod ns.length) = some (.int ns[k]) := by
        rw [k1]
        exact e_atI (by simp [k2])
      generalize ns[k] = c at at1
      by_cases hb1 : turn < ns.length
      · by_cases hc : c < 0
        · by_cases hb2 : 1000000000000000000 ≤ -c
          · have hb2 := eq_true hb2
            refine ⟨(2 * (-c - 1000000000000000000) + 1).fmod many, .lst [.lst (ns.map D.int), .int (turn + 1), .int ((2 * (-c - 1000000000000000000) + 1).fdiv many)], ?_, (fmod_lt (by omega)).1, (fmod_lt (by omega)).2, ⟨turn + 1, _, rfl, by omega, by omega, fdiv_nn (by omega) (by omega)⟩⟩
            unfold f__law_draw_on m__law_draw_on
            simp [fnD, fnO, fnN, own0, startR, e_bind, e_pure, e_var, e_frz, e_os, e_dv, e_op, e_un, e_B, e_and, e_or, e_not, e_vand, e_vor, e_vnot, e_if, e_nil, e_cons, e_tup, e_lst, e_call, e_callN, e_gown, e_callO, e_seq, e_nx, e_drop, e_ret, e_retO, e_sif, e_set, e_par, e_parO, e_asg, e_raise, e_for, e_range1, e_items, e_part, e_sl, e_app, e_put, e_new, e_obd, e_comp, e_ez, e_heard, e_resd, e_reso, short, bindP, bindPs, isD, isnD, isNon, cmpD, ltD, leD, gtD, geD, addD, subD, mulD, fdivD, modD, powD, negD, ixD, absD, intD, lenD, tupleD, listD, Ob.d, a0, a1, a2, i1, i2, mn, mb, ne_nil, p1, p2, p3, p4, p5, tt, q5, q3, h2, h3, l1, at1, hb1, hb2, hc]
          · have hb2 := eq_false hb2
            refine ⟨?_, .lst [.lst (ns.map D.int), .int (turn + 1), .int 0], ?_, ?_, ?_, fin 0⟩
            case refine_2 =>
              unfold f__law_draw_on m__law_draw_on
              simp [fnD, fnO, fnN, own0, startR, e_bind, e_pure, e_var, e_frz, e_os, e_dv, e_op, e_un, e_B, e_and, e_or, e_not, e_vand, e_vor, e_vnot, e_if, e_nil, e_cons, e_tup, e_lst, e_call, e_callN, e_gown, e_callO, e_seq, e_nx, e_drop, e_ret, e_retO, e_sif, e_set, e_par, e_parO, e_asg, e_raise, e_for, e_range1, e_items, e_part, e_sl, e_app, e_put, e_new, e_obd, e_comp, e_ez, e_heard, e_resd, e_reso, short, bindP, bindPs, isD, isnD, isNon, cmpD, ltD, leD, gtD, geD, addD, subD, mulD, fdivD, modD, powD, negD, ixD, absD, intD, lenD, tupleD, listD, Ob.d, a0, a1, a2, i1, i2, mn, mb, ne_nil, p1, p2, p3, p4, p5, tt, q5, q3, h2, h3, l1, at1, hb1, hb2, hc]
              rfl
            · exact (fmod_lt (by omega)).1
            · exact (fmod_lt (by omega)).2
        · by_cases hb2 : 1000000000000000000 ≤ c
          · have hb2 := eq_true hb2
            refine ⟨(2 * (c - 1000000000000000000)).fmod many, .lst [.lst (ns.map D.int), .int (turn + 1), .int ((2 * (c - 1000000000000000000)).fdiv many)], ?_, (fmod_lt (by omega)).1, (fmod_lt (by omega)).2, ⟨turn + 1, _, rfl, by omega, by omega, fdiv_nn (by omega) (by omega)⟩⟩
            unfold f__law_draw_on m__law_draw_on
            simp [fnD, fnO, fnN, own0, startR, e_bind, e_pure, e_var, e_frz, e_os, e_dv, e_op, e_un, e_B, e_and, e_or, e_not, e_vand, e_vor, e_vnot, e_if, e_nil, e_cons, e_tup, e_lst, e_call, e_callN, e_gown, e_callO, e_seq, e_nx, e_drop, e_ret, e_retO, e_sif, e_set, e_par, e_parO, e_asg, e_raise, e_for, e_range1, e_items, e_part, e_sl, e_app, e_put, e_new, e_obd, e_comp, e_ez, e_heard, e_resd, e_reso, short, bindP, bindPs, isD, isnD, isNon, cmpD, ltD, leD, gtD, geD, addD, subD, mulD, fdivD, modD, powD, negD, ixD, absD, intD, lenD, tupleD, listD, Ob.d, a0, a1, a2, i1, i2, mn, mb, ne_nil, p1, p2, p3, p4, p5, tt, q5, q3, h2, h3, l1, at1, hb1, hb2, hc]
          · have hb2 := eq_false hb2
            refine ⟨?_, .lst [.lst (ns.map D.int), .int (turn + 1), .int 0], ?_, ?_, ?_, fin 0⟩
            case refine_2 =>
              unfold f__law_draw_on m__law_draw_on
              simp [fnD, fnO, fnN, own0, startR, e_bind, e_pure, e_var, e_frz, e_os, e_dv, e_op, e_un, e_B, e_and, e_or, e_not, e_vand, e_vor, e_vnot, e_if, e_nil, e_cons, e_tup, e_lst, e_call, e_callN, e_gown, e_callO, e_seq, e_nx, e_drop, e_ret, e_retO, e_sif, e_set, e_par, e_parO, e_asg, e_raise, e_for, e_range1, e_items, e_part, e_sl, e_app, e_put, e_new, e_obd, e_comp, e_ez, e_heard, e_resd, e_reso, short, bindP, bindPs, isD, isnD, isNon, cmpD, ltD, leD, gtD, geD, addD, subD, mulD, fdivD, modD, powD, negD, ixD, absD, intD, lenD, tupleD, listD, Ob.d, a0, a1, a2, i1, i2, mn, mb, ne_nil, p1, p2, p3, p4, p5, tt, q5, q3, h2, h3, l1, at1, hb1, hb2, hc]
              rfl
            · exact (fmod_lt (by omega)).1
            · exact (fmod_lt (by omega)).2
      · refine ⟨?_, .lst [.lst (ns.map D.int), .int (turn + 1), .int 0], ?_, ?_, ?_, fin 0⟩
        case refine_2 =>
          unfold f__law_draw_on m__law_draw_on
          simp [fnD, fnO, fnN, own0, startR, e_bind, e_pure, e_var, e_frz, e_os, e_dv, e_op, e_un, e_B, e_and, e_or, e_not, e_vand, e_vor, e_vnot, e_if, e_nil, e_cons, e_tup, e_lst, e_call, e_callN, e_gown, e_callO, e_seq, e_nx, e_drop, e_ret, e_retO, e_sif, e_set, e_par, e_parO, e_asg, e_raise, e_for, e_range1, e_items, e_part, e_sl, e_app, e_put, e_new, e_obd, e_comp, e_ez, e_heard, e_resd, e_reso, short, bindP, bindPs, isD, isnD, isNon, cmpD, ltD, leD, gtD, geD, addD, subD, mulD, fdivD, modD, powD, negD, ixD, absD, intD, lenD, tupleD, listD, Ob.d, a0, a1, a2, i1, i2, mn, mb, ne_nil, p1, p2, p3, p4, p5, tt, q5, q3, h2, h3, l1, at1, hb1]
          rfl
        · exact (fmod_lt (by omega)).1
        · exact (fmod_lt (by omega)).2
end DL
end

section
set_option Elab.async false
set_option linter.all false
set_option maxRecDepth 100000
set_option maxHeartbeats 4000000
namespace DL
open PySem L2
theorem pick_ (ns : List Int) (n : Nat) (o : Ob) (ds : List D) (h : RI ns n o) (hn : n ≤ 10000) (m1 : ds ≠ []) (m2 : ds.length ≤ 100000) :
    ∃ (d : D) (o' : Ob), f__law_pick o [.lst ds] = .ok d o' ∧ d ∈ ds ∧ RI ns (n + 1) o' := by
  have l0 := List.length_pos_iff.mpr m1
  obtain ⟨v, o', e, v0, v1, r⟩ := draw ns n o ds.length h hn (by omega) (by omega)
  obtain ⟨k, rfl⟩ : ∃ k : Nat, v = k := ⟨v.toNat, by omega⟩
  have k2 : k < ds.length := by omega
  have a1 : atI ds k = some ds[k] := e_atI (by simp [k2])
  refine ⟨ds[k], o', ?_, List.getElem_mem k2, r⟩
  unfold f__law_pick m__law_pick
  simp [fnD, fnO, fnN, own0, startR, e_bind, e_pure, e_var, e_frz, e_os, e_dv, e_op, e_un, e_B, e_and, e_or, e_not, e_vand, e_vor, e_vnot, e_if, e_nil, e_cons, e_tup, e_lst, e_call, e_callN, e_gown, e_callO, e_seq, e_nx, e_drop, e_ret, e_retO, e_sif, e_set, e_par, e_parO, e_asg, e_raise, e_for, e_range1, e_items, e_part, e_sl, e_app, e_put, e_new, e_obd, e_comp, e_ez, e_heard, e_resd, e_reso, short, bindP, bindPs, isD, isnD, isNon, cmpD, ltD, leD, gtD, geD, addD, subD, mulD, fdivD, modD, powD, negD, ixD, absD, intD, lenD, tupleD, listD, Ob.d, e, a1]
theorem n_int (x y : Int) : neD (.int x) (.int y) = some (.bl (!(x == y))) := rfl
theorem q_int (x y : Int) : eqD (.int x) (.int y) = some (.bl (x == y)) := rfl
theorem kind_ (ns : List Int) (n : Nat) (o : Ob) (h : RI ns n o) (hn : n ≤ 9000) :
    ∃ (a w : Int) (o' : Ob), f__law_kind o [] = .ok (.tup [.int a, .int w]) o' ∧ Kd a w ∧ RI ns (n + 2) o' := by
  obtain ⟨d, o1, e, m, r⟩ := pick_ ns n o [.int 1, .int (-1), .int 0, .int 1] h (by omega) (by simp) (by simp)
  obtain ⟨v, o2, e2, v0, v1, r2⟩ := draw ns (n + 1) o1 5 r (by omega) (by omega) (by omega)
  unfold f__law_kind m__law_kind
  simp only [List.mem_cons, List.not_mem_nil, or_false] at m
  rcases m with rfl | rfl | rfl | rfl
  · refine ⟨1, 1 + v, o2, ?_, ⟨by omega, by omega, by omega, by omega, by omega⟩, r2⟩
    simp [fnD, fnO, fnN, own0, startR, e_bind, e_pure, e_var, e_frz, e_os, e_dv, e_op, e_un, e_B, e_and, e_or, e_not, e_vand, e_vor, e_vnot, e_if, e_nil, e_cons, e_tup, e_lst, e_call, e_callN, e_gown, e_callO, e_seq, e_nx, e_drop, e_ret, e_retO, e_sif, e_set, e_par, e_parO, e_asg, e_raise, e_for, e_range1, e_items, e_part, e_sl, e_app, e_put, e_new, e_obd, e_comp, e_ez, e_heard, e_resd, e_reso, short, bindP, bindPs, isD, isnD, isNon, cmpD, ltD, leD, gtD, geD, addD, subD, mulD, fdivD, modD, powD, negD, ixD, absD, intD, lenD, tupleD, listD, Ob.d, e, e2, n_int]
  · refine ⟨-1, 1 + v, o2, ?_, ⟨by omega, by omega, by omega, by omega, by omega⟩, r2⟩
    simp [fnD, fnO, fnN, own0, startR, e_bind, e_pure, e_var, e_frz, e_os, e_dv, e_op, e_un, e_B, e_and, e_or, e_not, e_vand, e_vor, e_vnot, e_if, e_nil, e_cons, e_tup, e_lst, e_call, e_callN, e_gown, e_callO, e_seq, e_nx, e_drop, e_ret, e_retO, e_sif, e_set, e_par, e_parO, e_asg, e_raise, e_for, e_range1, e_items, e_part, e_sl, e_app, e_put, e_new, e_obd, e_comp, e_ez, e_heard, e_resd, e_reso, short, bindP, bindPs, isD, isnD, isNon, cmpD, ltD, leD, gtD, geD, addD, subD, mulD, fdivD, modD, powD, negD, ixD, absD, intD, lenD, tupleD, listD, Ob.d, e, e2, n_int]
  · refine ⟨0, 1, o1, ?_, ⟨by omega, by omega, by omega, by omega, by omega⟩, r.mono (by omega)⟩
    simp [fnD, fnO, fnN, own0, startR, e_bind, e_pure, e_var, e_frz, e_os, e_dv, e_op, e_un, e_B, e_and, e_or, e_not, e_vand, e_vor, e_vnot, e_if, e_nil, e_cons, e_tup, e_lst, e_call, e_callN, e_gown, e_callO, e_seq, e_nx, e_drop, e_ret, e_retO, e_sif, e_set, e_par, e_parO, e_asg, e_raise, e_for, e_range1, e_items, e_part, e_sl, e_app, e_put, e_new, e_obd, e_comp, e_ez, e_heard, e_resd, e_reso, short, bindP, bindPs, isD, isnD, isNon, cmpD, ltD, leD, gtD, geD, addD, subD, mulD, fdivD, modD, powD, negD, ixD, absD, intD, lenD, tupleD, listD, Ob.d, e, e2, n_int]
  · refine ⟨1, 1 + v, o2, ?_, ⟨by omega, by omega, by omega, by omega, by omega⟩, r2⟩
    simp [fnD, fnO, fnN, own0, startR, e_bind, e_pure, e_var, e_frz, e_os, e_dv, e_op, e_un, e_B, e_and, e_or, e_not, e_vand, e_vor, e_vnot, e_if, e_nil, e_cons, e_tup, e_lst, e_call, e_callN, e_gown, e_callO, e_seq, e_nx, e_drop, e_ret, e_retO, e_sif, e_set, e_par, e_parO, e_asg, e_raise, e_for, e_range1, e_items, e_part, e_sl, e_app, e_put, e_new, e_obd, e_comp, e_ez, e_heard, e_resd, e_reso, short, bindP, bindPs, isD, isnD, isNon, cmpD, ltD, leD, gtD, geD, addD, subD, mulD, fdivD, modD, powD, negD, ixD, absD, intD, lenD, tupleD, listD, Ob.d, e, e2, n_int]
/-! ### what is gone by -/
def plist (c a w : Int) (n : Nat) : List D := (List.range n).map fun (t : Nat) => D.int (at_ c a w t)
theorem plist_succ (c a w : Int) (n : Nat) : plist c a w (n + 1) = plist c a w n ++ [.int (at_ c a w n)] := by
  unfold plist
  rw [List.range_succ]; simp
theorem plist_len (c a w : Int) (n : Nat) : (plist c a w n).length = n := by simp [plist]
theorem at_step {c a w : Int} (k : Kd a w) (t : Nat) : ((t : Int) % w + 1 = w → at_ c a w (t + 1 : Nat) = at_ c a w t + a ∧ ((t + 1 : Nat) : Int) % w = 0) ∧
    ((t : Int) % w + 1 ≠ w → at_ c a w (t + 1 : Nat) = at_ c a w t ∧ ((t + 1 : Nat) : Int) % w = (t : Int) % w + 1) := by
  obtain ⟨k1, k2, k3, k4, k5⟩ := k
  unfold at_
  rw [Int.fdiv_eq_ediv_of_nonneg _ (by omega), Int.fdiv_eq_ediv_of_nonneg _ (by omega)]
  have ha : a = -1 ∨ a = 0 ∨ a = 1 := by omega
  have hw : w = 1 ∨ w = 2 ∨ w = 3 ∨ w = 4 ∨ w = 5 := by omega
  rcases ha with rfl | rfl | rfl <;> rcases hw with rfl | rfl | rfl | rfl | rfl <;> (constructor <;> intro h <;> constructor <;> omega)
theorem gone_loop {c a w : Int} {T : D} {kk : Nat} (k : Kd a w) : ∀ (n t : Nat) (x5 : Sl), t + n ≤ 900000 →
    ∃ r', loopD (.nm 5) m__law_gone_l1 (rng n t) [.val (.tup [.int a, .int w]), .val (.int (at_ c a w t)), .val T, .own kk (.lst (plist c a w (t + 1))), .val (.int ((t : Int) % w)), x5] = .ok .nx r' ∧ r'[3]? = some (.own kk (.lst (plist c a w (t + n + 1))))
  | 0, t, x5, _ => ⟨_, rfl, rfl⟩
  | n + 1, t, x5, hl => by
    have st := at_step (c := c) k t
    obtain ⟨r', e, e2⟩ := gone_loop (c := c) (T := T) (kk := kk) k n (t + 1) (.val (.int t)) (by omega)
    refine ⟨r', ?_, by rw [e2, Nat.add_assoc t 1 n, Nat.add_comm 1 n]⟩
    rw [← e, rng_succ, e_loop1]
    have e0 : atI [D.int a, D.int w] 0 = some (.int a) := rfl
    have e1 : atI [D.int a, D.int w] 1 = some (.int w) := rfl
    have l1 : t + 1 ≤ 1000000 := by omega
    rw [plist_succ c a w (t + 1)]
    by_cases h : (t : Int) % w + 1 = w
    · obtain ⟨s1, s2⟩ := st.1 h
      rw [s1, s2]
      unfold m__law_gone_l1
      simp [fnD, fnO, fnN, own0, startR, e_bind, e_pure, e_var, e_frz, e_os, e_dv, e_op, e_un, e_B, e_and, e_or, e_not, e_vand, e_vor, e_vnot, e_if, e_nil, e_cons, e_tup, e_lst, e_call, e_callN, e_gown, e_callO, e_seq, e_nx, e_drop, e_ret, e_retO, e_sif, e_set, e_par, e_parO, e_asg, e_raise, e_for, e_range1, e_items, e_part, e_sl, e_app, e_put, e_new, e_obd, e_comp, e_ez, e_heard, e_resd, e_reso, short, bindP, bindPs, isD, isnD, isNon, cmpD, ltD, leD, gtD, geD, addD, subD, mulD, fdivD, modD, powD, negD, ixD, absD, intD, lenD, tupleD, listD, Ob.d, e0, e1, q_int, h, plist_len, l1]
    · obtain ⟨s1, s2⟩ := st.2 h
      rw [s1, s2]
      unfold m__law_gone_l1
      simp [fnD, fnO, fnN, own0, startR, e_bind, e_pure, e_var, e_frz, e_os, e_dv, e_op, e_un, e_B, e_and, e_or, e_not, e_vand, e_vor, e_vnot, e_if, e_nil, e_cons, e_tup, e_lst, e_call, e_callN, e_gown, e_callO, e_seq, e_nx, e_drop, e_ret, e_retO, e_sif, e_set, e_par, e_parO, e_asg, e_raise, e_for, e_range1, e_items, e_part, e_sl, e_app, e_put, e_new, e_obd, e_comp, e_ez, e_heard, e_resd, e_reso, short, bindP, bindPs, isD, isnD, isNon, cmpD, ltD, leD, gtD, geD, addD, subD, mulD, fdivD, modD, powD, negD, ixD, absD, intD, lenD, tupleD, listD, Ob.d, e0, e1, q_int, h, plist_len, l1]
theorem seq_nx {a b : M Fl} {r r1 : Rho} (h : a r = .ok .nx r1) : sSeq a b r = b r1 := by rw [e_seq, h]
theorem seq_rt {a b : M Fl} {r r1 : Rho} {d : D} (h : a r = .ok (.rt d) r1) : sSeq a b r = .ok (.rt d) r1 := by rw [e_seq, h]
theorem fnD_rt {N : Nat} {m : M Fl} {ds : List D} {d : D} {r : Rho} (h : m (startR N ds) = .ok (.rt d) r) : fnD N m ds = .ok d := by unfold fnD; rw [h]
theorem gone1 (k : D) (c : Int) (T : Nat) : sParO 3 4 (mCons (mVar 1) (mNil)) (.int 0) [.val k, .val (.int c), .val (.int T), .no, .no, .no] = .ok .nx [.val k, .val (.int c), .val (.int T), .own 0 (.lst [.int c]), .val (.int 0), .no] := by simp [fnD, fnO, fnN, own0, startR, e_bind, e_pure, e_var, e_frz, e_os, e_dv, e_op, e_un, e_B, e_and, e_or, e_not, e_vand, e_vor, e_vnot, e_if, e_nil, e_cons, e_tup, e_lst, e_call, e_callN, e_gown, e_callO, e_seq, e_nx, e_drop, e_ret, e_retO, e_sif, e_set, e_par, e_parO, e_asg, e_raise, e_for, e_range1, e_items, e_part, e_sl, e_app, e_put, e_new, e_obd, e_comp, e_ez, e_heard, e_resd, e_reso, short, bindP, bindPs, isD, isnD, isNon, cmpD, ltD, leD, gtD, geD, addD, subD, mulD, fdivD, modD, powD, negD, ixD, absD, intD, lenD, tupleD, listD, Ob.d]
theorem gone2 (m : M Fl) (c : Int) (k : D) (T : Nat) (r' : Rho) (e : loopD (.nm 5) m (rangeD 0 T) [.val k, .val (.int c), .val (.int T), .own 0 (.lst [.int c]), .val (.int 0), .no] = .ok .nx r') (f1 : fit62 (T : Int) = true) : sFor (mRange1 (mCons (mVar 2) (mNil))) (.nm 5) m [.val k, .val (.int c), .val (.int T), .own 0 (.lst [.int c]), .val (.int 0), .no] = .ok .nx r' := by simp [fnD, fnO, fnN, own0, startR, e_bind, e_pure, e_var, e_frz, e_os, e_dv, e_op, e_un, e_B, e_and, e_or, e_not, e_vand, e_vor, e_vnot, e_if, e_nil, e_cons, e_tup, e_lst, e_call, e_callN, e_gown, e_callO, e_seq, e_nx, e_drop, e_ret, e_retO, e_sif, e_set, e_par, e_parO, e_asg, e_raise, e_for, e_range1, e_items, e_part, e_sl, e_app, e_put, e_new, e_obd, e_comp, e_ez, e_heard, e_resd, e_reso, short, bindP, bindPs, isD, isnD, isNon, cmpD, ltD, leD, gtD, geD, addD, subD, mulD, fdivD, modD, powD, negD, ixD, absD, intD, lenD, tupleD, listD, Ob.d, f1, e]
theorem gone3 (d : List D) (r' : Rho)  (e2 : r'[3]? = some (.own 0 (.lst d))) : sRet (mFrz 3) r' = .ok (.rt (.lst d)) (r'.set 3 (.val (.lst d))) := by simp [fnD, fnO, fnN, own0, startR, e_bind, e_pure, e_var, e_frz, e_os, e_dv, e_op, e_un, e_B, e_and, e_or, e_not, e_vand, e_vor, e_vnot, e_if, e_nil, e_cons, e_tup, e_lst, e_call, e_callN, e_gown, e_callO, e_seq, e_nx, e_drop, e_ret, e_retO, e_sif, e_set, e_par, e_parO, e_asg, e_raise, e_for, e_range1, e_items, e_part, e_sl, e_app, e_put, e_new, e_obd, e_comp, e_ez, e_heard, e_resd, e_reso, short, bindP, bindPs, isD, isnD, isNon, cmpD, ltD, leD, gtD, geD, addD, subD, mulD, fdivD, modD, powD, negD, ixD, absD, intD, lenD, tupleD, listD, Ob.d, e2]
theorem gone4 (m : M Fl) (c : Int) (k : D) (d : List D) (T : Nat) (r' : Rho) (e : loopD (.nm 5) m (rangeD 0 T) [.val k, .val (.int c), .val (.int T), .own 0 (.lst [.int c]), .val (.int 0), .no] = .ok .nx r') (f1 : fit62 (T : Int) = true)  (e2 : r'[3]? = some (.own 0 (.lst d))) : (sSeq (sParO 3 4 (mCons (mVar 1) (mNil)) (.int 0)) (sSeq (sFor (mRange1 (mCons (mVar 2) (mNil))) (.nm 5) m) (sRet (mFrz 3)))) [.val k, .val (.int c), .val (.int T), .no, .no, .no] = .ok (.rt (.lst d)) (r'.set 3 (.val (.lst d))) := by
  rw [seq_nx (gone1 ..), seq_nx (gone2 _ _ _ _ _ e f1), gone3 d _ e2]
theorem gone_ {c a w : Int} (k : Kd a w) (T : Nat) (hT : T ≤ 900000) : f__law_gone [.tup [.int a, .int w], .int c, .int T] = .ok (.lst (plist c a w (T + 1))) := by
  obtain ⟨r', e, e2⟩ := gone_loop (c := c) (T := .int T) (kk := 0) k T 0 .no (by omega)
  have p1 : plist c a w (0 + 1) = [.int c] := by
    have : at_ c a w 0 = c := by unfold at_; simp
    simp [plist, List.range_succ, this]
  have z0 : at_ c a w (0 : Nat) = c := by unfold at_; simp
  rw [← rangeD_rng, z0, p1] at e
  have e' : ((0 : Nat) : Int) % w = 0 := by simp
  rw [e'] at e
  rw [Nat.zero_add] at e2
  have f1 : fit62 (T : Int) = true := by unfold fit62; simp; omega
  exact fnD_rt (gone4 m__law_gone_l1 c _ _ T r' e f1 e2)
/-! ### the first meeting -/
def prs (f g : Int → Int) (n t : Nat) : List D := (List.range' t n).map fun (i : Nat) => D.tup [.int (i : Int), .tup [.int (f i), .int (g i)]]
theorem prs_succ (f g : Int → Int) (n t : Nat) : prs f g (n + 1) t = .tup [.int (t : Int), .tup [.int (f t), .int (g t)]] :: prs f g n (t + 1) := by
  unfold prs
  rw [List.range'_succ]
  simp
theorem pairs_prs (c a w q b v : Int) (n : Nat) : pairsD (plist c a w n) (plist q b v n) = prs (at_ c a w) (at_ q b v) n 0 := by
  apply List.ext_getElem
  · simp [pairsD, plist, prs]
  · intro i h1 h2
    simp [pairsD, plist, prs]
theorem first_loop {f g : Int → Int} {x0 x1 x2 x3 x4 : Sl} : ∀ (n t : Nat) (y5 y6 y7 : Sl),
    (∃ r', loopD (.tp [.nm 5, .tp [.nm 6, .nm 7]]) m__law_first_l1 (prs f g n t) [x0, x1, x2, x3, x4, y5, y6, y7] = .ok (.rt (optD (meetF f g n t))) r') ∨
    (∃ r', loopD (.tp [.nm 5, .tp [.nm 6, .nm 7]]) m__law_first_l1 (prs f g n t) [x0, x1, x2, x3, x4, y5, y6, y7] = .ok .nx r' ∧ meetF f g n t = none)
  | 0, t, y5, y6, y7 => .inr ⟨_, rfl, rfl⟩
  | n + 1, t, y5, y6, y7 => by
    rw [prs_succ, e_loop1]
    unfold meetF
    by_cases h1 : f t < 0
    · left
      rw [if_pos (.inl h1)]
      unfold m__law_first_l1
      simp [fnD, fnO, fnN, own0, startR, e_bind, e_pure, e_var, e_frz, e_os, e_dv, e_op, e_un, e_B, e_and, e_or, e_not, e_vand, e_vor, e_vnot, e_if, e_nil, e_cons, e_tup, e_lst, e_call, e_callN, e_gown, e_callO, e_seq, e_nx, e_drop, e_ret, e_retO, e_sif, e_set, e_par, e_parO, e_asg, e_raise, e_for, e_range1, e_items, e_part, e_sl, e_app, e_put, e_new, e_obd, e_comp, e_ez, e_heard, e_resd, e_reso, short, bindP, bindPs, isD, isnD, isNon, cmpD, ltD, leD, gtD, geD, addD, subD, mulD, fdivD, modD, powD, negD, ixD, absD, intD, lenD, tupleD, listD, Ob.d, h1, optD]
    · by_cases h2 : g t < 0
      · left
        rw [if_pos (.inr h2)]
        unfold m__law_first_l1
        simp [fnD, fnO, fnN, own0, startR, e_bind, e_pure, e_var, e_frz, e_os, e_dv, e_op, e_un, e_B, e_and, e_or, e_not, e_vand, e_vor, e_vnot, e_if, e_nil, e_cons, e_tup, e_lst, e_call, e_callN, e_gown, e_callO, e_seq, e_nx, e_drop, e_ret, e_retO, e_sif, e_set, e_par, e_parO, e_asg, e_raise, e_for, e_range1, e_items, e_part, e_sl, e_app, e_put, e_new, e_obd, e_comp, e_ez, e_heard, e_resd, e_reso, short, bindP, bindPs, isD, isnD, isNon, cmpD, ltD, leD, gtD, geD, addD, subD, mulD, fdivD, modD, powD, negD, ixD, absD, intD, lenD, tupleD, listD, Ob.d, h1, h2, optD]
      · rw [if_neg (fun z => z.elim h1 h2)]
        by_cases h3 : f t = g t
        · left
          rw [if_pos h3]
          unfold m__law_first_l1
          rw [h3] at h1
          simp [fnD, fnO, fnN, own0, startR, e_bind, e_pure, e_var, e_frz, e_os, e_dv, e_op, e_un, e_B, e_and, e_or, e_not, e_vand, e_vor, e_vnot, e_if, e_nil, e_cons, e_tup, e_lst, e_call, e_callN, e_gown, e_callO, e_seq, e_nx, e_drop, e_ret, e_retO, e_sif, e_set, e_par, e_parO, e_asg, e_raise, e_for, e_range1, e_items, e_part, e_sl, e_app, e_put, e_new, e_obd, e_comp, e_ez, e_heard, e_resd, e_reso, short, bindP, bindPs, isD, isnD, isNon, cmpD, ltD, leD, gtD, geD, addD, subD, mulD, fdivD, modD, powD, negD, ixD, absD, intD, lenD, tupleD, listD, Ob.d, h1, h2, h3, optD, q_int]
        · rw [if_neg h3]
          have ih := first_loop (f := f) (g := g) (x0 := x0) (x1 := x1) (x2 := x2) (x3 := x3) (x4 := x4) n (t + 1) (.val (.int t)) (.val (.int (f t))) (.val (.int (g t)))
          have eb : m__law_first_l1 [x0, x1, x2, x3, x4, .val (.int t), .val (.int (f t)), .val (.int (g t))] = .ok .nx [x0, x1, x2, x3, x4, .val (.int t), .val (.int (f t)), .val (.int (g t))] := by
            unfold m__law_first_l1
            simp [fnD, fnO, fnN, own0, startR, e_bind, e_pure, e_var, e_frz, e_os, e_dv, e_op, e_un, e_B, e_and, e_or, e_not, e_vand, e_vor, e_vnot, e_if, e_nil, e_cons, e_tup, e_lst, e_call, e_callN, e_gown, e_callO, e_seq, e_nx, e_drop, e_ret, e_retO, e_sif, e_set, e_par, e_parO, e_asg, e_raise, e_for, e_range1, e_items, e_part, e_sl, e_app, e_put, e_new, e_obd, e_comp, e_ez, e_heard, e_resd, e_reso, short, bindP, bindPs, isD, isnD, isNon, cmpD, ltD, leD, gtD, geD, addD, subD, mulD, fdivD, modD, powD, negD, ixD, absD, intD, lenD, tupleD, listD, Ob.d, h1, h2, h3, q_int]
          simp only [bindP, bindPs, List.set]
          rw [eb]
          exact ih
theorem first1 (k1 k2 : D) (p q : Int) (N : Nat) (f2 : (20 * (if q - p < 0 then -(q - p) else q - p) + 40 : Int) = N) : sSet 4 (mOp addD (mDv (mOp mulD (mDv (M.pure (.int 20))) (mDv (mUn absD (mDv (mOp subD (mDv (mVar 3)) (mDv (mVar 1)))))))) (mDv (M.pure (.int 40)))) [.val k1, .val (.int p), .val k2, .val (.int q), .no, .no, .no, .no] = .ok .nx [.val k1, .val (.int p), .val k2, .val (.int q), .val (.int N), .no, .no, .no] := by
  have s1 : small64 20 = true := rfl
  simp [fnD, fnO, fnN, own0, startR, e_bind, e_pure, e_var, e_frz, e_os, e_dv, e_op, e_un, e_B, e_and, e_or, e_not, e_vand, e_vor, e_vnot, e_if, e_nil, e_cons, e_tup, e_lst, e_call, e_callN, e_gown, e_callO, e_seq, e_nx, e_drop, e_ret, e_retO, e_sif, e_set, e_par, e_parO, e_asg, e_raise, e_for, e_range1, e_items, e_part, e_sl, e_app, e_put, e_new, e_obd, e_comp, e_ez, e_heard, e_resd, e_reso, short, bindP, bindPs, isD, isnD, isNon, cmpD, ltD, leD, gtD, geD, addD, subD, mulD, fdivD, modD, powD, negD, ixD, absD, intD, lenD, tupleD, listD, Ob.d, s1, f2]
theorem Y1 (g : List D → Rs) (k1 k2 : D) (p q : Int) (N : Nat) (l1 : List D) (e1 : g [k1, .int p, .int N] = .ok (.lst l1)) : mCall (fun ds => g (ds ++ [])) (mCons (mVar 0) (mCons (mVar 1) (mCons (mVar 4) (mNil)))) [.val k1, .val (.int p), .val k2, .val (.int q), .val (.int N), .no, .no, .no] = .ok (.lst l1) [.val k1, .val (.int p), .val k2, .val (.int q), .val (.int N), .no, .no, .no] := by
  simp [fnD, fnO, fnN, own0, startR, e_bind, e_pure, e_var, e_frz, e_os, e_dv, e_op, e_un, e_B, e_and, e_or, e_not, e_vand, e_vor, e_vnot, e_if, e_nil, e_cons, e_tup, e_lst, e_call, e_callN, e_gown, e_callO, e_seq, e_nx, e_drop, e_ret, e_retO, e_sif, e_set, e_par, e_parO, e_asg, e_raise, e_for, e_range1, e_items, e_part, e_sl, e_app, e_put, e_new, e_obd, e_comp, e_ez, e_heard, e_resd, e_reso, short, bindP, bindPs, isD, isnD, isNon, cmpD, ltD, leD, gtD, geD, addD, subD, mulD, fdivD, modD, powD, negD, ixD, absD, intD, lenD, tupleD, listD, Ob.d, e1]
theorem Y1b (g : List D → Rs) (k1 k2 : D) (p q : Int) (N : Nat) (l1 : List D) (e1 : g [k2, .int q, .int N] = .ok (.lst l1)) : mCall (fun ds => g (ds ++ [])) (mCons (mVar 2) (mCons (mVar 3) (mCons (mVar 4) (mNil)))) [.val k1, .val (.int p), .val k2, .val (.int q), .val (.int N), .no, .no, .no] = .ok (.lst l1) [.val k1, .val (.int p), .val k2, .val (.int q), .val (.int N), .no, .no, .no] := by
  simp [fnD, fnO, fnN, own0, startR, e_bind, e_pure, e_var, e_frz, e_os, e_dv, e_op, e_un, e_B, e_and, e_or, e_not, e_vand, e_vor, e_vnot, e_if, e_nil, e_cons, e_tup, e_lst, e_call, e_callN, e_gown, e_callO, e_seq, e_nx, e_drop, e_ret, e_retO, e_sif, e_set, e_par, e_parO, e_asg, e_raise, e_for, e_range1, e_items, e_part, e_sl, e_app, e_put, e_new, e_obd, e_comp, e_ez, e_heard, e_resd, e_reso, short, bindP, bindPs, isD, isnD, isNon, cmpD, ltD, leD, gtD, geD, addD, subD, mulD, fdivD, modD, powD, negD, ixD, absD, intD, lenD, tupleD, listD, Ob.d, e1]
theorem Y2 (r : Rho) (m1 m2 : M D) (l1 l2 : List D) (e1 : m1 r = .ok (.lst l1) r) (e2 : m2 r = .ok (.lst l2) r) : mEz (mCons m1 (mCons m2 (mNil))) r = .ok (pairsD l1 l2) r := by
  simp [fnD, fnO, fnN, own0, startR, e_bind, e_pure, e_var, e_frz, e_os, e_dv, e_op, e_un, e_B, e_and, e_or, e_not, e_vand, e_vor, e_vnot, e_if, e_nil, e_cons, e_tup, e_lst, e_call, e_callN, e_gown, e_callO, e_seq, e_nx, e_drop, e_ret, e_retO, e_sif, e_set, e_par, e_parO, e_asg, e_raise, e_for, e_range1, e_items, e_part, e_sl, e_app, e_put, e_new, e_obd, e_comp, e_ez, e_heard, e_resd, e_reso, short, bindP, bindPs, isD, isnD, isNon, cmpD, ltD, leD, gtD, geD, addD, subD, mulD, fdivD, modD, powD, negD, ixD, absD, intD, lenD, tupleD, listD, Ob.d, e1, e2]
theorem first2 (k1 k2 : D) (p q : Int) (N : Nat) (l1 l2 : List D) (e1 : f__law_gone [k1, .int p, .int N] = .ok (.lst l1)) (e2 : f__law_gone [k2, .int q, .int N] = .ok (.lst l2)) : mEz (mCons (mCall (fun ds => f__law_gone (ds ++ [])) (mCons (mVar 0) (mCons (mVar 1) (mCons (mVar 4) (mNil))))) (mCons (mCall (fun ds => f__law_gone (ds ++ [])) (mCons (mVar 2) (mCons (mVar 3) (mCons (mVar 4) (mNil))))) (mNil))) [.val k1, .val (.int p), .val k2, .val (.int q), .val (.int N), .no, .no, .no] = .ok (pairsD l1 l2) [.val k1, .val (.int p), .val k2, .val (.int q), .val (.int N), .no, .no, .no] := by
  exact Y2 _ _ _ _ _ (Y1 _ k1 k2 p q N l1 e1) (Y1b _ k1 k2 p q N l2 e2)
theorem for_at {it : M (List D)} {t : Pat} {b : M Fl} {r r1 : Rho} {ds : List D} (h : it r = .ok ds r1) : sFor it t b r = loopD t b ds r1 := by rw [e_for, h]
theorem first_ {p q a w b v : Int} (hk : Kd a w) (hk2 : Kd b v) (p0 : 0 ≤ p) (p1 : p ≤ 1000) (q0 : 0 ≤ q) (q1 : q ≤ 1000) :
    f__law_first [.tup [.int a, .int w], .int p, .tup [.int b, .int v], .int q] = .ok (optD (meetF (at_ p a w) (at_ q b v) (20 * (q - p).natAbs + 41) 0)) := by
  have f2 : (20 * (if q - p < 0 then -(q - p) else q - p) + 40 : Int) = ((20 * (q - p).natAbs + 40 : Nat) : Int) := by split <;> omega
  have g1 := gone_ (c := p) hk (20 * (q - p).natAbs + 40) (by omega)
  have g2 := gone_ (c := q) hk2 (20 * (q - p).natAbs + 40) (by omega)
  have hl := first_loop (f := at_ p a w) (g := at_ q b v) (x0 := .val (.tup [.int a, .int w])) (x1 := .val (.int p)) (x2 := .val (.tup [.int b, .int v])) (x3 := .val (.int q)) (x4 := .val (.int ((20 * (q - p).natAbs + 40 : Nat) : Int))) (20 * (q - p).natAbs + 41) 0 .no .no .no
  rw [← pairs_prs] at hl
  have hN : 20 * (q - p).natAbs + 41 = 20 * (q - p).natAbs + 40 + 1 := rfl
  rw [hN] at hl ⊢
  generalize 20 * (q - p).natAbs + 40 = T at *
  have h1 := first1 (.tup [.int a, .int w]) (.tup [.int b, .int v]) p q T f2
  have h2 := for_at (t := .tp [.nm 5, .tp [.nm 6, .nm 7]]) (b := m__law_first_l1) (first2 _ _ _ _ _ _ _ g1 g2)
  rcases hl with ⟨r', hl⟩ | ⟨r', hl, hn⟩
  · exact fnD_rt ((seq_nx h1).trans (seq_rt (h2.trans hl)))
  · rw [hn]
    exact fnD_rt ((seq_nx h1).trans ((seq_nx (h2.trans hl)).trans rfl))
/-! ### meetings, plainly -/
theorem meet_comm (f g : Int → Int) : ∀ n t, meetF f g n t = meetF g f n t
  | 0, _ => rfl
  | n + 1, t => by
    unfold meetF
    rw [meet_comm f g n (t + 1)]
    by_cases h1 : f t < 0 ∨ g t < 0
    · rw [if_pos h1, if_pos (c := g t < 0 ∨ f t < 0) h1.symm]
    · rw [if_neg h1, if_neg (c := g t < 0 ∨ f t < 0) (fun z => h1 z.symm)]
      by_cases h2 : f t = g t
      · rw [if_pos h2, if_pos h2.symm]
      · rw [if_neg h2, if_neg (fun z => h2 z.symm)]
theorem meet_some {f g : Int → Int} : ∀ {n t s : Nat}, meetF f g n t = some s → t ≤ s ∧ f s = g s
  | 0, _, _, h => by cases h
  | n + 1, t, s, h => by
    unfold meetF at h
    split at h
    · cases h
    · split at h
      · cases h; exact ⟨Nat.le_refl _, by assumption⟩
      · have := meet_some h; exact ⟨by omega, this.2⟩
theorem meet_none {f g : Int → Int} {N : Nat} (hE : ∀ t : Nat, f t = g t → t ≤ N) : ∀ (n t : Nat), N < t → meetF f g n t = none := fun n t h => by
  cases e : meetF f g n t with
  | none => rfl
  | some s => have := meet_some e; have := hE s this.2; omega
theorem meet_enough {f g : Int → Int} {N : Nat} (hE : ∀ t : Nat, f t = g t → t ≤ N) : ∀ (n m t : Nat), N < t + n → N < t + m → meetF f g n t = meetF f g m t
  | 0, m, t, h1, h2 => (meet_none hE m t (by omega)).symm
  | n + 1, 0, t, h1, h2 => meet_none hE (n + 1) t (by omega)
  | n + 1, m + 1, t, h1, h2 => by
    unfold meetF
    rw [meet_enough hE n m (t + 1) (by omega) (by omega)]
theorem meet_at {f g : Int → Int} {s : Nat} (hs : f s = g s) (ps : 0 ≤ f s) : ∀ (n t : Nat), (∀ i : Nat, i < s → 0 ≤ f i ∧ 0 ≤ g i ∧ f i ≠ g i) → t ≤ s → s < t + n → meetF f g n t = some s
  | 0, t, h, h1, h2 => by omega
  | n + 1, t, h, h1, h2 => by
    unfold meetF
    by_cases e : t = s
    · subst e
      rw [if_neg (by omega), if_pos hs]
    · have := h t (by omega)
      rw [if_neg (by omega), if_neg this.2.2]
      exact meet_at hs ps n (t + 1) h (by omega) (by omega)
theorem kinds_far {p q a w b v : Int} (hk : Kd a w) (hk2 : Kd b v) (t : Nat) (h : at_ p a w t = at_ q b v t) : t ≤ 20 * (q - p).natAbs + 40 ∨ p = q := by
  obtain ⟨k1, k2, k3, k4, k5⟩ := hk
  obtain ⟨l1, l2, l3, l4, l5⟩ := hk2
  unfold at_ at h
  rw [Int.fdiv_eq_ediv_of_nonneg _ (by omega), Int.fdiv_eq_ediv_of_nonneg _ (by omega)] at h
  have ha : a = -1 ∨ a = 0 ∨ a = 1 := by omega
  have hb : b = -1 ∨ b = 0 ∨ b = 1 := by omega
  have hw : w = 1 ∨ w = 2 ∨ w = 3 ∨ w = 4 ∨ w = 5 := by omega
  have hv : v = 1 ∨ v = 2 ∨ v = 3 ∨ v = 4 ∨ v = 5 := by omega
  clear k1 k2 k3 k4 l1 l2 l3 l4
  rcases ha with rfl | rfl | rfl <;> rcases hb with rfl | rfl | rfl
  all_goals first
    | (have := k5 rfl; have := l5 rfl; subst w v; omega)
    | (have := k5 rfl; subst w; clear k5 l5 hw; rcases hv with rfl | rfl | rfl | rfl | rfl <;> omega)
    | (have := l5 rfl; subst v; clear k5 l5 hv; rcases hw with rfl | rfl | rfl | rfl | rfl <;> omega)
    | (clear k5 l5; rcases hw with rfl | rfl | rfl | rfl | rfl <;> rcases hv with rfl | rfl | rfl | rfl | rfl <;> omega)
theorem meet_same {p q a w b v : Int} (hk : Kd a w) (hk2 : Kd b v) (p0 : 0 ≤ p) (n : Nat) (hn : 20 * (q - p).natAbs + 40 < n) : meetF (at_ p a w) (at_ q b v) n 0 = meetF (at_ p a w) (at_ q b v) (20 * (q - p).natAbs + 41) 0 := by
  by_cases e : p = q
  · subst e
    have z1 : at_ p a w (0 : Nat) = p := by unfold at_; simp
    have z2 : at_ p b v (0 : Nat) = p := by unfold at_; simp
    rw [meet_at (f := at_ p a w) (g := at_ p b v) (s := 0) (by rw [z1, z2]) (by rw [z1]; exact p0) n 0 (fun i h => by omega) (by omega) (by omega)]
    rw [meet_at (f := at_ p a w) (g := at_ p b v) (s := 0) (by rw [z1, z2]) (by rw [z1]; exact p0) _ 0 (fun i h => by omega) (by omega) (by omega)]
  · exact meet_enough (N := 20 * (q - p).natAbs + 40) (fun t h => (kinds_far hk hk2 t h).resolve_right e) _ _ _ (by omega) (by omega)
theorem meet_self {p a w : Int} (p0 : 0 ≤ p) (n : Nat) (hn : 0 < n) : meetF (at_ p a w) (at_ p a w) n 0 = some 0 := by
  have z1 : at_ p a w (0 : Nat) = p := by unfold at_; simp
  exact meet_at (s := 0) rfl (by rw [z1]; exact p0) n 0 (fun i h => by omega) (by omega) (by omega)
end DL
end

section
set_option Elab.async false
set_option linter.all false
set_option maxRecDepth 100000
set_option maxHeartbeats 4000000
namespace DL
open PySem L2
/-! ### what is heard -/
theorem heard_at (f : Addr) (o : Rs) : fnD 3 (m__law_heard f o) [.adr f] = f__law_heard o := by
  unfold f__law_heard
  have h : ∀ f : Addr, ∀ x y : Sl, mAsk f o [.val (.adr f), x, y] = (match o with | .ok d => .ok d [.val (.adr f), x, y] | .err e => .err e [.val (.adr f), x, y] | .bad => .bad) := by
    intro f x y
    unfold mAsk
    cases o <;> simp
  unfold m__law_heard
  cases o with
  | ok d =>
    simp [fnD, fnO, fnN, own0, startR, e_bind, e_pure, e_var, e_frz, e_os, e_dv, e_op, e_un, e_B, e_and, e_or, e_not, e_vand, e_vor, e_vnot, e_if, e_nil, e_cons, e_tup, e_lst, e_call, e_callN, e_gown, e_callO, e_seq, e_nx, e_drop, e_ret, e_retO, e_sif, e_set, e_par, e_parO, e_asg, e_raise, e_for, e_range1, e_items, e_part, e_sl, e_app, e_put, e_new, e_obd, e_comp, e_ez, e_heard, e_resd, e_reso, short, bindP, bindPs, isD, isnD, isNon, cmpD, ltD, leD, gtD, geD, addD, subD, mulD, fdivD, modD, powD, negD, ixD, absD, intD, lenD, tupleD, listD, Ob.d, sTry, h]
    rfl
  | bad => simp [fnD, fnO, fnN, own0, startR, e_bind, e_pure, e_var, e_frz, e_os, e_dv, e_op, e_un, e_B, e_and, e_or, e_not, e_vand, e_vor, e_vnot, e_if, e_nil, e_cons, e_tup, e_lst, e_call, e_callN, e_gown, e_callO, e_seq, e_nx, e_drop, e_ret, e_retO, e_sif, e_set, e_par, e_parO, e_asg, e_raise, e_for, e_range1, e_items, e_part, e_sl, e_app, e_put, e_new, e_obd, e_comp, e_ez, e_heard, e_resd, e_reso, short, bindP, bindPs, isD, isnD, isNon, cmpD, ltD, leD, gtD, geD, addD, subD, mulD, fdivD, modD, powD, negD, ixD, absD, intD, lenD, tupleD, listD, Ob.d, sTry, h]
  | err e =>
    have ht : ∀ f : Addr, sTry 2 1 fC_RowError (sDrop (mAsk f (.err e))) [.val (.adr f), .val .non, .no] = (match fC_RowError e.cls with | some true => .ok .nx [.val (.adr f), .val (.exc e.cls e.fs), .no] | some false => .err e [.val (.adr f), .val .non, .no] | none => .bad) := by
      intro f
      unfold sTry
      rw [e_drop, h]
      dsimp only
      cases fC_RowError e.cls with
      | none => rfl
      | some b => cases b <;> rfl
    cases hc : fC_RowError e.cls with
    | none => rw [hc] at ht; simp [fnD, fnO, fnN, own0, startR, e_bind, e_pure, e_var, e_frz, e_os, e_dv, e_op, e_un, e_B, e_and, e_or, e_not, e_vand, e_vor, e_vnot, e_if, e_nil, e_cons, e_tup, e_lst, e_call, e_callN, e_gown, e_callO, e_seq, e_nx, e_drop, e_ret, e_retO, e_sif, e_set, e_par, e_parO, e_asg, e_raise, e_for, e_range1, e_items, e_part, e_sl, e_app, e_put, e_new, e_obd, e_comp, e_ez, e_heard, e_resd, e_reso, short, bindP, bindPs, isD, isnD, isNon, cmpD, ltD, leD, gtD, geD, addD, subD, mulD, fdivD, modD, powD, negD, ixD, absD, intD, lenD, tupleD, listD, Ob.d, ht]
    | some b =>
      cases b with
      | false => rw [hc] at ht; simp [fnD, fnO, fnN, own0, startR, e_bind, e_pure, e_var, e_frz, e_os, e_dv, e_op, e_un, e_B, e_and, e_or, e_not, e_vand, e_vor, e_vnot, e_if, e_nil, e_cons, e_tup, e_lst, e_call, e_callN, e_gown, e_callO, e_seq, e_nx, e_drop, e_ret, e_retO, e_sif, e_set, e_par, e_parO, e_asg, e_raise, e_for, e_range1, e_items, e_part, e_sl, e_app, e_put, e_new, e_obd, e_comp, e_ez, e_heard, e_resd, e_reso, short, bindP, bindPs, isD, isnD, isNon, cmpD, ltD, leD, gtD, geD, addD, subD, mulD, fdivD, modD, powD, negD, ixD, absD, intD, lenD, tupleD, listD, Ob.d, ht]
      | true =>
        rw [hc] at ht
        generalize isXD fX fN = g1
        generalize fldD (Str.ofString "part") okX = g2
        cases h1 : g1 (.exc e.cls e.fs) (.ref "BadNumber") with
        | none => simp [fnD, fnO, fnN, own0, startR, e_bind, e_pure, e_var, e_frz, e_os, e_dv, e_op, e_un, e_B, e_and, e_or, e_not, e_vand, e_vor, e_vnot, e_if, e_nil, e_cons, e_tup, e_lst, e_call, e_callN, e_gown, e_callO, e_seq, e_nx, e_drop, e_ret, e_retO, e_sif, e_set, e_par, e_parO, e_asg, e_raise, e_for, e_range1, e_items, e_part, e_sl, e_app, e_put, e_new, e_obd, e_comp, e_ez, e_heard, e_resd, e_reso, short, bindP, bindPs, isD, isnD, isNon, cmpD, ltD, leD, gtD, geD, addD, subD, mulD, fdivD, modD, powD, negD, ixD, absD, intD, lenD, tupleD, listD, Ob.d, ht, h1]
        | some z =>
          cases z with
          | bl b =>
            cases b with
            | false => simp [fnD, fnO, fnN, own0, startR, e_bind, e_pure, e_var, e_frz, e_os, e_dv, e_op, e_un, e_B, e_and, e_or, e_not, e_vand, e_vor, e_vnot, e_if, e_nil, e_cons, e_tup, e_lst, e_call, e_callN, e_gown, e_callO, e_seq, e_nx, e_drop, e_ret, e_retO, e_sif, e_set, e_par, e_parO, e_asg, e_raise, e_for, e_range1, e_items, e_part, e_sl, e_app, e_put, e_new, e_obd, e_comp, e_ez, e_heard, e_resd, e_reso, short, bindP, bindPs, isD, isnD, isNon, cmpD, ltD, leD, gtD, geD, addD, subD, mulD, fdivD, modD, powD, negD, ixD, absD, intD, lenD, tupleD, listD, Ob.d, ht, h1]
            | true =>
              cases h2 : g2 (.exc e.cls e.fs) <;> simp [fnD, fnO, fnN, own0, startR, e_bind, e_pure, e_var, e_frz, e_os, e_dv, e_op, e_un, e_B, e_and, e_or, e_not, e_vand, e_vor, e_vnot, e_if, e_nil, e_cons, e_tup, e_lst, e_call, e_callN, e_gown, e_callO, e_seq, e_nx, e_drop, e_ret, e_retO, e_sif, e_set, e_par, e_parO, e_asg, e_raise, e_for, e_range1, e_items, e_part, e_sl, e_app, e_put, e_new, e_obd, e_comp, e_ez, e_heard, e_resd, e_reso, short, bindP, bindPs, isD, isnD, isNon, cmpD, ltD, leD, gtD, geD, addD, subD, mulD, fdivD, modD, powD, negD, ixD, absD, intD, lenD, tupleD, listD, Ob.d, ht, h1, h2]
          | _ => simp [fnD, fnO, fnN, own0, startR, e_bind, e_pure, e_var, e_frz, e_os, e_dv, e_op, e_un, e_B, e_and, e_or, e_not, e_vand, e_vor, e_vnot, e_if, e_nil, e_cons, e_tup, e_lst, e_call, e_callN, e_gown, e_callO, e_seq, e_nx, e_drop, e_ret, e_retO, e_sif, e_set, e_par, e_parO, e_asg, e_raise, e_for, e_range1, e_items, e_part, e_sl, e_app, e_put, e_new, e_obd, e_comp, e_ez, e_heard, e_resd, e_reso, short, bindP, bindPs, isD, isnD, isNon, cmpD, ltD, leD, gtD, geD, addD, subD, mulD, fdivD, modD, powD, negD, ixD, absD, intD, lenD, tupleD, listD, Ob.d, ht, h1]
theorem heard_err (s : Str) : f__law_heard (.err ⟨"BadNumber", [("part", .str s)]⟩) = .ok (.str s) := by rfl
/-! ### the ruler -/
theorem ruler_comp : ∀ (l : List Int) (acc : List D) (x0 : Sl), acc.length + l.length ≤ 100000 → compL (.nm 1) (M.pure true) (mUn intD (mDv (mVar 1))) [1] (l.map D.int) acc [x0, .no] = .ok (acc ++ l.map D.int) [x0, .no]
  | [], acc, x0, _ => by simp [compL]
  | n :: l, acc, x0, h => by
    rw [List.length_cons] at h
    have ih := ruler_comp l (acc ++ [.int n]) x0 (by simp; omega)
    have hs : acc.length ≤ 1000000 := by omega
    rw [List.map_cons, compL]
    simp [fnD, fnO, fnN, own0, startR, e_bind, e_pure, e_var, e_frz, e_os, e_dv, e_op, e_un, e_B, e_and, e_or, e_not, e_vand, e_vor, e_vnot, e_if, e_nil, e_cons, e_tup, e_lst, e_call, e_callN, e_gown, e_callO, e_seq, e_nx, e_drop, e_ret, e_retO, e_sif, e_set, e_par, e_parO, e_asg, e_raise, e_for, e_range1, e_items, e_part, e_sl, e_app, e_put, e_new, e_obd, e_comp, e_ez, e_heard, e_resd, e_reso, short, bindP, bindPs, isD, isnD, isNon, cmpD, ltD, leD, gtD, geD, addD, subD, mulD, fdivD, modD, powD, negD, ixD, absD, intD, lenD, tupleD, listD, Ob.d, wipeR, hs, ih]
theorem slD60 (ns : List Int) : slD (.scr (ns.map D.int)) none (some 60) = some (.lst ((ns.take 60).map D.int)) := by
  unfold slD cutD HT.sIx
  simp
theorem ruler_ (ns : List Int) : f__law_ruler [.scr (ns.map D.int)] = .ok (.lst [.lst ((ns.take 60).map D.int), .int 0, .int 0]) := by
  have c := ruler_comp (ns.take 60) [] (.val (.scr (ns.map D.int))) (by simp; omega)
  rw [List.map_take] at c
  unfold f__law_ruler m__law_ruler
  simp [fnD, fnO, fnN, own0, startR, e_bind, e_pure, e_var, e_frz, e_os, e_dv, e_op, e_un, e_B, e_and, e_or, e_not, e_vand, e_vor, e_vnot, e_if, e_nil, e_cons, e_tup, e_lst, e_call, e_callN, e_gown, e_callO, e_seq, e_nx, e_drop, e_ret, e_retO, e_sif, e_set, e_par, e_parO, e_asg, e_raise, e_for, e_range1, e_items, e_part, e_sl, e_app, e_put, e_new, e_obd, e_comp, e_ez, e_heard, e_resd, e_reso, short, bindP, bindPs, isD, isnD, isNon, cmpD, ltD, leD, gtD, geD, addD, subD, mulD, fdivD, modD, powD, negD, ixD, absD, intD, lenD, tupleD, listD, Ob.d, slD60, wipeR, c]
/-! ### refusals -/
def odds : List D := [.non, .int 5, .tup [.int 1], .tup [.int 1, .int 0], .tup [.int 1, .int 6], .tup [.int 2, .int 1], .tup [.int 0, .int 2], .tup [.bl true, .int 1], .tup [.int 1, .bl true], .str "11", .tup [.int 1, .int 1, .int 1], .lst [.non, .int 1]]
theorem odd_no (d : D) (h : d ∈ odds) : f_is_kind [d] = .ok (.bl false) := by
  unfold odds at h
  simp only [List.mem_cons, List.not_mem_nil, or_false] at h
  rcases h with rfl | rfl | rfl | rfl | rfl | rfl | rfl | rfl | rfl | rfl | rfl | rfl <;> rfl
def lows : List D := [.int (-1), .int 1001, .non, .bl true, .str "0", .lst [.int 0]]
def bads : List D := [.int (-1), .int 1001, .non, .bl false, .str "3", .tup [.int 1]]
theorem low_no (d : D) (h : d ∈ lows) : f_is_within [d, .int 0, .int 1000] = .ok (.bl false) := by
  unfold lows at h
  simp only [List.mem_cons, List.not_mem_nil, or_false] at h
  rcases h with rfl | rfl | rfl | rfl | rfl | rfl <;> rfl
theorem bad_no (d : D) (h : d ∈ bads) : f_is_within [d, .int 0, .int 1000] = .ok (.bl false) := by
  unfold bads at h
  simp only [List.mem_cons, List.not_mem_nil, or_false] at h
  rcases h with rfl | rfl | rfl | rfl | rfl | rfl <;> rfl
abbrev bn (s : Str) : Rs := .err ⟨"BadNumber", [("part", .str s)]⟩
theorem r_kind {odd low bad : D} (h : f_is_kind [odd] = .ok (.bl false)) : f_line_at [odd, low, bad] = bn "kind" := by
  have e := need_kind_no (s := "kind") h
  unfold f_line_at m_line_at
  simp [fnD, fnO, fnN, own0, startR, e_bind, e_pure, e_var, e_frz, e_os, e_dv, e_op, e_un, e_B, e_and, e_or, e_not, e_vand, e_vor, e_vnot, e_if, e_nil, e_cons, e_tup, e_lst, e_call, e_callN, e_gown, e_callO, e_seq, e_nx, e_drop, e_ret, e_retO, e_sif, e_set, e_par, e_parO, e_asg, e_raise, e_for, e_range1, e_items, e_part, e_sl, e_app, e_put, e_new, e_obd, e_comp, e_ez, e_heard, e_resd, e_reso, short, bindP, bindPs, isD, isnD, isNon, cmpD, ltD, leD, gtD, geD, addD, subD, mulD, fdivD, modD, powD, negD, ixD, absD, intD, lenD, tupleD, listD, Ob.d, e]
theorem r_cell {a w : Int} {low bad : D} (k : Kd a w) (h : f_is_within [low, .int 0, .int 1000] = .ok (.bl false)) : f_line_at [.tup [.int a, .int w], low, bad] = bn "cell" := by
  have e := need_kind_pair (s := "kind") (.inl rfl) k
  have e2 := need_number_no (s := "cell") h
  unfold f_line_at m_line_at
  simp [fnD, fnO, fnN, own0, startR, e_bind, e_pure, e_var, e_frz, e_os, e_dv, e_op, e_un, e_B, e_and, e_or, e_not, e_vand, e_vor, e_vnot, e_if, e_nil, e_cons, e_tup, e_lst, e_call, e_callN, e_gown, e_callO, e_seq, e_nx, e_drop, e_ret, e_retO, e_sif, e_set, e_par, e_parO, e_asg, e_raise, e_for, e_range1, e_items, e_part, e_sl, e_app, e_put, e_new, e_obd, e_comp, e_ez, e_heard, e_resd, e_reso, short, bindP, bindPs, isD, isnD, isNon, cmpD, ltD, leD, gtD, geD, addD, subD, mulD, fdivD, modD, powD, negD, ixD, absD, intD, lenD, tupleD, listD, Ob.d, e, e2]
theorem r_tick {a w c : Int} {bad : D} (k : Kd a w) (c0 : 0 ≤ c) (c1 : c ≤ 1000) (h : f_is_within [bad, .int 0, .int 1000] = .ok (.bl false)) : f_line_at [.tup [.int a, .int w], .int c, bad] = bn "tick" := by
  have e := need_kind_pair (s := "kind") (.inl rfl) k
  have e2 := need_number_no (s := "tick") h
  unfold f_line_at m_line_at
  simp [fnD, fnO, fnN, own0, startR, e_bind, e_pure, e_var, e_frz, e_os, e_dv, e_op, e_un, e_B, e_and, e_or, e_not, e_vand, e_vor, e_vnot, e_if, e_nil, e_cons, e_tup, e_lst, e_call, e_callN, e_gown, e_callO, e_seq, e_nx, e_drop, e_ret, e_retO, e_sif, e_set, e_par, e_parO, e_asg, e_raise, e_for, e_range1, e_items, e_part, e_sl, e_app, e_put, e_new, e_obd, e_comp, e_ez, e_heard, e_resd, e_reso, short, bindP, bindPs, isD, isnD, isNon, cmpD, ltD, leD, gtD, geD, addD, subD, mulD, fdivD, modD, powD, negD, ixD, absD, intD, lenD, tupleD, listD, Ob.d, e, need_number_ok c0 c1, e2]
theorem r_one {odd x y z : D} (h : f_is_kind [odd] = .ok (.bl false)) : f_meeting [odd, x, y, z] = bn "one" := by
  have e := need_kind_no (s := "one") h
  unfold f_meeting m_meeting
  simp [fnD, fnO, fnN, own0, startR, e_bind, e_pure, e_var, e_frz, e_os, e_dv, e_op, e_un, e_B, e_and, e_or, e_not, e_vand, e_vor, e_vnot, e_if, e_nil, e_cons, e_tup, e_lst, e_call, e_callN, e_gown, e_callO, e_seq, e_nx, e_drop, e_ret, e_retO, e_sif, e_set, e_par, e_parO, e_asg, e_raise, e_for, e_range1, e_items, e_part, e_sl, e_app, e_put, e_new, e_obd, e_comp, e_ez, e_heard, e_resd, e_reso, short, bindP, bindPs, isD, isnD, isNon, cmpD, ltD, leD, gtD, geD, addD, subD, mulD, fdivD, modD, powD, negD, ixD, absD, intD, lenD, tupleD, listD, Ob.d, e]
theorem r_place {a w : Int} {low y z : D} (k : Kd a w) (h : f_is_within [low, .int 0, .int 1000] = .ok (.bl false)) : f_meeting [.tup [.int a, .int w], low, y, z] = bn "place" := by
  have e := need_kind_pair (s := "one") (.inl rfl) k
  have e2 := need_number_no (s := "place") h
  unfold f_meeting m_meeting
  simp [fnD, fnO, fnN, own0, startR, e_bind, e_pure, e_var, e_frz, e_os, e_dv, e_op, e_un, e_B, e_and, e_or, e_not, e_vand, e_vor, e_vnot, e_if, e_nil, e_cons, e_tup, e_lst, e_call, e_callN, e_gown, e_callO, e_seq, e_nx, e_drop, e_ret, e_retO, e_sif, e_set, e_par, e_parO, e_asg, e_raise, e_for, e_range1, e_items, e_part, e_sl, e_app, e_put, e_new, e_obd, e_comp, e_ez, e_heard, e_resd, e_reso, short, bindP, bindPs, isD, isnD, isNon, cmpD, ltD, leD, gtD, geD, addD, subD, mulD, fdivD, modD, powD, negD, ixD, absD, intD, lenD, tupleD, listD, Ob.d, e, e2]
theorem r_other {a w c : Int} {odd z : D} (k : Kd a w) (c0 : 0 ≤ c) (c1 : c ≤ 1000) (h : f_is_kind [odd] = .ok (.bl false)) : f_meeting [.tup [.int a, .int w], .int c, odd, z] = bn "other" := by
  have e := need_kind_pair (s := "one") (.inl rfl) k
  have e2 := need_kind_no (s := "other") h
  unfold f_meeting m_meeting
  simp [fnD, fnO, fnN, own0, startR, e_bind, e_pure, e_var, e_frz, e_os, e_dv, e_op, e_un, e_B, e_and, e_or, e_not, e_vand, e_vor, e_vnot, e_if, e_nil, e_cons, e_tup, e_lst, e_call, e_callN, e_gown, e_callO, e_seq, e_nx, e_drop, e_ret, e_retO, e_sif, e_set, e_par, e_parO, e_asg, e_raise, e_for, e_range1, e_items, e_part, e_sl, e_app, e_put, e_new, e_obd, e_comp, e_ez, e_heard, e_resd, e_reso, short, bindP, bindPs, isD, isnD, isNon, cmpD, ltD, leD, gtD, geD, addD, subD, mulD, fdivD, modD, powD, negD, ixD, absD, intD, lenD, tupleD, listD, Ob.d, e, need_number_ok c0 c1, e2]
theorem r_spot {a w c b v : Int} {d z : D} (k : Kd a w) (c0 : 0 ≤ c) (c1 : c ≤ 1000) (hd : d = .tup [.int b, .int v] ∨ d = .lst [.int b, .int v]) (k2 : Kd b v) (h : f_is_within [z, .int 0, .int 1000] = .ok (.bl false)) : f_meeting [.tup [.int a, .int w], .int c, d, z] = bn "spot" := by
  have e := need_kind_pair (s := "one") (.inl rfl) k
  have e2 := need_kind_pair (s := "other") hd k2
  have e3 := need_number_no (s := "spot") h
  unfold f_meeting m_meeting
  simp [fnD, fnO, fnN, own0, startR, e_bind, e_pure, e_var, e_frz, e_os, e_dv, e_op, e_un, e_B, e_and, e_or, e_not, e_vand, e_vor, e_vnot, e_if, e_nil, e_cons, e_tup, e_lst, e_call, e_callN, e_gown, e_callO, e_seq, e_nx, e_drop, e_ret, e_retO, e_sif, e_set, e_par, e_parO, e_asg, e_raise, e_for, e_range1, e_items, e_part, e_sl, e_app, e_put, e_new, e_obd, e_comp, e_ez, e_heard, e_resd, e_reso, short, bindP, bindPs, isD, isnD, isNon, cmpD, ltD, leD, gtD, geD, addD, subD, mulD, fdivD, modD, powD, negD, ixD, absD, intD, lenD, tupleD, listD, Ob.d, e, need_number_ok c0 c1, e2, e3]
theorem said_eq : eqD (.lst [.str "kind", .str "cell", .str "tick", .str "one", .str "place", .str "other", .str "spot"]) (.lst [.str "kind", .str "cell", .str "tick", .str "one", .str "place", .str "other", .str "spot"]) = some (.bl true) := by
  unfold eqD eqB
  simp [toP, toPs, SeqAt.shaped, PyData.canLay0, PyData.canLayAll0, PyData.depth, PyData.depthAll, PyData.eqv, PyData.eqvAll]
  decide +kernel
end DL
end

section
set_option Elab.async false
set_option linter.all false
set_option maxRecDepth 100000
set_option maxHeartbeats 4000000
namespace DL
open PySem L2

theorem s1 (gk gp gd : Ob → List D → Ro) (gg gl gm gf : List D → Rs) (o o1 o2 o3 o4 : Ob) (x0 x2 x3 x4 x5 x6 x7 x8 x9 x10 x11 x12 x13 : Sl) (a v1 v2 : Int) (k d : D) (e1 : gk o [] = .ok k o1) (e2 : gd o1 [.int 20] = .ok (.int v1) o2) (e3 : gd o2 [.int 1001] = .ok (.int v2) o3) (e4 : gp o3 [.lst [.int 0, .int 1, .int v1, .int v2]] = .ok d o4) : (sPar 3 4 (mCons (gOwn 1 (mCallO 1 gk (mNil))) (mCons (gOwn 1 (mCallO 1 gp (mCons (mLst (mCons (M.pure (.int 0)) (mCons (M.pure (.int 1)) (mCons (gOwn 1 (mCallO 1 gd (mCons (M.pure (.int 20)) (mNil)))) (mCons (gOwn 1 (mCallO 1 gd (mCons (M.pure (.int 1001)) (mNil)))) (mNil)))))) (mNil)))) (mNil)))) [x0, .own 0 o, x2, x3, x4, x5, x6, x7, x8, x9, x10, x11, x12, x13] = .ok .nx [x0, .own 0 o4, x2, .val (k), .val (d), x5, x6, x7, x8, x9, x10, x11, x12, x13] := by
  simp [fnD, fnO, fnN, own0, startR, e_bind, e_pure, e_var, e_frz, e_os, e_dv, e_op, e_un, e_B, e_and, e_or, e_not, e_vand, e_vor, e_vnot, e_if, e_nil, e_cons, e_tup, e_lst, e_call, e_callN, e_gown, e_callO, e_seq, e_nx, e_drop, e_ret, e_retO, e_sif, e_set, e_par, e_parO, e_asg, e_raise, e_for, e_range1, e_items, e_part, e_sl, e_app, e_put, e_new, e_obd, e_comp, e_ez, e_heard, e_resd, e_reso, short, bindP, bindPs, isD, isnD, isNon, cmpD, ltD, leD, gtD, geD, addD, subD, mulD, fdivD, modD, powD, negD, ixD, absD, intD, lenD, tupleD, listD, Ob.d, e1, e2, e3, e4]

theorem s2 (gk gp gd : Ob → List D → Ro) (gg gl gm gf : List D → Rs) (o o1 o2 o3 o4 : Ob) (x0 x2 x3 x4 x5 x6 x7 x8 x9 x10 x11 x12 x13 : Sl) (v1 v2 : Int) (d : D) (e2 : gd o [.int 60] = .ok (.int v1) o2) (e3 : gd o2 [.int 1001] = .ok (.int v2) o3) (e4 : gp o3 [.lst [.int 0, .int 1, .int v1, .int v2]] = .ok d o4) : (sSet 5 (gOwn 1 (mCallO 1 gp (mCons (mLst (mCons (M.pure (.int 0)) (mCons (M.pure (.int 1)) (mCons (gOwn 1 (mCallO 1 gd (mCons (M.pure (.int 60)) (mNil)))) (mCons (gOwn 1 (mCallO 1 gd (mCons (M.pure (.int 1001)) (mNil)))) (mNil)))))) (mNil))))) [x0, .own 0 o, x2, x3, x4, x5, x6, x7, x8, x9, x10, x11, x12, x13] = .ok .nx [x0, .own 0 o4, x2, x3, x4, .val (d), x6, x7, x8, x9, x10, x11, x12, x13] := by
  simp [fnD, fnO, fnN, own0, startR, e_bind, e_pure, e_var, e_frz, e_os, e_dv, e_op, e_un, e_B, e_and, e_or, e_not, e_vand, e_vor, e_vnot, e_if, e_nil, e_cons, e_tup, e_lst, e_call, e_callN, e_gown, e_callO, e_seq, e_nx, e_drop, e_ret, e_retO, e_sif, e_set, e_par, e_parO, e_asg, e_raise, e_for, e_range1, e_items, e_part, e_sl, e_app, e_put, e_new, e_obd, e_comp, e_ez, e_heard, e_resd, e_reso, short, bindP, bindPs, isD, isnD, isNon, cmpD, ltD, leD, gtD, geD, addD, subD, mulD, fdivD, modD, powD, negD, ixD, absD, intD, lenD, tupleD, listD, Ob.d, e2, e3, e4]

theorem s3 (gk gp gd : Ob → List D → Ro) (gg gl gm gf : List D → Rs) (o o1 o2 o3 o4 : Ob) (x0 x2 x3 x4 x5 x6 x7 x8 x9 x10 x11 x12 x13 : Sl) (k c t z : D) (l : List D) (e1 : gg [k, c, t] = .ok (.lst l)) (e2 : atI l (-1) = some z) : (sSet 6 (mOp ixD (mDv (mCall (fun ds => gg (ds ++ [])) (mCons (mVar 3) (mCons (mVar 4) (mCons (mVar 5) (mNil)))))) (mDv (mUn negD (mDv (M.pure (.int 1))))))) [x0, .own 0 o, x2, .val (k), .val (c), .val (t), x6, x7, x8, x9, x10, x11, x12, x13] = .ok .nx [x0, .own 0 o, x2, .val (k), .val (c), .val (t), .val (z), x7, x8, x9, x10, x11, x12, x13] := by
  simp [fnD, fnO, fnN, own0, startR, e_bind, e_pure, e_var, e_frz, e_os, e_dv, e_op, e_un, e_B, e_and, e_or, e_not, e_vand, e_vor, e_vnot, e_if, e_nil, e_cons, e_tup, e_lst, e_call, e_callN, e_gown, e_callO, e_seq, e_nx, e_drop, e_ret, e_retO, e_sif, e_set, e_par, e_parO, e_asg, e_raise, e_for, e_range1, e_items, e_part, e_sl, e_app, e_put, e_new, e_obd, e_comp, e_ez, e_heard, e_resd, e_reso, short, bindP, bindPs, isD, isnD, isNon, cmpD, ltD, leD, gtD, geD, addD, subD, mulD, fdivD, modD, powD, negD, ixD, absD, intD, lenD, tupleD, listD, Ob.d, e1, e2]

theorem s4 (gk gp gd : Ob → List D → Ro) (gg gl gm gf : List D → Rs) (o o1 o2 o3 o4 : Ob) (x0 x2 x3 x4 x5 x6 x7 x8 x9 x10 x11 x12 x13 : Sl) (a w : Int) (c t ly : D) (u : Int) (sx : Str) (e1 : gl [.tup [.int a, .int w], c, t] = .ok ly) (e1b : gl [.lst [.int a, .int w], c, t] = .ok ly) (hl : ly = if 0 ≤ u then .int u else .non) (e2 : reprD ly = some (.str sx)) (e3 : neD (.str sx) (.str sx) = some (.bl false)) (e4 : neD ly ly = some (.bl false)) : (sIf (mOr (mB (mOp neD (mDv (mUn reprD (mDv (mCall (fun ds => gl (ds ++ [])) (mCons (mVar 3) (mCons (mVar 4) (mCons (mVar 5) (mNil)))))))) (mDv (mUn reprD (mDv (mIf (mB (mOp geD (mDv (mVar 6)) (mDv (M.pure (.int 0))))) (mVar 6) (M.pure .non))))))) (mB (mOp neD (mDv (mCall (fun ds => gl (pick [2, 1, 0] ds)) (mCons (mVar 5) (mCons (mVar 4) (mCons (mUn listD (mDv (mVar 3))) (mNil)))))) (mDv (mCall (fun ds => gl (ds ++ [])) (mCons (mVar 3) (mCons (mVar 4) (mCons (mVar 5) (mNil))))))))) (sRet (M.pure (.bl false))) (sNx)) [x0, .own 0 o, x2, .val (.tup [.int a, .int w]), .val (c), .val (t), .val (.int u), x7, x8, x9, x10, x11, x12, x13] = .ok .nx [x0, .own 0 o, x2, .val (.tup [.int a, .int w]), .val (c), .val (t), .val (.int u), x7, x8, x9, x10, x11, x12, x13] := by
  by_cases h : 0 ≤ u
  · rw [if_pos h] at hl
    subst hl
    simp [fnD, fnO, fnN, own0, startR, e_bind, e_pure, e_var, e_frz, e_os, e_dv, e_op, e_un, e_B, e_and, e_or, e_not, e_vand, e_vor, e_vnot, e_if, e_nil, e_cons, e_tup, e_lst, e_call, e_callN, e_gown, e_callO, e_seq, e_nx, e_drop, e_ret, e_retO, e_sif, e_set, e_par, e_parO, e_asg, e_raise, e_for, e_range1, e_items, e_part, e_sl, e_app, e_put, e_new, e_obd, e_comp, e_ez, e_heard, e_resd, e_reso, short, bindP, bindPs, isD, isnD, isNon, cmpD, ltD, leD, gtD, geD, addD, subD, mulD, fdivD, modD, powD, negD, ixD, absD, intD, lenD, tupleD, listD, Ob.d, e1, e1b, e2, e3, e4, h, pick]
  rw [if_neg h] at hl
  subst hl
  simp [fnD, fnO, fnN, own0, startR, e_bind, e_pure, e_var, e_frz, e_os, e_dv, e_op, e_un, e_B, e_and, e_or, e_not, e_vand, e_vor, e_vnot, e_if, e_nil, e_cons, e_tup, e_lst, e_call, e_callN, e_gown, e_callO, e_seq, e_nx, e_drop, e_ret, e_retO, e_sif, e_set, e_par, e_parO, e_asg, e_raise, e_for, e_range1, e_items, e_part, e_sl, e_app, e_put, e_new, e_obd, e_comp, e_ez, e_heard, e_resd, e_reso, short, bindP, bindPs, isD, isnD, isNon, cmpD, ltD, leD, gtD, geD, addD, subD, mulD, fdivD, modD, powD, negD, ixD, absD, intD, lenD, tupleD, listD, Ob.d, e1, e1b, e2, e3, e4, h, pick]

theorem s5 (gk gp gd : Ob → List D → Ro) (gg gl gm gf : List D → Rs) (o o1 o2 o3 o4 : Ob) (x0 x2 x3 x4 x5 x6 x7 x8 x9 x10 x11 x12 x13 : Sl) (k1 k2 : D) (e1 : gk o [] = .ok k1 o1) (e2 : gk o1 [] = .ok k2 o2) : (sPar 7 8 (mCons (gOwn 1 (mCallO 1 gk (mNil))) (mCons (gOwn 1 (mCallO 1 gk (mNil))) (mNil)))) [x0, .own 0 o, x2, x3, x4, x5, x6, x7, x8, x9, x10, x11, x12, x13] = .ok .nx [x0, .own 0 o2, x2, x3, x4, x5, x6, .val (k1), .val (k2), x9, x10, x11, x12, x13] := by
  simp [fnD, fnO, fnN, own0, startR, e_bind, e_pure, e_var, e_frz, e_os, e_dv, e_op, e_un, e_B, e_and, e_or, e_not, e_vand, e_vor, e_vnot, e_if, e_nil, e_cons, e_tup, e_lst, e_call, e_callN, e_gown, e_callO, e_seq, e_nx, e_drop, e_ret, e_retO, e_sif, e_set, e_par, e_parO, e_asg, e_raise, e_for, e_range1, e_items, e_part, e_sl, e_app, e_put, e_new, e_obd, e_comp, e_ez, e_heard, e_resd, e_reso, short, bindP, bindPs, isD, isnD, isNon, cmpD, ltD, leD, gtD, geD, addD, subD, mulD, fdivD, modD, powD, negD, ixD, absD, intD, lenD, tupleD, listD, Ob.d, e1, e2]

theorem s6 (gk gp gd : Ob → List D → Ro) (gg gl gm gf : List D → Rs) (o o1 o2 o3 o4 : Ob) (x0 x2 x3 x4 x5 x6 x7 x8 x9 x10 x11 x12 x13 : Sl) (d : D) (e1 : gp o [.lst [.int 6, .int 20, .int 60]] = .ok d o1) : (sSet 9 (gOwn 1 (mCallO 1 gp (mCons (mLst (mCons (M.pure (.int 6)) (mCons (M.pure (.int 20)) (mCons (M.pure (.int 60)) (mNil))))) (mNil))))) [x0, .own 0 o, x2, x3, x4, x5, x6, x7, x8, x9, x10, x11, x12, x13] = .ok .nx [x0, .own 0 o1, x2, x3, x4, x5, x6, x7, x8, .val (d), x10, x11, x12, x13] := by
  simp [fnD, fnO, fnN, own0, startR, e_bind, e_pure, e_var, e_frz, e_os, e_dv, e_op, e_un, e_B, e_and, e_or, e_not, e_vand, e_vor, e_vnot, e_if, e_nil, e_cons, e_tup, e_lst, e_call, e_callN, e_gown, e_callO, e_seq, e_nx, e_drop, e_ret, e_retO, e_sif, e_set, e_par, e_parO, e_asg, e_raise, e_for, e_range1, e_items, e_part, e_sl, e_app, e_put, e_new, e_obd, e_comp, e_ez, e_heard, e_resd, e_reso, short, bindP, bindPs, isD, isnD, isNon, cmpD, ltD, leD, gtD, geD, addD, subD, mulD, fdivD, modD, powD, negD, ixD, absD, intD, lenD, tupleD, listD, Ob.d, e1]

theorem s7 (gk gp gd : Ob → List D → Ro) (gg gl gm gf : List D → Rs) (o o1 o2 o3 o4 : Ob) (x0 x2 x3 x4 x5 x6 x7 x8 x9 x10 x11 x12 x13 : Sl) (d p q : D) (e1 : gd o [d] = .ok p o1) (e2 : gd o1 [d] = .ok q o2) : (sPar 10 11 (mCons (gOwn 1 (mCallO 1 gd (mCons (mVar 9) (mNil)))) (mCons (gOwn 1 (mCallO 1 gd (mCons (mVar 9) (mNil)))) (mNil)))) [x0, .own 0 o, x2, x3, x4, x5, x6, x7, x8, .val (d), x10, x11, x12, x13] = .ok .nx [x0, .own 0 o2, x2, x3, x4, x5, x6, x7, x8, .val (d), .val (p), .val (q), x12, x13] := by
  simp [fnD, fnO, fnN, own0, startR, e_bind, e_pure, e_var, e_frz, e_os, e_dv, e_op, e_un, e_B, e_and, e_or, e_not, e_vand, e_vor, e_vnot, e_if, e_nil, e_cons, e_tup, e_lst, e_call, e_callN, e_gown, e_callO, e_seq, e_nx, e_drop, e_ret, e_retO, e_sif, e_set, e_par, e_parO, e_asg, e_raise, e_for, e_range1, e_items, e_part, e_sl, e_app, e_put, e_new, e_obd, e_comp, e_ez, e_heard, e_resd, e_reso, short, bindP, bindPs, isD, isnD, isNon, cmpD, ltD, leD, gtD, geD, addD, subD, mulD, fdivD, modD, powD, negD, ixD, absD, intD, lenD, tupleD, listD, Ob.d, e1, e2]

theorem s8 (gk gp gd : Ob → List D → Ro) (gg gl gm gf : List D → Rs) (o o1 o2 o3 o4 : Ob) (x0 x2 x3 x4 x5 x6 x7 x8 x9 x10 x11 x12 x13 : Sl) (k1 p k2 q z : D) (e1 : gf [k1, p, k2, q] = .ok z) : (sSet 12 (mCall (fun ds => gf (ds ++ [])) (mCons (mVar 7) (mCons (mVar 10) (mCons (mVar 8) (mCons (mVar 11) (mNil))))))) [x0, .own 0 o, x2, x3, x4, x5, x6, .val (k1), .val (k2), x9, .val (p), .val (q), x12, x13] = .ok .nx [x0, .own 0 o, x2, x3, x4, x5, x6, .val (k1), .val (k2), x9, .val (p), .val (q), .val (z), x13] := by
  simp [fnD, fnO, fnN, own0, startR, e_bind, e_pure, e_var, e_frz, e_os, e_dv, e_op, e_un, e_B, e_and, e_or, e_not, e_vand, e_vor, e_vnot, e_if, e_nil, e_cons, e_tup, e_lst, e_call, e_callN, e_gown, e_callO, e_seq, e_nx, e_drop, e_ret, e_retO, e_sif, e_set, e_par, e_parO, e_asg, e_raise, e_for, e_range1, e_items, e_part, e_sl, e_app, e_put, e_new, e_obd, e_comp, e_ez, e_heard, e_resd, e_reso, short, bindP, bindPs, isD, isnD, isNon, cmpD, ltD, leD, gtD, geD, addD, subD, mulD, fdivD, modD, powD, negD, ixD, absD, intD, lenD, tupleD, listD, Ob.d, e1]

theorem s9 (gk gp gd : Ob → List D → Ro) (gg gl gm gf : List D → Rs) (o o1 o2 o3 o4 : Ob) (x0 x2 x3 x4 x5 x6 x7 x8 x9 x10 x11 x12 x13 : Sl) (b v : Int) (k1 p q z : D) (sx : Str) (e1 : gm [k1, p, .tup [.int b, .int v], q] = .ok z) (e1b : gm [k1, p, .lst [.int b, .int v], q] = .ok z) (e2 : reprD z = some (.str sx)) (e3 : neD (.str sx) (.str sx) = some (.bl false)) (e4 : neD z z = some (.bl false)) : (sIf (mOr (mB (mOp neD (mDv (mUn reprD (mDv (mCall (fun ds => gm (ds ++ [])) (mCons (mVar 7) (mCons (mVar 10) (mCons (mVar 8) (mCons (mVar 11) (mNil))))))))) (mDv (mUn reprD (mDv (mVar 12)))))) (mB (mOp neD (mDv (mCall (fun ds => gm (pick [3, 2, 1, 0] ds)) (mCons (mVar 11) (mCons (mUn listD (mDv (mVar 8))) (mCons (mVar 10) (mCons (mVar 7) (mNil))))))) (mDv (mVar 12))))) (sRet (M.pure (.bl false))) (sNx)) [x0, .own 0 o, x2, x3, x4, x5, x6, .val (k1), .val (.tup [.int b, .int v]), x9, .val (p), .val (q), .val (z), x13] = .ok .nx [x0, .own 0 o, x2, x3, x4, x5, x6, .val (k1), .val (.tup [.int b, .int v]), x9, .val (p), .val (q), .val (z), x13] := by
  simp [fnD, fnO, fnN, own0, startR, e_bind, e_pure, e_var, e_frz, e_os, e_dv, e_op, e_un, e_B, e_and, e_or, e_not, e_vand, e_vor, e_vnot, e_if, e_nil, e_cons, e_tup, e_lst, e_call, e_callN, e_gown, e_callO, e_seq, e_nx, e_drop, e_ret, e_retO, e_sif, e_set, e_par, e_parO, e_asg, e_raise, e_for, e_range1, e_items, e_part, e_sl, e_app, e_put, e_new, e_obd, e_comp, e_ez, e_heard, e_resd, e_reso, short, bindP, bindPs, isD, isnD, isNon, cmpD, ltD, leD, gtD, geD, addD, subD, mulD, fdivD, modD, powD, negD, ixD, absD, intD, lenD, tupleD, listD, Ob.d, e1, e1b, e2, e3, e4, pick]

theorem s10 (gk gp gd : Ob → List D → Ro) (gg gl gm gf : List D → Rs) (o o1 o2 o3 o4 : Ob) (x0 x2 x3 x4 x5 x6 x7 x8 x9 x10 x11 x12 x13 : Sl) (k1 k2 p q z : D) (e1 : gm [k2, q, k1, p] = .ok z) (e2 : gm [k1, p, k1, p] = .ok (.int 0)) (e4 : neD z z = some (.bl false)) (e5 : neD (.int 0) (.int 0) = some (.bl false)) : (sIf (mOr (mB (mOp neD (mDv (mCall (fun ds => gm (ds ++ [])) (mCons (mVar 8) (mCons (mVar 11) (mCons (mVar 7) (mCons (mVar 10) (mNil))))))) (mDv (mVar 12)))) (mB (mOp neD (mDv (mCall (fun ds => gm (ds ++ [])) (mCons (mVar 7) (mCons (mVar 10) (mCons (mVar 7) (mCons (mVar 10) (mNil))))))) (mDv (M.pure (.int 0)))))) (sRet (M.pure (.bl false))) (sNx)) [x0, .own 0 o, x2, x3, x4, x5, x6, .val (k1), .val (k2), x9, .val (p), .val (q), .val (z), x13] = .ok .nx [x0, .own 0 o, x2, x3, x4, x5, x6, .val (k1), .val (k2), x9, .val (p), .val (q), .val (z), x13] := by
  simp [fnD, fnO, fnN, own0, startR, e_bind, e_pure, e_var, e_frz, e_os, e_dv, e_op, e_un, e_B, e_and, e_or, e_not, e_vand, e_vor, e_vnot, e_if, e_nil, e_cons, e_tup, e_lst, e_call, e_callN, e_gown, e_callO, e_seq, e_nx, e_drop, e_ret, e_retO, e_sif, e_set, e_par, e_parO, e_asg, e_raise, e_for, e_range1, e_items, e_part, e_sl, e_app, e_put, e_new, e_obd, e_comp, e_ez, e_heard, e_resd, e_reso, short, bindP, bindPs, isD, isnD, isNon, cmpD, ltD, leD, gtD, geD, addD, subD, mulD, fdivD, modD, powD, negD, ixD, absD, intD, lenD, tupleD, listD, Ob.d, e1, e2, e4, e5]

end DL
end

section
set_option Elab.async false
set_option linter.all false
set_option maxRecDepth 100000
set_option maxHeartbeats 4000000
namespace DL
open PySem L2
theorem fnO_rt {N : Nat} {m : M Fl} {o o' : Ob} {ds : List D} {d : D} {r : Rho} (h : m (.own 1 o :: startR (N - 1) ds) = .ok (.rt d) (.own 1 o' :: r)) : fnO N m o ds = .ok d o' := by
  unfold fnO
  rw [h]
  rfl
theorem lst3 (a b c : M D) (r : Rho) (d e f : D) (h1 : a r = .ok d r) (h2 : b r = .ok e r) (h3 : c r = .ok f r) : sSet 5 (mLst (mCons a (mCons b (mCons c (mNil))))) r = .ok .nx (r.set 5 (.val (.lst [d, e, f]))) := by
  simp [fnD, fnO, fnN, own0, startR, e_bind, e_pure, e_var, e_frz, e_os, e_dv, e_op, e_un, e_B, e_and, e_or, e_not, e_vand, e_vor, e_vnot, e_if, e_nil, e_cons, e_tup, e_lst, e_call, e_callN, e_gown, e_callO, e_seq, e_nx, e_drop, e_ret, e_retO, e_sif, e_set, e_par, e_parO, e_asg, e_raise, e_for, e_range1, e_items, e_part, e_sl, e_app, e_put, e_new, e_obd, e_comp, e_ez, e_heard, e_resd, e_reso, short, bindP, bindPs, isD, isnD, isNon, cmpD, ltD, leD, gtD, geD, addD, subD, mulD, fdivD, modD, powD, negD, ixD, absD, intD, lenD, tupleD, listD, Ob.d, h1, h2, h3]
theorem add2 (a b : M D) (r : Rho) (d e : D) (l : List D) (h1 : a r = .ok d r) (h2 : b r = .ok e r) (h3 : r[5]? = some (.val (.lst l))) (hl : l.length ≤ 100) : sSet 5 (mOp addD (mDv (mVar 5)) (mDv (mLst (mCons a (mCons b (mNil)))))) r = .ok .nx (r.set 5 (.val (.lst (l ++ [d, e])))) := by
  have : l.length + 2 ≤ 1000000 := by omega
  have e1 : mDv (mVar 5) r = .ok (.dv (.lst l)) r := by simp [fnD, fnO, fnN, own0, startR, e_bind, e_pure, e_var, e_frz, e_os, e_dv, e_op, e_un, e_B, e_and, e_or, e_not, e_vand, e_vor, e_vnot, e_if, e_nil, e_cons, e_tup, e_lst, e_call, e_callN, e_gown, e_callO, e_seq, e_nx, e_drop, e_ret, e_retO, e_sif, e_set, e_par, e_parO, e_asg, e_raise, e_for, e_range1, e_items, e_part, e_sl, e_app, e_put, e_new, e_obd, e_comp, e_ez, e_heard, e_resd, e_reso, short, bindP, bindPs, isD, isnD, isNon, cmpD, ltD, leD, gtD, geD, addD, subD, mulD, fdivD, modD, powD, negD, ixD, absD, intD, lenD, tupleD, listD, Ob.d, h3]
  have e2 : mDv (mLst (mCons a (mCons b (mNil)))) r = .ok (.dv (.lst [d, e])) r := by simp [fnD, fnO, fnN, own0, startR, e_bind, e_pure, e_var, e_frz, e_os, e_dv, e_op, e_un, e_B, e_and, e_or, e_not, e_vand, e_vor, e_vnot, e_if, e_nil, e_cons, e_tup, e_lst, e_call, e_callN, e_gown, e_callO, e_seq, e_nx, e_drop, e_ret, e_retO, e_sif, e_set, e_par, e_parO, e_asg, e_raise, e_for, e_range1, e_items, e_part, e_sl, e_app, e_put, e_new, e_obd, e_comp, e_ez, e_heard, e_resd, e_reso, short, bindP, bindPs, isD, isnD, isNon, cmpD, ltD, leD, gtD, geD, addD, subD, mulD, fdivD, modD, powD, negD, ixD, absD, intD, lenD, tupleD, listD, Ob.d, h1, h2]
  rw [e_set, e_op, e1]
  dsimp only
  rw [e2]
  simp [fnD, fnO, fnN, own0, startR, e_bind, e_pure, e_var, e_frz, e_os, e_dv, e_op, e_un, e_B, e_and, e_or, e_not, e_vand, e_vor, e_vnot, e_if, e_nil, e_cons, e_tup, e_lst, e_call, e_callN, e_gown, e_callO, e_seq, e_nx, e_drop, e_ret, e_retO, e_sif, e_set, e_par, e_parO, e_asg, e_raise, e_for, e_range1, e_items, e_part, e_sl, e_app, e_put, e_new, e_obd, e_comp, e_ez, e_heard, e_resd, e_reso, short, bindP, bindPs, isD, isnD, isNon, cmpD, ltD, leD, gtD, geD, addD, subD, mulD, fdivD, modD, powD, negD, ixD, absD, intD, lenD, tupleD, listD, Ob.d, this]

theorem t1 (gk gp : Ob → List D → Ro) (gh : Rs → Rs) (gl gm : List D → Rs) (o o1 o2 : Ob) (kk : Nat) (x1 x2 x3 x4 x5 : Sl) (d : D) (e : gp o [.lst odds] = .ok d o1) : (sSet 1 (gOwn 0 (mCallO 0 gp (mCons (mLst (mCons (M.pure .non) (mCons (M.pure (.int 5)) (mCons (mTup (mCons (M.pure (.int 1)) (mNil))) (mCons (mTup (mCons (M.pure (.int 1)) (mCons (M.pure (.int 0)) (mNil)))) (mCons (mTup (mCons (M.pure (.int 1)) (mCons (M.pure (.int 6)) (mNil)))) (mCons (mTup (mCons (M.pure (.int 2)) (mCons (M.pure (.int 1)) (mNil)))) (mCons (mTup (mCons (M.pure (.int 0)) (mCons (M.pure (.int 2)) (mNil)))) (mCons (mTup (mCons (M.pure (.bl true)) (mCons (M.pure (.int 1)) (mNil)))) (mCons (mTup (mCons (M.pure (.int 1)) (mCons (M.pure (.bl true)) (mNil)))) (mCons (M.pure (.str "11")) (mCons (mTup (mCons (M.pure (.int 1)) (mCons (M.pure (.int 1)) (mCons (M.pure (.int 1)) (mNil))))) (mCons (mLst (mCons (M.pure .non) (mCons (M.pure (.int 1)) (mNil)))) (mNil)))))))))))))) (mNil))))) [.own kk o, x1, x2, x3, x4, x5] = .ok .nx [.own kk o1, .val (d), x2, x3, x4, x5] := by
  unfold odds at e
  simp [fnD, fnO, fnN, own0, startR, e_bind, e_pure, e_var, e_frz, e_os, e_dv, e_op, e_un, e_B, e_and, e_or, e_not, e_vand, e_vor, e_vnot, e_if, e_nil, e_cons, e_tup, e_lst, e_call, e_callN, e_gown, e_callO, e_seq, e_nx, e_drop, e_ret, e_retO, e_sif, e_set, e_par, e_parO, e_asg, e_raise, e_for, e_range1, e_items, e_part, e_sl, e_app, e_put, e_new, e_obd, e_comp, e_ez, e_heard, e_resd, e_reso, short, bindP, bindPs, isD, isnD, isNon, cmpD, ltD, leD, gtD, geD, addD, subD, mulD, fdivD, modD, powD, negD, ixD, absD, intD, lenD, tupleD, listD, Ob.d, e]

theorem t2 (gk gp : Ob → List D → Ro) (gh : Rs → Rs) (gl gm : List D → Rs) (o o1 o2 : Ob) (kk : Nat) (x1 x2 x3 x4 x5 : Sl) (d d2 : D) (e : gp o [.lst lows] = .ok d o1) (e2 : gp o1 [.lst bads] = .ok d2 o2) : (sAsg (.tp [.nm 2, .nm 3]) (mTup (mCons (gOwn 0 (mCallO 0 gp (mCons (mLst (mCons (mUn negD (mDv (M.pure (.int 1)))) (mCons (M.pure (.int 1001)) (mCons (M.pure .non) (mCons (M.pure (.bl true)) (mCons (M.pure (.str "0")) (mCons (mLst (mCons (M.pure (.int 0)) (mNil))) (mNil)))))))) (mNil)))) (mCons (gOwn 0 (mCallO 0 gp (mCons (mLst (mCons (mUn negD (mDv (M.pure (.int 1)))) (mCons (M.pure (.int 1001)) (mCons (M.pure .non) (mCons (M.pure (.bl false)) (mCons (M.pure (.str "3")) (mCons (mTup (mCons (M.pure (.int 1)) (mNil))) (mNil)))))))) (mNil)))) (mNil))))) [.own kk o, x1, x2, x3, x4, x5] = .ok .nx [.own kk o2, x1, .val (d), .val (d2), x4, x5] := by
  unfold lows at e
  unfold bads at e2
  simp [fnD, fnO, fnN, own0, startR, e_bind, e_pure, e_var, e_frz, e_os, e_dv, e_op, e_un, e_B, e_and, e_or, e_not, e_vand, e_vor, e_vnot, e_if, e_nil, e_cons, e_tup, e_lst, e_call, e_callN, e_gown, e_callO, e_seq, e_nx, e_drop, e_ret, e_retO, e_sif, e_set, e_par, e_parO, e_asg, e_raise, e_for, e_range1, e_items, e_part, e_sl, e_app, e_put, e_new, e_obd, e_comp, e_ez, e_heard, e_resd, e_reso, short, bindP, bindPs, isD, isnD, isNon, cmpD, ltD, leD, gtD, geD, addD, subD, mulD, fdivD, modD, powD, negD, ixD, absD, intD, lenD, tupleD, listD, Ob.d, e, e2]

theorem t3 (gk gp : Ob → List D → Ro) (gh : Rs → Rs) (gl gm : List D → Rs) (o o1 o2 : Ob) (kk : Nat) (x1 x2 x3 x4 x5 : Sl) (d : D) (e : gk o [] = .ok d o1) : (sSet 4 (gOwn 0 (mCallO 0 gk (mNil)))) [.own kk o, x1, x2, x3, x4, x5] = .ok .nx [.own kk o1, x1, x2, x3, .val (d), x5] := by
  simp [fnD, fnO, fnN, own0, startR, e_bind, e_pure, e_var, e_frz, e_os, e_dv, e_op, e_un, e_B, e_and, e_or, e_not, e_vand, e_vor, e_vnot, e_if, e_nil, e_cons, e_tup, e_lst, e_call, e_callN, e_gown, e_callO, e_seq, e_nx, e_drop, e_ret, e_retO, e_sif, e_set, e_par, e_parO, e_asg, e_raise, e_for, e_range1, e_items, e_part, e_sl, e_app, e_put, e_new, e_obd, e_comp, e_ez, e_heard, e_resd, e_reso, short, bindP, bindPs, isD, isnD, isNon, cmpD, ltD, leD, gtD, geD, addD, subD, mulD, fdivD, modD, powD, negD, ixD, absD, intD, lenD, tupleD, listD, Ob.d, e]

theorem hh (gh : Rs → Rs) (mb : M D) (r r1 : Rho) (s : Str) (h1 : ∀ s : Str, gh (bn s) = .ok (.str s)) (e : mb (vals r) = .err ⟨"BadNumber", [("part", .str s)]⟩ r1) : mHeard gh mb r = .ok (.str s) r := by
  have : lamO mb r = bn s := by unfold lamO; rw [e]
  rw [e_heard, this, h1]

theorem h1 (gh : Rs → Rs) (gl gm : List D → Rs) (o : Ob) (kk : Nat) (x5 : Sl) (odd low bad good glist : D) (h1 : ∀ s : Str, gh (bn s) = .ok (.str s)) (hl : listD good = some glist) (e : gl [odd, low, bad] = bn "kind") : (mHeard gh (mCall (fun ds => gl (ds ++ [])) (mCons (mVar 1) (mCons (mVar 2) (mCons (mVar 3) (mNil)))))) [.own kk o, .val odd, .val low, .val bad, .val good, x5] = .ok (.str "kind") [.own kk o, .val odd, .val low, .val bad, .val good, x5] := by
  have e' : ∃ r1, ((mCall (fun ds => gl (ds ++ [])) (mCons (mVar 1) (mCons (mVar 2) (mCons (mVar 3) (mNil))))) : M D) (vals [.own kk o, .val odd, .val low, .val bad, .val good, x5]) = .err ⟨"BadNumber", [("part", .str "kind")]⟩ r1 := by
    unfold listD at hl
    cases x5 <;> simp [fnD, fnO, fnN, own0, startR, e_bind, e_pure, e_var, e_frz, e_os, e_dv, e_op, e_un, e_B, e_and, e_or, e_not, e_vand, e_vor, e_vnot, e_if, e_nil, e_cons, e_tup, e_lst, e_call, e_callN, e_gown, e_callO, e_seq, e_nx, e_drop, e_ret, e_retO, e_sif, e_set, e_par, e_parO, e_asg, e_raise, e_for, e_range1, e_items, e_part, e_sl, e_app, e_put, e_new, e_obd, e_comp, e_ez, e_heard, e_resd, e_reso, short, bindP, bindPs, isD, isnD, isNon, cmpD, ltD, leD, gtD, geD, addD, subD, mulD, fdivD, modD, powD, negD, ixD, absD, intD, lenD, tupleD, listD, Ob.d, vals, e, hl]
  obtain ⟨r1, e'⟩ := e'
  exact hh _ _ _ _ _ h1 e'

theorem h2 (gh : Rs → Rs) (gl gm : List D → Rs) (o : Ob) (kk : Nat) (x5 : Sl) (odd low bad good glist : D) (h1 : ∀ s : Str, gh (bn s) = .ok (.str s)) (hl : listD good = some glist) (e : gl [good, low, bad] = bn "cell") : (mHeard gh (mCall (fun ds => gl (ds ++ [])) (mCons (mVar 4) (mCons (mVar 2) (mCons (mVar 3) (mNil)))))) [.own kk o, .val odd, .val low, .val bad, .val good, x5] = .ok (.str "cell") [.own kk o, .val odd, .val low, .val bad, .val good, x5] := by
  have e' : ∃ r1, ((mCall (fun ds => gl (ds ++ [])) (mCons (mVar 4) (mCons (mVar 2) (mCons (mVar 3) (mNil))))) : M D) (vals [.own kk o, .val odd, .val low, .val bad, .val good, x5]) = .err ⟨"BadNumber", [("part", .str "cell")]⟩ r1 := by
    unfold listD at hl
    cases x5 <;> simp [fnD, fnO, fnN, own0, startR, e_bind, e_pure, e_var, e_frz, e_os, e_dv, e_op, e_un, e_B, e_and, e_or, e_not, e_vand, e_vor, e_vnot, e_if, e_nil, e_cons, e_tup, e_lst, e_call, e_callN, e_gown, e_callO, e_seq, e_nx, e_drop, e_ret, e_retO, e_sif, e_set, e_par, e_parO, e_asg, e_raise, e_for, e_range1, e_items, e_part, e_sl, e_app, e_put, e_new, e_obd, e_comp, e_ez, e_heard, e_resd, e_reso, short, bindP, bindPs, isD, isnD, isNon, cmpD, ltD, leD, gtD, geD, addD, subD, mulD, fdivD, modD, powD, negD, ixD, absD, intD, lenD, tupleD, listD, Ob.d, vals, e, hl]
  obtain ⟨r1, e'⟩ := e'
  exact hh _ _ _ _ _ h1 e'

theorem h3 (gh : Rs → Rs) (gl gm : List D → Rs) (o : Ob) (kk : Nat) (x5 : Sl) (odd low bad good glist : D) (h1 : ∀ s : Str, gh (bn s) = .ok (.str s)) (hl : listD good = some glist) (e : gl [good, .int 0, bad] = bn "tick") : (mHeard gh (mCall (fun ds => gl (ds ++ [])) (mCons (mVar 4) (mCons (M.pure (.int 0)) (mCons (mVar 3) (mNil)))))) [.own kk o, .val odd, .val low, .val bad, .val good, x5] = .ok (.str "tick") [.own kk o, .val odd, .val low, .val bad, .val good, x5] := by
  have e' : ∃ r1, ((mCall (fun ds => gl (ds ++ [])) (mCons (mVar 4) (mCons (M.pure (.int 0)) (mCons (mVar 3) (mNil))))) : M D) (vals [.own kk o, .val odd, .val low, .val bad, .val good, x5]) = .err ⟨"BadNumber", [("part", .str "tick")]⟩ r1 := by
    unfold listD at hl
    cases x5 <;> simp [fnD, fnO, fnN, own0, startR, e_bind, e_pure, e_var, e_frz, e_os, e_dv, e_op, e_un, e_B, e_and, e_or, e_not, e_vand, e_vor, e_vnot, e_if, e_nil, e_cons, e_tup, e_lst, e_call, e_callN, e_gown, e_callO, e_seq, e_nx, e_drop, e_ret, e_retO, e_sif, e_set, e_par, e_parO, e_asg, e_raise, e_for, e_range1, e_items, e_part, e_sl, e_app, e_put, e_new, e_obd, e_comp, e_ez, e_heard, e_resd, e_reso, short, bindP, bindPs, isD, isnD, isNon, cmpD, ltD, leD, gtD, geD, addD, subD, mulD, fdivD, modD, powD, negD, ixD, absD, intD, lenD, tupleD, listD, Ob.d, vals, e, hl]
  obtain ⟨r1, e'⟩ := e'
  exact hh _ _ _ _ _ h1 e'

theorem h4 (gh : Rs → Rs) (gl gm : List D → Rs) (o : Ob) (kk : Nat) (x5 : Sl) (odd low bad good glist : D) (h1 : ∀ s : Str, gh (bn s) = .ok (.str s)) (hl : listD good = some glist) (e : gm [odd, low, odd, bad] = bn "one") : (mHeard gh (mCall (fun ds => gm (ds ++ [])) (mCons (mVar 1) (mCons (mVar 2) (mCons (mVar 1) (mCons (mVar 3) (mNil))))))) [.own kk o, .val odd, .val low, .val bad, .val good, x5] = .ok (.str "one") [.own kk o, .val odd, .val low, .val bad, .val good, x5] := by
  have e' : ∃ r1, ((mCall (fun ds => gm (ds ++ [])) (mCons (mVar 1) (mCons (mVar 2) (mCons (mVar 1) (mCons (mVar 3) (mNil)))))) : M D) (vals [.own kk o, .val odd, .val low, .val bad, .val good, x5]) = .err ⟨"BadNumber", [("part", .str "one")]⟩ r1 := by
    unfold listD at hl
    cases x5 <;> simp [fnD, fnO, fnN, own0, startR, e_bind, e_pure, e_var, e_frz, e_os, e_dv, e_op, e_un, e_B, e_and, e_or, e_not, e_vand, e_vor, e_vnot, e_if, e_nil, e_cons, e_tup, e_lst, e_call, e_callN, e_gown, e_callO, e_seq, e_nx, e_drop, e_ret, e_retO, e_sif, e_set, e_par, e_parO, e_asg, e_raise, e_for, e_range1, e_items, e_part, e_sl, e_app, e_put, e_new, e_obd, e_comp, e_ez, e_heard, e_resd, e_reso, short, bindP, bindPs, isD, isnD, isNon, cmpD, ltD, leD, gtD, geD, addD, subD, mulD, fdivD, modD, powD, negD, ixD, absD, intD, lenD, tupleD, listD, Ob.d, vals, e, hl]
  obtain ⟨r1, e'⟩ := e'
  exact hh _ _ _ _ _ h1 e'

theorem h5 (gh : Rs → Rs) (gl gm : List D → Rs) (o : Ob) (kk : Nat) (x5 : Sl) (odd low bad good glist : D) (h1 : ∀ s : Str, gh (bn s) = .ok (.str s)) (hl : listD good = some glist) (e : gm [good, low, odd, bad] = bn "place") : (mHeard gh (mCall (fun ds => gm (ds ++ [])) (mCons (mVar 4) (mCons (mVar 2) (mCons (mVar 1) (mCons (mVar 3) (mNil))))))) [.own kk o, .val odd, .val low, .val bad, .val good, x5] = .ok (.str "place") [.own kk o, .val odd, .val low, .val bad, .val good, x5] := by
  have e' : ∃ r1, ((mCall (fun ds => gm (ds ++ [])) (mCons (mVar 4) (mCons (mVar 2) (mCons (mVar 1) (mCons (mVar 3) (mNil)))))) : M D) (vals [.own kk o, .val odd, .val low, .val bad, .val good, x5]) = .err ⟨"BadNumber", [("part", .str "place")]⟩ r1 := by
    unfold listD at hl
    cases x5 <;> simp [fnD, fnO, fnN, own0, startR, e_bind, e_pure, e_var, e_frz, e_os, e_dv, e_op, e_un, e_B, e_and, e_or, e_not, e_vand, e_vor, e_vnot, e_if, e_nil, e_cons, e_tup, e_lst, e_call, e_callN, e_gown, e_callO, e_seq, e_nx, e_drop, e_ret, e_retO, e_sif, e_set, e_par, e_parO, e_asg, e_raise, e_for, e_range1, e_items, e_part, e_sl, e_app, e_put, e_new, e_obd, e_comp, e_ez, e_heard, e_resd, e_reso, short, bindP, bindPs, isD, isnD, isNon, cmpD, ltD, leD, gtD, geD, addD, subD, mulD, fdivD, modD, powD, negD, ixD, absD, intD, lenD, tupleD, listD, Ob.d, vals, e, hl]
  obtain ⟨r1, e'⟩ := e'
  exact hh _ _ _ _ _ h1 e'

theorem h6 (gh : Rs → Rs) (gl gm : List D → Rs) (o : Ob) (kk : Nat) (x5 : Sl) (odd low bad good glist : D) (h1 : ∀ s : Str, gh (bn s) = .ok (.str s)) (hl : listD good = some glist) (e : gm [good, .int 3, odd, bad] = bn "other") : (mHeard gh (mCall (fun ds => gm (ds ++ [])) (mCons (mVar 4) (mCons (M.pure (.int 3)) (mCons (mVar 1) (mCons (mVar 3) (mNil))))))) [.own kk o, .val odd, .val low, .val bad, .val good, x5] = .ok (.str "other") [.own kk o, .val odd, .val low, .val bad, .val good, x5] := by
  have e' : ∃ r1, ((mCall (fun ds => gm (ds ++ [])) (mCons (mVar 4) (mCons (M.pure (.int 3)) (mCons (mVar 1) (mCons (mVar 3) (mNil)))))) : M D) (vals [.own kk o, .val odd, .val low, .val bad, .val good, x5]) = .err ⟨"BadNumber", [("part", .str "other")]⟩ r1 := by
    unfold listD at hl
    cases x5 <;> simp [fnD, fnO, fnN, own0, startR, e_bind, e_pure, e_var, e_frz, e_os, e_dv, e_op, e_un, e_B, e_and, e_or, e_not, e_vand, e_vor, e_vnot, e_if, e_nil, e_cons, e_tup, e_lst, e_call, e_callN, e_gown, e_callO, e_seq, e_nx, e_drop, e_ret, e_retO, e_sif, e_set, e_par, e_parO, e_asg, e_raise, e_for, e_range1, e_items, e_part, e_sl, e_app, e_put, e_new, e_obd, e_comp, e_ez, e_heard, e_resd, e_reso, short, bindP, bindPs, isD, isnD, isNon, cmpD, ltD, leD, gtD, geD, addD, subD, mulD, fdivD, modD, powD, negD, ixD, absD, intD, lenD, tupleD, listD, Ob.d, vals, e, hl]
  obtain ⟨r1, e'⟩ := e'
  exact hh _ _ _ _ _ h1 e'

theorem h7 (gh : Rs → Rs) (gl gm : List D → Rs) (o : Ob) (kk : Nat) (x5 : Sl) (odd low bad good glist : D) (h1 : ∀ s : Str, gh (bn s) = .ok (.str s)) (hl : listD good = some glist) (e : gm [good, .int 3, glist, bad] = bn "spot") : (mHeard gh (mCall (fun ds => gm (ds ++ [])) (mCons (mVar 4) (mCons (M.pure (.int 3)) (mCons (mUn listD (mDv (mVar 4))) (mCons (mVar 3) (mNil))))))) [.own kk o, .val odd, .val low, .val bad, .val good, x5] = .ok (.str "spot") [.own kk o, .val odd, .val low, .val bad, .val good, x5] := by
  have e' : ∃ r1, ((mCall (fun ds => gm (ds ++ [])) (mCons (mVar 4) (mCons (M.pure (.int 3)) (mCons (mUn listD (mDv (mVar 4))) (mCons (mVar 3) (mNil)))))) : M D) (vals [.own kk o, .val odd, .val low, .val bad, .val good, x5]) = .err ⟨"BadNumber", [("part", .str "spot")]⟩ r1 := by
    unfold listD at hl
    cases x5 <;> simp [fnD, fnO, fnN, own0, startR, e_bind, e_pure, e_var, e_frz, e_os, e_dv, e_op, e_un, e_B, e_and, e_or, e_not, e_vand, e_vor, e_vnot, e_if, e_nil, e_cons, e_tup, e_lst, e_call, e_callN, e_gown, e_callO, e_seq, e_nx, e_drop, e_ret, e_retO, e_sif, e_set, e_par, e_parO, e_asg, e_raise, e_for, e_range1, e_items, e_part, e_sl, e_app, e_put, e_new, e_obd, e_comp, e_ez, e_heard, e_resd, e_reso, short, bindP, bindPs, isD, isnD, isNon, cmpD, ltD, leD, gtD, geD, addD, subD, mulD, fdivD, modD, powD, negD, ixD, absD, intD, lenD, tupleD, listD, Ob.d, vals, e, hl]
  obtain ⟨r1, e'⟩ := e'
  exact hh _ _ _ _ _ h1 e'

theorem t7 (x0 x1 x2 x3 x4 : Sl) (l : List D) (h : eqD (.lst l) (.lst [.str "kind", .str "cell", .str "tick", .str "one", .str "place", .str "other", .str "spot"]) = some (.bl true)) : (sRet (mOp eqD (mDv (mVar 5)) (mDv (mLst (mCons (M.pure (.str "kind")) (mCons (M.pure (.str "cell")) (mCons (M.pure (.str "tick")) (mCons (M.pure (.str "one")) (mCons (M.pure (.str "place")) (mCons (M.pure (.str "other")) (mCons (M.pure (.str "spot")) (mNil)))))))))))) [x0, x1, x2, x3, x4, .val (.lst l)] = .ok (.rt (.bl true)) [x0, x1, x2, x3, x4, .val (.lst l)] := by
  simp [fnD, fnO, fnN, own0, startR, e_bind, e_pure, e_var, e_frz, e_os, e_dv, e_op, e_un, e_B, e_and, e_or, e_not, e_vand, e_vor, e_vnot, e_if, e_nil, e_cons, e_tup, e_lst, e_call, e_callN, e_gown, e_callO, e_seq, e_nx, e_drop, e_ret, e_retO, e_sif, e_set, e_par, e_parO, e_asg, e_raise, e_for, e_range1, e_items, e_part, e_sl, e_app, e_put, e_new, e_obd, e_comp, e_ez, e_heard, e_resd, e_reso, short, bindP, bindPs, isD, isnD, isNon, cmpD, ltD, leD, gtD, geD, addD, subD, mulD, fdivD, modD, powD, negD, ixD, absD, intD, lenD, tupleD, listD, Ob.d, h]
theorem refused_ (ns : List Int) (n : Nat) (o : Ob) (h : RI ns n o) (hn : n ≤ 8000) : ∃ o', f__law_refused_right o [] = .ok (.bl true) o' := by
  obtain ⟨odd, o1, e1, m1, r1⟩ := pick_ ns n o odds h (by omega) (by unfold odds; simp) (by unfold odds; simp)
  obtain ⟨low, o2, e2, m2, r2⟩ := pick_ ns _ o1 lows r1 (by omega) (by unfold lows; simp) (by unfold lows; simp)
  obtain ⟨bad, o3, e3, m3, r3⟩ := pick_ ns _ o2 bads r2 (by omega) (by unfold bads; simp) (by unfold bads; simp)
  obtain ⟨a, w, o4, e4, k4, r4⟩ := kind_ ns _ o3 r3 (by omega)
  have b1 := odd_no odd m1
  have b2 := low_no low m2
  have b3 := bad_no bad m3
  have hg : listD (.tup [.int a, .int w]) = some (.lst [.int a, .int w]) := rfl
  refine ⟨o4, fnO_rt (r := [.val odd, .val low, .val bad, .val (.tup [.int a, .int w]), .val (.lst [.str "kind", .str "cell", .str "tick", .str "one", .str "place", .str "other", .str "spot"])]) ((seq_nx (t1 f__law_kind _ f__law_heard f_line_at f_meeting _ _ o1 _ _ _ _ _ _ _ e1)).trans ((seq_nx (t2 f__law_kind _ f__law_heard f_line_at f_meeting _ _ _ _ _ _ _ _ _ _ _ e2 e3)).trans ((seq_nx (t3 _ f__law_pick f__law_heard f_line_at f_meeting _ _ o4 _ _ _ _ _ _ _ e4)).trans ?_)))⟩
  have w1 := h1 f__law_heard f_line_at f_meeting o4 1 .no odd low bad (.tup [.int a, .int w]) _ heard_err hg (r_kind b1)
  have w2 := h2 f__law_heard f_line_at f_meeting o4 1 .no odd low bad (.tup [.int a, .int w]) _ heard_err hg (r_cell k4 b2)
  have w3 := h3 f__law_heard f_line_at f_meeting o4 1 .no odd low bad (.tup [.int a, .int w]) _ heard_err hg (r_tick k4 (by omega) (by omega) b3)
  refine (seq_nx (lst3 _ _ _ _ _ _ _ w1 w2 w3)).trans ?_
  have w4 := h4 f__law_heard f_line_at f_meeting o4 1 (.val (.lst [.str "kind", .str "cell", .str "tick"])) odd low bad (.tup [.int a, .int w]) _ heard_err hg (r_one b1)
  have w5 := h5 f__law_heard f_line_at f_meeting o4 1 (.val (.lst [.str "kind", .str "cell", .str "tick"])) odd low bad (.tup [.int a, .int w]) _ heard_err hg (r_place k4 b2)
  refine (seq_nx (add2 _ _ _ _ _ _ w4 w5 rfl (by simp))).trans ?_
  have w6 := h6 f__law_heard f_line_at f_meeting o4 1 (.val (.lst [.str "kind", .str "cell", .str "tick", .str "one", .str "place"])) odd low bad (.tup [.int a, .int w]) _ heard_err hg (r_other k4 (by omega) (by omega) b1)
  have w7 := h7 f__law_heard f_line_at f_meeting o4 1 (.val (.lst [.str "kind", .str "cell", .str "tick", .str "one", .str "place"])) odd low bad (.tup [.int a, .int w]) _ heard_err hg (r_spot k4 (by omega) (by omega) (.inr rfl) k4 b3)
  refine (seq_nx (add2 _ _ _ _ _ _ w6 w7 rfl (by simp))).trans ?_
  exact t7 _ _ _ _ _ _ said_eq

end DL
end

section
set_option Elab.async false
set_option linter.all false
set_option maxRecDepth 100000
set_option maxHeartbeats 4000000
namespace DL
open PySem L2
theorem strOk_of (s : String) : PyData.strOk (Str.ofString s) = true := by
  rw [Str.ofString_eq_toList]
  unfold PyData.strOk
  simp
  intro c h
  have := c.valid
  rcases this with h | h
  · have : c.val.toNat < 0xd800 := h
    show c.val.toNat < _
    omega
  · have : c.val.toNat < 0x110000 := h.2
    show c.val.toNat < _
    omega
theorem ne_str (s : String) : neD (.str (Str.ofString s)) (.str (Str.ofString s)) = some (.bl false) := by
  have h := strOk_of s
  unfold neD eqB
  simp [toP, SeqAt.shaped, PyData.canLay0, PyData.depth, h, PyData.eqv]
theorem ne_optD (o : Option Nat) : neD (optD o) (optD o) = some (.bl false) := by
  cases o with
  | none => rfl
  | some t => unfold optD; rw [n_int]; simp
theorem repr_optD (o : Option Nat) (h : ∀ t, o = some t → t < 1000000) : ∃ s : String, reprD (optD o) = some (.str (Str.ofString s)) := by
  cases o with
  | none => exact ⟨"None", rfl⟩
  | some t =>
    have := h t rfl
    refine ⟨toString (t : Int), ?_⟩
    unfold optD reprD
    simp
    omega
theorem meet_lt {f g : Int → Int} : ∀ {n t s : Nat}, meetF f g n t = some s → s < t + n
  | 0, _, _, h => by cases h
  | n + 1, t, s, h => by
    unfold meetF at h
    split at h
    · cases h
    · split at h
      · cases h; omega
      · have := meet_lt h; omega
theorem turn_ (ns : List Int) (n : Nat) (o : Ob) (h : RI ns n o) (hn : n ≤ 1000) (x0 x2 x3 x4 x5 x6 x7 x8 x9 x10 x11 x12 x13 : Sl) :
    ∃ (o' : Ob) (y3 y4 y5 y6 y7 y8 y9 y10 y11 y12 : Sl), m_law_l1 [x0, .own 0 o, x2, x3, x4, x5, x6, x7, x8, x9, x10, x11, x12, x13] = .ok .nx [x0, .own 0 o', x2, y3, y4, y5, y6, y7, y8, y9, y10, y11, y12, x13] ∧ RI ns (n + 40) o' := by
  obtain ⟨a, w, o1, e1, k1, r1⟩ := kind_ ns n o h (by omega)
  obtain ⟨v1, o2, e2, v10, v11, r2⟩ := draw ns _ o1 20 r1 (by omega) (by omega) (by omega)
  obtain ⟨v2, o3, e3, v20, v21, r3⟩ := draw ns _ o2 1001 r2 (by omega) (by omega) (by omega)
  obtain ⟨dc, o4, e4, m4, r4⟩ := pick_ ns _ o3 [.int 0, .int 1, .int v1, .int v2] r3 (by omega) (by simp) (by simp)
  obtain ⟨c, rfl, c0, c1⟩ : ∃ c : Int, dc = .int c ∧ 0 ≤ c ∧ c ≤ 1000 := by
    simp only [List.mem_cons, List.not_mem_nil, or_false] at m4
    rcases m4 with rfl | rfl | rfl | rfl
    · exact ⟨_, rfl, by omega, by omega⟩
    · exact ⟨_, rfl, by omega, by omega⟩
    · exact ⟨_, rfl, by omega, by omega⟩
    · exact ⟨_, rfl, by omega, by omega⟩
  obtain ⟨v3, o5, e5, v30, v31, r5⟩ := draw ns _ o4 60 r4 (by omega) (by omega) (by omega)
  obtain ⟨v4, o6, e6, v40, v41, r6⟩ := draw ns _ o5 1001 r5 (by omega) (by omega) (by omega)
  obtain ⟨dt, o7, e7, m7, r7⟩ := pick_ ns _ o6 [.int 0, .int 1, .int v3, .int v4] r6 (by omega) (by simp) (by simp)
  obtain ⟨T, rfl, T1⟩ : ∃ T : Nat, dt = .int T ∧ T ≤ 1000 := by
    simp only [List.mem_cons, List.not_mem_nil, or_false] at m7
    rcases m7 with rfl | rfl | rfl | rfl
    · exact ⟨0, rfl, by omega⟩
    · exact ⟨1, rfl, by omega⟩
    · exact ⟨v3.toNat, by congr 1; omega, by omega⟩
    · exact ⟨v4.toNat, by congr 1; omega, by omega⟩
  have g1 := gone_ (c := c) k1 T (by omega)
  have a1 : atI (plist c a w (T + 1)) (-1) = some (.int (at_ c a w T)) := by
    rw [plist_succ]
    have e : (-1 + ((T : Int) + 1)).toNat = T := by omega
    have e2 : (1 : Int) ≤ (T : Int) + 1 := by omega
    unfold atI ixN
    simp [plist_len, e, e2, List.getElem?_append]
  have l1 := line_pair (d := .tup [.int a, .int w]) (t := T) (.inl rfl) k1 c0 c1 (by omega) (by omega)
  have l2 := line_pair (d := .lst [.int a, .int w]) (t := T) (.inr rfl) k1 c0 c1 (by omega) (by omega)
  have u1 : -2000 ≤ at_ c a w T ∧ at_ c a w T ≤ 2000 := by
    obtain ⟨h1, h2, h3, h4, h5⟩ := k1
    unfold at_
    rw [Int.fdiv_eq_ediv_of_nonneg _ (by omega)]
    have hw : w = 1 ∨ w = 2 ∨ w = 3 ∨ w = 4 ∨ w = 5 := by omega
    have ha : a = -1 ∨ a = 0 ∨ a = 1 := by omega
    rcases ha with rfl | rfl | rfl <;> rcases hw with rfl | rfl | rfl | rfl | rfl <;> omega
  obtain ⟨sx, p1, p2⟩ : ∃ s : String, reprD (if 0 ≤ at_ c a w T then .int (at_ c a w T) else .non) = some (.str (Str.ofString s)) ∧ neD (if 0 ≤ at_ c a w T then .int (at_ c a w T) else .non) (if 0 ≤ at_ c a w T then .int (at_ c a w T) else .non) = some (.bl false) := by
    split
    · refine ⟨toString (at_ c a w T), ?_, by rw [n_int]; simp⟩
      unfold reprD
      simp
      omega
    · exact ⟨"None", rfl, rfl⟩
  obtain ⟨a2, w2, o8, e8, k8, r8⟩ := kind_ ns _ o7 r7 (by omega)
  obtain ⟨b, v, o9, e9, k9, r9⟩ := kind_ ns _ o8 r8 (by omega)
  obtain ⟨df, o10, e10, m10, r10⟩ := pick_ ns _ o9 [.int 6, .int 20, .int 60] r9 (by omega) (by simp) (by simp)
  obtain ⟨far, rfl, f0, f1⟩ : ∃ c : Int, df = .int c ∧ 1 ≤ c ∧ c ≤ 60 := by
    simp only [List.mem_cons, List.not_mem_nil, or_false] at m10
    rcases m10 with rfl | rfl | rfl
    · exact ⟨_, rfl, by omega, by omega⟩
    · exact ⟨_, rfl, by omega, by omega⟩
    · exact ⟨_, rfl, by omega, by omega⟩
  obtain ⟨p, o11, e11, p0, pl, r11⟩ := draw ns _ o10 far r10 (by omega) (by omega) (by omega)
  obtain ⟨q, o12, e12, q0, ql, r12⟩ := draw ns _ o11 far r11 (by omega) (by omega) (by omega)
  have F := first_ k8 k9 p0 (by omega) q0 (by omega)
  have M1 := meet_pair (p := p) (q := q) (d1 := .tup [.int a2, .int w2]) (d2 := .tup [.int b, .int v]) (.inl rfl) (.inl rfl) k8 k9 p0 (by omega) q0 (by omega)
  have M2 := meet_pair (p := p) (q := q) (d1 := .tup [.int a2, .int w2]) (d2 := .lst [.int b, .int v]) (.inl rfl) (.inr rfl) k8 k9 p0 (by omega) q0 (by omega)
  have M3 := meet_pair (p := q) (q := p) (d1 := .tup [.int b, .int v]) (d2 := .tup [.int a2, .int w2]) (.inl rfl) (.inl rfl) k9 k8 q0 (by omega) p0 (by omega)
  have M4 := meet_pair (p := p) (q := p) (d1 := .tup [.int a2, .int w2]) (d2 := .tup [.int a2, .int w2]) (.inl rfl) (.inl rfl) k8 k8 p0 (by omega) p0 (by omega)
  have hd : (p - q).natAbs = (q - p).natAbs := by omega
  rw [meet_comm, hd, meet_same k8 k9 p0 _ (by omega)] at M3
  rw [meet_same k8 k9 p0 _ (by omega)] at M1 M2
  rw [meet_self p0 _ (by omega)] at M4
  generalize hz : meetF (at_ p a2 w2) (at_ q b v) (20 * (q - p).natAbs + 41) 0 = z at *
  obtain ⟨sy, q1⟩ := repr_optD z (fun t e => by subst e; have := meet_lt hz; omega)
  refine ⟨o12, .val (.tup [.int a, .int w]), .val (.int c), .val (.int T), .val (.int (at_ c a w T)), .val (.tup [.int a2, .int w2]), .val (.tup [.int b, .int v]), .val (.int far), .val (.int p), .val (.int q), .val (optD z), ?_, r12.mono (by omega)⟩
  unfold m_law_l1
  refine (seq_nx (s1 f__law_kind f__law_pick f__law_draw_on f__law_gone f_line_at f_meeting f__law_first o o1 o2 o3 o4 x0 x2 x3 x4 x5 x6 x7 x8 x9 x10 x11 x12 x13 0 v1 v2 _ _ e1 e2 e3 e4)).trans ?_
  refine (seq_nx (s2 f__law_kind f__law_pick f__law_draw_on f__law_gone f_line_at f_meeting f__law_first o4 o4 o5 o6 o7 x0 x2 _ _ x5 x6 x7 x8 x9 x10 x11 x12 x13 v3 v4 _ e5 e6 e7)).trans ?_
  refine (seq_nx (s3 f__law_kind f__law_pick f__law_draw_on f__law_gone f_line_at f_meeting f__law_first o7 o7 o7 o7 o7 x0 x2 .no .no .no x6 x7 x8 x9 x10 x11 x12 x13 _ _ _ _ _ g1 a1)).trans ?_
  refine (seq_nx (s4 f__law_kind f__law_pick f__law_draw_on f__law_gone f_line_at f_meeting f__law_first o7 o7 o7 o7 o7 x0 x2 .no .no .no .no x7 x8 x9 x10 x11 x12 x13 a w _ _ _ _ _ l1 l2 rfl p1 (ne_str sx) p2)).trans ?_
  refine (seq_nx (s5 f__law_kind f__law_pick f__law_draw_on f__law_gone f_line_at f_meeting f__law_first o7 o8 o9 o9 o9 x0 x2 _ _ _ _ x7 x8 x9 x10 x11 x12 x13 _ _ e8 e9)).trans ?_
  refine (seq_nx (s6 f__law_kind f__law_pick f__law_draw_on f__law_gone f_line_at f_meeting f__law_first o9 o10 o9 o9 o9 x0 x2 _ _ _ _ _ _ x9 x10 x11 x12 x13 _ e10)).trans ?_
  refine (seq_nx (s7 f__law_kind f__law_pick f__law_draw_on f__law_gone f_line_at f_meeting f__law_first o10 o11 o12 o9 o9 x0 x2 _ _ _ _ _ _ .no x10 x11 x12 x13 _ _ _ e11 e12)).trans ?_
  refine (seq_nx (s8 f__law_kind f__law_pick f__law_draw_on f__law_gone f_line_at f_meeting f__law_first o12 o12 o12 o12 o12 x0 x2 _ _ _ _ .no .no _ .no .no x12 x13 _ _ _ _ _ F)).trans ?_
  refine (seq_nx (s9 f__law_kind f__law_pick f__law_draw_on f__law_gone f_line_at f_meeting f__law_first o12 o12 o12 o12 o12 x0 x2 _ _ _ _ .no .no _ .no .no .no x13 _ _ _ _ _ _ _ M1 M2 q1 (ne_str sy) (ne_optD z))).trans ?_
  exact s10 f__law_kind f__law_pick f__law_draw_on f__law_gone f_line_at f_meeting f__law_first o12 o12 o12 o12 o12 x0 x2 _ _ _ _ .no .no _ .no .no .no x13 _ _ _ _ _ M3 M4 (ne_optD z) rfl
end DL
end

section
set_option Elab.async false
set_option linter.all false
set_option maxRecDepth 100000
set_option maxHeartbeats 4000000
namespace DL
open PySem L2
theorem law_loop (ns : List Int) (x0 x13 : Sl) : ∀ (k t n : Nat) (o : Ob) (x2 x3 x4 x5 x6 x7 x8 x9 x10 x11 x12 : Sl), RI ns n o → n + 40 * k ≤ 1000 →
    ∃ (o' : Ob) (y2 y3 y4 y5 y6 y7 y8 y9 y10 y11 y12 : Sl), loopD (.nm 2) m_law_l1 (rng k t) [x0, .own 0 o, x2, x3, x4, x5, x6, x7, x8, x9, x10, x11, x12, x13] = .ok .nx [x0, .own 0 o', y2, y3, y4, y5, y6, y7, y8, y9, y10, y11, y12, x13] ∧ RI ns (n + 40 * k) o'
  | 0, t, n, o, x2, x3, x4, x5, x6, x7, x8, x9, x10, x11, x12, h, _ => ⟨o, _, _, _, _, _, _, _, _, _, _, _, rfl, h⟩
  | k + 1, t, n, o, x2, x3, x4, x5, x6, x7, x8, x9, x10, x11, x12, h, hn => by
    obtain ⟨o1, y3, y4, y5, y6, y7, y8, y9, y10, y11, y12, e1, r1⟩ := turn_ ns n o h (by omega) x0 (.val (.int t)) x3 x4 x5 x6 x7 x8 x9 x10 x11 x12 x13
    obtain ⟨o2, z2, z3, z4, z5, z6, z7, z8, z9, z10, z11, z12, e2, r2⟩ := law_loop ns x0 x13 k (t + 1) (n + 40) o1 (.val (.int t)) y3 y4 y5 y6 y7 y8 y9 y10 y11 y12 r1 (by omega)
    refine ⟨o2, z2, z3, z4, z5, z6, z7, z8, z9, z10, z11, z12, ?_, r2.mono (by omega)⟩
    rw [rng_succ, e_loop1]
    simp only [bindP, List.set]
    rw [e1]
    exact e2
theorem L1 (gr : List D → Rn) (x0 : D) (o : Ob) (x2 x3 x4 x5 x6 x7 x8 x9 x10 x11 x12 x1 x13 : Sl) (e : gr [x0] = .ok o) : (sNew 1 (mCallN gr (mCons (mVar 0) (mNil)))) [.val x0, x1, x2, x3, x4, x5, x6, x7, x8, x9, x10, x11, x12, x13] = .ok .nx [.val x0, .own 0 o, x2, x3, x4, x5, x6, x7, x8, x9, x10, x11, x12, x13] := by
  simp [fnD, fnO, fnN, own0, startR, e_bind, e_pure, e_var, e_frz, e_os, e_dv, e_op, e_un, e_B, e_and, e_or, e_not, e_vand, e_vor, e_vnot, e_if, e_nil, e_cons, e_tup, e_lst, e_call, e_callN, e_gown, e_callO, e_seq, e_nx, e_drop, e_ret, e_retO, e_sif, e_set, e_par, e_parO, e_asg, e_raise, e_for, e_range1, e_items, e_part, e_sl, e_app, e_put, e_new, e_obd, e_comp, e_ez, e_heard, e_resd, e_reso, short, bindP, bindPs, isD, isnD, isNon, cmpD, ltD, leD, gtD, geD, addD, subD, mulD, fdivD, modD, powD, negD, ixD, absD, intD, lenD, tupleD, listD, Ob.d, e]
theorem L2a (m : M Fl) (r : Rho) : sFor (mRange1 (mCons (M.pure (.int 6)) (mNil))) (.nm 2) m r = loopD (.nm 2) m (rangeD 0 6) r := by
  have f : fit62 6 = true := rfl
  have e : mRange1 (mCons (M.pure (.int 6)) (mNil)) r = .ok (rangeD 0 6) r := by
    rw [e_range1]
    simp [fnD, fnO, fnN, own0, startR, e_bind, e_pure, e_var, e_frz, e_os, e_dv, e_op, e_un, e_B, e_and, e_or, e_not, e_vand, e_vor, e_vnot, e_if, e_nil, e_cons, e_tup, e_lst, e_call, e_callN, e_gown, e_callO, e_seq, e_nx, e_drop, e_ret, e_retO, e_sif, e_set, e_par, e_parO, e_asg, e_raise, e_for, e_range1, e_items, e_part, e_sl, e_app, e_put, e_new, e_obd, e_comp, e_ez, e_heard, e_resd, e_reso, short, bindP, bindPs, isD, isnD, isNon, cmpD, ltD, leD, gtD, geD, addD, subD, mulD, fdivD, modD, powD, negD, ixD, absD, intD, lenD, tupleD, listD, Ob.d, f]
  exact for_at e
theorem L3 (gm : List D → Rs) (x0 x1 : Sl) (x2 x3 x4 x5 x6 x7 x8 x9 x10 x11 x12 x13 : Sl) (d1 d2 d3 : D) (e1 : gm [.tup [.int 1, .int 4], .int 0, .tup [.int 1, .int 5], .int 10] = .ok d1) (e2 : gm [.tup [.int 1, .int 4], .int 0, .tup [.int 1, .int 5], .int 100] = .ok d2) (e3 : gm [.tup [.int 1, .int 4], .int 0, .tup [.int 1, .int 5], .int 1000] = .ok d3) : (sSet 13 (mObD (mComp (mItems (mTup (mCons (M.pure (.int 10)) (mCons (M.pure (.int 100)) (mCons (M.pure (.int 1000)) (mNil)))))) (.nm 9) (M.pure true) (mCall (fun ds => gm (ds ++ [])) (mCons (mTup (mCons (M.pure (.int 1)) (mCons (M.pure (.int 4)) (mNil)))) (mCons (M.pure (.int 0)) (mCons (mTup (mCons (M.pure (.int 1)) (mCons (M.pure (.int 5)) (mNil)))) (mCons (mVar 9) (mNil)))))) [9]))) [x0, x1, x2, x3, x4, x5, x6, x7, x8, x9, x10, x11, x12, x13] = .ok .nx [x0, x1, x2, x3, x4, x5, x6, x7, x8, .no, x10, x11, x12, .val (.lst [d1, d2, d3])] := by
  simp [fnD, fnO, fnN, own0, startR, e_bind, e_pure, e_var, e_frz, e_os, e_dv, e_op, e_un, e_B, e_and, e_or, e_not, e_vand, e_vor, e_vnot, e_if, e_nil, e_cons, e_tup, e_lst, e_call, e_callN, e_gown, e_callO, e_seq, e_nx, e_drop, e_ret, e_retO, e_sif, e_set, e_par, e_parO, e_asg, e_raise, e_for, e_range1, e_items, e_part, e_sl, e_app, e_put, e_new, e_obd, e_comp, e_ez, e_heard, e_resd, e_reso, short, bindP, bindPs, isD, isnD, isNon, cmpD, ltD, leD, gtD, geD, addD, subD, mulD, fdivD, modD, powD, negD, ixD, absD, intD, lenD, tupleD, listD, Ob.d, compL, wipeR, e1, e2, e3]
theorem L4 (gx : Ob → List D → Ro) (gl gf : List D → Rs) (x0 : Sl) (o o' : Ob) (x2 x3 x4 x5 x6 x7 x8 x9 x10 x11 x12 : Sl) (l : List D) (d : D) (e1 : gx o [] = .ok (.bl true) o') (e2 : gl [.tup [.int 1, .int 1], .int 1000, .int 1000] = .ok (.int 2000)) (e3 : gf [.tup [.int 1, .int 4], .int 0, .tup [.int 1, .int 5], .int 10] = .ok d) (e4 : eqD (.lst l) (.lst [d, .int 1984, .int 19984]) = some (.bl true)) (e5 : eqD (.int 2000) (.int 2000) = some (.bl true)) : (sRet (vAnd (gOwn 1 (mCallO 1 gx (mNil))) (vAnd (mOp eqD (mDv (mCall (fun ds => gl (ds ++ [])) (mCons (mTup (mCons (M.pure (.int 1)) (mCons (M.pure (.int 1)) (mNil)))) (mCons (M.pure (.int 1000)) (mCons (M.pure (.int 1000)) (mNil)))))) (mDv (M.pure (.int 2000)))) (mOp eqD (mDv (mVar 13)) (mDv (mLst (mCons (mCall (fun ds => gf (ds ++ [])) (mCons (mTup (mCons (M.pure (.int 1)) (mCons (M.pure (.int 4)) (mNil)))) (mCons (M.pure (.int 0)) (mCons (mTup (mCons (M.pure (.int 1)) (mCons (M.pure (.int 5)) (mNil)))) (mCons (M.pure (.int 10)) (mNil)))))) (mCons (M.pure (.int 1984)) (mCons (M.pure (.int 19984)) (mNil)))))))))) [x0, .own 0 o, x2, x3, x4, x5, x6, x7, x8, x9, x10, x11, x12, .val (.lst l)] = .ok (.rt (.bl true)) [x0, .own 0 o', x2, x3, x4, x5, x6, x7, x8, x9, x10, x11, x12, .val (.lst l)] := by
  simp [fnD, fnO, fnN, own0, startR, e_bind, e_pure, e_var, e_frz, e_os, e_dv, e_op, e_un, e_B, e_and, e_or, e_not, e_vand, e_vor, e_vnot, e_if, e_nil, e_cons, e_tup, e_lst, e_call, e_callN, e_gown, e_callO, e_seq, e_nx, e_drop, e_ret, e_retO, e_sif, e_set, e_par, e_parO, e_asg, e_raise, e_for, e_range1, e_items, e_part, e_sl, e_app, e_put, e_new, e_obd, e_comp, e_ez, e_heard, e_resd, e_reso, short, bindP, bindPs, isD, isnD, isNon, cmpD, ltD, leD, gtD, geD, addD, subD, mulD, fdivD, modD, powD, negD, ixD, absD, intD, lenD, tupleD, listD, Ob.d, e1, e2, e3, e4, e5]
theorem told_eq (z : Option Nat) : eqD (.lst [optD z, .int 1984, .int 19984]) (.lst [optD z, .int 1984, .int 19984]) = some (.bl true) := by
  unfold eqD eqB
  cases z <;> simp [optD, toP, toPs, SeqAt.shaped, PyData.canLay0, PyData.canLayAll0, PyData.depth, PyData.depthAll, PyData.eqv, PyData.eqvAll]
theorem f_law_ (ns : List Int) : f_law [.scr (ns.map D.int)] = .ok (.bl true) := by
  have r0 : RI (ns.take 60) 0 (.lst [.lst ((ns.take 60).map D.int), .int 0, .int 0]) := ⟨0, 0, rfl, by omega, by omega, by omega⟩
  obtain ⟨o', y2, y3, y4, y5, y6, y7, y8, y9, y10, y11, y12, e1, r1⟩ := law_loop (ns.take 60) (.val (.scr (ns.map D.int))) .no 6 0 0 _ .no .no .no .no .no .no .no .no .no .no .no r0 (by omega)
  obtain ⟨o2, e2⟩ := refused_ _ _ o' r1 (by omega)
  have k4 : Kd 1 4 := ⟨by omega, by omega, by omega, by omega, by omega⟩
  have k5 : Kd 1 5 := ⟨by omega, by omega, by omega, by omega, by omega⟩
  have k1 : Kd 1 1 := ⟨by omega, by omega, by omega, by omega, by omega⟩
  have m1 := meet_pair (p := 0) (q := 10) (.inl rfl) (.inl rfl) k4 k5 (by omega) (by omega) (by omega) (by omega)
  have m2 := meet_pair (p := 0) (q := 100) (.inl rfl) (.inl rfl) k4 k5 (by omega) (by omega) (by omega) (by omega)
  have m3 := meet_pair (p := 0) (q := 1000) (.inl rfl) (.inl rfl) k4 k5 (by omega) (by omega) (by omega) (by omega)
  have f1 := first_ (p := 0) (q := 10) k4 k5 (by omega) (by omega) (by omega) (by omega)
  rw [meet_same k4 k5 (by omega) _ (by omega)] at m1
  have A : ∀ (q : Int) (t : Nat), at_ 0 1 4 (t : Nat) = (t : Int) / 4 ∧ at_ q 1 5 (t : Nat) = q + (t : Int) / 5 := by
    intro q t
    unfold at_
    rw [Int.fdiv_eq_ediv_of_nonneg _ (by omega), Int.fdiv_eq_ediv_of_nonneg _ (by omega)]
    omega
  have n2 : meetF (at_ 0 1 4) (at_ (100 : Int) 1 5) (20 * (((100 : Int) - 0).natAbs + 20)) 0 = some 1984 := by
    have h := A 100
    apply meet_at
    · have := h 1984; omega
    · have := h 1984; omega
    · intro i hi; have := h i; omega
    · omega
    · omega
  have n3 : meetF (at_ 0 1 4) (at_ (1000 : Int) 1 5) (20 * (((1000 : Int) - 0).natAbs + 20)) 0 = some 19984 := by
    have h := A 1000
    apply meet_at
    · have := h 19984; omega
    · have := h 19984; omega
    · intro i hi; have := h i; omega
    · omega
    · omega
  rw [n2] at m2
  rw [n3] at m3
  have l1 := line_pair (d := .tup [.int 1, .int 1]) (c := 1000) (t := 1000) (.inl rfl) k1 (by omega) (by omega) (by omega) (by omega)
  have l2 : at_ 1000 1 1 1000 = 2000 := by decide
  rw [l2] at l1
  rw [← rangeD_rng] at e1
  generalize hz : meetF (at_ 0 1 4) (at_ 10 1 5) (20 * ((10 : Int) - 0).natAbs + 41) 0 = z at *
  refine fnD_rt (r := [.val (.scr (ns.map D.int)), .own 0 o2, y2, y3, y4, y5, y6, y7, y8, .no, y10, y11, y12, .val (.lst [optD z, .int 1984, .int 19984])]) ?_
  refine (seq_nx (L1 f__law_ruler _ _ .no .no .no .no .no .no .no .no .no .no .no .no .no (ruler_ ns))).trans ?_
  refine (seq_nx ((L2a _ _).trans e1)).trans ?_
  refine (seq_nx (L3 f_meeting _ _ _ _ _ _ _ _ _ _ _ _ _ _ _ _ _ m1 m2 m3)).trans ?_
  exact L4 f__law_refused_right f_line_at f__law_first _ _ _ _ _ _ _ _ _ _ _ _ _ _ _ _ e2 l1 f1 (told_eq z) rfl
end DL
end

section
set_option Elab.async false
set_option linter.all false
set_option maxRecDepth 100000
set_option maxHeartbeats 4000000
namespace DL
open PySem PySem.Spec L2 PyProof.Rows DLam
def cl60 (C R : Addr) (s : String) : Addr := if s = "BadNumber" then C else if s = "RowError" then R else 0
theorem cl60_B (C R : Addr) : cl60 C R "BadNumber" = C := by unfold cl60; rw [if_pos rfl]
theorem cl60_R (C R : Addr) : cl60 C R "RowError" = R := by unfold cl60; rw [if_neg (by decide), if_pos rfl]
def lamQ : Str := ((("_law_refused_right" : Str) ++ ".<locals>." : Str) ++ "<lambda>" : Str)
def tb60 (P : Addr) : Tbls := ⟨[(P, lamQ)]⟩
def noT (H : Hp) : Hp := fun b => match H b with
  | some (.tbl _) => none
  | x => x
theorem noT_ex (H : Hp) : Ex (noT H) H := fun b u h => by
  unfold noT at h
  split at h
  · cases h
  · exact h
theorem noT_nt (H : Hp) : Nt (noT H) := fun b ps h => by
  unfold noT at h
  split at h
  · cases h
  · rename_i q
    exact q ps h
theorem noT_at {H : Hp} {b : Addr} {u : HO} (h : H b = some u) (n : ∀ ps, u ≠ .tbl ps) : noT H b = some u := by
  unfold noT
  split
  · rename_i ps e
    rw [h] at e
    exact absurd (Option.some.inj e) (n ps)
  · exact h
theorem noT_sql {K : PySem.W.Frag} {H : Hp} {a : Addr} {xs : List V} (h : SqL K H a xs) : SqL K (noT H) a xs := by
  rcases h with (h | ⟨ob, h⟩) | h
  · exact .inl (.inl (noT_at h fun ps z => by cases z))
  · exact .inl (.inr ⟨ob, noT_at h fun ps z => by cases z⟩)
  · exact .inr h
theorem ints_rep {K : PySem.W.Frag} {cl : String → Addr} {G : Hp} : ∀ ns : List Int, RepL K cl G (ns.map V.int) (ns.map D.int)
  | [] => .nil
  | n :: ns => .cons (.int n) (ints_rep ns)
theorem spL (Pt : Addr) {K : PySem.W.Frag} {cl : String → Addr} {H : Hp} {a : Addr} {ns : List Int} (h : H Pt = some (.tbl #[])) (hs : SqL K H a (ns.map V.int)) : @spP (tb60 Pt) K cl 1 f_law [.ref a] H (fun v _ => v = .bl true) (fun _ _ _ => False) := by
  letI := tb60 Pt
  refine ⟨noT H, [.scr (ns.map D.int)], ?_, noT_ex H, noT_nt H, .cons (.scr (noT_sql hs) (ints_rep ns)) .nil, rfl, ?_⟩
  · intro p hp
    have e : p = (Pt, lamQ) := List.mem_singleton.mp hp
    subst e
    exact LamX.TabS.nil h
  · rw [f_law_ ns]
    intro v G' H' g r
    cases r
    rfl
theorem cxF {P : Program} (w : World) (H : Hp) (s : Shared) (e : Value) (s' : Shared) (h : L2.CX P w [] H s (fun _ _ _ => False) e s') : False := by
  obtain ⟨_, _, _, _, _, _, _, _, _, _, _, _, z⟩ := h
  exact z

open PySem.W PyProof.Rows PySem.HandSPX DX in
theorem all_mk {l : PySem.W.OpenLaw} {w : World} {K : PySem.W.Frag} {h : Heap} {mg : Str → Option Value} {fa : Addr} {fis_integer : Addr} {ocis_integer kVis_integer dcis_integer pmis_integer cdis_integer ctis_integer : Value} {odis_integer anis_integer : Option Addr} {slis_integer : Array (Option Value)} {fis_within : Addr} {ocis_within kVis_within dcis_within pmis_within cdis_within ctis_within : Value} {odis_within anis_within : Option Addr} {slis_within : Array (Option Value)} {fneed_number : Addr} {ocneed_number kVneed_number dcneed_number pmneed_number cdneed_number ctneed_number : Value} {odneed_number anneed_number : Option Addr} {slneed_number : Array (Option Value)} {fis_kind : Addr} {ocis_kind kVis_kind dcis_kind pmis_kind cdis_kind ctis_kind : Value} {odis_kind anis_kind : Option Addr} {slis_kind : Array (Option Value)} {fplace_of : Addr} {ocplace_of kVplace_of dcplace_of pmplace_of cdplace_of ctplace_of : Value} {odplace_of anplace_of : Option Addr} {slplace_of : Array (Option Value)} {fneed_kind : Addr} {ocneed_kind kVneed_kind dcneed_kind pmneed_kind cdneed_kind ctneed_kind : Value} {odneed_kind anneed_kind : Option Addr} {slneed_kind : Array (Option Value)} {fline_at : Addr} {ocline_at kVline_at dcline_at pmline_at cdline_at ctline_at : Value} {odline_at anline_at : Option Addr} {slline_at : Array (Option Value)} {fmeeting : Addr} {ocmeeting kVmeeting dcmeeting pmmeeting cdmeeting ctmeeting : Value} {odmeeting anmeeting : Option Addr} {slmeeting : Array (Option Value)} {f_law_ruler : Addr} {oc_law_ruler kV_law_ruler dc_law_ruler pm_law_ruler cd_law_ruler ct_law_ruler : Value} {od_law_ruler an_law_ruler : Option Addr} {sl_law_ruler : Array (Option Value)} {f_law_draw_on : Addr} {oc_law_draw_on kV_law_draw_on dc_law_draw_on pm_law_draw_on cd_law_draw_on ct_law_draw_on : Value} {od_law_draw_on an_law_draw_on : Option Addr} {sl_law_draw_on : Array (Option Value)} {f_law_pick : Addr} {oc_law_pick kV_law_pick dc_law_pick pm_law_pick cd_law_pick ct_law_pick : Value} {od_law_pick an_law_pick : Option Addr} {sl_law_pick : Array (Option Value)} {f_law_kind : Addr} {oc_law_kind kV_law_kind dc_law_kind pm_law_kind cd_law_kind ct_law_kind : Value} {od_law_kind an_law_kind : Option Addr} {sl_law_kind : Array (Option Value)} {f_law_gone : Addr} {oc_law_gone kV_law_gone dc_law_gone pm_law_gone cd_law_gone ct_law_gone : Value} {od_law_gone an_law_gone : Option Addr} {sl_law_gone : Array (Option Value)} {f_law_first : Addr} {oc_law_first kV_law_first dc_law_first pm_law_first cd_law_first ct_law_first : Value} {od_law_first an_law_first : Option Addr} {sl_law_first : Array (Option Value)} {f_law_heard : Addr} {oc_law_heard kV_law_heard dc_law_heard pm_law_heard cd_law_heard ct_law_heard : Value} {od_law_heard an_law_heard : Option Addr} {sl_law_heard : Array (Option Value)} {f_law_refused_right : Addr} {oc_law_refused_right kV_law_refused_right dc_law_refused_right pm_law_refused_right  ct_law_refused_right : Value} {od_law_refused_right an_law_refused_right : Option Addr} {sl_law_refused_right : Array (Option Value)} {flaw : Addr} {oclaw kVlaw dclaw pmlaw cdlaw ctlaw : Value} {odlaw anlaw : Option Addr} {sllaw : Array (Option Value)} {cRR Pt C R fI : Addr} {tMOST_TICKS : Tok} {tMOST_WAIT : Tok} (X : K.In h) (G : h.Ns mainGlobals mg) (hfa : mg "law" = some (.ref fa))
    (ais_integer : PySem.W.nsIn K mainGlobals "is_integer" = some (some (.ref fis_integer)))
    (lis_integer : K.lookup fis_integer = some ⟨ocis_integer, odis_integer, .func (PySem.W.fnOf "is_integer" "is_integer" (defArgs s_is_integer) (defBody s_is_integer) (defScope s_is_integer) .none kVis_integer dcis_integer pmis_integer anis_integer cdis_integer ctis_integer), slis_integer⟩)
    (cis_integer : PySem.W.codeIn K cdis_integer "is_integer" = true)
    (kis_integer : PySem.W.keepIn K (.ref fis_integer) = true)
    (ais_within : PySem.W.nsIn K mainGlobals "is_within" = some (some (.ref fis_within)))
    (lis_within : K.lookup fis_within = some ⟨ocis_within, odis_within, .func (PySem.W.fnOf "is_within" "is_within" (defArgs s_is_within) (defBody s_is_within) (defScope s_is_within) .none kVis_within dcis_within pmis_within anis_within cdis_within ctis_within), slis_within⟩)
    (cis_within : PySem.W.codeIn K cdis_within "is_within" = true)
    (kis_within : PySem.W.keepIn K (.ref fis_within) = true)
    (aneed_number : PySem.W.nsIn K mainGlobals "need_number" = some (some (.ref fneed_number)))
    (lneed_number : K.lookup fneed_number = some ⟨ocneed_number, odneed_number, .func (PySem.W.fnOf "need_number" "need_number" (defArgs s_need_number) (defBody s_need_number) (defScope s_need_number) .none kVneed_number dcneed_number pmneed_number anneed_number cdneed_number ctneed_number), slneed_number⟩)
    (cneed_number : PySem.W.codeIn K cdneed_number "need_number" = true)
    (kneed_number : PySem.W.keepIn K (.ref fneed_number) = true)
    (ais_kind : PySem.W.nsIn K mainGlobals "is_kind" = some (some (.ref fis_kind)))
    (lis_kind : K.lookup fis_kind = some ⟨ocis_kind, odis_kind, .func (PySem.W.fnOf "is_kind" "is_kind" (defArgs s_is_kind) (defBody s_is_kind) (defScope s_is_kind) .none kVis_kind dcis_kind pmis_kind anis_kind cdis_kind ctis_kind), slis_kind⟩)
    (cis_kind : PySem.W.codeIn K cdis_kind "is_kind" = true)
    (kis_kind : PySem.W.keepIn K (.ref fis_kind) = true)
    (aplace_of : PySem.W.nsIn K mainGlobals "place_of" = some (some (.ref fplace_of)))
    (lplace_of : K.lookup fplace_of = some ⟨ocplace_of, odplace_of, .func (PySem.W.fnOf "place_of" "place_of" (defArgs s_place_of) (defBody s_place_of) (defScope s_place_of) .none kVplace_of dcplace_of pmplace_of anplace_of cdplace_of ctplace_of), slplace_of⟩)
    (cplace_of : PySem.W.codeIn K cdplace_of "place_of" = true)
    (kplace_of : PySem.W.keepIn K (.ref fplace_of) = true)
    (aneed_kind : PySem.W.nsIn K mainGlobals "need_kind" = some (some (.ref fneed_kind)))
    (lneed_kind : K.lookup fneed_kind = some ⟨ocneed_kind, odneed_kind, .func (PySem.W.fnOf "need_kind" "need_kind" (defArgs s_need_kind) (defBody s_need_kind) (defScope s_need_kind) .none kVneed_kind dcneed_kind pmneed_kind anneed_kind cdneed_kind ctneed_kind), slneed_kind⟩)
    (cneed_kind : PySem.W.codeIn K cdneed_kind "need_kind" = true)
    (kneed_kind : PySem.W.keepIn K (.ref fneed_kind) = true)
    (aline_at : PySem.W.nsIn K mainGlobals "line_at" = some (some (.ref fline_at)))
    (lline_at : K.lookup fline_at = some ⟨ocline_at, odline_at, .func (PySem.W.fnOf "line_at" "line_at" (defArgs s_line_at) (defBody s_line_at) (defScope s_line_at) .none kVline_at dcline_at pmline_at anline_at cdline_at ctline_at), slline_at⟩)
    (cline_at : PySem.W.codeIn K cdline_at "line_at" = true)
    (kline_at : PySem.W.keepIn K (.ref fline_at) = true)
    (ameeting : PySem.W.nsIn K mainGlobals "meeting" = some (some (.ref fmeeting)))
    (lmeeting : K.lookup fmeeting = some ⟨ocmeeting, odmeeting, .func (PySem.W.fnOf "meeting" "meeting" (defArgs s_meeting) (defBody s_meeting) (defScope s_meeting) .none kVmeeting dcmeeting pmmeeting anmeeting cdmeeting ctmeeting), slmeeting⟩)
    (cmeeting : PySem.W.codeIn K cdmeeting "meeting" = true)
    (kmeeting : PySem.W.keepIn K (.ref fmeeting) = true)
    (a_law_ruler : PySem.W.nsIn K mainGlobals "_law_ruler" = some (some (.ref f_law_ruler)))
    (l_law_ruler : K.lookup f_law_ruler = some ⟨oc_law_ruler, od_law_ruler, .func (PySem.W.fnOf "_law_ruler" "_law_ruler" (defArgs s__law_ruler) (defBody s__law_ruler) (defScope s__law_ruler) .none kV_law_ruler dc_law_ruler pm_law_ruler an_law_ruler cd_law_ruler ct_law_ruler), sl_law_ruler⟩)
    (c_law_ruler : PySem.W.codeIn K cd_law_ruler "_law_ruler" = true)
    (k_law_ruler : PySem.W.keepIn K (.ref f_law_ruler) = true)
    (a_law_draw_on : PySem.W.nsIn K mainGlobals "_law_draw_on" = some (some (.ref f_law_draw_on)))
    (l_law_draw_on : K.lookup f_law_draw_on = some ⟨oc_law_draw_on, od_law_draw_on, .func (PySem.W.fnOf "_law_draw_on" "_law_draw_on" (defArgs s__law_draw_on) (defBody s__law_draw_on) (defScope s__law_draw_on) .none kV_law_draw_on dc_law_draw_on pm_law_draw_on an_law_draw_on cd_law_draw_on ct_law_draw_on), sl_law_draw_on⟩)
    (c_law_draw_on : PySem.W.codeIn K cd_law_draw_on "_law_draw_on" = true)
    (k_law_draw_on : PySem.W.keepIn K (.ref f_law_draw_on) = true)
    (a_law_pick : PySem.W.nsIn K mainGlobals "_law_pick" = some (some (.ref f_law_pick)))
    (l_law_pick : K.lookup f_law_pick = some ⟨oc_law_pick, od_law_pick, .func (PySem.W.fnOf "_law_pick" "_law_pick" (defArgs s__law_pick) (defBody s__law_pick) (defScope s__law_pick) .none kV_law_pick dc_law_pick pm_law_pick an_law_pick cd_law_pick ct_law_pick), sl_law_pick⟩)
    (c_law_pick : PySem.W.codeIn K cd_law_pick "_law_pick" = true)
    (k_law_pick : PySem.W.keepIn K (.ref f_law_pick) = true)
    (a_law_kind : PySem.W.nsIn K mainGlobals "_law_kind" = some (some (.ref f_law_kind)))
    (l_law_kind : K.lookup f_law_kind = some ⟨oc_law_kind, od_law_kind, .func (PySem.W.fnOf "_law_kind" "_law_kind" (defArgs s__law_kind) (defBody s__law_kind) (defScope s__law_kind) .none kV_law_kind dc_law_kind pm_law_kind an_law_kind cd_law_kind ct_law_kind), sl_law_kind⟩)
    (c_law_kind : PySem.W.codeIn K cd_law_kind "_law_kind" = true)
    (k_law_kind : PySem.W.keepIn K (.ref f_law_kind) = true)
    (a_law_gone : PySem.W.nsIn K mainGlobals "_law_gone" = some (some (.ref f_law_gone)))
    (l_law_gone : K.lookup f_law_gone = some ⟨oc_law_gone, od_law_gone, .func (PySem.W.fnOf "_law_gone" "_law_gone" (defArgs s__law_gone) (defBody s__law_gone) (defScope s__law_gone) .none kV_law_gone dc_law_gone pm_law_gone an_law_gone cd_law_gone ct_law_gone), sl_law_gone⟩)
    (c_law_gone : PySem.W.codeIn K cd_law_gone "_law_gone" = true)
    (k_law_gone : PySem.W.keepIn K (.ref f_law_gone) = true)
    (a_law_first : PySem.W.nsIn K mainGlobals "_law_first" = some (some (.ref f_law_first)))
    (l_law_first : K.lookup f_law_first = some ⟨oc_law_first, od_law_first, .func (PySem.W.fnOf "_law_first" "_law_first" (defArgs s__law_first) (defBody s__law_first) (defScope s__law_first) .none kV_law_first dc_law_first pm_law_first an_law_first cd_law_first ct_law_first), sl_law_first⟩)
    (c_law_first : PySem.W.codeIn K cd_law_first "_law_first" = true)
    (k_law_first : PySem.W.keepIn K (.ref f_law_first) = true)
    (a_law_heard : PySem.W.nsIn K mainGlobals "_law_heard" = some (some (.ref f_law_heard)))
    (l_law_heard : K.lookup f_law_heard = some ⟨oc_law_heard, od_law_heard, .func (PySem.W.fnOf "_law_heard" "_law_heard" (defArgs s__law_heard) (defBody s__law_heard) (defScope s__law_heard) .none kV_law_heard dc_law_heard pm_law_heard an_law_heard cd_law_heard ct_law_heard), sl_law_heard⟩)
    (c_law_heard : PySem.W.codeIn K cd_law_heard "_law_heard" = true)
    (k_law_heard : PySem.W.keepIn K (.ref f_law_heard) = true)
    (a_law_refused_right : PySem.W.nsIn K mainGlobals "_law_refused_right" = some (some (.ref f_law_refused_right)))
    (l_law_refused_right : K.lookup f_law_refused_right = some ⟨oc_law_refused_right, od_law_refused_right, .func (PySem.W.fnOf "_law_refused_right" "_law_refused_right" (defArgs s__law_refused_right) (defBody s__law_refused_right) (defScope s__law_refused_right) .none kV_law_refused_right dc_law_refused_right pm_law_refused_right an_law_refused_right (.ref cRR) ct_law_refused_right), sl_law_refused_right⟩)
    (c_law_refused_right : PySem.W.codeIn K (.ref cRR) "_law_refused_right" = true)
    (k_law_refused_right : PySem.W.keepIn K (.ref f_law_refused_right) = true)
    (alaw : PySem.W.nsIn K mainGlobals "law" = some (some (.ref flaw)))
    (llaw : K.lookup flaw = some ⟨oclaw, odlaw, .func (PySem.W.fnOf "law" "law" (defArgs s_law) (defBody s_law) (defScope s_law) .none kVlaw dclaw pmlaw anlaw cdlaw ctlaw), sllaw⟩)
    (claw : PySem.W.codeIn K cdlaw "law" = true)
    (klaw : PySem.W.keepIn K (.ref flaw) = true)
    (zabs : PySem.W.nsIn K mainGlobals "abs" = some none)
    (zbool : PySem.W.nsIn K mainGlobals "bool" = some none)
    (zenumerate : PySem.W.nsIn K mainGlobals "enumerate" = some none)
    (zint : PySem.W.nsIn K mainGlobals "int" = some none)
    (zisinstance : PySem.W.nsIn K mainGlobals "isinstance" = some none)
    (zlen : PySem.W.nsIn K mainGlobals "len" = some none)
    (zlist : PySem.W.nsIn K mainGlobals "list" = some none)
    (zrange : PySem.W.nsIn K mainGlobals "range" = some none)
    (zrepr : PySem.W.nsIn K mainGlobals "repr" = some none)
    (ztuple : PySem.W.nsIn K mainGlobals "tuple" = some none)
    (zzip : PySem.W.nsIn K mainGlobals "zip" = some none)
    (zsuper : PySem.W.nsIn K mainGlobals "super" = some none)
    (qMOST_TICKS : PySem.W.nsIn K mainGlobals "MOST_TICKS" = some (some (.int 1000 tMOST_TICKS)))
    (qMOST_WAIT : PySem.W.nsIn K mainGlobals "MOST_WAIT" = some (some (.int 5 tMOST_WAIT)))
    (aC : PySem.W.nsIn K mainGlobals "BadNumber" = some (some (.ref C)))
    (aR : PySem.W.nsIn K mainGlobals "RowError" = some (some (.ref R)))
    (xsa : PySem.W.findIn K (.ref C) "__setattr__" = some (some (.builtin "object.__setattr__")))
    (xga : PySem.W.findIn K (.ref C) "__getattribute__" = some (some (.builtin "BaseException.__getattribute__")))
    (xgg : PySem.W.findIn K (.ref C) "__getattr__" = some none)
    (xno : PySem.W.findIn K (.ref C) "part" = some none)
    (xi : PySem.W.findIn K (.ref C) "__init__" = some (some (.ref fI)))
    (xt : PySem.W.typeIn K (.ref fI) = some (.type "function"))
    (xk : PySem.W.keepIn K (.ref C) = true)
    (xe : PySem.W.subIn K (.ref C) (.type "BaseException") = some true)
    (xv : PySem.W.subIn K (.ref C) (.type "ValueError") = some true)
    (xy : PySem.W.typeIn K (.ref C) = some (.type "type"))
    (xh : PySem.W.hasDictIn K C = true)
    (xm : PySem.W.exmOne K (.ref C) (.ref C) = some true)
    (xca : PySem.W.findIn K (.ref C) "__class__" = some (some (.builtin "object.__class__")))
    (xcg : PySem.W.specialIn K (.builtin "object.__class__") "__get__" = some (some (.builtin "getset_descriptor.__get__")))
    (xct : PySem.W.takesIn K (.builtin "object.__class__") = some true)
    (xob : PySem.W.mroIn K C (.type "object") = some true)
    (xop : PySem.W.nsIn K cStatics "thirdparty.any" = some none)
    (xnm : PySem.W.findCls K (.ref C) (.type "type") "__name__" = some (.get (.builtin "getset_descriptor.__get__") (.builtin "type.__name__") (.ref C) (.type "type")))
    (xsu : PySem.W.ks_superIn K C C "__init__" = some (some (.builtin "ValueError.__init__")))
    (xsC : PySem.W.mroIn K C (.ref C) = some true)
    (xtop : (l.prog.main.scope.names.lookup ("super" : Str)).isSome = false)
    (xR : PySem.W.exmOne K (.ref C) (.ref R) = some true)
    (xki : PySem.W.kitOne K (.ref C) (.ref C) = some true)
    (xkn : PySem.W.kitOne K (.type "NoneType") (.ref C) = some false)
    (tT : h.get? Pt = some (PySem.W.tabObj #[]))
    (tN : K.lookup Pt = none)
    (tC : PySem.W.codeHdIn K cRR Pt = true)
    (xcls : ∃ nm q N bs bm sn sub ab col dd k0 k1 k2 tk k3 k5, K.lookup C = some (excClassObj nm q C N bs bm true sn sub ab col dd k0 k1 (some (.str k2 tk)) k3 k5 "ValueError.__new__") ∧ PySem.HandSPX.refsVE bm = true)
    (xfn : ∃ (oc ccl cl : Value) (od cdd cld : Option Addr) (doc pm : Value) (an : Option Addr) (cda cc : Addr) (ct : Value) (osl ccs csl : Array (Option Value)) (vs : Array Value) (file : Str) (tf : Tok) (p1 p2 q1 q2 q3 q4 q5 q6 q7 q8 r1 r2 r3 r4 : Pos),
    K.lookup fI = some ⟨oc, od, .func (ksFn "__init__" "BadNumber.__init__" (iA p1 p2) (iB q1 q2 q3 q4 q5 q6 q7 q8 r1 r2 r3 r4) iS .none .none doc pm an (.ref cda) ct cc), osl⟩ ∧ codeIn K (.ref cda) "BadNumber.__init__" = true ∧
      K.lookup cda = some ⟨ccl, cdd, .fields vs, ccs⟩ ∧ vs[2]? = some (.str file tf) ∧ ((l.prog.main.file : Str) == file) = true ∧ K.lookup cc = some ⟨cl, cld, .cell (some (.ref C)), csl⟩ ∧ (q3.endLine == q7.line) = true) :
    LamX.LawAtS l w K (L2.CX l.prog w) 9 63 "_law_script" mg fa h := by
  have e := hfa.symm.trans (PySem.W.mg_of X G alaw)
  cases e
  letI : Tbls := tb60 Pt
  let cl := cl60 C R
  have eB : cl "BadNumber" = C := cl60_B C R
  have eR : cl "RowError" = R := cl60_R C R
  have T : ∀ base, Txt l.prog K mg base cl := fun base => {
    b_abs := PySem.W.mg_none_of X G zabs
    b_bool := PySem.W.mg_none_of X G zbool
    b_enumerate := PySem.W.mg_none_of X G zenumerate
    b_int := PySem.W.mg_none_of X G zint
    b_isinstance := PySem.W.mg_none_of X G zisinstance
    b_len := PySem.W.mg_none_of X G zlen
    b_list := PySem.W.mg_none_of X G zlist
    b_range := PySem.W.mg_none_of X G zrange
    b_repr := PySem.W.mg_none_of X G zrepr
    b_tuple := PySem.W.mg_none_of X G ztuple
    b_zip := PySem.W.mg_none_of X G zzip
    c_MOST_TICKS := ⟨_, PySem.W.mg_of X G qMOST_TICKS⟩
    c_MOST_WAIT := ⟨_, PySem.W.mg_of X G qMOST_WAIT⟩
    r_BadNumber := by rw [eB]; exact PySem.W.mg_of X G aC
    r_RowError := by rw [eR]; exact PySem.W.mg_of X G aR
    x_BadNumber := ⟨"BadNumber.__init__", fI, by rw [eB]; exact ⟨PySem.W.mg_of X G aC, PySem.W.mg_none_of X G zsuper, xcls, xsa, xga, xgg, xno, xi, xt, xk, xe, xv, xy, xh, xm, xca, xcg, xct, xob, xop, xnm, xsu, xsC, xtop, xfn⟩⟩
    isX := ⟨fun a b c z => by
      unfold fX at z
      split at z
      · rename_i z1
        obtain ⟨rfl, rfl⟩ := z1
        cases z
        rw [eB]
        exact ⟨⟨xga, xgg, xe, xh, xca, xcg, xct, xob⟩, xki⟩
      · cases z⟩
    isN := ⟨fun a z => by
      have z1 : a = "BadNumber" := by unfold fN at z; exact beq_iff_eq.mp z
      subst z1
      rw [eB]
      exact xkn⟩
    ca_RowError := ⟨fun a b z => by
      unfold fC_RowError at z
      split at z
      · rename_i z1
        subst z1
        cases z
        rw [eB, eR]
        exact xR
      · cases z⟩
    at_part := ⟨fun a z => by
      have z1 : a = "BadNumber" := by unfold okX at z; exact beq_iff_eq.mp z
      subst z1
      rw [eB]
      exact ⟨⟨xga, xgg, xe, xh⟩, xno⟩⟩ }
  have Fis_integer := fun_mk (st := s_is_integer) lis_integer cis_integer kis_integer
  have Fis_within := fun_mk (st := s_is_within) lis_within cis_within kis_within
  have Fneed_number := fun_mk (st := s_need_number) lneed_number cneed_number kneed_number
  have Fis_kind := fun_mk (st := s_is_kind) lis_kind cis_kind kis_kind
  have Fplace_of := fun_mk (st := s_place_of) lplace_of cplace_of kplace_of
  have Fneed_kind := fun_mk (st := s_need_kind) lneed_kind cneed_kind kneed_kind
  have Fline_at := fun_mk (st := s_line_at) lline_at cline_at kline_at
  have Fmeeting := fun_mk (st := s_meeting) lmeeting cmeeting kmeeting
  have F_law_ruler := fun_mk (st := s__law_ruler) l_law_ruler c_law_ruler k_law_ruler
  have F_law_draw_on := fun_mk (st := s__law_draw_on) l_law_draw_on c_law_draw_on k_law_draw_on
  have F_law_pick := fun_mk (st := s__law_pick) l_law_pick c_law_pick k_law_pick
  have F_law_kind := fun_mk (st := s__law_kind) l_law_kind c_law_kind k_law_kind
  have F_law_gone := fun_mk (st := s__law_gone) l_law_gone c_law_gone k_law_gone
  have F_law_first := fun_mk (st := s__law_first) l_law_first c_law_first k_law_first
  have F_law_heard := fun_mk (st := s__law_heard) l_law_heard c_law_heard k_law_heard
  have F_law_refused_right := fun_mk (st := s__law_refused_right) l_law_refused_right c_law_refused_right k_law_refused_right
  have Flaw := fun_mk (st := s_law) llaw claw klaw
  have Bis_integer := Fis_integer.binds (ps := ["value"]) fun _ _ _ _ _ _ us hl => match us, hl with | [_], _ => rfl
  have Bis_within := Fis_within.binds (ps := ["value", "least", "most"]) fun _ _ _ _ _ _ us hl => match us, hl with | [_, _, _], _ => rfl
  have Bneed_number := Fneed_number.binds (ps := ["value", "part", "least", "most"]) fun _ _ _ _ _ _ us hl => match us, hl with | [_, _, _, _], _ => rfl
  have Bis_kind := Fis_kind.binds (ps := ["value"]) fun _ _ _ _ _ _ us hl => match us, hl with | [_], _ => rfl
  have Bplace_of := Fplace_of.binds (ps := ["kind", "cell", "tick"]) fun _ _ _ _ _ _ us hl => match us, hl with | [_, _, _], _ => rfl
  have Bneed_kind := Fneed_kind.binds (ps := ["value", "part"]) fun _ _ _ _ _ _ us hl => match us, hl with | [_, _], _ => rfl
  have Bline_at := Fline_at.binds (ps := ["kind", "cell", "tick"]) fun _ _ _ _ _ _ us hl => match us, hl with | [_, _, _], _ => rfl
  have Bmeeting := Fmeeting.binds (ps := ["one", "place", "other", "spot"]) fun _ _ _ _ _ _ us hl => match us, hl with | [_, _, _, _], _ => rfl
  have B_law_ruler := F_law_ruler.binds (ps := ["_law_script"]) fun _ _ _ _ _ _ us hl => match us, hl with | [_], _ => rfl
  have B_law_draw_on := F_law_draw_on.binds (ps := ["_law_ruler_here", "_law_many"]) fun _ _ _ _ _ _ us hl => match us, hl with | [_, _], _ => rfl
  have B_law_pick := F_law_pick.binds (ps := ["_law_ruler_here", "_law_some"]) fun _ _ _ _ _ _ us hl => match us, hl with | [_, _], _ => rfl
  have B_law_kind := F_law_kind.binds (ps := ["_law_ruler_here"]) fun _ _ _ _ _ _ us hl => match us, hl with | [_], _ => rfl
  have B_law_gone := F_law_gone.binds (ps := ["_law_kind_here", "_law_cell", "_law_ticks"]) fun _ _ _ _ _ _ us hl => match us, hl with | [_, _, _], _ => rfl
  have B_law_first := F_law_first.binds (ps := ["_law_one", "_law_place", "_law_other", "_law_spot"]) fun _ _ _ _ _ _ us hl => match us, hl with | [_, _, _, _], _ => rfl
  have B_law_refused_right := F_law_refused_right.binds (ps := ["_law_ruler_here"]) fun _ _ _ _ _ _ us hl => match us, hl with | [_], _ => rfl
  have Blaw := Flaw.binds (ps := ["_law_script"]) fun _ _ _ _ _ _ us hl => match us, hl with | [_], _ => rfl
  have B_law_heard := F_law_heard.binds (ps := ["_law_ask"]) fun _ _ _ _ _ _ us hl => match us, hl with | [_], _ => rfl
  refine ⟨PySem.W.fnOf "law" "law" (defArgs s_law) (defBody s_law) (defScope s_law) .none kVlaw dclaw pmlaw anlaw cdlaw ctlaw, [(cRR, Pt)], spP K cl 1 f_law, fun p hp => ?_, fun p hp => ?_, fun p hp => ?_, fun s u => ?_, fun H a ns _ _ hH hS => ?_, fun base KB NB TB => ?_⟩
  · rw [List.mem_singleton.mp hp]; exact tT
  · rw [List.mem_singleton.mp hp]; exact tN
  · rw [List.mem_singleton.mp hp]; exact PySem.W.codeHd_of_K X tC
  · exact (.of_eq rfl : BindsTo s (PySem.W.fnOf "law" "law" (defArgs s_law) (defBody s_law) (defScope s_law) .none kVlaw dclaw pmlaw anlaw cdlaw ctlaw) ⟨[u], []⟩ [("_law_script", u)])
  · exact spL Pt (hH (cRR, Pt) (List.mem_singleton.mpr rfl)) hS
  have t := T base
  have tb := TB (cRR, Pt) (List.mem_singleton.mpr rfl)
  have Ris_integer : RP l.prog w K mg base cl "is_integer" 1 1 [] f_is_integer := ⟨_, _, _, [], [], ok_is_integer t Fis_integer , PySem.W.mg_of X G ais_integer, kis_integer, Bis_integer, .nil, fun _ => .nil⟩
  have Ris_within : RP l.prog w K mg base cl "is_within" 2 3 [] f_is_within := ⟨_, _, _, [], [], ok_is_within t Fis_within Ris_integer, PySem.W.mg_of X G ais_within, kis_within, Bis_within, .nil, fun _ => .nil⟩
  have Rneed_number : RP l.prog w K mg base cl "need_number" 3 4 [] f_need_number := ⟨_, _, _, [], [], ok_need_number t Fneed_number Ris_within, PySem.W.mg_of X G aneed_number, kneed_number, Bneed_number, .nil, fun _ => .nil⟩
  have Ris_kind : RP l.prog w K mg base cl "is_kind" 3 1 [] f_is_kind := ⟨_, _, _, [], [], ok_is_kind t Fis_kind Ris_within, PySem.W.mg_of X G ais_kind, kis_kind, Bis_kind, .nil, fun _ => .nil⟩
  have Rplace_of : RP l.prog w K mg base cl "place_of" 1 3 [] f_place_of := ⟨_, _, _, [], [], ok_place_of t Fplace_of , PySem.W.mg_of X G aplace_of, kplace_of, Bplace_of, .nil, fun _ => .nil⟩
  have Rneed_kind : RP l.prog w K mg base cl "need_kind" 4 2 [] f_need_kind := ⟨_, _, _, [], [], ok_need_kind t Fneed_kind Ris_kind, PySem.W.mg_of X G aneed_kind, kneed_kind, Bneed_kind, .nil, fun _ => .nil⟩
  have Rline_at : RP l.prog w K mg base cl "line_at" 5 3 [] f_line_at := ⟨_, _, _, [], [], ok_line_at t Fline_at Rneed_kind Rneed_number Rplace_of, PySem.W.mg_of X G aline_at, kline_at, Bline_at, .nil, fun _ => .nil⟩
  have Rline_atKtck : RK l.prog w K mg base cl "line_at" 5 3 ["tick", "cell", "kind"] [2, 1, 0] f_line_at := ⟨_, _, _, ok_line_at t Fline_at Rneed_kind Rneed_number Rplace_of, PySem.W.mg_of X G aline_at, kline_at, ⟨fun s ws _ hl => match ws, hl with | [_, _, _], _ => .of_eq rfl⟩⟩
  have Rmeeting : RP l.prog w K mg base cl "meeting" 5 4 [] f_meeting := ⟨_, _, _, [], [], ok_meeting t Fmeeting Rneed_kind Rneed_number Rplace_of, PySem.W.mg_of X G ameeting, kmeeting, Bmeeting, .nil, fun _ => .nil⟩
  have RmeetingKsopo : RK l.prog w K mg base cl "meeting" 5 4 ["spot", "other", "place", "one"] [3, 2, 1, 0] f_meeting := ⟨_, _, _, ok_meeting t Fmeeting Rneed_kind Rneed_number Rplace_of, PySem.W.mg_of X G ameeting, kmeeting, ⟨fun s ws _ hl => match ws, hl with | [_, _, _, _], _ => .of_eq rfl⟩⟩
  have R_law_ruler : RN l.prog w K mg base cl "_law_ruler" 1 1 f__law_ruler := ⟨_, _, _, ok__law_ruler t F_law_ruler , PySem.W.mg_of X G a_law_ruler, k_law_ruler, B_law_ruler⟩
  have R_law_draw_on : RO' l.prog w K mg base cl "_law_draw_on" 1 1 f__law_draw_on := ⟨_, _, _, ok__law_draw_on t F_law_draw_on , PySem.W.mg_of X G a_law_draw_on, k_law_draw_on, B_law_draw_on⟩
  have R_law_pick : RO' l.prog w K mg base cl "_law_pick" 2 1 f__law_pick := ⟨_, _, _, ok__law_pick t F_law_pick R_law_draw_on, PySem.W.mg_of X G a_law_pick, k_law_pick, B_law_pick⟩
  have R_law_kind : RO' l.prog w K mg base cl "_law_kind" 3 0 f__law_kind := ⟨_, _, _, ok__law_kind t F_law_kind R_law_pick R_law_draw_on, PySem.W.mg_of X G a_law_kind, k_law_kind, B_law_kind⟩
  have R_law_gone : RP l.prog w K mg base cl "_law_gone" 1 3 [] f__law_gone := ⟨_, _, _, [], [], ok__law_gone t F_law_gone , PySem.W.mg_of X G a_law_gone, k_law_gone, B_law_gone, .nil, fun _ => .nil⟩
  have R_law_first : RP l.prog w K mg base cl "_law_first" 2 4 [] f__law_first := ⟨_, _, _, [], [], ok__law_first t F_law_first R_law_gone, PySem.W.mg_of X G a_law_first, k_law_first, B_law_first, .nil, fun _ => .nil⟩
  have R_law_heard : RH l.prog w K mg base cl "_law_heard" f__law_heard := ⟨_, _, _, _, _, _, _, _, _, _, _, _, _, _, _, _, m__law_heard, PySem.W.mg_of X G a_law_heard, k_law_heard, l_law_heard, c_law_heard, B_law_heard, sc__law_heard, rfl, by first | exact Or.inl rfl | exact Or.inr (Or.inl rfl) | exact Or.inr (Or.inr rfl), by decide, by decide, heard_at, fun A outer s H G f o hr hask => d__law_heard t A outer s H G f o hr hask⟩
  have R_law_refused_right : RO' l.prog w K mg base cl "_law_refused_right" 8 0 f__law_refused_right := ⟨_, _, _, ok__law_refused_right t F_law_refused_right R_law_pick R_law_kind Rline_at R_law_heard Rmeeting rfl tb (List.mem_singleton.mpr rfl) (fun p hp _ => by rw [List.mem_singleton.mp hp]; rfl), PySem.W.mg_of X G a_law_refused_right, k_law_refused_right, B_law_refused_right⟩
  exact ok_law t Flaw R_law_ruler R_law_draw_on R_law_pick R_law_kind R_law_gone Rline_atKtck Rline_at R_law_first RmeetingKsopo Rmeeting R_law_refused_right
theorem walk60 {l : PySem.W.OpenLaw} {q : Program} {loose : List Str} {XP : (Str → Option Value) → Heap → Prop} {YP : World → Heap → Prop} {d : DefRec} {K : Params → PySem.W.Frag} (hn : l.most = some 63) (hdf : d.params.defaults = [])
    (hY : ∀ (w : World) (h : Heap), YP w h → (K w.params).In h)
    (F : ∀ (w : World) (mg : Str → Option Value) (fa : Addr) (h : Heap), YP w h → (K w.params).In h → h.Ns mainGlobals mg → mg d.name = some (.ref fa) → LamX.LawAtS l w (K w.params) (L2.CX l.prog w) 9 63 "_law_script" mg fa h) :
    PySem.W.WalkO q loose XP YP l.row.toRowW d [] (fun f vs => PySem.call f vs) :=
  LamX.walk_ofTs (CX := fun w => L2.CX l.prog w) hn (by decide) hdf ⟨rfl, by decide, by decide⟩ hY F fun w H s e s' z => cxF w H s e s' z
end DL
end

section
open PySem PySem.W PyProof.Rows
set_option Elab.async false
set_option linter.all false
set_option maxRecDepth 100000 in
set_option maxHeartbeats 0 in
theorem PySem.Challenge.cw_backwardrow_k60_exact_lines_holds : PySem.Challenge.rw_backwardrow_k60_exact_lines.Holds := by
  w_on; o_law; k_head; (case hw => w_witness2)
  k_fill
  refine DL.walk60 (l := PySem.Challenge.rw_backwardrow_k60_exact_lines) rfl rfl (fun w h Y => PySem.W.km_in_of Y) ?F
  case F =>
    intro w mg fa h Y KX G hmg
    refine' DL.all_mk KX G hmg ?ais_integer ?lis_integer ?cis_integer ?kis_integer ?ais_within ?lis_within ?cis_within ?kis_within ?aneed_number ?lneed_number ?cneed_number ?kneed_number ?ais_kind ?lis_kind ?cis_kind ?kis_kind ?aplace_of ?lplace_of ?cplace_of ?kplace_of ?aneed_kind ?lneed_kind ?cneed_kind ?kneed_kind ?aline_at ?lline_at ?cline_at ?kline_at ?ameeting ?lmeeting ?cmeeting ?kmeeting ?a_law_ruler ?l_law_ruler ?c_law_ruler ?k_law_ruler ?a_law_draw_on ?l_law_draw_on ?c_law_draw_on ?k_law_draw_on ?a_law_pick ?l_law_pick ?c_law_pick ?k_law_pick ?a_law_kind ?l_law_kind ?c_law_kind ?k_law_kind ?a_law_gone ?l_law_gone ?c_law_gone ?k_law_gone ?a_law_first ?l_law_first ?c_law_first ?k_law_first ?a_law_heard ?l_law_heard ?c_law_heard ?k_law_heard ?a_law_refused_right ?l_law_refused_right ?c_law_refused_right ?k_law_refused_right ?alaw ?llaw ?claw ?klaw ?zabs ?zbool ?zenumerate ?zint ?zisinstance ?zlen ?zlist ?zrange ?zrepr ?ztuple ?zzip ?zsuper ?qMOST_TICKS ?qMOST_WAIT ?aC ?aR ?xsa ?xga ?xgg ?xno ?xi ?xt ?xk ?xe ?xv ?xy ?xh ?xm ?xca ?xcg ?xct ?xob ?xop ?xnm ?xsu ?xsC ?xtop ?xR ?xki ?xkn ?tT ?tN ?tC ?xcls ?xfn
    (case ais_integer => k_is)
    (case lis_integer => k_is)
    (case cis_integer => k_is)
    (case kis_integer => k_is)
    (case ais_within => k_is)
    (case lis_within => k_is)
    (case cis_within => k_is)
    (case kis_within => k_is)
    (case aneed_number => k_is)
    (case lneed_number => k_is)
    (case cneed_number => k_is)
    (case kneed_number => k_is)
    (case ais_kind => k_is)
    (case lis_kind => k_is)
    (case cis_kind => k_is)
    (case kis_kind => k_is)
    (case aplace_of => k_is)
    (case lplace_of => k_is)
    (case cplace_of => k_is)
    (case kplace_of => k_is)
    (case aneed_kind => k_is)
    (case lneed_kind => k_is)
    (case cneed_kind => k_is)
    (case kneed_kind => k_is)
    (case aline_at => k_is)
    (case lline_at => k_is)
    (case cline_at => k_is)
    (case kline_at => k_is)
    (case ameeting => k_is)
    (case lmeeting => k_is)
    (case cmeeting => k_is)
    (case kmeeting => k_is)
    (case a_law_ruler => k_is)
    (case l_law_ruler => k_is)
    (case c_law_ruler => k_is)
    (case k_law_ruler => k_is)
    (case a_law_draw_on => k_is)
    (case l_law_draw_on => k_is)
    (case c_law_draw_on => k_is)
    (case k_law_draw_on => k_is)
    (case a_law_pick => k_is)
    (case l_law_pick => k_is)
    (case c_law_pick => k_is)
    (case k_law_pick => k_is)
    (case a_law_kind => k_is)
    (case l_law_kind => k_is)
    (case c_law_kind => k_is)
    (case k_law_kind => k_is)
    (case a_law_gone => k_is)
    (case l_law_gone => k_is)
    (case c_law_gone => k_is)
    (case k_law_gone => k_is)
    (case a_law_first => k_is)
    (case l_law_first => k_is)
    (case c_law_first => k_is)
    (case k_law_first => k_is)
    (case a_law_heard => k_is)
    (case l_law_heard => k_is)
    (case c_law_heard => k_is)
    (case k_law_heard => k_is)
    (case a_law_refused_right => k_is)
    (case l_law_refused_right => k_is)
    (case c_law_refused_right => k_is)
    (case k_law_refused_right => k_is)
    (case alaw => k_is)
    (case llaw => k_is)
    (case claw => k_is)
    (case klaw => k_is)
    (case zabs => k_is)
    (case zbool => k_is)
    (case zenumerate => k_is)
    (case zint => k_is)
    (case zisinstance => k_is)
    (case zlen => k_is)
    (case zlist => k_is)
    (case zrange => k_is)
    (case zrepr => k_is)
    (case ztuple => k_is)
    (case zzip => k_is)
    (case zsuper => k_is)
    (case qMOST_TICKS => k_is)
    (case qMOST_WAIT => k_is)
    (case aC => k_is)
    (case aR => k_is)
    (case xsa => k_is)
    (case xga => k_is)
    (case xgg => k_is)
    (case xno => k_is)
    (case xi => k_is)
    (case xt => k_is)
    (case xk => k_is)
    (case xe => k_is)
    (case xv => k_is)
    (case xy => k_is)
    (case xh => k_is)
    (case xm => kernel_rfl)
    (case xca => k_is)
    (case xcg => k_is)
    (case xct => k_is)
    (case xob => k_is)
    (case xop => first | k_is | kernel_rfl)
    (case xnm => first | k_is | kernel_rfl)
    (case xsu => kernel_rfl)
    (case xsC => k_is)
    (case xtop => kernel_rfl)
    (case xR => kernel_rfl)
    (case xki => kernel_rfl)
    (case xkn => kernel_rfl)
    (case tT => exact PySem.W.km_tabs_of Y _ (List.mem_singleton.mpr rfl))
    (case tN => kernel_rfl)
    (case tC => kernel_rfl)
    (case xcls => exact ⟨_, _, _, _, _, _, _, _, _, _, _, _, _, _, _, _, by k_is, by kernel_rfl⟩)
    (case xfn => exact ⟨_, _, _, _, _, _, _, _, _, _, _, _, _, _, _, _, _, _, _, _, _, _, _, _, _, _, _, _, _, _, _, _, by k_is, by k_is, by k_is, by rfl, by kernel_rfl, by k_is, by kernel_rfl⟩)
#print axioms PySem.Challenge.cw_backwardrow_k60_exact_lines_holds
end
