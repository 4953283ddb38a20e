import PyProof.Rows.All
import Wide.All
import OpenK.AllK
import Wide.FinOn
import HandS.ForMost
import KE.KStateDown
import Lean
import HandS.Head0
import HandS.Head1
import HandS.Head2
import HandS.HeadEnd
import HandS.Walk
import HandS.Wide
import HandS.Defaults
import HandS.IsInst
import HandS.Exc
import HandS.Lambda
import HandS.CallSlots
import HandS.TupAny
import HandS.Deep
import HandS.Style
import HandS.TupMul
import PyProof.Rows.StrMul
import HandS.SortInts
import HandS.RaiseMore
import HandS.Text
import HandS.Zip
import HandS.TryOnly
import HandS.WordsExc
import HandS.Iter
import HandS.Comp
import HandS.Dict
import HandS.More
import KE.KIndexOf
import HandS.SlotsOwn
import HandS.HeadHook2
import HandS.HeadHook3
import HandS.EndTab
import HandS.ForExc
import HandS.ExcSuper
import KE.KExcSuper
import HandS.TryMany
import HandS.ExcIs
import KE.KExcIs
import KE.GoesEnum
import HandS.Star
import HandS.Conv
import HandS.DictComp
import KE.KDictZip
import KE.GoesMore
import HandS.GenBody
import OpenK.KMake
import KE.GoesZip
import HandS.HeadHook1
import HandS.HeadHook4
import HandS.Flow
import HandS.Nested
import KE.KSuper
import PyProof.RangeFor
import HandS.Base
import PyProof.RangeIter
import PyProof.WalksMore
import PyProof.Walk
import PyProof.WalkLemmas
import PyProof.FactsTree
import PyProof.TableTree
import PyProof.PlainAttrs
import PyProof.ReprRoads
import HandS.MakeKwOnly
import KE.DatumOrd
import KE.KDictKeyed
import HandS.TupLen
import KE.KNestM
import PySem.Challenge.RW_endlessplane_k03_spreads_told
set_option Elab.async false
set_option linter.all false
set_option maxRecDepth 100000
set_option maxHeartbeats 8000000
set_option exponentiation.threshold 5000
/-! Values as trees, worlds, what a value denotes. -/
namespace Ep
open PySem PySem.Spec L2
/-- a value, tuples and lists by their items; kls: a list that is never changed (the script, one of the top); gl: a def or class of the top; ref: a list that is changed by several defs -/
inductive T where
  | non | bl (b : Bool) | int (i : Int) | str (x : Str)
  | tup (xs : List T) | lst (xs : List T) | kls (xs : List T)
  | obj (C : Nat) (vs : List T)
  | gl (x : Str) | cl (C : Nat) | ty (n : String) | ref (k : Nat)
  | dct (ks : List Key) (vs : List T) | dtt (ks : List (List Key)) (vs : List T)
  | fdt (ks : List (List Key)) (vs : List T)
abbrev RS := List (List T)
inductive Out (α : Type) where
  | ok (a : α) (r : RS) | exn (c : Nat) (p : T) (r : RS) | bad
def M (α : Type) := RS → Out α
@[simp] def M.pure {α : Type} (a : α) : M α := fun r => .ok a r
@[simp] def M.bind {α β : Type} (m : M α) (k : α → M β) : M β := fun r => match m r with
  | .ok a r' => k a r'
  | .exn c p r' => .exn c p r'
  | .bad => .bad
instance : Monad M where
  pure := M.pure
  bind := M.bind
@[simp] def M.bad {α : Type} : M α := fun _ => .bad
@[simp] def M.lift {α : Type} : Option α → M α
  | some a => M.pure a
  | none => M.bad
/-- the program: its written part, its names, the classes' names and their fields -/
structure Gm where
  K : PySem.W.Frag
  mg : Str → Option Value
  cn : Nat → Str
  fl : Nat → List Str
  tb : List (Addr × Str) := []
  /-- a function that the running def heard: its address, its code object and that one's name, what it captured -/
  fn : Option (Addr × Addr × Str × List V × List T) := none
/-- a world: what stands still (public), the changed lists' addresses -/
structure Fx where
  me : Addr
  xa : Addr
  xd : Addr
structure Wd where
  P : Hp
  R : List Addr
  fx : Fx
/-- a tuple that stands: tracked, or of the written part -/
def TupAt (K : PySem.W.Frag) (H : Hp) (a : Addr) (xs : List V) : Prop := H a = some (.tup xs) ∨ ∃ (o : Obj) (its : Array Value) (n : Nat), K.lookup a = some o ∧ o.cls = .type "tuple" ∧ o.data = .seq its n ∧ its.size ≤ sizeLine ∧ Vals xs its.toList
theorem tup_sq {K : PySem.W.Frag} {P H : Hp} {a : Addr} {xs : List V} (s : Same P H) (h : TupAt K P a xs) : SqT K H a xs := by
  rcases h with h | h
  · exact .inl (.inl (s _ _ h))
  · exact .inr h
theorem TupAt.mono {K : PySem.W.Frag} {P H : Hp} {a : Addr} {xs : List V} (h : TupAt K P a xs) (s : Same P H) : TupAt K H a xs := by
  rcases h with h | h
  · exact .inl (s _ _ h)
  · exact .inr h
def keyV : Key → T
  | .inl i => .int i
  | .inr z => .str z
/-- the key, the tuple where it stands, the value -/
def RelF (p : List Key × Addr × V) (q : List Key × Addr × Value) : Prop := p.1 = q.1 ∧ p.2.1 = q.2.1 ∧ RelV p.2.2 q.2.2
/-- od, the object at a, is a dict with the entries kvs, its keys tuples -/
def FdAt (od : Obj) (a : Addr) (kvs : List (List Key × Addr × V)) : Prop := ∃ (P : Program) (w : World) (es : Array DictEntry) (ep : Nat) (xs : List (List Key × Addr × Value)), od.data = .dict es ep ∧ es.toList = xs.map (entryOfKey (tupleKind (mixKind P w))) ∧ Paired RelF kvs xs ∧ (xs.map (·.1)).Nodup ∧ od.ExactDict ∧ (a == sysModules) = false ∧ kvs.length ≤ sizeLine
end Ep
namespace L2
open PySem PySem.Spec PyProof.Rows
/-- the dict at D under way -/
def FdE (D : Addr) (kvs : List (List Key × Addr × V)) : HO := .ext fun h => ∃ o, h.get? D = some o ∧ Ep.FdAt o D kvs
theorem fde_ne {D c : Addr} {kvs : List (List Key × Addr × V)} {q : Str} : FdE D kvs ≠ LamX.CodeO c q := fun e => by
  unfold FdE LamX.CodeO at e
  injection e with e
  have go : ∀ (a : Addr), ({ objs := Array.replicate (c + 1) ({ cls := .none, data := .fields #[.none, .str q 0] } : Obj) } : Heap).get? a = if a < c + 1 then some ({ cls := .none, data := .fields #[.none, .str q 0] } : Obj) else none := fun a => by
    unfold Heap.get?
    simp only [Array.getElem?_replicate]
    by_cases w : a < c + 1
    · rw [if_pos w]
    · rw [if_neg w]
  have h := congrFun e ({ objs := Array.replicate (c + 1) ({ cls := .none, data := .fields #[.none, .str q 0] } : Obj) } : Heap)
  have r : ∃ (oc : Obj) (vs : Array Value) (t : Tok), ({ objs := Array.replicate (c + 1) ({ cls := .none, data := .fields #[.none, .str q 0] } : Obj) } : Heap).get? c = some oc ∧ oc.data = .fields vs ∧ vs[1]? = some (.str q t) := ⟨_, _, 0, by rw [go, if_pos (Nat.lt_succ_self c)], rfl, rfl⟩
  have l := h.mpr r
  obtain ⟨o, ho, P, w, es, ep, xs, hd, _⟩ := l
  rw [go] at ho
  split at ho
  · cases ho; cases hd
  · cases ho
end L2
namespace Ep
open PySem PySem.Spec L2
mutual
inductive Den (G : Gm) (w : Wd) : V → T → Prop
  | non : Den G w .non .non
  | bl (b : Bool) : Den G w (.bl b) (.bl b)
  | int (i : Int) : Den G w (.int i) (.int i)
  | str (x : Str) : Den G w (.str x) (.str x)
  | tup {a : Addr} {vs : List V} {ts : List T} (h : TupAt G.K w.P a vs) (z : ts.length ≤ sizeLine) (d : Dens G w vs ts) : Den G w (.ref a) (.tup ts)
  | lst {a : Addr} {vs : List V} {ts : List T} (h : w.P a = some (.lst vs)) (z : ts.length ≤ sizeLine) (d : Dens G w vs ts) : Den G w (.ref a) (.lst ts)
  | kls {a : Addr} {vs : List V} {ts : List T} (h : SqL G.K w.P a vs) (z : ts.length ≤ sizeLine) (d : Dens G w vs ts) : Den G w (.ref a) (.kls ts)
  | obj {a cA dx : Addr} {C : Nat} {vs : List V} {ts : List T} (c : G.mg (G.cn C) = some (.ref cA)) (h : w.P a = some (.ins cA dx ((G.fl C).zip vs))) (l : (G.fl C).length = vs.length) (d : Dens G w vs ts) : Den G w (.ref a) (.obj C ts)
  | gl {x : Str} {a : Addr} (h : G.mg x = some (.ref a)) : Den G w (.ref a) (.gl x)
  | cl {C : Nat} {a : Addr} (h : G.mg (G.cn C) = some (.ref a)) : Den G w (.ref a) (.cl C)
  | ty (n : String) : Den G w (.ty n) (.ty n)
  | ref {k : Nat} {a : Addr} (h : w.R[k]? = some a) : Den G w (.ref a) (.ref k)
  | dct {a : Addr} {ks : List Key} {vs : List V} {ts : List T} (h : w.P a = some (.dK (ks.zip vs))) (l : ks.length = ts.length) (d : Dens G w vs ts) : Den G w (.ref a) (.dct ks ts)
  | dtt {a : Addr} {ks : List (List Key)} {vs : List V} {ts : List T} (h : w.P a = some (.dT (ks.zip vs))) (l : ks.length = ts.length) (d : Dens G w vs ts) : Den G w (.ref a) (.dtt ks ts)
  /-- a dict whose keys are tuples, read alone from now on -/
  | fdt {a : Addr} {od : Obj} {kvs : List (List Key × Addr × V)} {ts : List T} (h : w.P a = some (.frz od (.ext fun _ => True))) (f : FdAt od a kvs) (dk : Dens G w (kvs.map fun x => V.ref x.2.1) (kvs.map fun x => T.tup (x.1.map keyV))) (dv : Dens G w (kvs.map fun x => x.2.2) ts) : Den G w (.ref a) (.fdt (kvs.map fun x => x.1) ts)
inductive Dens (G : Gm) (w : Wd) : List V → List T → Prop
  | nil : Dens G w [] []
  | cons {v : V} {vs : List V} {t : T} {ts : List T} (h : Den G w v t) (r : Dens G w vs ts) : Dens G w (v :: vs) (t :: ts)
end
/-- what a later world keeps -/
structure Later (w w' : Wd) : Prop where
  pub : Same w.P w'.P
  refs : ∃ more, w'.R = w.R ++ more
theorem Later.refl (w : Wd) : Later w w := ⟨Same.refl _, [], by simp⟩
theorem Later.trans {w w1 w2 : Wd} (a : Later w w1) (b : Later w1 w2) : Later w w2 := ⟨a.pub.trans b.pub, by
  obtain ⟨m, e⟩ := a.refs
  obtain ⟨m', e'⟩ := b.refs
  exact ⟨m ++ m', by rw [e', e, List.append_assoc]⟩⟩
mutual
theorem Den.mono {G : Gm} {w w' : Wd} (L : Later w w') : ∀ {v : V} {t : T}, Den G w v t → Den G w' v t
  | _, _, .non => .non
  | _, _, .bl b => .bl b
  | _, _, .int i => .int i
  | _, _, .str x => .str x
  | _, _, .tup h z d => .tup (h.mono L.pub) z (Dens.mono L d)
  | _, _, .lst h z d => .lst (L.pub _ _ h) z (Dens.mono L d)
  | _, _, .kls h z d => .kls (L.pub.seq h) z (Dens.mono L d)
  | _, _, .obj c h l d => .obj c (L.pub _ _ h) l (Dens.mono L d)
  | _, _, .gl h => .gl h
  | _, _, .cl h => .cl h
  | _, _, .ty n => .ty n
  | _, _, .dct h l d => .dct (L.pub _ _ h) l (Dens.mono L d)
  | _, _, .dtt h l d => .dtt (L.pub _ _ h) l (Dens.mono L d)
  | _, _, .fdt h f dk dv => .fdt (L.pub _ _ h) f (Dens.mono L dk) (Dens.mono L dv)
  | _, _, .ref (k := k) (a := a) h => .ref (by
      obtain ⟨m, e⟩ := L.refs
      rw [e, List.getElem?_append_left (by
        have := (List.getElem?_eq_some_iff.mp h).1
        exact this)]
      exact h)
theorem Dens.mono {G : Gm} {w w' : Wd} (L : Later w w') : ∀ {vs : List V} {ts : List T}, Dens G w vs ts → Dens G w' vs ts
  | _, _, .nil => .nil
  | _, _, .cons h r => .cons (Den.mono L h) (Dens.mono L r)
end
theorem Dens.length {G : Gm} {w : Wd} : ∀ {vs : List V} {ts : List T}, Dens G w vs ts → vs.length = ts.length
  | _, _, .nil => rfl
  | _, _, .cons _ r => by simp [Dens.length r]
theorem Dens.append {G : Gm} {w : Wd} : ∀ {vs ws : List V} {ts us : List T}, Dens G w vs ts → Dens G w ws us → Dens G w (vs ++ ws) (ts ++ us)
  | _, _, _, _, .nil, s => s
  | _, _, _, _, .cons h r, s => .cons h (Dens.append r s)
theorem Dens.get {G : Gm} {w : Wd} : ∀ {vs : List V} {ts : List T} {i : Nat} {t : T}, Dens G w vs ts → ts[i]? = some t → ∃ v, vs[i]? = some v ∧ Den G w v t
  | _, _, _, _, .nil, e => by (simp at e)
  | _, _, 0, _, .cons h r, e => by simp at e; subst e; exact ⟨_, rfl, h⟩
  | _, _, i + 1, _, .cons h r, e => by
    obtain ⟨v, h1, h2⟩ := Dens.get (i := i) r (by simpa using e)
    exact ⟨v, by simpa using h1, h2⟩
theorem Dens.getV {G : Gm} {w : Wd} : ∀ {vs : List V} {ts : List T} {i : Nat} {v : V}, Dens G w vs ts → vs[i]? = some v → ∃ t, ts[i]? = some t ∧ Den G w v t
  | _, _, _, _, .nil, e => by (simp at e)
  | _, _, 0, _, .cons h r, e => by simp at e; subst e; exact ⟨_, rfl, h⟩
  | _, _, i + 1, _, .cons h r, e => by
    obtain ⟨v, h1, h2⟩ := Dens.getV (i := i) r (by simpa using e)
    exact ⟨v, by simpa using h1, h2⟩
theorem Dens.set {G : Gm} {w : Wd} {v : V} {t : T} (d : Den G w v t) : ∀ {vs : List V} {ts : List T} (i : Nat), Dens G w vs ts → Dens G w (vs.set i v) (ts.set i t)
  | _, _, _, .nil => .nil
  | _, _, 0, .cons _ r => .cons d r
  | _, _, i + 1, .cons h r => .cons h (Dens.set d i r)
theorem Dens.take {G : Gm} {w : Wd} : ∀ {vs : List V} {ts : List T} (n : Nat), Dens G w vs ts → Dens G w (vs.take n) (ts.take n)
  | _, _, 0, _ => .nil
  | _, _, n + 1, .nil => .nil
  | _, _, n + 1, .cons h r => .cons h (Dens.take n r)
theorem Dens.drop {G : Gm} {w : Wd} : ∀ {vs : List V} {ts : List T} (n : Nat), Dens G w vs ts → Dens G w (vs.drop n) (ts.drop n)
  | _, _, 0, h => h
  | _, _, n + 1, .nil => .nil
  | _, _, n + 1, .cons h r => Dens.drop n r
/-- the changed lists stand as r says -/
structure RefsOk (G : Gm) (w : Wd) (H : Hp) (r : RS) : Prop where
  nd : w.R.Nodup
  len : w.R.length = r.length
  out : ∀ a ∈ w.R, w.P a = none
  at_ : ∀ (k : Nat) (xs : List T), r[k]? = some xs → ∃ a vs, w.R[k]? = some a ∧ H a = some (.lst vs) ∧ Dens G w vs xs ∧ xs.length ≤ sizeLine
/-- no table of code objects -/
def NoTab (o : HO) : Prop := ∀ ps, o ≠ .tbl ps
/-- no table, nothing of the machine's own -/
structure Pl (o : HO) : Prop where
  tb : ∀ ps, o ≠ .tbl ps
  ex : ∀ c q, o ≠ LamX.CodeO c q
/-- something stands there that is no table -/
def Vs (H : Hp) (a : Addr) : Prop := ∃ o, H a = some o ∧ NoTab o
theorem vs_of {H : Hp} {a : Addr} {o : HO} (h : H a = some o) (n : NoTab o := by intro ps e; cases e) : Vs H a := ⟨o, h, n⟩
theorem nvs {H : Hp} {a : Addr} (h : H a = none) : ¬ Vs H a := fun ⟨_, e, _⟩ => by rw [h] at e; cases e
theorem Vs.put {H : Hp} {a p : Addr} {o : HO} (h : Vs H a) (n : NoTab o) : Vs (upd H p o) a := by
  by_cases e : a = p
  · subst e; exact ⟨o, upd_same, n⟩
  · obtain ⟨u, h1, h2⟩ := h; exact ⟨u, by rw [upd_ne e]; exact h1, h2⟩
theorem ne_nv {H : Hp} {a p : Addr} {o : HO} (h : H a = some o) (n : NoTab o) (hp : ¬ Vs H p) : a ≠ p := fun e => hp (e ▸ ⟨o, h, n⟩)
structure Good (G : Gm) (w : Wd) (H : Hp) (r : RS) : Prop where
  sub : Same w.P H
  refs : RefsOk G w H r
  tabs : LamX.Tabs G.tb H
  nt : ∀ a o, w.P a = some o → NoTab o
theorem TabS.put {H : Hp} {T p : Addr} {q : Str} {o : HO} (t : LamX.TabS H T q) (h : H p = none ∨ ∃ u, H p = some u ∧ Pl u) : LamX.TabS (upd H p o) T q := by
  obtain ⟨ps, h1, h2, h3⟩ := t
  have nT : T ≠ p := fun e => by
    rcases h with z | ⟨u, z, k⟩
    · rw [e, z] at h1; cases h1
    · rw [e, z] at h1; exact k.tb ps (Option.some.inj h1)
  refine ⟨ps, by rw [upd_ne nT]; exact h1, h2, fun pos cv hc => ?_⟩
  obtain ⟨c, e1, e2⟩ := h3 pos cv hc
  have nc : c ≠ p := fun e => by
    rcases h with z | ⟨u, z, k⟩
    · rw [e, z] at e2; cases e2
    · rw [e, z] at e2; exact k.ex _ _ (Option.some.inj e2)
  exact ⟨c, e1, by rw [upd_ne nc]; exact e2⟩
theorem tabs_put {tb : List (Addr × Str)} {H : Hp} {p : Addr} {o : HO} (t : LamX.Tabs tb H) (h : H p = none ∨ ∃ u, H p = some u ∧ Pl u) : LamX.Tabs tb (upd H p o) := fun q hq => TabS.put (t q hq) h
/-- from H to H': public things stay, the untracked of others stays hidden, all but the changed lists stays -/
structure Step (w : Wd) (H : Hp) (w' : Wd) (H' : Hp) : Prop where
  pub : Same w.P w'.P
  fr : ∀ a o, a ∉ w.R → H a = some o → NoTab o → H' a = some o
  keep : ∀ a, Vs H a → Vs H' a
  hid : ∀ a, a ∉ w.R → Vs H a → w.P a = none → w'.P a = none
  refs : ∃ more, w'.R = w.R ++ more ∧ ∀ a ∈ more, ¬ Vs H a
  me : w'.fx = w.fx
theorem Step.refl (w : Wd) (H : Hp) : Step w H w H := ⟨Same.refl _, fun _ _ _ h _ => h, fun _ h => h, fun _ _ _ h => h, ⟨[], by simp, by simp⟩, rfl⟩
theorem Step.later {w w' : Wd} {H H' : Hp} (s : Step w H w' H') : Later w w' := ⟨s.pub, by obtain ⟨m, e, _⟩ := s.refs; exact ⟨m, e⟩⟩
theorem Step.trans {w w1 w2 : Wd} {H H1 H2 : Hp} (a : Step w H w1 H1) (b : Step w1 H1 w2 H2) : Step w H w2 H2 := by
  obtain ⟨m, e, hm⟩ := a.refs
  obtain ⟨m2, e2, hm2⟩ := b.refs
  have notin : ∀ x, x ∉ w.R → Vs H x → x ∉ w1.R := fun x h1 h2 h3 => by
    rw [e] at h3
    rcases List.mem_append.mp h3 with h | h
    · exact h1 h
    · exact hm x h h2
  refine ⟨a.pub.trans b.pub, fun x o h1 h2 h4 => ?_, fun x h => b.keep x (a.keep x h), fun x h1 h2 h3 => ?_, ⟨m ++ m2, by rw [e2, e, List.append_assoc], fun x hx => ?_⟩, b.me.trans a.me⟩
  · exact b.fr x o (notin x h1 ⟨o, h2, h4⟩) (a.fr x o h1 h2 h4) h4
  · exact b.hid x (notin x h1 h2) (a.keep x h2) (a.hid x h1 h2 h3)
  · rcases List.mem_append.mp hx with h | h
    · exact hm x h
    · exact fun hn => hm2 x h (a.keep x hn)
theorem RefsOk.there {G : Gm} {w : Wd} {H : Hp} {r : RS} (x : RefsOk G w H r) {a : Addr} (h : a ∈ w.R) : ∃ vs, H a = some (.lst vs) := by
  obtain ⟨k, hk, e⟩ := List.getElem_of_mem h
  have hk' : k < r.length := by rw [← x.len]; exact hk
  obtain ⟨b, vs, h1, h2, _, _⟩ := x.at_ k r[k] (by simp [hk'])
  have : b = a := by
    rw [List.getElem?_eq_getElem hk] at h1
    exact (Option.some.inj h1).symm.trans e
  subst this
  exact ⟨vs, h2⟩
/-- a new thing, public at once -/
def Wd.add (w : Wd) (p : Addr) (o : HO) : Wd := ⟨upd w.P p o, w.R, w.fx⟩
section
variable {G : Gm} {w : Wd} {H : Hp} {r : RS} {p : Addr} {o : HO}
theorem Good.noref (g : Good G w H r) (hp : H p = none) : p ∉ w.R := fun h => by
  obtain ⟨vs, e⟩ := g.refs.there h
  rw [hp] at e
  cases e
theorem Good.nopub (g : Good G w H r) (hp : H p = none) : w.P p = none := by
  cases e : w.P p with
  | none => rfl
  | some u => exact absurd (g.sub p u e) (by rw [hp]; simp)
theorem Good.new (g : Good G w H r) (hp : H p = none) (no : NoTab o := by intro ps e; cases e) : Step w H (w.add p o) (upd H p o) ∧ Good G (w.add p o) (upd H p o) r := by
  have hP := g.nopub hp
  have hR := g.noref hp
  have st : Step w H (w.add p o) (upd H p o) := by
    refine ⟨fun a u e => ?_, fun a u _ e _ => ?_, fun a h => ?_, fun a _ h1 h2 => ?_, ⟨[], by simp [Wd.add], by simp⟩, rfl⟩
    · show upd w.P p o a = some u
      rw [upd_ne (ne_of_none e hP)]
      exact e
    · rw [upd_ne (ne_of_none e hp)]
      exact e
    · exact h.put no
    · show upd w.P p o a = none
      rw [upd_ne (fun e => nvs hp (by rw [← e]; exact h1))]
      exact h2
  refine ⟨st, fun a u e => ?_, ⟨g.refs.nd, g.refs.len, fun a ha => ?_, fun k xs hk => ?_⟩, tabs_put g.tabs (.inl hp), fun a u e => ?_⟩
  · have e : upd w.P p o a = some u := e
    by_cases h : a = p
    · subst h
      rw [upd_same] at e ⊢
      exact e
    · rw [upd_ne h] at e ⊢
      exact g.sub a u e
  · show upd w.P p o a = none
    rw [upd_ne (fun e => hR (by rw [← e]; exact ha))]
    exact g.refs.out a ha
  · obtain ⟨a, vs, h1, h2, h3, hz⟩ := g.refs.at_ k xs hk
    refine ⟨a, vs, h1, ?_, h3.mono st.later, hz⟩
    rw [upd_ne (ne_of_none h2 hp)]
    exact h2
  · have e : upd w.P p o a = some u := e
    by_cases h : a = p
    · subst h
      rw [upd_same] at e
      cases e
      exact no
    · rw [upd_ne h] at e
      exact g.nt a u e
end
/-- a slot of a def: nothing, a value, a list of its own that is still changed, an instance that is being made (its class's address, its fields so far) -/
inductive Pv where
  | lst (xs : List T) | ins (C : Nat) (vs : List T) | dk (ks : List Key) (vs : List T) | dt (ks : List (List Key)) (vs : List T)
inductive Slot where
  | un | val (t : T) | pv (o : Pv) | fn
abbrev Slot.own (xs : List T) : Slot := .pv (.lst xs)
abbrev Slot.ins (C : Nat) (vs : List T) : Slot := .pv (.ins C vs)
abbrev Slot.dk (ks : List Key) (vs : List T) : Slot := .pv (.dk ks vs)
/-- a thing of a def's own, as it stands -/
inductive PvOk (G : Gm) (w : Wd) (a : Addr) : HO → Pv → Prop
  | lst {vs : List V} {xs : List T} (z : xs.length ≤ sizeLine) (d : Dens G w vs xs) : PvOk G w a (.lst vs) (.lst xs)
  | ins {C : Nat} {cA dx : Addr} {vs : List V} {ts : List T} (hm : a = w.fx.me) (c : G.mg (G.cn C) = some (.ref cA)) (l : ts.length ≤ (G.fl C).length) (d : Dens G w vs ts) : PvOk G w a (.ins cA dx (((G.fl C).take ts.length).zip vs)) (.ins C ts)
  | dk {ks : List Key} {vs : List V} {ts : List T} (l : ks.length = ts.length) (z : ks.length ≤ sizeLine) (d : Dens G w vs ts) : PvOk G w a (.dK (ks.zip vs)) (.dk ks ts)
  | dt {kvs : List (List Key × Addr × V)} {ts : List T} (dk : Dens G w (kvs.map fun x => V.ref x.2.1) (kvs.map fun x => T.tup (x.1.map keyV))) (dv : Dens G w (kvs.map fun x => x.2.2) ts) : PvOk G w a (FdE a kvs) (.dt (kvs.map fun x => x.1) ts)
theorem PvOk.mono {G : Gm} {w w' : Wd} {a : Addr} (L : Later w w') (em : w'.fx = w.fx) {o : HO} {p : Pv} (h : PvOk G w a o p) : PvOk G w' a o p := by
  cases h with
  | lst z d => exact .lst z (d.mono L)
  | ins hm c l d => exact .ins (hm.trans (by rw [em])) c l (d.mono L)
  | dk l z d => exact .dk l z (d.mono L)
  | dt dk dv => exact .dt (dk.mono L) (dv.mono L)
theorem code_ne {H : Hp} {c p : Addr} {q : Str} {u : HO} (hc : H c = some (LamX.CodeO c q)) (hp : H p = some u) (k : Pl u) : c ≠ p := fun e => by
  subst e
  rw [hp] at hc
  exact k.ex _ _ (Option.some.inj hc)
theorem PvOk.pl {G : Gm} {w : Wd} {a : Addr} {o : HO} {p : Pv} (h : PvOk G w a o p) : Pl o := by
  cases h <;> first | exact ⟨fun _ e => (by unfold FdE at e; cases e), fun _ _ e => fde_ne e⟩ | exact ⟨fun _ e => (by cases e), fun _ _ e => (by unfold LamX.CodeO at e; cases e)⟩
abbrev Env := List Slot
/-- the slots hold what env says; H0: the heap at the def's entry -/
def SlotAt (G : Gm) (w : Wd) (H0 H : Hp) (σ : L2.St) (oa : Nat → Addr) (i : Nat) : Slot → Prop
  | .un => True
  | .val t => ∃ v, σ[i]? = some (some v) ∧ Den G w v t
  | .fn => ∃ a c q cv ct, G.fn = some (a, c, q, cv, ct) ∧ σ[i]? = some (some (.ref a)) ∧ Dens G w cv ct ∧ c ∉ w.R ∧ H c = some (LamX.CodeO c q)
  | .pv q => σ[i]? = some (some (.ref (oa i))) ∧ w.P (oa i) = none ∧ oa i ∉ w.R ∧ ¬ Vs H0 (oa i) ∧ ∃ o, H (oa i) = some o ∧ PvOk G w (oa i) o q
def Slot.priv : Slot → Bool
  | .pv _ => true
  | _ => false
structure Slots (G : Gm) (w : Wd) (H0 H : Hp) (σ : L2.St) (env : Env) : Prop where
  len : σ.length = env.length
  ex : ∃ oa : Nat → Addr, (∀ (i : Nat) (s : Slot), env[i]? = some s → SlotAt G w H0 H σ oa i s) ∧ ∀ (i j : Nat) (s u : Slot), env[i]? = some s → env[j]? = some u → s.priv = true → u.priv = true → oa i = oa j → i = j
section
variable {G : Gm} {w w' : Wd} {H0 H H' : Hp} {r r' : RS} {σ : L2.St} {env : Env}
theorem Slots.step (s : Slots G w H0 H σ env) (st : Step w H w' H') : Slots G w' H0 H' σ env := by
  obtain ⟨oa, h1, h2⟩ := s.ex
  refine ⟨s.len, oa, fun i s hi => ?_, h2⟩
  have h := h1 i s hi
  have nr : ∀ a, a ∉ w.R → Vs H a → a ∉ w'.R := fun a ha hn hm => by
    obtain ⟨m, e, hm'⟩ := st.refs
    rw [e] at hm
    rcases List.mem_append.mp hm with z | z
    · exact ha z
    · exact hm' a z hn
  cases s with
  | un => trivial
  | fn =>
    obtain ⟨a, c, q, cv, ct, e1, e2, d, n, hc⟩ := h
    exact ⟨a, c, q, cv, ct, e1, e2, d.mono st.later, nr c n ⟨_, hc, LamX.codeO_ne⟩, st.fr c _ n hc LamX.codeO_ne⟩
  | val t =>
    obtain ⟨v, e, d⟩ := h
    exact ⟨v, e, d.mono st.later⟩
  | pv q =>
    obtain ⟨e, h3, h4, h5, o, h6, h7⟩ := h
    exact ⟨e, st.hid _ h4 ⟨o, h6, h7.pl.tb⟩ h3, nr _ h4 ⟨o, h6, h7.pl.tb⟩, h5, o, st.fr _ _ h4 h6 h7.pl.tb, h7.mono st.later st.me⟩
end
/-! ### what is wanted behind a computation -/
/-- an exception of the top's class c, made of one value -/
structure ExcIs (G : Gm) (w : Wd) (H : Hp) (c : Nat) (p : T) (cls : Value) (d : Option Addr) : Prop where
  ex : ∃ cA dd v f, G.mg (G.cn c) = some (.ref cA) ∧ cls = .ref cA ∧ d = some dd ∧ G.fl c = [f] ∧ H dd = some (.xd [(f, v)]) ∧ Den G w v p
def OutP {α : Type} (G : Gm) (w : Wd) (H : Hp) (E : XK) (okP : α → RS → Wd → Hp → Prop) : Out α → Prop
  | .ok a r' => ∀ w' H', Step w H w' H' → Good G w' H' r' → okP a r' w' H'
  | .exn c p r' => ∀ w' H' cls d, Step w H w' H' → Good G w' H' r' → ExcIs G w' H' c p cls d → E cls d H'
  | .bad => False
theorem OutP.mono {α : Type} {G : Gm} {w w1 : Wd} {H H1 : Hp} {E : XK} {P : α → RS → Wd → Hp → Prop} {o : Out α} (h : OutP G w H E P o) (s : Step w H w1 H1) : OutP G w1 H1 E P o := by
  cases o with
  | ok a r' => exact fun w' H' s' g => h w' H' (s.trans s') g
  | exn c p r' => exact fun w' H' cls d s' g x => h w' H' cls d (s.trans s') g x
  | bad => exact h
theorem OutP.imp {α : Type} {G : Gm} {w : Wd} {H : Hp} {E : XK} {P P' : α → RS → Wd → Hp → Prop} {o : Out α} (h : OutP G w H E P o) (hi : ∀ a r w' H', Step w H w' H' → Good G w' H' r → P a r w' H' → P' a r w' H') : OutP G w H E P' o := by
  cases o with
  | ok a r' => exact fun w' H' s' g => hi _ _ _ _ s' g (h w' H' s' g)
  | exn c p r' => exact h
  | bad => exact h
theorem OutP.bind {α β : Type} {G : Gm} {w : Wd} {H : Hp} {E : XK} {P : β → RS → Wd → Hp → Prop} {m : M α} {k : α → M β} {r : RS} (h : OutP G w H E P ((m >>= k) r)) :
    OutP G w H E (fun a r1 w1 H1 => OutP G w1 H1 E P (k a r1)) (m r) := by
  have e : (m >>= k) r = M.bind m k r := rfl
  rw [e] at h
  unfold M.bind at h
  cases q : m r with
  | ok a r' =>
    rw [q] at h
    exact fun w' H' s g => h.mono s
  | exn c p r' =>
    rw [q] at h
    exact h
  | bad =>
    rw [q] at h
    exact h
end Ep
namespace Ep
open PySem PySem.Spec L2
/-! ### readings by computations -/
abbrev WE0 (W : WX) (σ : L2.St) : XK := fun c d H => W c d σ H
def tS (G : Gm) (W : WX) (f : Env → M T) : TE := fun σ H Q => ∃ w H0 env r, Good G w H r ∧ Slots G w H0 H σ env ∧ OutP G w H (WE0 W σ) (fun t _ w' H' => ∀ v, Den G w' v t → Q v H') (f env r)
def tSB (G : Gm) (W : WX) (f : Env → M Bool) : TT := fun σ H Q => ∃ w H0 env r, Good G w H r ∧ Slots G w H0 H σ env ∧ OutP G w H (WE0 W σ) (fun b _ _ H' => Q b H') (f env r)
def fAll : List (Env → M T) → Env → M (List T)
  | [], _ => pure []
  | f :: fs, env => f env >>= fun x => fAll fs env >>= fun xs => pure (x :: xs)
def tSA (G : Gm) (W : WX) (fs : List (Env → M T)) : TA := fun σ H Q => ∃ w H0 env r, Good G w H r ∧ Slots G w H0 H σ env ∧ OutP G w H (WE0 W σ) (fun ts _ w' H' => ∀ vs, Dens G w' vs ts → ts.length = fs.length → Q vs H') (fAll fs env r)
abbrev SE (X : Cx) (G : Gm) (W : WX) (e : Expr) (f : Env → M T) : Prop := PE X e (tS G W f)
abbrev SB (X : Cx) (G : Gm) (W : WX) (e : Expr) (f : Env → M Bool) : Prop := PT X e (tSB G W f)
abbrev SW (X : Cx) (G : Gm) (W : WX) (e : Expr) (f : Env → M Bool) : Prop := PW X e (tSB G W f)
abbrev SA (X : Cx) (G : Gm) (W : WX) (es : List Expr) (fs : List (Env → M T)) : Prop := PA X es (tSA G W fs)
theorem pe_imp {X : Cx} {e : Expr} {t t' : TE} (h : PE X e t) (i : ∀ σ H Q, t' σ H Q → t σ H Q) : PE X e t' := ⟨fun pins s σ H Q I q => h.run pins s σ H Q I (i σ H Q q)⟩
theorem pt_imp {X : Cx} {e : Expr} {t t' : TT} (h : PT X e t) (i : ∀ σ H Q, t' σ H Q → t σ H Q) : PT X e t' := ⟨fun pins s σ H Q I q => h.run pins s σ H Q I (i σ H Q q)⟩
theorem pw_imp {X : Cx} {e : Expr} {t t' : TT} (h : PW X e t) (i : ∀ σ H Q, t' σ H Q → t σ H Q) : PW X e t' := ⟨fun wh pins s σ H Q I q => h.run wh pins s σ H Q I (i σ H Q q)⟩
theorem pa_imp {X : Cx} {e : List Expr} {t t' : TA} (h : PA X e t) (i : ∀ σ H Q, t' σ H Q → t σ H Q) : PA X e t' := ⟨fun pos pins s σ H Q I q => h.run pos pins s σ H Q I (i σ H Q q)⟩
section
variable {G : Gm} {W : WX} {w : Wd} {H0 H : Hp} {r : RS} {σ : L2.St} {env : Env}
/-- behind a first part the second one, in the world that is then -/
theorem seqE {α : Type} {f : Env → M T} {k : T → M α} {P : α → RS → Wd → Hp → Prop} {Q : VK} (g : Good G w H r) (s : Slots G w H0 H σ env) (h : OutP G w H (WE0 W σ) P ((f env >>= k) r))
    (n : ∀ t r1 w1 H1 v, Good G w1 H1 r1 → Slots G w1 H0 H1 σ env → Step w H w1 H1 → Den G w1 v t → OutP G w1 H1 (WE0 W σ) P (k t r1) → Q v H1) : tS G W f σ H Q :=
  ⟨w, H0, env, r, g, s, h.bind.imp fun t r1 w1 H1 st g1 o v d => n t r1 w1 H1 v g1 (s.step st) st d o⟩
theorem seqB {α : Type} {f : Env → M Bool} {k : Bool → M α} {P : α → RS → Wd → Hp → Prop} {Q : Bool → Hp → Prop} (g : Good G w H r) (s : Slots G w H0 H σ env) (h : OutP G w H (WE0 W σ) P ((f env >>= k) r))
    (n : ∀ b r1 w1 H1, Good G w1 H1 r1 → Slots G w1 H0 H1 σ env → Step w H w1 H1 → OutP G w1 H1 (WE0 W σ) P (k b r1) → Q b H1) : tSB G W f σ H Q :=
  ⟨w, H0, env, r, g, s, h.bind.imp fun t r1 w1 H1 st g1 o => n t r1 w1 H1 g1 (s.step st) st o⟩
theorem seqA {α : Type} {fs : List (Env → M T)} {k : List T → M α} {P : α → RS → Wd → Hp → Prop} {Q : List V → Hp → Prop} (g : Good G w H r) (s : Slots G w H0 H σ env) (h : OutP G w H (WE0 W σ) P ((fAll fs env >>= k) r))
    (n : ∀ t r1 w1 H1 v, Good G w1 H1 r1 → Slots G w1 H0 H1 σ env → Step w H w1 H1 → Dens G w1 v t → t.length = fs.length → OutP G w1 H1 (WE0 W σ) P (k t r1) → Q v H1) : tSA G W fs σ H Q :=
  ⟨w, H0, env, r, g, s, h.bind.imp fun t r1 w1 H1 st g1 o v d l => n t r1 w1 H1 v g1 (s.step st) st d l o⟩
theorem OutP.here {α : Type} {E : XK} {P : α → RS → Wd → Hp → Prop} {a : α} (g : Good G w H r) (h : OutP G w H E P (.ok a r)) : P a r w H := h w H (Step.refl _ _) g
end
/-! ### names, constants -/
section
variable {X : Cx} {G : Gm} {W : WX} {pos : Pos}
def fVar (i : Nat) : Env → M T := fun env => match env[i]? with
  | some (.val t) => pure t
  | _ => M.bad
theorem s_var {x : Str} (i : Nat) (hN : X.N[i]? = some x) (hv : Vis X.env.scope x) (hd : (x == ("__debug__" : Str)) = false := by decide) (hcd : (x == ("__classdict__" : Str)) = false := by decide) : SE X G W (.Name x pos) (fVar i) :=
  pe_imp (pe_var hN hv hd hcd) fun σ H Q ⟨w, H0, env, r, g, s, h⟩ => by
    unfold fVar at h
    cases e : env[i]? with
    | none => rw [e] at h; exact h.elim
    | some sl =>
      rw [e] at h
      cases sl with
      | val t =>
        obtain ⟨oa, hs, _⟩ := s.ex
        obtain ⟨v, e1, d⟩ := hs i _ e
        exact ⟨v, e1, OutP.here g h v d⟩
      | un => exact h.elim
      | fn => exact h.elim
      | pv _ => exact h.elim
def fC (t : T) : Env → M T := fun _ => pure t
theorem s_c {e : Expr} {v : V} {t : T} (h : PE X e (tC v)) (d : ∀ w, Den G w v t) : SE X G W e (fC t) := pe_imp h fun σ H Q ⟨w, H0, env, r, g, s, h⟩ => OutP.here g h v (d w)
theorem s_int {i : Int} {j : Nat} : SE X G W (.Constant (.int i) j pos) (fC (.int i)) := s_c pe_int fun _ => .int _
theorem s_bl {b : Bool} {j : Nat} : SE X G W (.Constant (.bool b) j pos) (fC (.bl b)) := s_c pe_bl fun _ => .bl _
theorem s_non {j : Nat} : SE X G W (.Constant .none j pos) (fC .non) := s_c pe_non fun _ => .non
theorem s_str {x : Str} {j : Nat} : SE X G W (.Constant (.str x) j pos) (fC (.str x)) := s_c pe_str fun _ => .str _
/-- a name of the top: its value denotes t in every world -/
theorem s_glob {x : Str} {v : V} {u : Value} {t : T} (hg : Gl X x) (hm : X.mg x = some u) (r : RelV v u) (d : ∀ w, Den G w v t) (hd : (x == ("__debug__" : Str)) = false := by decide) : SE X G W (.Name x pos) (fC t) := s_c (pe_glob hg hm r hd) d
theorem s_bltn {x : Str} {v : V} {u : Value} {t : T} (hg : Gl X x) (hm : X.mg x = none) (hv : bootBuiltins x = some u) (r : RelV v u) (d : ∀ w, Den G w v t) (hn : x ≠ "__name__" := by decide) (hd : (x == ("__debug__" : Str)) = false := by decide) : SE X G W (.Name x pos) (fC t) := s_c (pe_bltn hg hm hv r hn hd) d
end
/-! ### lists that are only looked at -/
/-- a value, or a list that the def still changes -/
def DenB (G : Gm) (w : Wd) (H : Hp) (v : V) (t : T) : Prop := Den G w v t ∨ ∃ a vs xs, v = .ref a ∧ t = .lst xs ∧ a ∉ w.R ∧ H a = some (.lst vs) ∧ Dens G w vs xs ∧ xs.length ≤ sizeLine
def tSK (G : Gm) (W : WX) (f : Env → M T) : TE := fun σ H Q => ∃ w H0 env r, Good G w H r ∧ Slots G w H0 H σ env ∧ OutP G w H (WE0 W σ) (fun t _ w' H' => ∀ v, DenB G w' H' v t → Q v H') (f env r)
abbrev SK (X : Cx) (G : Gm) (W : WX) (e : Expr) (f : Env → M T) : Prop := PE X e (tSK G W f)
theorem DenB.step {G : Gm} {w w' : Wd} {H H' : Hp} {v : V} {t : T} (d : DenB G w H v t) (s : Step w H w' H') : DenB G w' H' v t := by
  rcases d with d | ⟨a, vs, xs, e1, e2, h1, h2, h3, h4⟩
  · exact .inl (d.mono s.later)
  · refine .inr ⟨a, vs, xs, e1, e2, fun hm => ?_, s.fr _ _ h1 h2 (by intro _ e; cases e), h3.mono s.later, h4⟩
    obtain ⟨m, e, hm'⟩ := s.refs
    rw [e] at hm
    rcases List.mem_append.mp hm with z | z
    · exact h1 z
    · exact hm' a z (vs_of h2)
section
variable {X : Cx} {G : Gm} {W : WX} {pos : Pos} {a b : Expr} {f g : Env → M T}
theorem k_of (h : SE X G W a f) : SK X G W a f := pe_imp h fun σ H Q ⟨w, H0, env, r, g, s, h⟩ => ⟨w, H0, env, r, g, s, h.imp fun _ _ _ _ _ _ z v d => z v (.inl d)⟩
def fBor (i : Nat) : Env → M T := fun env => match env[i]? with
  | some (.val t) => pure t
  | some (.pv (.lst xs)) => pure (.lst xs)
  | _ => M.bad
theorem k_var {x : Str} (i : Nat) (hN : X.N[i]? = some x) (hv : Vis X.env.scope x) (hd : (x == ("__debug__" : Str)) = false := by decide) (hcd : (x == ("__classdict__" : Str)) = false := by decide) : SK X G W (.Name x pos) (fBor i) :=
  pe_imp (pe_var hN hv hd hcd) fun σ H Q ⟨w, H0, env, r, g, s, h⟩ => by
    unfold fBor at h
    cases e : env[i]? with
    | none => rw [e] at h; exact h.elim
    | some sl =>
      rw [e] at h
      obtain ⟨oa, hs, _⟩ := s.ex
      cases sl with
      | val t =>
        obtain ⟨v, e1, d⟩ := hs i _ e
        exact ⟨v, e1, OutP.here g h v (.inl d)⟩
      | pv o =>
        cases o with
        | lst xs =>
          obtain ⟨e1, h2, h3, h4, o, h5, h6⟩ := hs i _ e
          cases h6 with
          | lst hz h6 => exact ⟨_, e1, OutP.here g h _ (.inr ⟨_, _, xs, rfl, rfl, h3, h5, h6, hz⟩)⟩
        | _ => exact h.elim
      | un => exact h.elim
      | fn => exact h.elim
theorem seqK {α : Type} {w : Wd} {H0 H : Hp} {r : RS} {σ : L2.St} {env : Env} {k : T → M α} {P : α → RS → Wd → Hp → Prop} {Q : VK} (g : Good G w H r) (s : Slots G w H0 H σ env) (h : OutP G w H (WE0 W σ) P ((f env >>= k) r))
    (n : ∀ t r1 w1 H1 v, Good G w1 H1 r1 → Slots G w1 H0 H1 σ env → Step w H w1 H1 → DenB G w1 H1 v t → OutP G w1 H1 (WE0 W σ) P (k t r1) → Q v H1) : tSK G W f σ H Q :=
  ⟨w, H0, env, r, g, s, h.bind.imp fun t r1 w1 H1 st g1 o v d => n t r1 w1 H1 v g1 (s.step st) st d o⟩
end
/-! ### operators -/
section
variable {X : Cx} {G : Gm} {W : WX} {pos : Pos}
/-- a rule by values computes h -/
def OpV (G : Gm) (r2 : R2) (h : T → T → Option T) : Prop := ∀ w H r x y t u z Q, Good G w H r → Den G w x t → Den G w y u → h t u = some z → (∀ v w' H', Step w H w' H' → Good G w' H' r → Den G w' v z → Q v H') → r2 x y H Q
def fBin (h : T → T → Option T) (f g : Env → M T) : Env → M T := fun env => f env >>= fun x => g env >>= fun y => M.lift (h x y)
theorem liftP {α : Type} {w : Wd} {H : Hp} {E : XK} {r : RS} {P : α → RS → Wd → Hp → Prop} {o : Option α} (h : OutP G w H E P (M.lift o r)) : ∃ a, o = some a ∧ ∀ w' H', Step w H w' H' → Good G w' H' r → P a r w' H' := by
  cases o with
  | none => exact h.elim
  | some a => exact ⟨a, rfl, h⟩
variable {a b c : Expr} {f g k : Env → M T}
theorem op_use {r2 : R2} {h : T → T → Option T} {σ : L2.St} {H : Hp} {Q : VK} (hv : OpV G r2 h) (hq : tS G W (fBin h f g) σ H Q) : tOp r2 (tS G W f) (tS G W g) σ H Q := by
  obtain ⟨w, H0, env, r, g0, s, h0⟩ := hq
  refine seqE g0 s h0 fun t r1 w1 H1 x g1 s1 st1 d1 h1 => ?_
  refine seqE g1 s1 h1 fun u r2 w2 H2 y g2 s2 st2 d2 h2 => ?_
  obtain ⟨z, ez, hz⟩ := liftP h2
  exact hv w2 H2 r2 x y t u z Q g2 (d1.mono st2.later) d2 ez fun v w' H' st g' d => hz w' H' st g' v d
theorem s_bin {op : Operator} {r2 : R2} {h : T → T → Option T} (ho : OpR X (binaryOp op) r2) (hv : OpV G r2 h) (ha : SE X G W a f) (hb : SE X G W b g) : SE X G W (.BinOp a op b pos) (fBin h f g) :=
  pe_imp (pe_op ho ha hb) fun σ H Q hq => op_use hv hq
def UnV (G : Gm) (r1 : V → Hp → VK → Prop) (h : T → Option T) : Prop := ∀ w H r x t z Q, Good G w H r → Den G w x t → h t = some z → (∀ v w' H', Step w H w' H' → Good G w' H' r → Den G w' v z → Q v H') → r1 x H Q
def fUn (h : T → Option T) (f : Env → M T) : Env → M T := fun env => f env >>= fun x => M.lift (h x)
theorem s_un {op : UnaryOp} {r1 : V → Hp → VK → Prop} {h : T → Option T} (ho : UnR X (unaryOp op) r1) (hv : UnV G r1 h) (ha : SE X G W a f) : SE X G W (.UnaryOp op a pos) (fUn h f) :=
  pe_imp (pe_un ho ha) fun σ H Q ⟨w, H0, env, r, g0, s, h0⟩ => by
    refine seqE g0 s h0 fun t r1 w1 H1 x g1 s1 st1 d1 h1 => ?_
    obtain ⟨z, ez, hz⟩ := liftP h1
    exact hv w1 H1 r1 x t z Q g1 d1 ez fun v w' H' st g' d => hz w' H' st g' v d
/-- comparisons -/
def fCmp (h : T → T → Option Bool) (f g : Env → M T) : Env → M T := fBin (fun x y => (h x y).map T.bl) f g
def fCmpB (h : T → T → Option Bool) (f g : Env → M T) : Env → M Bool := fun env => f env >>= fun x => g env >>= fun y => M.lift (h x y)
def CmpV (G : Gm) (r2 : R2) (h : T → T → Option Bool) : Prop := ∀ w H r x y t u z Q, Good G w H r → DenB G w H x t → DenB G w H y u → h t u = some z → Q (.bl z) H → r2 x y H Q
theorem s_cmp {op : CmpOp} {r2 : R2} {h : T → T → Option Bool} (ho : OpR X (compareOp op) r2) (hv : CmpV G r2 h) (ha : SK X G W a f) (hb : SK X G W b g) (hm : behindInMarks op b = false) : SE X G W (.Compare a [op] [b] pos) (fCmp h f g) :=
  pe_imp (pe_cmpR ho ha hb hm) fun σ H Q ⟨w, H0, env, r, g0, s, h0⟩ => by
    refine seqK g0 s h0 fun t r1 w1 H1 x g1 s1 st1 d1 h1 => ?_
    refine seqK g1 s1 h1 fun u r2 w2 H2 y g2 s2 st2 d2 h2 => ?_
    obtain ⟨z, ez, hz⟩ := liftP h2
    have ez : (h t u).map T.bl = some z := ez
    cases e : h t u with
    | none => rw [e] at ez; cases ez
    | some b =>
      rw [e] at ez
      cases ez
      exact hv w2 H2 r2 x y t u b _ g2 (d1.step st2) d2 e (hz w2 H2 (Step.refl _ _) g2 _ (.bl b))
theorem s_cmpB {op : CmpOp} {r2 : R2} {h : T → T → Option Bool} (ho : OpR X (compareOp op) r2) (hv : CmpV G r2 h) (ha : SK X G W a f) (hb : SK X G W b g) (hm : behindInMarks op b = false) : SB X G W (.Compare a [op] [b] pos) (fCmpB h f g) :=
  pt_imp (pt_cmpR ho ha hb hm) fun σ H Q ⟨w, H0, env, r, g0, s, h0⟩ => by
    show tOp r2 (tSK G W f) (tSK G W g) σ H fun x H' => ∃ k, x = .bl k ∧ Q k H'
    refine seqK g0 s h0 fun t r1 w1 H1 x g1 s1 st1 d1 h1 => ?_
    refine seqK g1 s1 h1 fun u r2 w2 H2 y g2 s2 st2 d2 h2 => ?_
    obtain ⟨z, ez, hz⟩ := liftP h2
    exact hv w2 H2 r2 x y t u z _ g2 (d1.step st2) d2 ez ⟨z, rfl, hz w2 H2 (Step.refl _ _) g2⟩
end
/-! ### chains, and, or, not, if .. else, arguments -/
section
variable {X : Cx} {G : Gm} {W : WX} {pos : Pos} {a b c : Expr} {f g k : Env → M T} {rest : List Expr} {p q : Env → M Bool}
/-- a bool as a test -/
def fToB (f : Env → M T) : Env → M Bool := fun env => f env >>= fun x => match x with
  | .bl b => pure b
  | _ => M.bad
theorem s_val (ha : SE X G W a f) (he : ∀ whole, isTrue a X.env whole = (do let v ← whole; standAt a.pos; holding [v] (truthy v)) := by intro _; rfl) : SB X G W a (fToB f) :=
  pt_imp (pt_val ha he) fun σ H Q ⟨w, H0, env, r, g0, s, h0⟩ => by
    refine seqE g0 s h0 fun t r1 w1 H1 x g1 s1 st1 d1 h1 => ?_
    cases d1 with
    | bl b => exact ⟨b, rfl, OutP.here g1 h1⟩
    | _ => exact h1.elim
/-- a value's truth -/
def truT : T → Option Bool
  | .non => some false
  | .bl b => some b
  | .int i => some (i != 0)
  | .str x => if x.length ≤ 100000 then some ((x.length : Int) != 0) else none
  | .tup xs => some (!xs.isEmpty)
  | .lst xs => some (!xs.isEmpty)
  | .kls xs => some (!xs.isEmpty)
  | _ => none
theorem Dens.emp {w : Wd} {vs : List V} {ts : List T} (d : Dens G w vs ts) : vs.isEmpty = ts.isEmpty := by cases d <;> rfl
def fTru (f : Env → M T) : Env → M Bool := fun env => f env >>= fun x => M.lift (truT x)
theorem s_tru (hK : X.K = G.K) (ha : SE X G W a f) (he : ∀ whole, isTrue a X.env whole = (do let v ← whole; standAt a.pos; holding [v] (truthy v)) := by intro _; rfl) : SB X G W a (fTru f) :=
  pt_imp (pt_truth ha he) fun σ H Q ⟨w, H0, env, r, g0, s, h0⟩ => by
    refine seqE g0 s h0 fun t r1 w1 H1 x g1 s1 st1 d1 h1 => ?_
    obtain ⟨z, ez, h2⟩ := liftP h1
    refine ⟨z, ?_, h2 w1 H1 (Step.refl _ _) g1⟩
    rw [hK]
    cases d1 with
    | non => cases ez; rfl
    | bl b => cases ez; rfl
    | int i => cases ez; rfl
    | str y =>
      have ez : (if y.length ≤ 100000 then some ((y.length : Int) != 0) else none) = some z := ez
      by_cases h : y.length ≤ 100000
      · rw [if_pos h] at ez
        cases ez
        exact ⟨Nat.le_trans h (by decide), rfl⟩
      · rw [if_neg h] at ez
        cases ez
    | tup hs _ d => cases ez; exact .inr (.inl ⟨_, tup_sq g1.sub hs, by rw [d.emp]⟩)
    | lst hs _ d => cases ez; exact .inl ⟨_, SqL.of (g1.sub _ _ hs), by rw [d.emp]⟩
    | kls hs _ d => cases ez; exact .inl ⟨_, g1.sub.seq hs, by rw [d.emp]⟩
    | _ => cases ez
def fAndB (p q : Env → M Bool) : Env → M Bool := fun env => p env >>= fun c => if c = true then q env else pure false
def fOrB (p q : Env → M Bool) : Env → M Bool := fun env => p env >>= fun c => if c = true then pure true else q env
def fNotB (p : Env → M Bool) : Env → M Bool := fun env => p env >>= fun c => pure (!c)
theorem w_and1 (ha : SB X G W a p) : SW X G W (.BoolOp .And [a] pos) p := pw_and1 ha
theorem w_or1 (ha : SB X G W a p) : SW X G W (.BoolOp .Or [a] pos) p := pw_or1 ha
theorem w_and (ha : SB X G W a p) (hb : SW X G W (.BoolOp .And (b :: rest) pos) q) : SW X G W (.BoolOp .And (a :: b :: rest) pos) (fAndB p q) :=
  pw_imp (pw_and ha hb) fun σ H Q ⟨w, H0, env, r, g0, s, h0⟩ => by
    refine seqB g0 s h0 fun t r1 w1 H1 g1 s1 st1 h1 => ?_
    cases t with
    | true => exact ⟨w1, H0, env, r1, g1, s1, h1⟩
    | false => exact OutP.here g1 h1
theorem w_or (ha : SB X G W a p) (hb : SW X G W (.BoolOp .Or (b :: rest) pos) q) : SW X G W (.BoolOp .Or (a :: b :: rest) pos) (fOrB p q) :=
  pw_imp (pw_or ha hb) fun σ H Q ⟨w, H0, env, r, g0, s, h0⟩ => by
    refine seqB g0 s h0 fun t r1 w1 H1 g1 s1 st1 h1 => ?_
    cases t with
    | false => exact ⟨w1, H0, env, r1, g1, s1, h1⟩
    | true => exact OutP.here g1 h1
theorem w_not (ha : SB X G W a p) : SB X G W (.UnaryOp .Not a pos) (fNotB p) :=
  pt_imp (pt_not ha) fun σ H Q ⟨w, H0, env, r, g0, s, h0⟩ => by
    refine seqB g0 s h0 fun t r1 w1 H1 g1 s1 st1 h1 => ?_
    exact OutP.here g1 h1
theorem w_t (ha : SW X G W a p) : SB X G W a p := ha.pt
/-- as values: bools -/
def fAnd (f g : Env → M T) : Env → M T := fun env => f env >>= fun x => match x with
  | .bl true => g env
  | .bl false => pure (.bl false)
  | _ => M.bad
def fOr (f g : Env → M T) : Env → M T := fun env => f env >>= fun x => match x with
  | .bl true => pure (.bl true)
  | .bl false => g env
  | _ => M.bad
def fNot (f : Env → M T) : Env → M T := fun env => f env >>= fun x => match x with
  | .bl b => pure (.bl (!b))
  | _ => M.bad
theorem s_one {op : BoolOp} (ha : SE X G W a f) : SE X G W (.BoolOp op [a] pos) f := pe_one ha
theorem s_and (ha : SE X G W a f) (hb : SE X G W (.BoolOp .And (b :: rest) pos) g) : SE X G W (.BoolOp .And (a :: b :: rest) pos) (fAnd f g) :=
  pe_imp (pe_and ha hb) fun σ H Q ⟨w, H0, env, r, g0, s, h0⟩ => by
    refine seqE g0 s h0 fun t r1 w1 H1 x g1 s1 st1 d1 h1 => ?_
    cases d1 with
    | bl b =>
      cases b with
      | true => exact ⟨true, rfl, w1, H0, env, r1, g1, s1, h1⟩
      | false => exact ⟨false, rfl, OutP.here g1 h1 _ (.bl false)⟩
    | _ => exact h1.elim
theorem s_or (ha : SE X G W a f) (hb : SE X G W (.BoolOp .Or (b :: rest) pos) g) : SE X G W (.BoolOp .Or (a :: b :: rest) pos) (fOr f g) :=
  pe_imp (pe_or ha hb) fun σ H Q ⟨w, H0, env, r, g0, s, h0⟩ => by
    refine seqE g0 s h0 fun t r1 w1 H1 x g1 s1 st1 d1 h1 => ?_
    cases d1 with
    | bl b =>
      cases b with
      | true => exact ⟨true, rfl, OutP.here g1 h1 _ (.bl true)⟩
      | false => exact ⟨false, rfl, w1, H0, env, r1, g1, s1, h1⟩
    | _ => exact h1.elim
theorem s_not (ha : SE X G W a f) : SE X G W (.UnaryOp .Not a pos) (fNot f) :=
  pe_imp (pe_not ha) fun σ H Q ⟨w, H0, env, r, g0, s, h0⟩ => by
    refine seqE g0 s h0 fun t r1 w1 H1 x g1 s1 st1 d1 h1 => ?_
    cases d1 with
    | bl b => exact ⟨b, rfl, OutP.here g1 h1 _ (.bl _)⟩
    | _ => exact h1.elim
def fIf (p : Env → M Bool) (f g : Env → M T) : Env → M T := fun env => p env >>= fun c => if c = true then f env else g env
theorem s_if (hc : SB X G W c p) (ha : SE X G W a f) (hb : SE X G W b g) : SE X G W (.IfExp c a b pos) (fIf p f g) :=
  pe_imp (pe_ifExp hc ha hb) fun σ H Q ⟨w, H0, env, r, g0, s, h0⟩ => by
    refine seqB g0 s h0 fun t r1 w1 H1 g1 s1 st1 h1 => ?_
    cases t with
    | true => exact ⟨w1, H0, env, r1, g1, s1, h1⟩
    | false => exact ⟨w1, H0, env, r1, g1, s1, h1⟩
theorem a_nil : SA X G W [] [] := pa_imp pa_nil fun σ H Q ⟨w, H0, env, r, g0, s, h0⟩ => OutP.here g0 h0 [] .nil rfl
theorem a_cons {e : Expr} {es : List Expr} {fs : List (Env → M T)} (ha : SE X G W e f) (hr : SA X G W es fs) (hs : starEach (e :: es) X.env = (false, eval e X.env) :: starEach es X.env := by rfl) : SA X G W (e :: es) (f :: fs) :=
  pa_imp (pa_cons ha hr hs) fun σ H Q ⟨w, H0, env, r, g0, s, h0⟩ => by
    refine seqE g0 s h0 fun t r1 w1 H1 x g1 s1 st1 d1 h1 => ?_
    refine seqA g1 s1 h1 fun ts r2 w2 H2 xs g2 s2 st2 d2 l h2 => ?_
    exact OutP.here g2 h2 (x :: xs) (.cons (d1.mono st2.later) d2) (by rw [List.length_cons, List.length_cons, l])
def fTup (fs : List (Env → M T)) : Env → M T := fun env => fAll fs env >>= fun ts => pure (.tup ts)
def fLst (fs : List (Env → M T)) : Env → M T := fun env => fAll fs env >>= fun ts => pure (.lst ts)
theorem s_tup {es : List Expr} {fs : List (Env → M T)} {j : Nat} (ha : SA X G W es fs) (hl : fs.length ≤ 1000 := by decide) : SE X G W (.Tuple es j pos) (fTup fs) :=
  pe_imp (pe_tup ha) fun σ H Q ⟨w, H0, env, r, g0, s, h0⟩ => by
    refine seqA g0 s h0 fun ts r1 w1 H1 vs g1 s1 st1 d1 l h1 => ?_
    have hz : ts.length ≤ sizeLine := by rw [l]; exact Nat.le_trans hl (by decide)
    refine ⟨by rw [d1.length]; exact hz, fun p hp => ?_⟩
    obtain ⟨st, g2⟩ := g1.new (o := .tup vs) hp
    exact h1 _ _ st g2 _ (.tup (.inl upd_same) hz (d1.mono st.later))
theorem s_lst {es : List Expr} {fs : List (Env → M T)} (ha : SA X G W es fs) (hl : fs.length ≤ 1000 := by decide) : SE X G W (.List es pos) (fLst fs) :=
  pe_imp (pe_lst ha) fun σ H Q ⟨w, H0, env, r, g0, s, h0⟩ => by
    refine seqA g0 s h0 fun ts r1 w1 H1 vs g1 s1 st1 d1 l h1 => ?_
    have hz : ts.length ≤ sizeLine := by rw [l]; exact Nat.le_trans hl (by decide)
    refine ⟨by rw [d1.length]; exact hz, fun p hp => ?_⟩
    obtain ⟨st, g2⟩ := g1.new (o := .lst vs) hp
    exact h1 _ _ st g2 _ (.lst upd_same hz (d1.mono st.later))
end
end Ep
namespace Ep
open PySem PySem.Spec L2
section
variable {X : Cx} {G : Gm} {W : WX} {pos : Pos} {a b : Expr} {f g : Env → M T}
/-- the items of a list, a tuple -/
def seqT (r : RS) : T → Option (List T)
  | .lst xs => some xs
  | .kls xs => some xs
  | .tup xs => some xs
  | .ref k => r[k]?
  | _ => none
inductive SeqD (G : Gm) (w : Wd) (H : Hp) (a : Addr) (xs : List T) : Prop where
  | l (vs : List V) (h : SqL G.K H a vs) (d : Dens G w vs xs) (z : xs.length ≤ sizeLine) : SeqD G w H a xs
  | t (vs : List V) (h : SqT G.K H a vs) (d : Dens G w vs xs) (z : xs.length ≤ sizeLine) : SeqD G w H a xs
theorem seq_of {w : Wd} {H : Hp} {r : RS} {v : V} {t : T} {xs : List T} (g : Good G w H r) (d : DenB G w H v t) (e : seqT r t = some xs) : ∃ a, v = .ref a ∧ SeqD G w H a xs := by
  rcases d with d | ⟨a, vs, ys, e1, e2, h1, h2, h3, h4⟩
  · cases d with
    | tup h z d => cases e; exact ⟨_, rfl, .t _ (tup_sq g.sub h) d z⟩
    | lst h z d => cases e; exact ⟨_, rfl, .l _ (SqL.of (g.sub _ _ h)) d z⟩
    | kls h z d => cases e; exact ⟨_, rfl, .l _ (g.sub.seq h) d z⟩
    | @ref k a h =>
      obtain ⟨b, vs, h1, h2, h3, h4⟩ := g.refs.at_ k xs e
      rw [h] at h1
      cases h1
      exact ⟨_, rfl, .l vs (SqL.of h2) h3 h4⟩
    | _ => cases e
  · subst e1 e2
    cases e
    exact ⟨_, rfl, .l vs (SqL.of h2) h3 h4⟩
theorem SeqD.z {w : Wd} {H : Hp} {a : Addr} {xs : List T} (h : SeqD G w H a xs) : xs.length ≤ sizeLine := by cases h <;> assumption
/-! ### items -/
def ixT (r : RS) (t : T) (i : T) : Option T := match t, i with
  | .str z, .int i => if z.length ≤ 100000 then (atI z.cps.toList i).map fun c => .str ⟨#[c]⟩ else none
  | t, .int i => (seqT r t).bind fun xs => atI xs i
  | _, _ => none
def fIx (f g : Env → M T) : Env → M T := fun env => f env >>= fun x => g env >>= fun y => fun r => M.lift (ixT r x y) r
theorem dens_at {w : Wd} {vs : List V} {xs : List T} {i : Int} {t : T} (d : Dens G w vs xs) (e : atI xs i = some t) : ∃ v, atI vs i = some v ∧ Den G w v t := by
  unfold atI at e ⊢
  rw [d.length]
  cases q : ixN xs.length i with
  | none => rw [q] at e; cases e
  | some j =>
    rw [q] at e
    exact d.get e
theorem s_ix (hK : X.K = G.K) (ha : SK X G W a f) (hb : SE X G W b g) (hs : PlainIx b) : SE X G W (.Subscript a b pos) (fIx f g) :=
  pe_imp (pe_ix ix_seq ha hb hs) fun σ H Q ⟨w, H0, env, r, g0, s, h0⟩ => by
    refine seqK g0 s h0 fun t r1 w1 H1 x g1 s1 st1 d1 h1 => ?_
    refine seqE g1 s1 h1 fun u r2 w2 H2 y g2 s2 st2 d2 h2 => ?_
    have d1 := d1.step st2
    obtain ⟨z, ez, h3⟩ := liftP h2
    have fin : ∀ v, Den G w2 v z → Q v H2 := fun v d => h3 w2 H2 (Step.refl _ _) g2 v d
    rw [hK]
    have seqs : ∀ i, y = .int i → ((seqT r2 t).bind fun xs => atI xs i) = some z → rIx G.K x y H2 Q := fun i ey e => by
      cases q : seqT r2 t with
      | none => rw [q] at e; cases e
      | some xs =>
        rw [q] at e
        obtain ⟨p, rfl, sd⟩ := seq_of g2 d1 q
        cases sd with
        | l vs hh dd _ =>
          obtain ⟨v, e1, e2⟩ := dens_at dd e
          exact .inl ⟨p, vs, i, v, rfl, ey, hh, e1, fin v e2⟩
        | t vs hh dd _ =>
          obtain ⟨v, e1, e2⟩ := dens_at dd e
          exact .inr (.inl ⟨p, vs, i, v, rfl, ey, hh, e1, fin v e2⟩)
    cases d2 with
    | int i =>
      cases t with
      | str zz =>
        have ez : (if zz.length ≤ 100000 then (atI zz.cps.toList i).map fun c => T.str ⟨#[c]⟩ else none) = some z := ez
        by_cases hz : zz.length ≤ 100000
        · rw [if_pos hz] at ez
          cases q : atI zz.cps.toList i with
          | none => rw [q] at ez; cases ez
          | some c =>
            rw [q] at ez
            cases ez
            have : x = .str zz := by
              rcases d1 with d1 | ⟨_, _, _, _, e2, _⟩
              · cases d1; rfl
              · cases e2
            subst this
            exact .inr (.inr ⟨zz, i, c, rfl, rfl, Nat.le_trans hz (by decide), q, fin _ (.str _)⟩)
        · rw [if_neg hz] at ez; cases ez
      | _ => exact seqs i rfl ez
    | _ => cases t <;> cases ez
/-! ### slices -/
def fO : Option (Env → M T) → Env → M (Option Int)
  | none, _ => pure none
  | some f, env => f env >>= fun x => match x with
    | .int i => pure (some i)
    | _ => M.bad
def tSO (G : Gm) (W : WX) (f : Option (Env → M T)) : TO := fun σ H Q => ∃ w H0 env r, Good G w H r ∧ Slots G w H0 H σ env ∧ OutP G w H (WE0 W σ) (fun o _ _ H' => Q o H') (fO f env r)
theorem po_imp {e : Option Expr} {t t' : TO} (h : PO X e t) (i : ∀ σ H Q, t' σ H Q → t σ H Q) : PO X e t' := ⟨fun pins s σ H Q I q => h.run pins s σ H Q I (i σ H Q q)⟩
theorem o_none : PO X none (tSO G W none) := po_imp po_none fun σ H Q ⟨w, H0, env, r, g, s, h⟩ => OutP.here g h
theorem o_some (ha : SE X G W a f) : PO X (some a) (tSO G W (some f)) := po_imp (po_some ha) fun σ H Q ⟨w, H0, env, r, g0, s, h0⟩ => by
  refine seqE g0 s h0 fun t r1 w1 H1 x g1 s1 st1 d1 h1 => ?_
  cases d1 with
  | int i => exact ⟨i, rfl, OutP.here g1 h1⟩
  | _ => exact h1.elim
def cutT (xs : List T) (lo hi : Option Int) : List T := (xs.drop (HT.sIx xs.length 0 lo)).take (HT.sIx xs.length xs.length hi - HT.sIx xs.length 0 lo)
def slT (r : RS) (t : T) (lo hi : Option Int) : Option T := match t with
  | .str z => if z.length ≤ 100000 then some (.str (cutS z lo hi)) else none
  | .lst xs => some (.lst (cutT xs lo hi))
  | .kls xs => some (.lst (cutT xs lo hi))
  | .ref k => r[k]?.map fun xs => .lst (cutT xs lo hi)
  | .tup xs => some (.tup (cutT xs lo hi))
  | _ => none
theorem Dens.cut {w : Wd} {vs : List V} {xs : List T} (d : Dens G w vs xs) (lo hi : Option Int) : Dens G w (cutV vs lo hi) (cutT xs lo hi) := by
  unfold cutV cutT
  rw [d.length]
  exact (d.drop _).take _
theorem cutT_length (xs : List T) (lo hi : Option Int) : (cutT xs lo hi).length ≤ xs.length := by
  unfold cutT
  rw [List.length_take, List.length_drop]
  omega
/-- a slice's value -/
def SlVal (X : Cx) (G : Gm) (r3 : V → Option Int → Option Int → Hp → VK → Prop) : Prop := ∀ w H r x t lo hi z Q, Good G w H r → DenB G w H x t → slT r t lo hi = some z → (∀ v w' H', Step w H w' H' → Good G w' H' r → Den G w' v z → Q v H') → r3 x lo hi H Q
theorem sl_use (hK : X.K = G.K) : SlVal X G (fun x lo hi H Q => rSlL X.K x lo hi H Q ∨ rSlA X.K x lo hi H Q ∨ rSlS x lo hi H Q) := by
  intro w H r x t lo hi z Q g d e q
  rw [hK]
  have lst : ∀ xs, seqT r t = some xs → z = .lst (cutT xs lo hi) → (∀ ys, t ≠ .tup ys) → rSlL G.K x lo hi H Q := fun xs e1 e2 nt => by
    obtain ⟨a, rfl, sd⟩ := seq_of g d e1
    have go : ∀ vs, SqL G.K H a vs → Dens G w vs xs → xs.length ≤ sizeLine → rSlL G.K (.ref a) lo hi H Q := fun vs h d z' => ⟨a, vs, rfl, h, fun p hp => by
      obtain ⟨st, g2⟩ := g.new (o := .lst (cutV vs lo hi)) hp
      subst e2
      exact q _ _ _ st g2 (.lst upd_same (Nat.le_trans (cutT_length _ _ _) z') ((d.cut lo hi).mono st.later))⟩
    rcases d with d | ⟨b, vs, ys, e3, e4, h1, h2, h3, h4⟩
    · cases d with
      | lst h z d => cases e1; exact go _ (SqL.of (g.sub _ _ h)) d z
      | kls h z d => cases e1; exact go _ (g.sub.seq h) d z
      | tup h z d => exact absurd rfl (nt _)
      | @ref k b h =>
        obtain ⟨b', vs, h1, h2, h3, h4⟩ := g.refs.at_ k xs e1
        rw [h] at h1
        cases h1
        exact go vs (SqL.of h2) h3 h4
      | _ => cases e1
    · cases e3
      subst e4
      cases e1
      exact go vs (SqL.of h2) h3 h4
  cases t with
  | str zz =>
    have e : (if zz.length ≤ 100000 then some (T.str (cutS zz lo hi)) else none) = some z := e
    by_cases hz : zz.length ≤ 100000
    · rw [if_pos hz] at e
      cases e
      have : x = .str zz := by
        rcases d with d1 | ⟨_, _, _, _, e2, _⟩
        · cases d1; rfl
        · cases e2
      subst this
      exact .inr (.inr ⟨zz, rfl, Nat.le_trans hz (by decide), q _ w H (Step.refl _ _) g (.str _)⟩)
    · rw [if_neg hz] at e; cases e
  | lst xs =>
    cases e
    exact .inl (lst xs rfl rfl fun _ => nofun)
  | kls xs =>
    cases e
    exact .inl (lst xs rfl rfl fun _ => nofun)
  | ref k =>
    have e : (r[k]?.map fun xs => T.lst (cutT xs lo hi)) = some z := e
    cases q' : r[k]? with
    | none => rw [q'] at e; cases e
    | some xs =>
      rw [q'] at e
      cases e
      exact .inl (lst xs q' rfl fun _ => nofun)
  | tup xs =>
    cases e
    rcases d with d1 | ⟨_, _, _, _, e2, _⟩
    · cases d1 with
      | @tup a vs _ h z d =>
        have hl : (cutT xs lo hi).length ≤ sizeLine := Nat.le_trans (cutT_length _ _ _) z
        refine .inr (.inl ⟨a, vs, rfl, tup_sq g.sub h, ?_, ?_⟩)
        · rw [d.length]
          rintro ⟨e1, e2⟩
          refine q _ w H (Step.refl _ _) g (.tup h hl ?_)
          unfold cutT
          rw [e1, e2]
          simpa using d
        · intro _ p hp
          obtain ⟨st, g2⟩ := g.new (o := .tup (cutV vs lo hi)) hp
          exact q _ _ _ st g2 (.tup (.inl upd_same) hl ((d.cut lo hi).mono st.later))
    · cases e2
  | _ => cases e
def fSl (f : Env → M T) (lo hi : Option (Env → M T)) : Env → M T := fun env => f env >>= fun x => fO lo env >>= fun i => fO hi env >>= fun j => fun r => M.lift (slT r x i j) r
theorem seqO {α : Type} {w : Wd} {H0 H : Hp} {r : RS} {σ : L2.St} {env : Env} {o : Option (Env → M T)} {k : Option Int → M α} {P : α → RS → Wd → Hp → Prop} {Q : Option Int → Hp → Prop} (g : Good G w H r) (s : Slots G w H0 H σ env) (h : OutP G w H (WE0 W σ) P ((fO o env >>= k) r))
    (n : ∀ t r1 w1 H1, Good G w1 H1 r1 → Slots G w1 H0 H1 σ env → Step w H w1 H1 → OutP G w1 H1 (WE0 W σ) P (k t r1) → Q t H1) : tSO G W o σ H Q :=
  ⟨w, H0, env, r, g, s, h.bind.imp fun t r1 w1 H1 st g1 o => n t r1 w1 H1 g1 (s.step st) st o⟩
theorem s_sl {lo hi : Option Expr} {fl fh : Option (Env → M T)} {p2 : Pos} (hK : X.K = G.K) (ha : SK X G W a f) (hl : PO X lo (tSO G W fl)) (hh : PO X hi (tSO G W fh)) : SE X G W (.Subscript a (.Slice lo hi none p2) pos) (fSl f fl fh) :=
  pe_imp (pe_slice (sl_list.or (sl_tupA.or sl_str)) ha hl hh) fun σ H Q ⟨w, H0, env, r, g0, s, h0⟩ => by
    refine seqK g0 s h0 fun t r1 w1 H1 x g1 s1 st1 d1 h1 => ?_
    refine seqO g1 s1 h1 fun i r2 w2 H2 g2 s2 st2 h2 => ?_
    refine seqO g2 s2 h2 fun j r3 w3 H3 g3 s3 st3 h3 => ?_
    obtain ⟨z, ez, h4⟩ := liftP h3
    exact sl_use hK w3 H3 r3 x t i j z Q g3 ((d1.step st2).step st3) ez fun v w' H' st g' d => h4 w' H' st g' v d
/-! ### new lists -/
def tSL (G : Gm) (W : WX) (f : Env → M (List T)) : TE := fun σ H Q => ∃ w H0 env r, Good G w H r ∧ Slots G w H0 H σ env ∧
  OutP G w H (WE0 W σ) (fun xs _ w' H' => ∀ p vs, ¬ Vs H p → w'.P p = none → p ∉ w'.R → H' p = some (.lst vs) → Dens G w' vs xs → xs.length ≤ sizeLine → Q (.ref p) H') (f env r)
abbrev SL (X : Cx) (G : Gm) (W : WX) (e : Expr) (f : Env → M (List T)) : Prop := PE X e (tSL G W f)
theorem Step.publish {w w' : Wd} {H H' : Hp} {p : Addr} {o : HO} (s : Step w H w' H') (h0 : ¬ Vs H p) (hP : w'.P p = none) : Step w H (w'.add p o) H' := by
  refine ⟨fun a u e => ?_, s.fr, s.keep, fun a h1 h2 h3 => ?_, s.refs, s.me⟩
  · show upd w'.P p o a = some u
    have := s.pub a u e
    rw [upd_ne (ne_of_none this hP)]
    exact this
  · show upd w'.P p o a = none
    rw [upd_ne (fun e => h0 (by rw [← e]; exact h2))]
    exact s.hid a h1 h2 h3
theorem Later.add {w : Wd} {p : Addr} {o : HO} (hP : w.P p = none) : Later w (w.add p o) := ⟨fun a u e => by
  show upd w.P p o a = some u
  rw [upd_ne (ne_of_none e hP)]
  exact e, [], by simp [Wd.add]⟩
theorem Good.publish {w : Wd} {H : Hp} {r : RS} {p : Addr} {o : HO} (g : Good G w H r) (hP : w.P p = none) (hR : p ∉ w.R) (h : H p = some o) (no : NoTab o := by intro ps e; cases e) : Good G (w.add p o) H r := by
  refine ⟨fun a u e => ?_, ⟨g.refs.nd, g.refs.len, fun a ha => ?_, fun k xs hk => ?_⟩, g.tabs, fun a u e => ?_⟩
  · have e : upd w.P p o a = some u := e
    by_cases q : a = p
    · subst q
      rw [upd_same] at e
      cases e
      exact h
    · rw [upd_ne q] at e
      exact g.sub a u e
  · show upd w.P p o a = none
    rw [upd_ne (fun e => hR (by rw [← e]; exact ha))]
    exact g.refs.out a ha
  · obtain ⟨a, vs, h1, h2, h3, hz⟩ := g.refs.at_ k xs hk
    exact ⟨a, vs, h1, h2, h3.mono (Later.add hP), hz⟩
  · have e : upd w.P p o a = some u := e
    by_cases q : a = p
    · subst q
      rw [upd_same] at e
      cases e
      exact no
    · rw [upd_ne q] at e
      exact g.nt a u e
def fOwn (f : Env → M (List T)) : Env → M T := fun env => f env >>= fun xs => pure (.lst xs)
theorem own_read {f : Env → M (List T)} {σ : L2.St} {H : Hp} {Q : VK} : tS G W (fOwn f) σ H Q → tSL G W f σ H Q := fun ⟨w, H0, env, r, g, s, h⟩ => by
  refine ⟨w, H0, env, r, g, s, ?_⟩
  have e : fOwn f env r = M.bind (f env) (fun xs => M.pure (T.lst xs)) r := rfl
  rw [e] at h
  unfold M.bind at h
  cases q : f env r with
  | ok xs r1 =>
    rw [q] at h
    intro w1 H1 st g1 p vs hp hP hR hh d z
    exact h _ _ (st.publish hp hP) (g1.publish hP hR hh) _ (.lst upd_same z (d.mono (Later.add hP)))
  | exn c p r1 =>
    rw [q] at h
    exact h
  | bad =>
    rw [q] at h
    exact h
theorem s_own {f : Env → M (List T)} (h : SL X G W a f) : SE X G W a (fOwn f) := pe_imp h fun σ H Q q => own_read q
theorem l_lst {es : List Expr} {fs : List (Env → M T)} (ha : SA X G W es fs) (hl : fs.length ≤ 1000 := by decide) : SL X G W (.List es pos) (fAll fs) :=
  pe_imp (pe_lst ha) fun σ H Q ⟨w, H0, env, r, g0, s, h0⟩ => by
    refine ⟨w, H0, env, r, g0, s, ?_⟩
    cases q : fAll fs env r with
    | ok ts r1 =>
      rw [q] at h0
      intro w1 H1 st g1 vs d l
      have hz : ts.length ≤ sizeLine := by rw [l]; exact Nat.le_trans hl (by decide)
      refine ⟨by rw [d.length]; exact hz, fun p hp => ?_⟩
      have hR := g1.noref hp
      have hP := g1.nopub hp
      have hH : ¬ Vs H p := fun z => nvs hp (st.keep p z)
      have st2 : Step w H w1 (upd H1 p (.lst vs)) := ⟨st.pub, fun a o h1 h2 h3 => by
        rw [upd_ne (ne_of_none (st.fr a o h1 h2 h3) hp)]
        exact st.fr a o h1 h2 h3, fun a h => by
        exact (st.keep a h).put (by intro _ e; cases e), st.hid, st.refs, st.me⟩
      have g2 : Good G w1 (upd H1 p (.lst vs)) r1 := ⟨fun a o e => by
        rw [upd_ne (ne_of_none (g1.sub a o e) hp)]
        exact g1.sub a o e, ⟨g1.refs.nd, g1.refs.len, g1.refs.out, fun k xs hk => by
        obtain ⟨a, us, h1, h2, h3, h4⟩ := g1.refs.at_ k xs hk
        exact ⟨a, us, h1, by rw [upd_ne (ne_of_none h2 hp)]; exact h2, h3, h4⟩⟩, tabs_put g1.tabs (.inl hp), g1.nt⟩
      exact h0 w1 _ st2 g2 p vs hH hP hR upd_same d hz
    | exn c p r1 =>
      rw [q] at h0
      exact h0
    | bad =>
      rw [q] at h0
      exact h0
end
end Ep
namespace Ep
open PySem PySem.Spec L2
section
variable {G : Gm} {w w1 : Wd} {H H1 : Hp} {r : RS} {p : Addr} {o : HO}
theorem Step.before (s : Step w H w1 H1) (h : H1 p = none) : ¬ Vs H p := fun z => nvs h (s.keep p z)
/-- a new thing that nobody else sees -/
theorem Step.priv (s : Step w H w1 H1) (hp : H1 p = none) (no : NoTab o := by intro ps e; cases e) : Step w H w1 (upd H1 p o) := ⟨s.pub, fun a u h1 h2 h3 => by
    rw [upd_ne (ne_of_none (s.fr a u h1 h2 h3) hp)]
    exact s.fr a u h1 h2 h3, fun a h => by
    exact (s.keep a h).put no, s.hid, s.refs, s.me⟩
/-- a private thing is changed -/
theorem Step.chg (s : Step w H w1 H1) (h0 : ¬ Vs H p) (no : NoTab o := by intro ps e; cases e) : Step w H w1 (upd H1 p o) := ⟨s.pub, fun a u h1 h2 h3 => by
    rw [upd_ne (ne_nv h2 h3 h0)]
    exact s.fr a u h1 h2 h3, fun a h => by
    exact (s.keep a h).put no, s.hid, s.refs, s.me⟩
theorem Good.priv (g : Good G w H r) (hP : w.P p = none) (hR : p ∉ w.R) (hq : H p = none ∨ ∃ u, H p = some u ∧ Pl u) : Good G w (upd H p o) r := ⟨fun a u e => by
    rw [upd_ne (ne_of_none e hP)]
    exact g.sub a u e, ⟨g.refs.nd, g.refs.len, g.refs.out, fun k xs hk => by
    obtain ⟨a, us, h1, h2, h3, h4⟩ := g.refs.at_ k xs hk
    refine ⟨a, us, h1, ?_, h3, h4⟩
    rw [upd_ne (fun e => hR (by rw [← e]; exact List.mem_of_getElem? h1))]
    exact h2⟩, tabs_put g.tabs hq, g.nt⟩
end
/-! ### fields -/
theorem lookup_zip {name : Str} : ∀ {l : List Str} {vs : List V} {j : Nat}, l.findIdx? (fun y => y == name) = some j → l.length = vs.length → (l.zip vs).lookup name = vs[j]?
  | [], _, _, h, _ => by simp at h
  | y :: l, [], _, _, e => by simp at e
  | y :: l, v :: vs, j, h, e => by
    rw [List.findIdx?_cons] at h
    rw [List.zip_cons_cons, List.lookup_cons]
    by_cases q : y = name
    · subst q
      have e1 : (y == y) = true := by simp
      rw [if_pos e1] at h
      cases h
      rw [e1]
      rfl
    · have e1 : (y == name) = false := by simp [q]
      have e2 : (name == y) = false := by simp [Ne.symm q]
      rw [e1, if_neg (by decide)] at h
      rw [e2]
      cases h2 : l.findIdx? (fun y => y == name) with
      | none => rw [h2] at h; cases h
      | some i =>
        rw [h2] at h
        cases h
        have := lookup_zip (vs := vs) h2 (by simpa using e)
        simpa using this
theorem lookup_zip_none {name : Str} : ∀ {l : List Str} {vs : List V}, name ∉ l → (l.zip vs).lookup name = none
  | [], _, _ => rfl
  | y :: l, [], _ => rfl
  | y :: l, v :: vs, h => by
    rw [List.zip_cons_cons, List.lookup_cons]
    have e2 : (name == y) = false := by
      have : name ≠ y := fun e => h (by rw [e]; exact List.mem_cons_self)
      simp [this]
    rw [e2]
    exact lookup_zip_none fun hm => h (List.mem_cons_of_mem _ hm)
/-- the classes whose instances have the field, and its place -/
structure FldOk (G : Gm) (name : Str) (C j : Nat) : Prop where
  at_ : (G.fl C).findIdx? (fun y => y == name) = some j
  cl : ∀ cA, G.mg (G.cn C) = some (.ref cA) → Cls G.K cA ∧ NoAttr G.K cA name
def fFld (m : Nat → Option Nat) (f : Env → M T) : Env → M T := fun env => f env >>= fun x => match x with
  | .obj C vs => M.lift ((m C).bind fun j => vs[j]?)
  | _ => M.bad
section
variable {X : Cx} {G : Gm} {W : WX} {pos : Pos} {a b : Expr} {f g : Env → M T} {name : Str}
theorem s_fld (hK : X.K = G.K) (m : Nat → Option Nat) (ok : ∀ C j, m C = some j → FldOk G name C j) (ha : SE X G W a f) (hb : attributeBase a name X.env (eval a X.env) = eval a X.env := by rfl) : SE X G W (.Attribute a name pos) (fFld m f) :=
  pe_imp (pe_fld ha hb) fun σ H Q ⟨w, H0, env, r, g0, s, h0⟩ => by
    refine seqE g0 s h0 fun t r1 w1 H1 x g1 s1 st1 d1 h1 => ?_
    cases d1 with
    | @obj p cA dx C vs ts c h l d =>
      obtain ⟨z, ez, h2⟩ := liftP h1
      cases q : m C with
      | none => rw [q] at ez; cases ez
      | some j =>
        rw [q] at ez
        have o := ok C j q
        obtain ⟨v, e1, e2⟩ := d.get (i := j) ez
        rw [hK]
        exact ⟨p, cA, dx, _, v, rfl, g1.sub _ _ h, (o.cl cA c).1, (o.cl cA c).2, by rw [lookup_zip o.at_ l]; exact e1, h2 w1 H1 (Step.refl _ _) g1 v e2⟩
    | _ => exact h1.elim
/-! ### calls -/
/-- a def computes F of n arguments -/
def spF (G : Gm) (n : Nat) (F : List T → M T) : Sp := fun vs H Q E => ∃ w r ts, Good G w H r ∧ Dens G w vs ts ∧ ts.length = n ∧ OutP G w H E (fun t _ w' H' => ∀ v, Den G w' v t → Q v H') (F ts r)
/-- an __init__ makes of n arguments the fields of an instance of C -/
def spI (G : Gm) (C n : Nat) (F : List T → M (List T)) : Sp := fun vs H Q E => ∃ w r ts x rest cA dx H1, vs = .ref x :: rest ∧ G.mg (G.cn C) = some (.ref cA) ∧ H1 x = none ∧ H1 dx = none ∧ dx ≠ x ∧ H = upd (upd H1 dx (.own x)) x (.ins cA dx []) ∧
  Good G w H1 r ∧ Dens G w rest ts ∧ ts.length = n ∧ OutP G w H1 E (fun fs _ w' H' => ∀ us dx', H' x = some (.ins cA dx' ((G.fl C).zip us)) → us.length = (G.fl C).length → Dens G w' us fs → w'.P x = none → x ∉ w'.R → Q .non H') (F ts r)
theorem spF_len {n : Nat} {F : List T → M T} {ps : List Str} (h : ps.length = n) : ∀ vs H Q E, spF G n F vs H Q E → vs.length = ps.length := fun vs H Q E ⟨w, r, ts, g, d, l, _⟩ => by rw [d.length, l, h]
theorem spI_len {C n : Nat} {F : List T → M (List T)} {ps : List Str} (h : ps.length = n + 1) : ∀ vs H Q E, spI G C n F vs H Q E → vs.length = ps.length := fun vs H Q E ⟨w, r, ts, x, rest, cA, dx, H1, e, _, _, _, _, _, g, d, l, _⟩ => by rw [e, List.length_cons, d.length, l, h]
/-- a def of the top: x its name, n its parameters, ds its last arguments where they are left out -/
structure DefOk (P : Program) (wd : World) (base : Heap) (G : Gm) (k : Nat) (x : Str) (n : Nat) (ds : List T) (F : List T → M T) : Prop where
  ex : ∃ f fd ps dvs dus, FnOk P wd G.K G.mg base (L2.CX P wd) k f fd ps (spF G n F) ∧ G.mg x = some (.ref f) ∧ PySem.W.keepIn G.K (.ref f) = true ∧ Binds G.K fd ps dus ∧ Vals dvs dus ∧ ∀ w, Dens G w dvs ds
/-- a class's making -/
structure MakeOk (P : Program) (wd : World) (base : Heap) (G : Gm) (k C n : Nat) (ds : List T) (F : List T → M (List T)) : Prop where
  ex : ∃ cA f fd ps dvs dus, G.mg (G.cn C) = some (.ref cA) ∧ Mk G.K cA f ∧ FnOk P wd G.K G.mg base (L2.CX P wd) k f fd ps (spI G C n F) ∧ Binds G.K fd ps dus ∧ Vals dvs dus ∧ ∀ w, Dens G w dvs ds
/-- a method of the class C: F takes the instance first -/
structure MethOk (P : Program) (wd : World) (base : Heap) (G : Gm) (k C : Nat) (m : Str) (n : Nat) (ds : List T) (F : List T → M T) : Prop where
  ex : ∃ cA f fd ps dvs dus, G.mg (G.cn C) = some (.ref cA) ∧ Cls G.K cA ∧ Meth G.K cA m f ∧ FnOk P wd G.K G.mg base (L2.CX P wd) k f fd ps (spF G n F) ∧ Binds G.K fd ps dus ∧ Vals dvs dus ∧ ∀ w, Dens G w dvs ds
  nof : m ∉ G.fl C
def fCall (F : List T → M T) (ds : List T) (fs : List (Env → M T)) : Env → M T := fun env => fAll fs env >>= fun ts => F (ts ++ ds)
def fMake (C : Nat) (F : List T → M (List T)) (ds : List T) (fs : List (Env → M T)) : Env → M T := fun env => fAll fs env >>= fun ts => F (ts ++ ds) >>= fun us => pure (.obj C us)
def fMeth (C : Nat) (F : List T → M T) (ds : List T) (f : Env → M T) (fs : List (Env → M T)) : Env → M T := fun env => f env >>= fun x => match x with
  | .obj C' vs => if C' = C then fAll fs env >>= fun ts => F (.obj C' vs :: (ts ++ ds)) else M.bad
  | _ => M.bad
variable {e : Expr} {es : List Expr} {fs : List (Env → M T)} {ds : List T} {j k n C : Nat} {p apos : Pos} {x : Str}
theorem call_use {F : List T → M T} {dvs : List V} (hn : fs.length + ds.length = n) (hd : ∀ w, Dens G w dvs ds) {σ : L2.St} {H : Hp} {Q : VK} (h : tS G W (fCall F ds fs) σ H Q) : tCallSD (spF G n F) dvs (WE W) (tSA G W fs) σ H Q := by
  obtain ⟨w, H0, env, r, g0, s, h0⟩ := h
  refine seqA g0 s h0 fun ts r1 w1 H1 vs g1 s1 st1 d1 l h1 => ?_
  exact ⟨w1, r1, ts ++ ds, g1, d1.append (hd w1), by rw [List.length_append, l, hn], h1⟩
theorem s_call {F : List T → M T} (D : DefOk X.prog X.w X.base G k x n ds F) (hK : X.K = G.K) (hM : X.mg = G.mg) (tk : Takes X W) (hr : Room j X.A) (hk : k ≤ j) (hg : Gl X x) (ha : SA X G W (e :: es) fs) (hn : fs.length + ds.length = n := by rfl)
    (hdb : (x == ("__debug__" : Str)) = false := by decide) (he : starEach (e :: es) X.env = (false, eval e X.env) :: starEach es X.env := by rfl) (hpl : (backTo pos (starEach es X.env)).any (·.1) = false := by rfl) : SE X G W (.Call (.Name x p) (e :: es) [] pos) (fCall F ds fs) := by
  obtain ⟨f, fd, ps, dvs, dus, h1, h2, h3, h4, h5, h6⟩ := D.ex
  rw [← hK, ← hM] at h1
  exact pe_imp (pe_callSD (E := WE W) h1 (hr.mono hk) hg (by rw [hM]; exact h2) (by rw [hK]; exact h3) (by rw [hK]; exact h4) h5 (fun σ => passAt tk σ) ha hdb he hpl) fun σ H Q h => call_use hn h6 h
theorem s_meth {F : List T → M T} {m : Str} {o : Expr} {pl : Sem Bool} (D : MethOk X.prog X.w X.base G k C m n ds F) (hK : X.K = G.K) (hM : X.mg = G.mg) (tk : Takes X W) (hr : Room j X.A) (hk : k ≤ j) (ho : SE X G W o f) (ha : SA X G W (e :: es) fs) (hn : fs.length + ds.length + 1 = n := by rfl) (hst : starEach (e :: es) X.env = (false, eval e X.env) :: starEach es X.env := by rfl) (hpl : (backTo pos (starEach es X.env)).any (·.1) = false := by rfl)
    (ht : eval (.Call (.Attribute o m apos) (e :: es) [] pos) X.env = (do let ov ← eval o X.env; standAt apos.atName; let (f, first) ← holding [ov] (getMethod ov m pl); callWith pos f first (backTo pos (starEach (e :: es) X.env)) (backToKw pos (keywordEach [] X.env))) := by rfl) : SE X G W (.Call (.Attribute o m apos) (e :: es) [] pos) (fMeth C F ds f fs) := by
  obtain ⟨cA, fn, fd, ps, dvs, dus, c1, c2, c3, h1, h4, h5, h6⟩ := D.ex
  rw [← hK, ← hM] at h1
  refine ⟨fun pins s σ H Q I ⟨w, H0, env, r, g0, s0, h0⟩ => ?_⟩
  refine PySem.W.methodCall_KW (pl := pl) (thn (ho.run pins s σ H _ I (seqE g0 s0 h0 fun t r1 w1 H1 x g1 s1 st1 d1 h1 => show (∃ w1 r1 t, Good G w1 H1 r1 ∧ Slots G w1 H0 H1 σ env ∧ Den G w1 x t ∧ OutP G w1 H1 (WE0 W σ) (fun t x w' H' => ∀ (v : V), Den G w' v t → Q v H') ((match t with | .obj C' vs => if C' = C then fAll fs env >>= fun ts => F (.obj C' vs :: (ts ++ ds)) else M.bad | _ => M.bad : M T) r1)) from ⟨w1, r1, t, g1, s1, d1, h1⟩)) fun u s1 ⟨v, H1, I1, rv, w1, r1, t, g1, sl1, d1, h2⟩ => ?_) ht
  cases d1 with
  | @obj q cA' dx C' vs ts c h l d =>
    by_cases hC : C' = C
    · subst hC
      rw [c1] at c
      cases c
      obtain rfl : u = Value.ref q := rv
      have h2 : OutP G w1 H1 (WE0 W σ) (fun t x w' H' => ∀ (v : V), Den G w' v t → Q v H') ((fAll fs env >>= fun us => F (.obj C' ts :: (us ++ ds))) r1) := by simpa using h2
      refine getmeth_ok I1 (g1.sub _ _ h) (by rw [hK]; exact c2) (by rw [hK]; exact c3) (lookup_zip_none D.nof) ?_
      refine PySem.W.callWith_K (first := [.ref q]) (h₀ := X.base) I.ok.mod.kin (by rw [hK]; exact c3.kp) (thn (ha.run pos pins s1 σ H1 _ I1 (seqA g1 sl1 h2 fun us r2 w2 H2 ws g2 s2 st2 d2 l2 h3 => show (∃ w2 r2 us, Good G w2 H2 r2 ∧ Dens G w2 (.ref q :: (ws ++ dvs)) (.obj C' ts :: (us ++ ds)) ∧ us.length = fs.length ∧ OutP G w2 H2 (WE0 W σ) (fun t x w' H' => ∀ (v : V), Den G w' v t → Q v H') (F (.obj C' ts :: (us ++ ds)) r2)) from ⟨w2, r2, us, g2, .cons ((Den.obj c1 h l d).mono st2.later) (d2.append (h6 w2)), l2, h3⟩)) fun us s2 ⟨ws, H2, I2, rw2, w2, r2, us', g2, d2, l2, h3⟩ => ⟨I2.kIn, ?_⟩) hst hpl
      exact run_fnSD (us := .ref q :: us) (vs := .ref q :: ws) h1 (hr.mono hk) (by rw [hK]; exact h4) h5 (passAt tk σ) I2 (.cons rfl rw2) ⟨w2, r2, _, g2, d2, by rw [List.length_cons, List.length_append, l2, ← hn], h3⟩
    · have h2 : OutP G w1 H1 (WE0 W σ) (fun t x w' H' => ∀ (v : V), Den G w' v t → Q v H') ((M.bad : M T) r1) := by simpa [hC] using h2
      exact h2.elim
  | _ => exact h2.elim
theorem s_meth0 {F : List T → M T} {m : Str} {o : Expr} {pl : Sem Bool} (D : MethOk X.prog X.w X.base G k C m n ds F) (hK : X.K = G.K) (hM : X.mg = G.mg) (tk : Takes X W) (hr : Room j X.A) (hk : k ≤ j) (ho : SE X G W o f) (hn : ds.length + 1 = n := by rfl)
    (ht : eval (.Call (.Attribute o m apos) [] [] pos) X.env = (do let ov ← eval o X.env; standAt apos.atName; let (f, first) ← holding [ov] (getMethod ov m pl); callWith pos f first (backTo pos (starEach [] X.env)) (backToKw pos (keywordEach [] X.env))) := by rfl) : SE X G W (.Call (.Attribute o m apos) [] [] pos) (fMeth C F ds f []) := by
  obtain ⟨cA, fn, fd, ps, dvs, dus, c1, c2, c3, h1, h4, h5, h6⟩ := D.ex
  rw [← hK, ← hM] at h1
  refine ⟨fun pins s σ H Q I ⟨w, H0, env, r, g0, s0, h0⟩ => ?_⟩
  refine PySem.W.methodCall_KW (pl := pl) (thn (ho.run pins s σ H _ I (seqE g0 s0 h0 fun t r1 w1 H1 x g1 s1 st1 d1 h1 => show (∃ w1 r1 t, Good G w1 H1 r1 ∧ Slots G w1 H0 H1 σ env ∧ Den G w1 x t ∧ OutP G w1 H1 (WE0 W σ) (fun t x w' H' => ∀ (v : V), Den G w' v t → Q v H') ((match t with | .obj C' vs => if C' = C then fAll [] env >>= fun ts => F (.obj C' vs :: (ts ++ ds)) else M.bad | _ => M.bad : M T) r1)) from ⟨w1, r1, t, g1, s1, d1, h1⟩)) fun u s1 ⟨v, H1, I1, rv, w1, r1, t, g1, sl1, d1, h2⟩ => ?_) ht
  cases d1 with
  | @obj q cA' dx C' vs ts c h l d =>
    by_cases hC : C' = C
    · subst hC
      rw [c1] at c
      cases c
      obtain rfl : u = Value.ref q := rv
      have h2 : OutP G w1 H1 (WE0 W σ) (fun t x w' H' => ∀ (v : V), Den G w' v t → Q v H') (F (.obj C' ts :: ([] ++ ds)) r1) := by
        have h2 : OutP G w1 H1 (WE0 W σ) (fun t x w' H' => ∀ (v : V), Den G w' v t → Q v H') ((if C' = C' then (fAll [] env >>= fun us => F (.obj C' ts :: (us ++ ds))) else M.bad : M T) r1) := h2
        rw [if_pos rfl] at h2
        exact h2
      refine getmeth_ok I1 (g1.sub _ _ h) (by rw [hK]; exact c2) (by rw [hK]; exact c3) (lookup_zip_none D.nof) ?_
      exact PySem.W.callWith_K0 (first := [.ref q]) I1.kIn (by rw [hK]; exact c3.kp) (run_fnSD (us := [.ref q]) (vs := [.ref q]) h1 (hr.mono hk) (by rw [hK]; exact h4) h5 (passAt tk σ) I1 (.cons rfl .nil) ⟨w1, r1, _, g1, .cons (.obj c1 h l d) (h6 w1), by simpa using hn, h2⟩)
    · have h2 : OutP G w1 H1 (WE0 W σ) (fun t x w' H' => ∀ (v : V), Den G w' v t → Q v H') ((M.bad : M T) r1) := by simpa [hC] using h2
      exact h2.elim
  | _ => exact h2.elim
/-! ### instances made -/
theorem run_makeSD {CX : CXT} {cA f : Addr} {fd : FuncData} {ps : List Str} {sp : Sp} {dvs : List V} {dus : List Value} {E : L2.St → XK} {pins : List (Addr × Obj)} {σ : L2.St} {H : Hp} {s : Shared} {Q : VK} {us : List Value} {vs : List V} (Mk' : Mk X.K cA f) (F : FnOk X.prog X.w X.K X.mg X.base CX k f fd ps sp) (hr : Room (k + 1) X.A) (hb : Binds X.K fd ps dus) (hd : Vals dvs dus)
    (hx : ∀ σ, PassesAt CX X σ (E σ)) (I : L2.Inv X pins σ H s) (r : Vals vs us)
    (h : ∀ x dx, H x = none → H dx = none → dx ≠ x → sp (.ref x :: (vs ++ dvs)) (upd (upd H dx (.own x)) x (.ins cA dx [])) (fun v H2 => v = .non ∧ Q (.ref x) H2) (E σ)) :
    wpAny (model X.prog X.w) X.A (call (.ref cA) us) (EP X pins σ Q) X.xe s := by
  have fr0 : H s.heap.objs.size = none := I.hok.fresh (Nat.le_refl _)
  have fr1 : H (s.heap.objs.size + 1) = none := I.hok.fresh (Nat.le_succ _)
  have hq := h _ _ fr1 fr0 (Nat.ne_of_lt (Nat.lt_succ_self _))
  have J := L2.Inv.made (C := cA) I
  have rr : Vals (V.ref (s.heap.objs.size + 1) :: (vs ++ dvs)) (Value.ref (s.heap.objs.size + 1) :: (us ++ dus)) := .cons rfl (r.append hd)
  have hl : (Value.ref (s.heap.objs.size + 1) :: us ++ dus).length = ps.length := by
    have e1 := rr.length
    have e2 := F.len _ _ _ _ hq
    rw [e2] at e1
    exact e1.symm
  refine wpAny_call (make_map (f := f) I.kIn Mk'.makes Mk'.init (beq_iff_eq.mp Mk'.fn) ?_)
  refine codeAny_mono (F.run _ X.stack _ _ ⟨Value.ref (s.heap.objs.size + 1) :: us, []⟩ (Value.ref (s.heap.objs.size + 1) :: (us ++ dus)) _ _ (E σ) (hr.make cA us []) (J.env0.make cA us []) (hb _ (Value.ref (s.heap.objs.size + 1) :: us) J.kIn hl) rr hq) fun res s' hq' => ?_
  cases res with
  | error e => exact hx σ pins _ _ e s' J hq'
  | ok fl =>
    cases fl with
    | ret u =>
      obtain ⟨v, H', I3, rv, ev, q3⟩ := J.after hq'
      rw [ev] at rv
      exact ⟨rv, ⟨V.ref (s.heap.objs.size + 1), H', I3, rfl, q3⟩⟩
    | next => exact hq'.elim
    | brk => exact hq'.elim
    | cont => exact hq'.elim
theorem make_use {F : List T → M (List T)} {cA x dx : Addr} {w1 : Wd} {H1 : Hp} {r1 : RS} {vs : List V} {ts : List T} {σ : L2.St} {Q : VK} (c1 : G.mg (G.cn C) = some (.ref cA)) (g1 : Good G w1 H1 r1) (d1 : Dens G w1 vs ts) (l1 : ts.length = n)
    (h1 : OutP G w1 H1 (WE0 W σ) (fun t _ w' H' => ∀ v, Den G w' v t → Q v H') ((F ts >>= fun us => pure (T.obj C us)) r1)) (hf : H1 x = none) (hdx : H1 dx = none) (ne : dx ≠ x) :
    spI G C n F (.ref x :: vs) (upd (upd H1 dx (.own x)) x (.ins cA dx [])) (fun v H2 => v = .non ∧ Q (.ref x) H2) (WE W σ) := by
  refine ⟨w1, r1, ts, x, vs, cA, dx, H1, rfl, c1, hf, hdx, ne, rfl, g1, d1, l1, ?_⟩
  have e : ((F ts >>= fun us => pure (T.obj C us)) : M T) r1 = M.bind (F ts) (fun us => M.pure (T.obj C us)) r1 := rfl
  rw [e] at h1
  unfold M.bind at h1
  cases q : F ts r1 with
  | ok us r2 =>
    rw [q] at h1
    intro w' H' st g' ws dx' hh hl d hP hR
    refine ⟨rfl, h1 _ _ (st.publish (nvs hf) hP) (g'.publish hP hR hh) _ ?_⟩
    exact .obj c1 upd_same hl.symm (d.mono (Later.add hP))
  | exn c p r2 =>
    rw [q] at h1
    exact h1
  | bad =>
    rw [q] at h1
    exact h1
theorem s_make {F : List T → M (List T)} (D : MakeOk X.prog X.w X.base G k C n ds F) (hx : x = G.cn C) (hK : X.K = G.K) (hM : X.mg = G.mg) (tk : Takes X W) (hr : Room j X.A) (hk : k + 1 ≤ j) (hg : Gl X x) (ha : SA X G W (e :: es) fs) (hn : fs.length + ds.length = n := by rfl)
    (hdb : (x == ("__debug__" : Str)) = false := by decide) (he : starEach (e :: es) X.env = (false, eval e X.env) :: starEach es X.env := by rfl) (hpl : (backTo pos (starEach es X.env)).any (·.1) = false := by rfl) : SE X G W (.Call (.Name x p) (e :: es) [] pos) (fMake C F ds fs) := by
  obtain ⟨cA, f, fd, ps, dvs, dus, c1, mk, h1, h4, h5, h6⟩ := D.ex
  rw [← hK, ← hM] at h1
  refine ⟨fun pins s σ H Q I ⟨w, H0, env, r, g0, s0, h0⟩ => ?_⟩
  refine wpAny_Call_Name_kw (ld_glob I hg (by rw [hM, hx]; exact c1) ?_ hdb)
  refine PySem.W.callWith_K (h₀ := X.base) I.ok.mod.kin (by rw [hK]; exact mk.kp) (thn (ha.run pos pins s σ H _ I (seqA g0 s0 h0 fun us r2 w2 H2 ws g2 s2 st2 d2 l2 h3 => show (∃ w2 r2 us, Good G w2 H2 r2 ∧ Dens G w2 (ws ++ dvs) (us ++ ds) ∧ us.length = fs.length ∧ OutP G w2 H2 (WE0 W σ) (fun t x w' H' => ∀ (v : V), Den G w' v t → Q v H') ((F (us ++ ds) >>= fun us => pure (T.obj C us)) r2)) from ⟨w2, r2, us, g2, d2.append (h6 w2), l2, h3⟩)) fun us s1 ⟨vs, H1, I1, rv, w2, r2, us', g2, d2, l2, h3⟩ => ⟨I1.kIn, ?_⟩) he hpl
  exact run_makeSD (E := WE W) (by rw [hK]; exact mk) h1 (hr.mono hk) (by rw [hK]; exact h4) h5 (fun σ => passAt tk σ) I1 rv fun x dx e1 e2 ne => make_use c1 g2 d2 (by rw [List.length_append, l2, hn]) h3 e1 e2 ne
theorem s_make0 {F : List T → M (List T)} (D : MakeOk X.prog X.w X.base G k C n ds F) (hx : x = G.cn C) (hK : X.K = G.K) (hM : X.mg = G.mg) (tk : Takes X W) (hr : Room j X.A) (hk : k + 1 ≤ j) (hg : Gl X x) (hn : ds.length = n := by rfl)
    (hdb : (x == ("__debug__" : Str)) = false := by decide) : SE X G W (.Call (.Name x p) [] [] pos) (fMake C F ds []) := by
  obtain ⟨cA, f, fd, ps, dvs, dus, c1, mk, h1, h4, h5, h6⟩ := D.ex
  rw [← hK, ← hM] at h1
  refine ⟨fun pins s σ H Q I ⟨w, H0, env, r, g0, s0, h0⟩ => ?_⟩
  refine wpAny_Call_Name_kw (ld_glob I hg (by rw [hM, hx]; exact c1) ?_ hdb)
  exact PySem.W.callWith_K0 I.kIn (by rw [hK]; exact mk.kp) (run_makeSD (us := []) (vs := []) (E := WE W) (by rw [hK]; exact mk) h1 (hr.mono hk) (by rw [hK]; exact h4) h5 (fun σ => passAt tk σ) I .nil fun x dx e1 e2 ne => make_use c1 g0 (by simpa using h6 w) hn h0 e1 e2 ne)
end
end Ep
namespace Ep
open PySem PySem.Spec L2
section
variable {X : Cx} {G : Gm}
/-! ### arithmetic -/
def addT : T → T → Option T
  | .int i, .int j => some (.int (i + j))
  | .int i, .bl k => some (.int (i + PyProof.Rows.b2i k))
  | .str a, .str b => if a.length + b.length ≤ 100000 then some (.str (a ++ b)) else none
  | .lst a, .lst b => if a.length + b.length ≤ 100000 then some (.lst (a ++ b)) else none
  | .tup a, .tup b => if a.length + b.length ≤ 100000 then some (.tup (a ++ b)) else none
  | _, _ => none
def rAddA (K : PySem.W.Frag) : R2 := fun x y H Q => (rI0 fun i j => .int (i + j)) x y H Q ∨ (∃ i k, x = .int i ∧ y = .bl k ∧ Q (.int (i + PyProof.Rows.b2i k)) H) ∨ (∃ i j, x = .str i ∧ y = .str j ∧ i.length + j.length ≤ sizeLine ∧ Q (.str (i ++ j)) H) ∨ rCat x y H Q ∨ rCatA K x y H Q
theorem op_addA : OpR X (binaryOp .Add) (rAddA X.K) := op_add.or (op_add_ib.or (op_add_str.or (op_cat.or op_catA)))
theorem le_size {n : Nat} (h : n ≤ 100000) : n ≤ sizeLine := Nat.le_trans h (by decide)
theorem v_add (hK : X.K = G.K) : OpV G (rAddA X.K) addT := by
  intro w H r x y t u z Q g d1 d2 e q
  rw [hK]
  cases d1 with
  | int i =>
    cases d2 with
    | int j => cases e; exact .inl ⟨i, j, rfl, rfl, q _ w H (Step.refl _ _) g (.int _)⟩
    | bl k => cases e; exact .inr (.inl ⟨i, k, rfl, rfl, q _ w H (Step.refl _ _) g (.int _)⟩)
    | _ => cases e
  | str a =>
    cases d2 with
    | str b =>
      have e : (if a.length + b.length ≤ 100000 then some (T.str (a ++ b)) else none) = some z := e
      by_cases h : a.length + b.length ≤ 100000
      · rw [if_pos h] at e
        cases e
        exact .inr (.inr (.inl ⟨a, b, rfl, rfl, le_size h, q _ w H (Step.refl _ _) g (.str _)⟩))
      · rw [if_neg h] at e; cases e
    | _ => cases e
  | @lst p vs ts h1 z1 dd =>
    cases d2 with
    | @lst p2 vs2 ts2 h2 z2 dd2 =>
      have e : (if ts.length + ts2.length ≤ 100000 then some (T.lst (ts ++ ts2)) else none) = some z := e
      by_cases h : ts.length + ts2.length ≤ 100000
      · rw [if_pos h] at e
        cases e
        refine .inr (.inr (.inr (.inl ⟨p, p2, vs, vs2, rfl, rfl, g.sub _ _ h1, g.sub _ _ h2, by rw [dd.length, dd2.length]; exact le_size h, fun a ha => ?_⟩)))
        obtain ⟨st, g2⟩ := g.new (o := .lst (vs ++ vs2)) ha
        exact q _ _ _ st g2 (.lst upd_same (by rw [List.length_append]; exact le_size h) ((dd.append dd2).mono st.later))
      · rw [if_neg h] at e; cases e
    | _ => cases e
  | @tup p vs ts h1 z1 dd =>
    cases d2 with
    | @tup p2 vs2 ts2 h2 z2 dd2 =>
      have e : (if ts.length + ts2.length ≤ 100000 then some (T.tup (ts ++ ts2)) else none) = some z := e
      by_cases h : ts.length + ts2.length ≤ 100000
      · rw [if_pos h] at e
        cases e
        refine .inr (.inr (.inr (.inr ⟨p, p2, vs, vs2, rfl, rfl, tup_sq g.sub h1, tup_sq g.sub h2, by rw [dd.length, dd2.length]; exact le_size h, fun e1 => ?_, fun _ e2 => ?_, fun _ _ a ha => ?_⟩)))
        · have : ts = [] := by cases dd with
            | nil => rfl
            | cons _ _ => cases e1
          subst this
          exact q _ w H (Step.refl _ _) g (.tup h2 z2 dd2)
        · have : ts2 = [] := by cases dd2 with
            | nil => rfl
            | cons _ _ => cases e2
          subst this
          rw [List.append_nil] at q
          exact q _ w H (Step.refl _ _) g (.tup h1 z1 dd)
        · obtain ⟨st, g2⟩ := g.new (o := .tup (vs ++ vs2)) ha
          exact q _ _ _ st g2 (.tup (.inl upd_same) (by rw [List.length_append]; exact le_size h) ((dd.append dd2).mono st.later))
      · rw [if_neg h] at e; cases e
    | _ => cases e
  | _ => cases e
def subT : T → T → Option T
  | .int i, .int j => some (.int (i - j))
  | _, _ => none
theorem v_sub : OpV G (rI0 fun i j => .int (i - j)) subT := fun w H r x y t u z Q g d1 d2 e q => by
  cases d1 with
  | int i =>
    cases d2 with
    | int j => cases e; exact ⟨i, j, rfl, rfl, q _ w H (Step.refl _ _) g (.int _)⟩
    | _ => cases e
  | _ => cases e
/-- one factor small, or both together below a million bits -/
def mulOk (i j : Int) : Bool := (decide (-(2 ^ 64) < i) && decide (i < 2 ^ 64)) || (decide (-(2 ^ 64) < j) && decide (j < 2 ^ 64)) || decide (i.natAbs.log2 + j.natAbs.log2 < 1000000)
def mulT : T → T → Option T
  | .int i, .int j => if mulOk i j = true then some (.int (i * j)) else none
  | .lst xs, .int k => if 0 ≤ k ∧ k ≤ 100000 ∧ xs.length * k.toNat ≤ 100000 then some (.lst (List.replicate k.toNat xs).flatten) else none
  | .tup xs, .int k => if xs.isEmpty = false ∧ 2 ≤ k ∧ k ≤ 1000 ∧ xs.length ≤ 1000 then some (.tup (List.replicate k.toNat xs).flatten) else none
  | .str a, .int k => if 0 ≤ k ∧ k ≤ 16384 ∧ a.length ≤ 1024 then some (.str (PySem.Txt.mul a k)) else none
  | _, _ => none
def rRepS : R2 := fun x y H Q => ∃ a k, x = .str a ∧ y = .int k ∧ 0 ≤ k ∧ k ≤ 16384 ∧ a.length ≤ 1024 ∧ Q (.str (PySem.Txt.mul a k)) H
theorem op_repS : OpR X (binaryOp .Mult) rRepS := by
  intro pins s σ H x y v u Q I rx ry h
  obtain ⟨a, k, rfl, rfl, h0, h1, h2, q⟩ := h
  obtain ⟨t, rfl⟩ := rx
  obtain ⟨t', rfl⟩ := ry
  exact SB.mul (PyProof.Rows.mulOk_of 1024 16384 h2 (by omega) (by omega) (by decide) (by decide)) fun t2 n => ⟨.str _, H, I.tok _, ⟨_, rfl⟩, q⟩
def rMulA (K : PySem.W.Frag) : R2 := fun x y H Q => (rI CMul fun i j => .int (i * j)) x y H Q ∨ (rI CMulW fun i j => .int (i * j)) x y H Q ∨ rRep x y H Q ∨ rRepT K x y H Q ∨ rRepS x y H Q
theorem op_mulA : OpR X (binaryOp .Mult) (rMulA X.K) := op_mul.or (op_mulW.or (op_rep.or (op_repT.or op_repS)))
theorem dens_rep {w : Wd} {vs : List V} {ts : List T} (d : Dens G w vs ts) : ∀ k : Nat, Dens G w (List.replicate k vs).flatten (List.replicate k ts).flatten
  | 0 => .nil
  | k + 1 => by
    rw [List.replicate_succ, List.replicate_succ, List.flatten_cons, List.flatten_cons]
    exact d.append (dens_rep d k)
theorem len_rep {α : Type} (xs : List α) : ∀ k : Nat, (List.replicate k xs).flatten.length = xs.length * k
  | 0 => rfl
  | k + 1 => by
    rw [List.replicate_succ, List.flatten_cons, List.length_append, len_rep xs k, Nat.mul_succ, Nat.add_comm]
theorem v_mul (hK : X.K = G.K) : OpV G (rMulA X.K) mulT := fun w H r x y t u z Q g d1 d2 e q => by
  rw [hK]
  cases d1 with
  | str a =>
    cases d2 with
    | int k =>
      have e : (if 0 ≤ k ∧ k ≤ 16384 ∧ a.length ≤ 1024 then some (T.str (PySem.Txt.mul a k)) else none) = some z := e
      by_cases h : 0 ≤ k ∧ k ≤ 16384 ∧ a.length ≤ 1024
      · rw [if_pos h] at e
        cases e
        exact .inr (.inr (.inr (.inr ⟨a, k, rfl, rfl, h.1, h.2.1, h.2.2, q _ w H (Step.refl _ _) g (.str _)⟩)))
      · rw [if_neg h] at e; cases e
    | _ => cases e
  | @tup p vs ts h1 z1 dd =>
    cases d2 with
    | int k =>
      have e : (if ts.isEmpty = false ∧ 2 ≤ k ∧ k ≤ 1000 ∧ ts.length ≤ 1000 then some (T.tup (List.replicate k.toNat ts).flatten) else none) = some z := e
      by_cases h : ts.isEmpty = false ∧ 2 ≤ k ∧ k ≤ 1000 ∧ ts.length ≤ 1000
      · rw [if_pos h] at e
        cases e
        obtain ⟨h0, ha, hb, hc⟩ := h
        refine .inr (.inr (.inr (.inl ⟨p, k, vs, rfl, rfl, tup_sq g.sub h1, fun e => ?_, ha, hb, by rw [dd.length]; exact hc, fun a ha => ?_⟩)))
        · subst e; cases dd; cases h0
        · obtain ⟨st, g2⟩ := g.new (o := .tup (List.replicate k.toNat vs).flatten) ha
          refine q _ _ _ st g2 (.tup (.inl upd_same) ?_ ((dens_rep dd _).mono st.later))
          rw [len_rep, sizeLine_eq]
          have := Nat.mul_le_mul hc (show k.toNat ≤ 1000 by omega)
          omega
      · rw [if_neg h] at e; cases e
    | _ => cases e
  | int i =>
    cases d2 with
    | int j =>
      have e : (if mulOk i j = true then some (T.int (i * j)) else none) = some z := e
      by_cases h : mulOk i j = true
      · rw [if_pos h] at e
        cases e
        have fin := q _ w H (Step.refl _ _) g (.int _)
        unfold mulOk at h
        simp only [Bool.or_eq_true, Bool.and_eq_true, decide_eq_true_eq] at h
        rcases h with (h | h) | h
        · exact .inl ⟨i, j, rfl, rfl, .inl h, fin⟩
        · exact .inl ⟨i, j, rfl, rfl, .inr h, fin⟩
        · exact .inr (.inl ⟨i, j, rfl, rfl, h, fin⟩)
      · rw [if_neg h] at e; cases e
    | _ => cases e
  | @lst p vs ts h1 z1 dd =>
    cases d2 with
    | int k =>
      have e : (if 0 ≤ k ∧ k ≤ 100000 ∧ ts.length * k.toNat ≤ 100000 then some (T.lst (List.replicate k.toNat ts).flatten) else none) = some z := e
      by_cases h : 0 ≤ k ∧ k ≤ 100000 ∧ ts.length * k.toNat ≤ 100000
      · rw [if_pos h] at e
        cases e
        obtain ⟨ha, hb, hc⟩ := h
        refine .inr (.inr (.inl ⟨p, k, vs, rfl, rfl, g.sub _ _ h1, by omega, by omega, by rw [dd.length]; exact le_size hc, fun a ha => ?_⟩))
        obtain ⟨st, g2⟩ := g.new (o := .lst (List.replicate k.toNat vs).flatten) ha
        exact q _ _ _ st g2 (.lst upd_same (by rw [len_rep]; exact le_size hc) ((dens_rep dd _).mono st.later))
      · rw [if_neg h] at e; cases e
    | _ => cases e
  | _ => cases e
/-- // and %: a divisor below 0 is a small one -/
def divT : T → T → Option T
  | .int i, .int j => if 0 < j ∧ j.natAbs.log2 < 9000 then some (.int (i / j)) else if j < 0 ∧ j.natAbs < 1073741824 then some (.int (i.fdiv j)) else none
  | _, _ => none
def rDivA : R2 := fun x y H Q => rI CDivW (fun i j => .int (i / j)) x y H Q ∨ rI CDivN (fun i j => .int (i.fdiv j)) x y H Q
theorem op_divA : OpR X (binaryOp .FloorDiv) rDivA := op_fdivW.or op_fdivN
theorem v_div : OpV G rDivA divT := fun w H r x y t u z Q g d1 d2 e q => by
  cases d1 with
  | int i =>
    cases d2 with
    | int j =>
      have e : (if 0 < j ∧ j.natAbs.log2 < 9000 then some (T.int (i / j)) else if j < 0 ∧ j.natAbs < 1073741824 then some (T.int (i.fdiv j)) else none) = some z := e
      by_cases h : 0 < j ∧ j.natAbs.log2 < 9000
      · rw [if_pos h] at e
        cases e
        exact .inl ⟨i, j, rfl, rfl, h, q _ w H (Step.refl _ _) g (.int _)⟩
      · rw [if_neg h] at e
        by_cases h2 : j < 0 ∧ j.natAbs < 1073741824
        · rw [if_pos h2] at e
          cases e
          exact .inr ⟨i, j, rfl, rfl, ⟨by omega, h2.2⟩, q _ w H (Step.refl _ _) g (.int _)⟩
        · rw [if_neg h2] at e; cases e
    | _ => cases e
  | _ => cases e
def modT : T → T → Option T
  | .int i, .int j => if 0 < j then some (.int (i % j)) else if j < 0 then some (.int (i.fmod j)) else none
  | _, _ => none
def rModA : R2 := fun x y H Q => rI (fun _ j => 0 < j) (fun i j => .int (i % j)) x y H Q ∨ rI (fun _ j => j ≠ 0) (fun i j => .int (i.fmod j)) x y H Q
theorem op_modA : OpR X (binaryOp .Mod) rModA := op_mod.or op_modN
theorem v_mod : OpV G rModA modT := fun w H r x y t u z Q g d1 d2 e q => by
  cases d1 with
  | int i =>
    cases d2 with
    | int j =>
      have e : (if 0 < j then some (T.int (i % j)) else if j < 0 then some (T.int (i.fmod j)) else none) = some z := e
      by_cases h : 0 < j
      · rw [if_pos h] at e
        cases e
        exact .inl ⟨i, j, rfl, rfl, h, q _ w H (Step.refl _ _) g (.int _)⟩
      · rw [if_neg h] at e
        by_cases h2 : j < 0
        · rw [if_pos h2] at e
          cases e
          exact .inr ⟨i, j, rfl, rfl, by omega, q _ w H (Step.refl _ _) g (.int _)⟩
        · rw [if_neg h2] at e; cases e
    | _ => cases e
  | _ => cases e
def powT : T → T → Option T
  | .int i, .int j => if 0 ≤ j ∧ j ≤ 1000 ∧ i.natAbs < 2 ^ 64 then some (.int (i ^ j.toNat)) else none
  | _, _ => none
theorem v_pow : OpV G (rI CPow fun i j => .int (i ^ j.toNat)) powT := fun w H r x y t u z Q g d1 d2 e q => by
  cases d1 with
  | int i =>
    cases d2 with
    | int j =>
      have e : (if 0 ≤ j ∧ j ≤ 1000 ∧ i.natAbs < 2 ^ 64 then some (T.int (i ^ j.toNat)) else none) = some z := e
      by_cases h : 0 ≤ j ∧ j ≤ 1000 ∧ i.natAbs < 2 ^ 64
      · rw [if_pos h] at e
        cases e
        exact ⟨i, j, rfl, rfl, ⟨h.1, by omega, h.2.2⟩, q _ w H (Step.refl _ _) g (.int _)⟩
      · rw [if_neg h] at e; cases e
    | _ => cases e
  | _ => cases e
def negT : T → Option T
  | .int i => some (.int (-i))
  | _ => none
theorem v_neg : UnV G (rU fun i => .int (-i)) negT := fun w H r x t z Q g d1 e q => by
  cases d1 with
  | int i => cases e; exact ⟨i, rfl, q _ w H (Step.refl _ _) g (.int _)⟩
  | _ => cases e
/-! ### comparisons -/
theorem DenB.int {w : Wd} {H : Hp} {v : V} {i : Int} (d : DenB G w H v (.int i)) : v = .int i := by
  rcases d with d | ⟨_, _, _, _, e, _⟩
  · cases d; rfl
  · cases e
theorem DenB.str {w : Wd} {H : Hp} {v : V} {i : Str} (d : DenB G w H v (.str i)) : v = .str i := by
  rcases d with d | ⟨_, _, _, _, e, _⟩
  · cases d; rfl
  · cases e
theorem DenB.bl {w : Wd} {H : Hp} {v : V} {i : Bool} (d : DenB G w H v (.bl i)) : v = .bl i := by
  rcases d with d | ⟨_, _, _, _, e, _⟩
  · cases d; rfl
  · cases e
theorem DenB.non {w : Wd} {H : Hp} {v : V} (d : DenB G w H v .non) : v = .non := by
  rcases d with d | ⟨_, _, _, _, e, _⟩
  · cases d; rfl
  · cases e
def cmpI (p : Int → Int → Bool) : T → T → Option Bool
  | .int i, .int j => some (p i j)
  | _, _ => none
theorem v_cmpI {p : Int → Int → Bool} : CmpV G (rI0 fun i j => .bl (p i j)) (cmpI p) := fun w H r x y t u z Q g d1 d2 e q => by
  cases t with
  | int i =>
    cases u with
    | int j =>
      cases e
      rw [d1.int, d2.int]
      exact ⟨i, j, rfl, rfl, q⟩
    | _ => cases e
  | _ => cases e
def ltT : T → T → Option Bool := cmpI fun i j => decide (i < j)
def leT : T → T → Option Bool := cmpI fun i j => decide (i ≤ j)
def gtT : T → T → Option Bool := cmpI fun i j => decide (j < i)
def geT : T → T → Option Bool := cmpI fun i j => decide (j ≤ i)
theorem v_lt : CmpV G (rI0 fun i j => .bl (decide (i < j))) ltT := v_cmpI
theorem v_le : CmpV G (rI0 fun i j => .bl (decide (i ≤ j))) leT := v_cmpI
theorem v_gt : CmpV G (rI0 fun i j => .bl (decide (j < i))) gtT := v_cmpI
theorem v_ge : CmpV G (rI0 fun i j => .bl (decide (j ≤ i))) geT := v_cmpI
/-- is None, is not None; is True .. -/
def isNon : T → Bool
  | .non => true
  | _ => false
def isT : T → T → Option Bool
  | t, .non => some (isNon t)
  | .bl a, .bl b => some (decide (a = b))
  | _, _ => none
def rIsA : R2 := fun x y H Q => (y = .non ∧ Q (.bl (decide (x = .non))) H) ∨ rIsB x y H Q
theorem op_isA : OpR X (compareOp .Is) rIsA := op_isN.or op_isBl
def rNotA : R2 := fun x y H Q => (y = .non ∧ Q (.bl (!decide (x = .non))) H) ∨ rNotB x y H Q
theorem op_notA : OpR X (compareOp .IsNot) rNotA := op_notN.or op_notBl
theorem DenB.isN {w : Wd} {H : Hp} {v : V} {t : T} (d : DenB G w H v t) : decide (v = .non) = isNon t := by
  rcases d with d | ⟨_, _, _, e1, e, _⟩
  · cases d <;> first | rfl | (simp)
  · subst e1 e
    simp [isNon]
theorem v_is : CmpV G rIsA isT := fun w H r x y t u z Q g d1 d2 e q => by
  cases u with
  | non =>
    have e : some (isNon t) = some z := by cases t <;> exact e
    cases e
    refine .inl ⟨d2.non, ?_⟩
    rw [d1.isN]
    exact q
  | bl b =>
    cases t with
    | bl a =>
      cases e
      exact .inr ⟨a, b, d1.bl, d2.bl, q⟩
    | _ => cases e
  | _ => cases t <;> cases e
def nisT (t u : T) : Option Bool := (isT t u).map (!·)
theorem v_nis : CmpV G rNotA nisT := fun w H r x y t u z Q g d1 d2 e q => by
  unfold nisT at e
  cases u with
  | non =>
    have e : (some (isNon t)).map (!·) = some z := by cases t <;> exact e
    cases e
    refine .inl ⟨d2.non, ?_⟩
    rw [d1.isN]
    exact q
  | bl b =>
    cases t with
    | bl a =>
      cases e
      exact .inr ⟨a, b, d1.bl, d2.bl, q⟩
    | _ => cases e
  | _ => cases t <;> cases e
end
/-! ### data -/
mutual
def pyT : T → Option PyData
  | .non => some .none
  | .bl b => some (.bool b)
  | .int i => some (.int i)
  | .str x => some (.str x)
  | .tup xs => (pyTs xs).map .tuple
  | .lst xs => (pyTs xs).map .list
  | .kls xs => (pyTs xs).map .list
  | _ => none
def pyTs : List T → Option (List PyData)
  | [] => some []
  | x :: xs => (pyT x).bind fun d => (pyTs xs).map (d :: ·)
end
mutual
theorem pyT_dp {G : Gm} {w : Wd} {H : Hp} (s : Same w.P H) : ∀ (t : T) (v : V) (d : PyData), Den G w v t → pyT t = some d → Dp G.K H v d
  | .non, _, _, h, e => by cases h; cases e; exact .non
  | .bl b, _, _, h, e => by cases h; cases e; exact .bl b
  | .int b, _, _, h, e => by cases h; cases e; exact .int b
  | .str b, _, _, h, e => by cases h; cases e; exact .str b
  | .tup xs, _, _, h, e => by
    cases h with
    | tup h z dd =>
      have e : (pyTs xs).map PyData.tuple = some _ := e
      cases q : pyTs xs with
      | none => rw [q] at e; cases e
      | some ds =>
        rw [q] at e
        cases e
        exact .tup (tup_sq s h) (pyTs_dp s xs _ _ dd q)
  | .lst xs, _, _, h, e => by
    cases h with
    | lst h z dd =>
      have e : (pyTs xs).map PyData.list = some _ := e
      cases q : pyTs xs with
      | none => rw [q] at e; cases e
      | some ds =>
        rw [q] at e
        cases e
        exact .lst (SqL.of (s _ _ h)) (pyTs_dp s xs _ _ dd q)
  | .kls xs, _, _, h, e => by
    cases h with
    | kls h z dd =>
      have e : (pyTs xs).map PyData.list = some _ := e
      cases q : pyTs xs with
      | none => rw [q] at e; cases e
      | some ds =>
        rw [q] at e
        cases e
        exact .lst (s.seq h) (pyTs_dp s xs _ _ dd q)
  | .obj _ _, _, _, _, e => by cases e
  | .gl _, _, _, _, e => by cases e
  | .cl _, _, _, _, e => by cases e
  | .ty _, _, _, _, e => by cases e
  | .ref _, _, _, _, e => by cases e
  | .dct _ _, _, _, _, e => by cases e
  | .fdt _ _, _, _, _, e => by cases e
theorem pyTs_dp {G : Gm} {w : Wd} {H : Hp} (s : Same w.P H) : ∀ (ts : List T) (vs : List V) (ds : List PyData), Dens G w vs ts → pyTs ts = some ds → DpAll G.K H vs ds
  | [], _, _, h, e => by cases h; cases e; exact .nil
  | t :: ts, _, _, h, e => by
    cases h with
    | cons h1 h2 =>
      have e : ((pyT t).bind fun d => (pyTs ts).map (d :: ·)) = some _ := e
      cases q : pyT t with
      | none => rw [q] at e; cases e
      | some d =>
        rw [q] at e
        cases q2 : pyTs ts with
        | none => rw [q2] at e; cases e
        | some ds =>
          rw [q2] at e
          cases e
          exact .cons (pyT_dp s t _ _ h1 q) (pyTs_dp s ts _ _ h2 q2)
end
section
variable {X : Cx} {G : Gm}
theorem denB_dp {w : Wd} {H : Hp} {r : RS} {v : V} {t : T} {d : PyData} (g : Good G w H r) (h : DenB G w H v t) (e : pyT t = some d) : Dp G.K H v d := by
  rcases h with h | ⟨a, vs, xs, e1, e2, h1, h2, h3, h4⟩
  · exact pyT_dp g.sub t v d h e
  · subst e1 e2
    have e : (pyTs xs).map PyData.list = some _ := e
    cases q : pyTs xs with
    | none => rw [q] at e; cases e
    | some ds =>
      rw [q] at e
      cases e
      exact .lst (SqL.of h2) (pyTs_dp g.sub xs _ _ h3 q)
def eqT (t u : T) : Option Bool := match pyT t, pyT u with
  | some d, some e => if (SeqAt.shaped d && SeqAt.shaped e) = true then some (PyData.eqv d e) else none
  | _, _ => none
def neT (t u : T) : Option Bool := (eqT t u).map (!·)
theorem eq_use {w : Wd} {H : Hp} {r : RS} {x y : V} {t u : T} {z : Bool} (g : Good G w H r) (d1 : DenB G w H x t) (d2 : DenB G w H y u) (e : eqT t u = some z) : ∃ d e, Dp G.K H x d ∧ Dp G.K H y e ∧ SeqAt.shaped d = true ∧ SeqAt.shaped e = true ∧ z = PyData.eqv d e := by
  unfold eqT at e
  cases q1 : pyT t with
  | none => rw [q1] at e; cases e
  | some d =>
    cases q2 : pyT u with
    | none => rw [q1, q2] at e; cases e
    | some d' =>
      rw [q1, q2] at e
      have e : (if (SeqAt.shaped d && SeqAt.shaped d') = true then some (PyData.eqv d d') else none) = some z := e
      by_cases h : (SeqAt.shaped d && SeqAt.shaped d') = true
      · rw [if_pos h] at e
        cases e
        rw [Bool.and_eq_true] at h
        exact ⟨d, d', denB_dp g d1 q1, denB_dp g d2 q2, h.1, h.2, rfl⟩
      · rw [if_neg h] at e; cases e
theorem v_eq (hK : X.K = G.K) : CmpV G (rEqD X.K) eqT := fun w H r x y t u z Q g d1 d2 e q => by
  obtain ⟨d, d', h1, h2, h3, h4, e⟩ := eq_use g d1 d2 e
  subst e
  rw [hK]
  exact ⟨d, d', h1, h2, h3, h4, q⟩
theorem v_ne (hK : X.K = G.K) : CmpV G (rNeD X.K) neT := fun w H r x y t u z Q g d1 d2 e q => by
  unfold neT at e
  cases e' : eqT t u with
  | none => rw [e'] at e; cases e
  | some b =>
    rw [e'] at e
    cases e
    obtain ⟨d, d', h1, h2, h3, h4, e⟩ := eq_use g d1 d2 e'
    subst e
    rw [hK]
    exact ⟨d, d', h1, h2, h3, h4, q⟩
/-! ### in -/
/-- the flat value of a tree -/
def flT : T → Option V
  | .non => some .non
  | .bl b => some (.bl b)
  | .int i => some (.int i)
  | .str x => some (.str x)
  | _ => none
def flTs : List T → Option (List V)
  | [] => some []
  | t :: ts => (flT t).bind fun v => (flTs ts).map (v :: ·)
theorem flT_of {w : Wd} {v u : V} {t : T} (d : Den G w v t) (e : flT t = some u) : v = u ∧ flatV v = true := by
  cases d with
  | non => cases e; exact ⟨rfl, rfl⟩
  | bl b => cases e; exact ⟨rfl, rfl⟩
  | int i => cases e; exact ⟨rfl, rfl⟩
  | str x => cases e; exact ⟨rfl, rfl⟩
  | _ => cases e
theorem flTs_of {w : Wd} : ∀ {vs us : List V} {ts : List T}, Dens G w vs ts → flTs ts = some us → vs = us ∧ vs.all flatV = true
  | _, _, _, .nil, e => by cases e; exact ⟨rfl, rfl⟩
  | _, _, t :: ts, .cons h r, e => by
    have e : ((flT t).bind fun v => (flTs ts).map (v :: ·)) = some _ := e
    cases q : flT t with
    | none => rw [q] at e; cases e
    | some v =>
      rw [q] at e
      cases q2 : flTs ts with
      | none => rw [q2] at e; cases e
      | some vs =>
        rw [q2] at e
        cases e
        obtain ⟨e1, f1⟩ := flT_of h q
        obtain ⟨e2, f2⟩ := flTs_of r q2
        subst e1 e2
        exact ⟨rfl, by rw [List.all_cons, f1, f2]; rfl⟩
/-- x in a text (x one sign), a tuple of flat things, a list of data -/
def inT (t u : T) : Option Bool := match u with
  | .str z => match t with
    | .str c => if c.cps.size = 1 then some (decide (c.cps.getD 0 0 ∈ z.cps.toList)) else none
    | _ => none
  | .tup xs => (flT t).bind fun v => (flTs xs).map fun vs => inV v vs
  | u => match pyT t, pyT u with
    | some d, some (.list ds) => if (SeqAt.shaped d && SeqAt.shaped (.list ds)) = true then some (ds.any fun z => PyData.eqv z d) else none
    | _, _ => none
def ninT (t u : T) : Option Bool := (inT t u).map (!·)
def rInA (K : PySem.W.Frag) : R2 := fun x y H Q => (∃ (c : Nat) (z : Str), x = .str ⟨#[c]⟩ ∧ y = .str z ∧ Q (.bl (decide (c ∈ z.cps.toList))) H) ∨ rIn K false x y H Q ∨ rInD K x y H Q
def rNInA (K : PySem.W.Frag) : R2 := fun x y H Q => (∃ (c : Nat) (z : Str), x = .str ⟨#[c]⟩ ∧ y = .str z ∧ Q (.bl (!decide (c ∈ z.cps.toList))) H) ∨ rIn K true x y H Q ∨ rNotInD K x y H Q
theorem op_inA (hu : X.A.units + 65 < cLine) : OpR X (compareOp .In) (rInA X.K) := op_in_sign.or (op_in_seq.or (op_inD hu))
theorem op_ninA (hu : X.A.units + 65 < cLine) : OpR X (compareOp .NotIn) (rNInA X.K) := op_notIn_sign.or (op_notIn_seq.or (op_notInD hu))
theorem sign_eq {c : Str} (h : c.cps.size = 1) : c = ⟨#[c.cps.getD 0 0]⟩ := by
  obtain ⟨a⟩ := c
  obtain ⟨l⟩ := a
  match l, h with
  | [x], _ => rfl
theorem in_use {w : Wd} {H : Hp} {r : RS} {x y : V} {t u : T} {z : Bool} (g : Good G w H r) (d1 : DenB G w H x t) (d2 : DenB G w H y u) (e : inT t u = some z) :
    (∃ (c : Nat) (zz : Str), x = .str ⟨#[c]⟩ ∧ y = .str zz ∧ z = decide (c ∈ zz.cps.toList)) ∨ (∃ p vs, y = .ref p ∧ SqT G.K H p vs ∧ flatV x = true ∧ vs.all flatV = true ∧ z = inV x vs) ∨
    ∃ d ds, Dp G.K H x d ∧ Dp G.K H y (.list ds) ∧ SeqAt.shaped d = true ∧ SeqAt.shaped (.list ds) = true ∧ z = ds.any fun z => PyData.eqv z d := by
  have deep : (match pyT t, pyT u with
      | some d, some (.list ds) => if (SeqAt.shaped d && SeqAt.shaped (.list ds)) = true then some (ds.any fun z => PyData.eqv z d) else none
      | _, _ => none) = some z → ∃ d ds, Dp G.K H x d ∧ Dp G.K H y (.list ds) ∧ SeqAt.shaped d = true ∧ SeqAt.shaped (.list ds) = true ∧ z = ds.any fun z => PyData.eqv z d := fun e => by
    cases q1 : pyT t with
    | none => rw [q1] at e; cases e
    | some d =>
      cases q2 : pyT u with
      | none => rw [q1, q2] at e; cases e
      | some d' =>
        rw [q1, q2] at e
        cases d' with
        | list ds =>
          have e : (if (SeqAt.shaped d && SeqAt.shaped (.list ds)) = true then some (ds.any fun z => PyData.eqv z d) else none) = some z := e
          by_cases h : (SeqAt.shaped d && SeqAt.shaped (.list ds)) = true
          · rw [if_pos h] at e
            cases e
            rw [Bool.and_eq_true] at h
            exact ⟨d, ds, denB_dp g d1 q1, denB_dp g d2 q2, h.1, h.2, rfl⟩
          · rw [if_neg h] at e; cases e
        | _ => cases e
  cases u with
  | str zz =>
    cases t with
    | str c =>
      have e : (if c.cps.size = 1 then some (decide (c.cps.getD 0 0 ∈ zz.cps.toList)) else none) = some z := e
      by_cases h : c.cps.size = 1
      · rw [if_pos h] at e
        cases e
        exact .inl ⟨_, zz, by rw [d1.str]; exact congrArg V.str (sign_eq h), d2.str, rfl⟩
      · rw [if_neg h] at e; cases e
    | _ => cases e
  | tup xs =>
    have e : ((flT t).bind fun v => (flTs xs).map fun vs => inV v vs) = some z := e
    cases q : flT t with
    | none => rw [q] at e; cases e
    | some v =>
      rw [q] at e
      cases q2 : flTs xs with
      | none => rw [q2] at e; cases e
      | some vs =>
        rw [q2] at e
        cases e
        rcases d2 with d2 | ⟨_, _, _, _, e2, _⟩
        · cases d2 with
          | @tup p us _ h zz d =>
            obtain ⟨e3, f3⟩ := flTs_of d q2
            rcases d1 with d1 | ⟨_, _, _, _, e2, _⟩
            · obtain ⟨e4, f4⟩ := flT_of d1 q
              subst e3 e4
              exact .inr (.inl ⟨p, us, rfl, tup_sq g.sub h, f4, f3, rfl⟩)
            · subst e2; cases q
        · cases e2
  | lst xs => exact .inr (.inr (deep e))
  | kls xs => exact .inr (.inr (deep e))
  | _ =>
    have e := deep e
    exact .inr (.inr e)
theorem v_in (hK : X.K = G.K) : CmpV G (rInA X.K) inT := fun w H r x y t u z Q g d1 d2 e q => by
  rw [hK]
  rcases in_use g d1 d2 e with ⟨c, zz, e1, e2, e3⟩ | ⟨p, vs, e1, h1, h2, h3, e3⟩ | ⟨d, ds, h1, h2, h3, h4, e3⟩
  · subst e3; exact .inl ⟨c, zz, e1, e2, q⟩
  · subst e3; exact .inr (.inl ⟨p, vs, e1, .inr h1, h2, h3, q⟩)
  · subst e3; exact .inr (.inr ⟨d, ds, h1, h2, h3, h4, q⟩)
theorem v_nin (hK : X.K = G.K) : CmpV G (rNInA X.K) ninT := fun w H r x y t u z Q g d1 d2 e q => by
  unfold ninT at e
  cases e' : inT t u with
  | none => rw [e'] at e; cases e
  | some b =>
    rw [e'] at e
    cases e
    rw [hK]
    rcases in_use g d1 d2 e' with ⟨c, zz, e1, e2, e3⟩ | ⟨p, vs, e1, h1, h2, h3, e3⟩ | ⟨d, ds, h1, h2, h3, h4, e3⟩
    · subst e3; exact .inl ⟨c, zz, e1, e2, q⟩
    · subst e3; exact .inr (.inl ⟨p, vs, e1, .inr h1, h2, h3, q⟩)
    · subst e3; exact .inr (.inr ⟨d, ds, h1, h2, h3, h4, q⟩)
end
end Ep
namespace Ep
open PySem PySem.Spec L2
/-! ### built-ins of one and two arguments -/
section
variable {X : Cx} {G : Gm} {W : WX} {pos p : Pos} {a b : Expr} {f g : Env → M T} {x : Str} {id : String}
def B1 (G : Gm) (r1 : List V → Hp → VK → Prop) (h : RS → T → Option T) : Prop := ∀ w H r v t z Q, Good G w H r → DenB G w H v t → h r t = some z → (∀ v' w' H', Step w H w' H' → Good G w' H' r → Den G w' v' z → Q v' H') → r1 [v] H Q
def fB1 (h : RS → T → Option T) (f : Env → M T) : Env → M T := fun env => f env >>= fun x => fun r => M.lift (h r x) r
theorem b1_use {r1 : List V → Hp → VK → Prop} {h : RS → T → Option T} (hv : B1 G r1 h) {σ : L2.St} {H : Hp} {Q : VK} (q : tS G W (fB1 h f) σ H Q) : tCB r1 (tCons (tSK G W f) tNil) σ H Q := by
  obtain ⟨w, H0, env, r, g0, s, h0⟩ := q
  refine seqK g0 s h0 fun t r1 w1 H1 x g1 s1 st1 d1 h1 => ?_
  obtain ⟨z, ez, h2⟩ := liftP h1
  exact hv w1 H1 r1 x t z Q g1 d1 ez fun v' w' H' st g' d => h2 w' H' st g' v' d
theorem s_b1 {r1 : List V → Hp → VK → Prop} {h : RS → T → Option T} (hc : CallR X (.builtin id) r1) (hv : B1 G r1 h) (hg : Gl X x) (hm : X.mg x = none) (hb : bootBuiltins x = some (.builtin id)) (ha : SK X G W a f) (hs : starEach [a] X.env = (false, eval a X.env) :: starEach [] X.env := by rfl)
    (hn : x ≠ "__name__" := by decide) (hdb : (x == ("__debug__" : Str)) = false := by decide) (hpl : (backTo pos (starEach [] X.env)).any (·.1) = false := by rfl) : SE X G W (.Call (.Name x p) [a] [] pos) (fB1 h f) :=
  pe_imp (pe_callB hc hg hm hb (pa_cons ha pa_nil hs) hn hdb hs hpl) fun σ H Q q => b1_use hv q
theorem s_t1 {r1 : List V → Hp → VK → Prop} {h : RS → T → Option T} (hc : CallR X (.type id) r1) (hv : B1 G r1 h) (hg : Gl X x) (hm : X.mg x = none) (hb : bootBuiltins x = some (.type id)) (ha : SK X G W a f) (hs : starEach [a] X.env = (false, eval a X.env) :: starEach [] X.env := by rfl)
    (hn : x ≠ "__name__" := by decide) (hdb : (x == ("__debug__" : Str)) = false := by decide) (hpl : (backTo pos (starEach [] X.env)).any (·.1) = false := by rfl) : SE X G W (.Call (.Name x p) [a] [] pos) (fB1 h f) :=
  pe_imp (pe_callTy hc hg hm hb (pa_cons ha pa_nil hs) hn hdb hs hpl) fun σ H Q q => b1_use hv q
def B2 (G : Gm) (r1 : List V → Hp → VK → Prop) (h : T → T → Option T) : Prop := ∀ w H r v u t s z Q, Good G w H r → Den G w v t → Den G w u s → h t s = some z → (∀ v' w' H', Step w H w' H' → Good G w' H' r → Den G w' v' z → Q v' H') → r1 [v, u] H Q
theorem s_b2 {r1 : List V → Hp → VK → Prop} {h : T → T → Option T} (hc : CallR X (.builtin id) r1) (hv : B2 G r1 h) (hg : Gl X x) (hm : X.mg x = none) (hb : bootBuiltins x = some (.builtin id)) (ha : SE X G W a f) (hB : SE X G W b g)
    (hs : starEach [a, b] X.env = (false, eval a X.env) :: starEach [b] X.env := by rfl) (hs2 : starEach [b] X.env = (false, eval b X.env) :: starEach [] X.env := by rfl)
    (hn : x ≠ "__name__" := by decide) (hdb : (x == ("__debug__" : Str)) = false := by decide) (hpl : (backTo pos (starEach [b] X.env)).any (·.1) = false := by rfl) : SE X G W (.Call (.Name x p) [a, b] [] pos) (fBin h f g) :=
  pe_imp (pe_callB hc hg hm hb (pa_cons ha (pa_cons hB pa_nil hs2) hs) hn hdb hs hpl) fun σ H Q ⟨w, H0, env, r, g0, s, h0⟩ => by
    refine seqE g0 s h0 fun t r1 w1 H1 v g1 s1 st1 d1 h1 => ?_
    refine seqE g1 s1 h1 fun u r2 w2 H2 y g2 s2 st2 d2 h2 => ?_
    obtain ⟨z, ez, hz⟩ := liftP h2
    exact hv w2 H2 r2 v y t u z Q g2 (d1.mono st2.later) d2 ez fun v w' H' st g' d => hz w' H' st g' v d
def lenT (r : RS) (t : T) : Option T := match t with
  | .str z => if z.length ≤ 100000 then some (.int z.length) else none
  | t => (seqT r t).map fun xs => .int xs.length
def rLenA (K : PySem.W.Frag) : List V → Hp → VK → Prop := fun xs H Q => (∃ p ys, xs = [.ref p] ∧ (SqL K H p ys ∨ SqT K H p ys) ∧ Q (.int ys.length) H) ∨ ∃ z, xs = [.str z] ∧ z.length ≤ sizeLine ∧ Q (.int z.length) H
theorem c_len : CallR X (.builtin "len") (rLenA X.K) := call_len_seq.or call_len_str
theorem v_len (hK : X.K = G.K) : B1 G (rLenA X.K) lenT := fun w H r v t z Q g d e q => by
  rw [hK]
  have seqs : ((seqT r t).map fun xs => T.int xs.length) = some z → rLenA G.K [v] H Q := fun e => by
    cases q1 : seqT r t with
    | none => rw [q1] at e; cases e
    | some xs =>
      rw [q1] at e
      cases e
      obtain ⟨p, rfl, sd⟩ := seq_of g d q1
      cases sd with
      | l vs h dd zz => exact .inl ⟨p, vs, rfl, .inl h, by rw [dd.length]; exact q _ w H (Step.refl _ _) g (.int _)⟩
      | t vs h dd zz => exact .inl ⟨p, vs, rfl, .inr h, by rw [dd.length]; exact q _ w H (Step.refl _ _) g (.int _)⟩
  cases t with
  | str y =>
    have e : (if y.length ≤ 100000 then some (T.int y.length) else none) = some z := e
    by_cases h : y.length ≤ 100000
    · rw [if_pos h] at e
      cases e
      exact .inr ⟨y, by rw [d.str], le_size h, q _ w H (Step.refl _ _) g (.int _)⟩
    · rw [if_neg h] at e; cases e
  | _ => exact seqs e
def intT (_ : RS) (t : T) : Option T := match t with
  | .int i => some (.int i)
  | .bl k => some (.int (if k then 1 else 0))
  | _ => none
theorem v_int : B1 G (fun xs H Q => (∃ i, xs = [.int i] ∧ Q (.int i) H) ∨ ∃ k, xs = [.bl k] ∧ Q (.int (if k then 1 else 0)) H) intT := fun w H r v t z Q g d e q => by
  cases t with
  | int i => cases e; exact .inl ⟨i, by rw [d.int], q _ w H (Step.refl _ _) g (.int _)⟩
  | bl i => cases e; exact .inr ⟨i, by rw [d.bl], q _ w H (Step.refl _ _) g (.int _)⟩
  | _ => cases e
def absT (_ : RS) (t : T) : Option T := match t with
  | .int i => some (T.int (if i < 0 then -i else i))
  | _ => none
theorem v_abs : B1 G (fun xs H Q => ∃ i, xs = [.int i] ∧ Q (.int (if i < 0 then -i else i)) H) absT := fun w H r v t z Q g d e q => by
  cases t with
  | int i => cases e; exact ⟨i, by rw [d.int], q _ w H (Step.refl _ _) g (.int _)⟩
  | _ => cases e
def max2T : T → T → Option T
  | .int i, .int j => some (.int (if j > i then j else i))
  | _, _ => none
/-- a list of ints, of bools, of texts -/
def intsT : List T → Option (List Int)
  | [] => some []
  | .int i :: r => (intsT r).map (i :: ·)
  | _ :: _ => none
def blsT : List T → Option (List Bool)
  | [] => some []
  | .bl i :: r => (blsT r).map (i :: ·)
  | _ :: _ => none
theorem ints_of {w : Wd} : ∀ {ts : List T} {vs : List V} {ns : List Int}, Dens G w vs ts → intsT ts = some ns → vs = ns.map V.int
  | [], _, _, .nil, e => by cases e; rfl
  | t :: ts, _, _, .cons h r, e => by
    cases h with
    | int i =>
      have e : (intsT ts).map (i :: ·) = some _ := e
      cases q : intsT ts with
      | none => rw [q] at e; cases e
      | some ns => rw [q] at e; cases e; rw [ints_of r q]; rfl
    | _ => cases e
theorem bls_of {w : Wd} : ∀ {ts : List T} {vs : List V} {ns : List Bool}, Dens G w vs ts → blsT ts = some ns → vs = ns.map V.bl
  | [], _, _, .nil, e => by cases e; rfl
  | t :: ts, _, _, .cons h r, e => by
    cases h with
    | bl i =>
      have e : (blsT ts).map (i :: ·) = some _ := e
      cases q : blsT ts with
      | none => rw [q] at e; cases e
      | some ns => rw [q] at e; cases e; rw [bls_of r q]; rfl
    | _ => cases e
/-- the items of a list -/
def lstT (r : RS) : T → Option (List T)
  | .lst xs => some xs
  | .kls xs => some xs
  | .ref k => r[k]?
  | _ => none
theorem lst_of {w : Wd} {H : Hp} {r : RS} {v : V} {t : T} {xs : List T} (g : Good G w H r) (d : DenB G w H v t) (e : lstT r t = some xs) : ∃ a vs, v = .ref a ∧ SqL G.K H a vs ∧ Dens G w vs xs ∧ xs.length ≤ sizeLine := by
  rcases d with d | ⟨a, vs, ys, e1, e2, h1, h2, h3, h4⟩
  · cases d with
    | lst h z d => cases e; exact ⟨_, _, rfl, SqL.of (g.sub _ _ h), d, z⟩
    | kls h z d => cases e; exact ⟨_, _, rfl, g.sub.seq h, d, z⟩
    | @ref k a h =>
      obtain ⟨b, vs, h1, h2, h3, h4⟩ := g.refs.at_ k xs e
      rw [h] at h1
      cases h1
      exact ⟨_, vs, rfl, SqL.of h2, h3, h4⟩
    | _ => cases e
  · subst e1 e2
    cases e
    exact ⟨_, vs, rfl, SqL.of h2, h3, h4⟩
def sumT (r : RS) (t : T) : Option T := (lstT r t).bind fun xs => (intsT xs).map fun ns => .int ns.sum
theorem v_sum (hK : X.K = G.K) : B1 G (rSum X.K) sumT := fun w H r v t z Q g d e q => by
  unfold sumT at e
  cases q1 : lstT r t with
  | none => rw [q1] at e; cases e
  | some xs =>
    rw [q1] at e
    have e : ((intsT xs).map fun ns => T.int ns.sum) = some z := e
    obtain ⟨a, vs, rfl, h, dd, zz⟩ := lst_of g d q1
    cases q2 : intsT xs with
    | none => rw [q2] at e; cases e
    | some ns =>
      rw [q2] at e
      cases e
      have := ints_of dd q2
      subst this
      rw [hK]
      exact ⟨a, ns, rfl, h, q _ w H (Step.refl _ _) g (.int _)⟩
def anyT (r : RS) (t : T) : Option T := (lstT r t).bind fun xs => (blsT xs).map fun bs => .bl (bs.any _root_.id)
def allT (r : RS) (t : T) : Option T := (lstT r t).bind fun xs => (blsT xs).map fun bs => .bl (bs.all _root_.id)
theorem v_any (hK : X.K = G.K) : B1 G (rAny X.K) anyT := fun w H r v t z Q g d e q => by
  unfold anyT at e
  cases q1 : lstT r t with
  | none => rw [q1] at e; cases e
  | some xs =>
    rw [q1] at e
    have e : ((blsT xs).map fun bs => T.bl (bs.any _root_.id)) = some z := e
    obtain ⟨a, vs, rfl, h, dd, zz⟩ := lst_of g d q1
    cases q2 : blsT xs with
    | none => rw [q2] at e; cases e
    | some ns =>
      rw [q2] at e
      cases e
      have := bls_of dd q2
      subst this
      rw [hK]
      exact ⟨a, ns, rfl, h, q _ w H (Step.refl _ _) g (.bl _)⟩
theorem v_all (hK : X.K = G.K) : B1 G (rAll X.K) allT := fun w H r v t z Q g d e q => by
  unfold allT at e
  cases q1 : lstT r t with
  | none => rw [q1] at e; cases e
  | some xs =>
    rw [q1] at e
    have e : ((blsT xs).map fun bs => T.bl (bs.all _root_.id)) = some z := e
    obtain ⟨a, vs, rfl, h, dd, zz⟩ := lst_of g d q1
    cases q2 : blsT xs with
    | none => rw [q2] at e; cases e
    | some ns =>
      rw [q2] at e
      cases e
      have := bls_of dd q2
      subst this
      rw [hK]
      exact ⟨a, ns, rfl, h, q _ w H (Step.refl _ _) g (.bl _)⟩
/-- tuple(xs), list(xs) -/
def tupT (r : RS) (t : T) : Option T := (seqT r t).map .tup
def lisT (r : RS) (t : T) : Option T := (seqT r t).map .lst
theorem v_tup (hK : X.K = G.K) : B1 G (fun xs H Q => ∃ p ys, xs = [.ref p] ∧ ((SqL X.K H p ys ∧ ∀ l, H l = none → Q (.ref l) (upd H l (.tup ys))) ∨ (SqT X.K H p ys ∧ Q (.ref p) H))) tupT := fun w H r v t z Q g d e q => by
  unfold tupT at e
  cases q1 : seqT r t with
  | none => rw [q1] at e; cases e
  | some xs =>
    rw [q1] at e
    cases e
    rw [hK]
    cases t with
    | tup ys =>
      cases q1
      rcases d with d | ⟨_, _, _, _, e2, _⟩
      · cases d with
        | @tup a vs _ h zz dd => exact ⟨a, vs, rfl, .inr ⟨tup_sq g.sub h, q _ w H (Step.refl _ _) g (.tup h zz dd)⟩⟩
      · cases e2
    | lst ys =>
      obtain ⟨a, vs, rfl, h, dd, zz⟩ := lst_of g d (show lstT r (.lst ys) = some xs from q1)
      refine ⟨a, vs, rfl, .inl ⟨h, fun l hl => ?_⟩⟩
      obtain ⟨st, g2⟩ := g.new (o := .tup vs) hl
      exact q _ _ _ st g2 (.tup (.inl upd_same) zz (dd.mono st.later))
    | kls ys =>
      obtain ⟨a, vs, rfl, h, dd, zz⟩ := lst_of g d (show lstT r (.kls ys) = some xs from q1)
      refine ⟨a, vs, rfl, .inl ⟨h, fun l hl => ?_⟩⟩
      obtain ⟨st, g2⟩ := g.new (o := .tup vs) hl
      exact q _ _ _ st g2 (.tup (.inl upd_same) zz (dd.mono st.later))
    | ref ys =>
      obtain ⟨a, vs, rfl, h, dd, zz⟩ := lst_of g d (show lstT r (.ref ys) = some xs from q1)
      refine ⟨a, vs, rfl, .inl ⟨h, fun l hl => ?_⟩⟩
      obtain ⟨st, g2⟩ := g.new (o := .tup vs) hl
      exact q _ _ _ st g2 (.tup (.inl upd_same) zz (dd.mono st.later))
    | _ => cases q1
theorem v_lis (hK : X.K = G.K) : B1 G (fun xs H Q => ∃ p ys, xs = [.ref p] ∧ (SqL X.K H p ys ∨ SqT X.K H p ys) ∧ ∀ l, H l = none → Q (.ref l) (upd H l (.lst ys))) lisT := fun w H r v t z Q g d e q => by
  unfold lisT at e
  cases q1 : seqT r t with
  | none => rw [q1] at e; cases e
  | some xs =>
    rw [q1] at e
    cases e
    rw [hK]
    obtain ⟨p, rfl, sd⟩ := seq_of g d q1
    cases sd with
    | l vs h dd zz =>
      refine ⟨p, vs, rfl, .inl h, fun l hl => ?_⟩
      obtain ⟨st, g2⟩ := g.new (o := .lst vs) hl
      exact q _ _ _ st g2 (.lst upd_same zz (dd.mono st.later))
    | t vs h dd zz =>
      refine ⟨p, vs, rfl, .inr h, fun l hl => ?_⟩
      obtain ⟨st, g2⟩ := g.new (o := .lst vs) hl
      exact q _ _ _ st g2 (.lst upd_same zz (dd.mono st.later))
/-- isinstance(x, c) -/
def tagS : T → Option String
  | .non => some "NoneType"
  | .bl _ => some "bool"
  | .int _ => some "int"
  | .str _ => some "str"
  | .tup _ => some "tuple"
  | .lst _ => some "list"
  | .kls _ => some "list"
  | .ref _ => some "list"
  | .dct _ _ => some "dict"
  | .dtt _ _ => some "dict"
  | _ => none
theorem ty_of {w : Wd} {H : Hp} {r : RS} {v : V} {t : T} {s : String} (g : Good G w H r) (d : Den G w v t) (e : tagS t = some s) : TyX G.K H v (.type s) := by
  cases d with
  | non => cases e; exact .base .non
  | bl b => cases e; exact .base (.bl b)
  | int i => cases e; exact .base (.int i)
  | str x => cases e; exact .base (.str x)
  | tup h z d =>
    cases e
    rcases h with h | ⟨o, its, n, h1, h2, _⟩
    · exact .base (.tup (g.sub _ _ h))
    · exact .kTuple h1 h2
  | lst h z d => cases e; exact .base (.lst (g.sub _ _ h))
  | kls h z d =>
    cases e
    rcases g.sub.seq h with (h | ⟨o, h⟩) | ⟨o, its, n, h1, h2, _⟩
    · exact .base (.lst h)
    · exact .base (.frz h)
    · exact .kList h1 h2
  | @ref k a h =>
    cases e
    obtain ⟨vs, q⟩ := g.refs.there (List.mem_of_getElem? h)
    exact .base (.lst q)
  | dct h l d => cases e; exact .base (.dK (g.sub _ _ h))
  | dtt h l d => cases e; exact .base (.dT (g.sub _ _ h))
  | _ => cases e
/-- the kind of a value: a built-in type, an own class -/
inductive Kd where
  | b (s : String) | o (C : Nat)
  deriving DecidableEq
def kdT : T → Option Kd
  | .obj C _ => some (.o C)
  | t => (tagS t).map .b
/-- what the library tells of an own class -/
structure InsTy (K : PySem.W.Frag) (cA : Addr) : Prop where
  cl : Cls K cA
  ha : PySem.W.findIn K (.ref cA) "__class__" = some (some (.builtin "object.__class__"))
  hsp : PySem.W.specialIn K (.builtin "object.__class__") "__get__" = some (some (.builtin "getset_descriptor.__get__"))
  htak : PySem.W.takesIn K (.builtin "object.__class__") = some true
  hmr : PySem.W.mroIn K cA (.type "object") = some true
def KdV (G : Gm) (k : Kd) (u : Value) : Prop := match k with
  | .b s => u = .type s
  | .o C => ∃ cA, G.mg (G.cn C) = some (.ref cA) ∧ u = .ref cA ∧ InsTy G.K cA
/-- a class as a value -/
inductive Cl where
  | ty (n : String) | cl (C : Nat)
  deriving DecidableEq
def clT : T → Option Cl
  | .ty n => some (.ty n)
  | .cl C => some (.cl C)
  | _ => none
def ClV (G : Gm) (c : Cl) (u : Value) : Prop := match c with
  | .ty n => u = .type n
  | .cl C => ∃ cA, G.mg (G.cn C) = some (.ref cA) ∧ u = .ref cA
/-- a table of isinstance -/
def TabOk (G : Gm) (tb : Kd → Cl → Option Bool) : Prop := ∀ k c b, tb k c = some b → (∀ C, k = .o C → ∀ cA, G.mg (G.cn C) = some (.ref cA) → InsTy G.K cA) ∧ ∀ u z, KdV G k u → ClV G c z → PySem.W.kitOne G.K u z = some b
def isiL (tb : Kd → Cl → Option Bool) (k : Kd) : List T → Option Bool
  | [] => some false
  | c :: cs => match (clT c).bind (tb k) with
    | some true => (clsT cs).map fun _ => true
    | some false => isiL tb k cs
    | none => none
where clsT : List T → Option Unit
  | [] => some ()
  | c :: cs => (clT c).bind fun _ => clsT cs
def isiT (tb : Kd → Cl → Option Bool) (t c : T) : Option T := match c with
  | .tup cs => (kdT t).bind fun k => match cs with
    | [] => none
    | c :: cs => (isiL tb k (c :: cs)).map T.bl
  | c => (kdT t).bind fun k => (clT c).bind fun c => (tb k c).map T.bl
def rIsiA (K : PySem.W.Frag) : List V → Hp → VK → Prop := fun xs H Q => rIsi K xs H Q ∨ rIsiT K xs H Q ∨ rIsiK K xs H Q
theorem c_isi : CallR X (.builtin "isinstance") (rIsiA X.K) := call_isi.or (call_isiT.or call_isiK)
theorem cl_of {w : Wd} {v : V} {t : T} {c : Cl} (d : Den G w v t) (h : clT t = some c) : ∃ u, ClsV v u ∧ ClV G c u := by
  cases d with
  | ty n => cases h; exact ⟨_, .ty n, rfl⟩
  | @cl C a q => cases h; exact ⟨_, .own a, a, q, rfl⟩
  | _ => cases h
theorem kd_of {w : Wd} {H : Hp} {r : RS} {v : V} {t : T} {k : Kd} (g : Good G w H r) (d : Den G w v t) (e : kdT t = some k) (hi : ∀ C, k = .o C → ∀ cA, G.mg (G.cn C) = some (.ref cA) → InsTy G.K cA) : ∃ u, TyX G.K H v u ∧ KdV G k u := by
  have go : ∀ s, tagS t = some s → k = .b s → ∃ u, TyX G.K H v u ∧ KdV G k u := fun s e1 e2 => by
    subst e2
    exact ⟨_, ty_of g d e1, rfl⟩
  cases t with
  | obj C vs =>
    cases e
    cases d with
    | @obj a cA dx _ us _ c h l dd =>
      have i := hi C rfl cA c
      exact ⟨_, .base (.ins (g.sub _ _ h) i.cl i.ha i.hsp i.htak i.hmr), cA, c, rfl, i⟩
  | non => cases e; exact go _ rfl rfl
  | bl _ => cases e; exact go _ rfl rfl
  | int _ => cases e; exact go _ rfl rfl
  | str _ => cases e; exact go _ rfl rfl
  | tup _ => cases e; exact go _ rfl rfl
  | lst _ => cases e; exact go _ rfl rfl
  | kls _ => cases e; exact go _ rfl rfl
  | ref _ => cases e; exact go _ rfl rfl
  | dct _ _ => cases e; exact go _ rfl rfl
  | dtt _ _ => cases e; exact go _ rfl rfl
  | _ => cases e
theorem cls_of {w : Wd} : ∀ {cs : List T} {vs : List V}, Dens G w vs cs → isiL.clsT cs = some () → ∃ us, Paired ClsV vs us
  | [], _, .nil, _ => ⟨[], .nil⟩
  | c :: cs, _, .cons h r, e => by
    have e : ((clT c).bind fun _ => isiL.clsT cs) = some () := e
    cases q : clT c with
    | none => rw [q] at e; cases e
    | some c' =>
      rw [q] at e
      obtain ⟨u, h1, _⟩ := cl_of h q
      obtain ⟨us, h2⟩ := cls_of r e
      exact ⟨u :: us, .cons h1 h2⟩
theorem isi_list {tb : Kd → Cl → Option Bool} (ok : TabOk G tb) {k : Kd} {u : Value} (hu : KdV G k u) {w : Wd} : ∀ {cs : List T} {vs : List V} {b : Bool}, Dens G w vs cs → isiL tb k cs = some b → ∃ us, Paired ClsV vs us ∧ PySem.W.kitAny G.K u us = some b
  | [], _, _, .nil, e => by cases e; exact ⟨[], .nil, kitAny_nil⟩
  | c :: cs, _, b, .cons h r, e => by
    unfold isiL at e
    cases q : clT c with
    | none => rw [q] at e; cases e
    | some c' =>
      rw [q] at e
      obtain ⟨z, h1, h2⟩ := cl_of h q
      have e : (match tb k c' with
        | some true => (isiL.clsT cs).map fun _ => true
        | some false => isiL tb k cs
        | none => none) = some b := e
      cases q2 : tb k c' with
      | none => rw [q2] at e; cases e
      | some b' =>
        rw [q2] at e
        have h3 := (ok k c' b' q2).2 u z hu h2
        cases b' with
        | true =>
          have e : ((isiL.clsT cs).map fun _ => true) = some b := e
          cases q3 : isiL.clsT cs with
          | none => rw [q3] at e; cases e
          | some _ =>
            rw [q3] at e
            cases e
            obtain ⟨us, hp⟩ := cls_of r q3
            exact ⟨z :: us, .cons h1 hp, kitAny_cons h3 (fun z => nomatch z) (fun _ => rfl)⟩
        | false =>
          obtain ⟨us, hp, ha⟩ := isi_list ok hu r e
          exact ⟨z :: us, .cons h1 hp, kitAny_cons h3 (fun _ => ha) (fun z => nomatch z)⟩
theorem v_isi {tb : Kd → Cl → Option Bool} (ok : TabOk G tb) (hK : X.K = G.K) : B2 G (rIsiA X.K) (isiT tb) := fun w H r v u t s z Q g d1 d2 e q => by
  rw [hK]
  have one : ((kdT t).bind fun k => (clT s).bind fun c => (tb k c).map T.bl) = some z → rIsiA G.K [v, u] H Q := fun e => by
    cases q1 : kdT t with
    | none => rw [q1] at e; cases e
    | some k =>
      rw [q1] at e
      have e : ((clT s).bind fun c => (tb k c).map T.bl) = some z := e
      cases q2 : clT s with
      | none => rw [q2] at e; cases e
      | some c =>
        rw [q2] at e
        have e : (tb k c).map T.bl = some z := e
        cases q3 : tb k c with
        | none => rw [q3] at e; cases e
        | some b =>
          rw [q3] at e
          cases e
          obtain ⟨hi, hk⟩ := ok k c b q3
          obtain ⟨z1, h1, h2⟩ := cl_of d2 q2
          obtain ⟨z2, h3, h4⟩ := kd_of g d1 q1 hi
          exact .inl ⟨v, u, z2, z1, b, rfl, h1, h3, hk _ _ h4 h2, q _ w H (Step.refl _ _) g (.bl b)⟩
  cases s with
  | tup cs =>
    have e : ((kdT t).bind fun k => match cs with
      | [] => none
      | c :: cs => (isiL tb k (c :: cs)).map T.bl) = some z := e
    cases q1 : kdT t with
    | none => rw [q1] at e; cases e
    | some k =>
      rw [q1] at e
      cases cs with
      | nil => cases e
      | cons c cs =>
        have e : (isiL tb k (c :: cs)).map T.bl = some z := e
        cases q3 : isiL tb k (c :: cs) with
        | none => rw [q3] at e; cases e
        | some b =>
          rw [q3] at e
          cases e
          have hi : ∀ C, k = .o C → ∀ cA, G.mg (G.cn C) = some (.ref cA) → InsTy G.K cA := by
            unfold isiL at q3
            cases q2 : clT c with
            | none => rw [q2] at q3; cases q3
            | some c' =>
              rw [q2] at q3
              cases q4 : tb k c' with
              | none =>
                have q3 : (match tb k c' with
                  | some true => (isiL.clsT cs).map fun _ => true
                  | some false => isiL tb k cs
                  | none => none) = some b := q3
                rw [q4] at q3
                cases q3
              | some b' => exact (ok k c' b' q4).1
          obtain ⟨z2, h3, h4⟩ := kd_of g d1 q1 hi
          cases d2 with
          | @tup p vs _ h zz dd =>
            obtain ⟨us, hp, ha⟩ := isi_list ok h4 dd q3
            rcases h with hT | ⟨⟨oc, od, dt, sl⟩, its, n, h1, h2, h5, _, h6⟩
            · exact .inr (.inl ⟨v, p, vs, z2, us, b, rfl, g.sub _ _ hT, hp, h3, ha, q _ w H (Step.refl _ _) g (.bl b)⟩)
            · have h2 : oc = .type "tuple" := h2
              have h5 : dt = .seq its n := h5
              subst h2 h5
              have e6 := ClsV.all hp h6
              have e7 : us.toArray = its := by rw [← e6]
              exact .inr (.inr ⟨v, p, od, us, n, sl, z2, b, rfl, by rw [e7]; exact h1, h3, ha, q _ w H (Step.refl _ _) g (.bl b)⟩)
  | _ => exact one e
end
end Ep
namespace Ep
open PySem PySem.Spec L2
/-! ### statements -/
inductive SO where
  | nx (e : Env) (r : RS) | rt (t : T) (r : RS) | bk (e : Env) (r : RS) | ct (e : Env) (r : RS) | exn (c : Nat) (p : T) (e : Env) (r : RS) | bad
abbrev Sm := Env → RS → SO
def FlowP (G : Gm) (W : WX) (w0 : Wd) (H0 : Hp) (D : Ends) : SO → Prop
  | .nx env r => ∀ w' H' σ', Step w0 H0 w' H' → Good G w' H' r → Slots G w' H0 H' σ' env → D.nx σ' H'
  | .rt t r => ∀ w' H' v, Step w0 H0 w' H' → Good G w' H' r → Den G w' v t → D.rt v H'
  | .bk env r => ∀ w' H' σ', Step w0 H0 w' H' → Good G w' H' r → Slots G w' H0 H' σ' env → D.bk σ' H'
  | .ct env r => ∀ w' H' σ', Step w0 H0 w' H' → Good G w' H' r → Slots G w' H0 H' σ' env → D.ct σ' H'
  | .exn c p env r => ∀ w' H' σ' cls d, Step w0 H0 w' H' → Good G w' H' r → Slots G w' H0 H' σ' env → ExcIs G w' H' c p cls d → W cls d σ' H'
  | .bad => False
/-- where a computation stands: the base, the world now, the slots -/
structure At (G : Gm) (w0 : Wd) (H0 : Hp) (w : Wd) (H : Hp) (σ : L2.St) (env : Env) (r : RS) : Prop where
  st : Step w0 H0 w H
  g : Good G w H r
  s : Slots G w H0 H σ env
def tSS (G : Gm) (W : WX) (w0 : Wd) (H0 : Hp) (g : Sm) : TS := fun D σ H => ∃ w env r, At G w0 H0 w H σ env r ∧ FlowP G W w0 H0 D (g env r)
abbrev SS (X : Cx) (G : Gm) (W : WX) (st : Stmt) (g : Sm) : Prop := ∀ w0 H0, PS X st (tSS G W w0 H0 g)
abbrev SSs (X : Cx) (G : Gm) (W : WX) (st : List Stmt) (g : Sm) : Prop := ∀ w0 H0, PSs X st (tSS G W w0 H0 g)
theorem ps_imp {X : Cx} {st : Stmt} {t t' : TS} (h : PS X st t) (i : ∀ D σ H, t' D σ H → t D σ H) : PS X st t' := ⟨fun pins s σ H D I q => h.run pins s σ H D I (i D σ H q)⟩
theorem pss_imp {X : Cx} {st : List Stmt} {t t' : TS} (h : PSs X st t) (i : ∀ D σ H, t' D σ H → t D σ H) : PSs X st t' := ⟨fun pins s σ H D I q => h.run pins s σ H D I (i D σ H q)⟩
def ofM {α : Type} (env : Env) (k : α → RS → SO) : Out α → SO
  | .ok a r => k a r
  | .exn c p r => .exn c p env r
  | .bad => .bad
section
variable {G : Gm} {W : WX} {w0 w : Wd} {H0 H : Hp} {σ : L2.St} {env : Env} {r : RS} {D : Ends}
theorem At.step (a : At G w0 H0 w H σ env r) {w' : Wd} {H' : Hp} {r' : RS} (st : Step w H w' H') (g : Good G w' H' r') : At G w0 H0 w' H' σ env r' := ⟨a.st.trans st, g, a.s.step st⟩
theorem FlowP.ofM {α : Type} {m : Out α} {k : α → RS → SO} (a : At G w0 H0 w H σ env r) (h : FlowP G W w0 H0 D (ofM env k m)) :
    OutP G w H (WE0 W σ) (fun x r' w' H' => At G w0 H0 w' H' σ env r' ∧ FlowP G W w0 H0 D (k x r')) m := by
  cases m with
  | ok x r' => exact fun w' H' st g => ⟨a.step st g, h⟩
  | exn c p r' => exact fun w' H' cls d st g x => h w' H' σ cls d (a.st.trans st) g (a.s.step st) x
  | bad => exact h
end
section
variable {X : Cx} {G : Gm} {W : WX} {st : Stmt} {rest : List Stmt} {g g' : Sm} {pos : Pos}
def qNil : Sm := fun env r => .nx env r
def qSeq (g g' : Sm) : Sm := fun env r => match g env r with
  | .nx env r => g' env r
  | o => o
theorem ss_nil : SSs X G W [] qNil := fun w0 H0 => pss_imp pss_nil fun D σ H ⟨w, env, r, a, h⟩ => h w H σ a.st a.g a.s
theorem ss_cons (h1 : SS X G W st g) (h2 : SSs X G W rest g') : SSs X G W (st :: rest) (qSeq g g') := fun w0 H0 => pss_imp (pss_cons (h1 w0 H0) (h2 w0 H0)) fun D σ H ⟨w, env, r, a, h⟩ => by
  refine ⟨w, env, r, a, ?_⟩
  unfold qSeq at h
  cases q : g env r with
  | nx env' r' =>
    rw [q] at h
    exact fun w' H' σ' st g s => ⟨w', env', r', ⟨st, g, s⟩, h⟩
  | rt t r' => rw [q] at h; exact h
  | bk e r' => rw [q] at h; exact h
  | ct e r' => rw [q] at h; exact h
  | exn c p e r' => rw [q] at h; exact h
  | bad => rw [q] at h; exact h
variable {e : Expr} {f : Env → M T}
def qRet (f : Env → M T) : Sm := fun env r => ofM env (fun t r => .rt t r) (f env r)
theorem at_e {w0 w : Wd} {H0 H : Hp} {σ : L2.St} {env : Env} {r : RS} {D : Ends} {k : T → RS → SO} {Q : VK} (a : At G w0 H0 w H σ env r) (h : FlowP G W w0 H0 D (ofM env k (f env r)))
    (n : ∀ t r1 w1 H1 v, At G w0 H0 w1 H1 σ env r1 → Den G w1 v t → FlowP G W w0 H0 D (k t r1) → Q v H1) : tS G W f σ H Q :=
  ⟨w, H0, env, r, a.g, a.s, (FlowP.ofM a h).imp fun t r1 w1 H1 _ _ q v d => n t r1 w1 H1 v q.1 d q.2⟩
theorem at_b {w0 w : Wd} {H0 H : Hp} {σ : L2.St} {env : Env} {r : RS} {D : Ends} {p : Env → M Bool} {k : Bool → RS → SO} {Q : Bool → Hp → Prop} (a : At G w0 H0 w H σ env r) (h : FlowP G W w0 H0 D (ofM env k (p env r)))
    (n : ∀ t r1 w1 H1, At G w0 H0 w1 H1 σ env r1 → FlowP G W w0 H0 D (k t r1) → Q t H1) : tSB G W p σ H Q :=
  ⟨w, H0, env, r, a.g, a.s, (FlowP.ofM a h).imp fun t r1 w1 H1 _ _ q => n t r1 w1 H1 q.1 q.2⟩
theorem ss_ret (he : SE X G W e f) : SS X G W (.Return (some e) pos) (qRet f) := fun w0 H0 => ps_imp (ps_ret he) fun D σ H ⟨w, env, r, a, h⟩ =>
  at_e a h fun t r1 w1 H1 v a1 d h1 => h1 w1 H1 v a1.st a1.g d
def qExpr (f : Env → M T) : Sm := fun env r => ofM env (fun _ r => .nx env r) (f env r)
theorem ss_expr (he : SE X G W e f) (hs : swapsWith e none pos.line X.env = pure false := by rfl) : SS X G W (.Expr e pos) (qExpr f) := fun w0 H0 => ps_imp (ps_expr he hs) fun D σ H ⟨w, env, r, a, h⟩ =>
  at_e a h fun t r1 w1 H1 v a1 d h1 => h1 w1 H1 σ a1.st a1.g a1.s
def qIf (p : Env → M Bool) (g g' : Sm) : Sm := fun env r => ofM env (fun c r => if c = true then g env r else g' env r) (p env r)
theorem ss_if {c : Expr} {p : Env → M Bool} {sa sb : List Stmt} (hc : SB X G W c p) (ha : SSs X G W sa g) (hb : SSs X G W sb g') : SS X G W (.If c sa sb pos) (qIf p g g') := fun w0 H0 => ps_imp (ps_if hc (ha w0 H0) (hb w0 H0)) fun D σ H ⟨w, env, r, a, h⟩ =>
  at_b a h fun t r1 w1 H1 a1 h1 => by
    cases t with
    | true => exact ⟨w1, env, r1, a1, h1⟩
    | false => exact ⟨w1, env, r1, a1, h1⟩
end
/-! ### slots set -/
section
variable {G : Gm} {w : Wd} {H0 H : Hp} {σ : L2.St} {env : Env} {r : RS}
theorem Slots.setVal {v : V} {t : T} (s : Slots G w H0 H σ env) (i : Nat) (d : Den G w v t) : Slots G w H0 H (σ.set i (some v)) (env.set i (.val t)) := by
  obtain ⟨oa, h1, h2⟩ := s.ex
  refine ⟨by simp [s.len], oa, fun j sl hj => ?_, fun j k u u' hj hk pj pk e => ?_⟩
  · by_cases hij : i = j
    · subst hij
      by_cases hl : i < env.length
      · rw [List.getElem?_set_self hl] at hj
        cases hj
        exact ⟨v, by rw [List.getElem?_set_self (by rw [s.len]; exact hl)], d⟩
      · rw [List.getElem?_eq_none (by simpa using hl)] at hj
        cases hj
    · rw [List.getElem?_set_ne hij] at hj
      have := h1 j sl hj
      unfold SlotAt at this ⊢
      cases sl <;> first | exact True.intro | (simp only [List.getElem?_set_ne hij]; exact this)
  · have ne : ∀ {m : Nat} {x : Slot}, (env.set i (.val t))[m]? = some x → x.priv = true → env[m]? = some x := fun {m x} hm px => by
      by_cases him : i = m
      · subst him
        by_cases hl : i < env.length
        · rw [List.getElem?_set_self hl] at hm
          cases hm
          cases px
        · rw [List.getElem?_eq_none (by simpa using hl)] at hm
          cases hm
      · rw [List.getElem?_set_ne him] at hm
        exact hm
    exact h2 j k u u' (ne hj pj) (ne hk pk) pj pk e
/-- an own list's address is none of a heap's that does not know it -/
theorem Slots.setOwn {p : Addr} {o : HO} {xs : Pv} (s : Slots G w H0 H σ env) (i : Nat) (nw : ∀ (j : Nat) (sl : Slot) (oa : Addr), env[j]? = some sl → sl.priv = true → σ[j]? = some (some (.ref oa)) → oa ≠ p)
    (hP : w.P p = none) (hR : p ∉ w.R) (h0 : ¬ Vs H0 p) (hh : H p = some o) (d : PvOk G w p o xs) : Slots G w H0 H (σ.set i (some (.ref p))) (env.set i (.pv xs)) := by
  obtain ⟨oa, h1, h2⟩ := s.ex
  have old : ∀ {m : Nat} {x : Slot}, i ≠ m → (env.set i (.pv xs))[m]? = some x → env[m]? = some x := fun {m x} him hm => by
    rw [List.getElem?_set_ne him] at hm
    exact hm
  have oan : ∀ {m : Nat} {x : Slot}, env[m]? = some x → x.priv = true → oa m ≠ p := fun {m x} hm px => by
    have := h1 m x hm
    cases x with
    | un => cases px
    | fn => cases px
    | val _ => cases px
    | pv ys => exact nw m _ _ hm rfl this.1
  refine ⟨by simp [s.len], fun j => if j = i then p else oa j, fun j sl hj => ?_, fun j k u u' hj hk pj pk e => ?_⟩
  · by_cases hij : i = j
    · subst hij
      by_cases hl : i < env.length
      · rw [List.getElem?_set_self hl] at hj
        cases hj
        simp only [SlotAt, if_true]
        exact ⟨by rw [List.getElem?_set_self (by rw [s.len]; exact hl)], hP, hR, h0, o, hh, d⟩
      · rw [List.getElem?_eq_none (by simpa using hl)] at hj
        cases hj
    · have := h1 j sl (old hij hj)
      unfold SlotAt at this ⊢
      cases sl <;> first | exact True.intro | (simp only [List.getElem?_set_ne hij, if_neg (Ne.symm hij)]; exact this)
  · by_cases hij : i = j
    · by_cases hik : i = k
      · rw [← hij, ← hik]
      · have e : (if j = i then p else oa j) = (if k = i then p else oa k) := e
        rw [if_pos hij.symm, if_neg (Ne.symm hik)] at e
        exact absurd e.symm (oan (old hik hk) pk)
    · by_cases hik : i = k
      · have e : (if j = i then p else oa j) = (if k = i then p else oa k) := e
        rw [if_neg (Ne.symm hij), if_pos hik.symm] at e
        exact absurd e (oan (old hij hj) pj)
      · have e : (if j = i then p else oa j) = (if k = i then p else oa k) := e
        rw [if_neg (Ne.symm hij), if_neg (Ne.symm hik)] at e
        exact h2 j k u u' (old hij hj) (old hik hk) pj pk e
/-- an own list changes -/
theorem Slots.chg {o : HO} {xs ys : Pv} (s : Slots G w H0 H σ env) {i : Nat} {p : Addr} (he : env[i]? = some (.pv xs)) (hp : σ[i]? = some (some (.ref p))) (d : PvOk G w p o ys) : Slots G w H0 (upd H p o) σ (env.set i (.pv ys)) := by
  obtain ⟨oa, h1, h2⟩ := s.ex
  have hi := h1 i _ he
  have ep : oa i = p := by
    have := hi.1
    rw [hp] at this
    exact (V.ref.inj (Option.some.inj (Option.some.inj this))).symm
  have old : ∀ {m : Nat} {x : Slot}, i ≠ m → (env.set i (.pv ys))[m]? = some x → env[m]? = some x := fun {m x} him hm => by
    rw [List.getElem?_set_ne him] at hm
    exact hm
  have hl : i < env.length := (List.getElem?_eq_some_iff.mp he).1
  have pr : ∀ {m : Nat} {x : Slot}, (env.set i (.pv ys))[m]? = some x → x.priv = true → ∃ y : Slot, env[m]? = some y ∧ y.priv = true := fun {m x} hm px => by
    by_cases him : i = m
    · subst him; exact ⟨_, he, rfl⟩
    · exact ⟨x, old him hm, px⟩
  refine ⟨by simp [s.len], oa, fun j sl hj => ?_, fun j k u u' hj hk pj pk e => ?_⟩
  · by_cases hij : i = j
    · subst hij
      rw [List.getElem?_set_self hl] at hj
      cases hj
      obtain ⟨a1, a2, a3, a4, _⟩ := hi
      exact ⟨a1, a2, a3, a4, o, by rw [ep]; exact upd_same, by rw [ep]; exact d⟩
    · have q := old hij hj
      have := h1 j sl q
      cases sl with
      | un => trivial
      | fn =>
        obtain ⟨a, c, q, cv, ct, e1, e2, d', n, hc⟩ := this
        obtain ⟨_, _, _, _, u, b6, b7⟩ := hi
        exact ⟨a, c, q, cv, ct, e1, e2, d', n, by rw [upd_ne (code_ne hc (by rw [← ep]; exact b6) b7.pl)]; exact hc⟩
      | val t => exact this
      | pv zs =>
        have ne : oa j ≠ p := fun e => hij (h2 i j _ _ he q rfl rfl (ep.trans e.symm))
        obtain ⟨a1, a2, a3, a4, u, a6, a7⟩ := this
        exact ⟨a1, a2, a3, a4, u, by rw [upd_ne ne]; exact a6, a7⟩
  · obtain ⟨y, e1, p1⟩ := pr hj pj
    obtain ⟨y', e2, p2⟩ := pr hk pk
    exact h2 j k y y' e1 e2 p1 p2 e
def Pv.frz : Pv → Option T
  | .lst xs => some (.lst xs)
  | .dk ks vs => some (.dct ks vs)
  | .dt _ _ => none
  | .ins _ _ => none
theorem PvOk.frz {o : HO} {p : Pv} {t : T} {a : Addr} (h : PvOk G w a o p) (e : p.frz = some t) (hP : w.P a = none) : Den G (w.add a o) (.ref a) t := by
  have L : Later w (w.add a o) := Later.add hP
  cases h with
  | lst z d => cases e; exact .lst upd_same z (d.mono L)
  | ins _ c l d => cases e
  | dk l z d => cases e; exact .dct upd_same l (d.mono L)
  | dt _ _ => cases e
/-- an own thing is a value from now on -/
theorem Slots.freeze {p : Pv} {t : T} (s : Slots G w H0 H σ env) (g : Good G w H r) {w0 : Wd} (st : Step w0 H0 w H) {i : Nat} (he : env[i]? = some (.pv p)) (hf : p.frz = some t) : ∃ w', Step w0 H0 w' H ∧ Good G w' H r ∧ Slots G w' H0 H σ (env.set i (.val t)) := by
  obtain ⟨oa, h1, h2⟩ := s.ex
  obtain ⟨a1, a2, a3, a4, o, a6, a7⟩ := h1 i _ he
  refine ⟨w.add (oa i) o, st.publish a4 a2, g.publish a2 a3 a6 a7.pl.tb, ?_⟩
  have L : Later w (w.add (oa i) o) := Later.add a2
  have hl : i < env.length := (List.getElem?_eq_some_iff.mp he).1
  have old : ∀ {m : Nat} {x : Slot}, i ≠ m → (env.set i (.val t))[m]? = some x → env[m]? = some x := fun {m x} him hm => by
    rw [List.getElem?_set_ne him] at hm
    exact hm
  have pr : ∀ {m : Nat} {x : Slot}, (env.set i (.val t))[m]? = some x → x.priv = true → env[m]? = some x := fun {m x} hm px => by
    by_cases him : i = m
    · subst him
      rw [List.getElem?_set_self hl] at hm
      cases hm
      cases px
    · exact old him hm
  refine ⟨by simp [s.len], oa, fun j sl hj => ?_, fun j k u u' hj hk pj pk e => h2 j k u u' (pr hj pj) (pr hk pk) pj pk e⟩
  by_cases hij : i = j
  · subst hij
    rw [List.getElem?_set_self hl] at hj
    cases hj
    exact ⟨_, a1, a7.frz hf a2⟩
  · have q := old hij hj
    have := h1 j sl q
    have nP : ∀ {x : Slot}, env[j]? = some x → x.priv = true → w.P (oa j) = none → (w.add (oa i) o).P (oa j) = none := fun {x} hx px hn => by
      show upd w.P (oa i) o (oa j) = none
      rw [upd_ne (fun e => hij (h2 i j _ _ he hx rfl px e.symm))]
      exact hn
    cases sl with
    | un => trivial
    | fn =>
      obtain ⟨a, c, q, cv, ct, e1, e2, d', n, hc⟩ := this
      exact ⟨a, c, q, cv, ct, e1, e2, d'.mono L, n, hc⟩
    | val t =>
      obtain ⟨v, e1, d1⟩ := this
      exact ⟨v, e1, d1.mono L⟩
    | pv zs =>
      obtain ⟨b1, b2, b3, b4, u, b6, b7⟩ := this
      exact ⟨b1, nP q rfl b2, b3, b4, u, b6, b7.mono L rfl⟩
end
/-- the own things of some slots become values -/
def frz1 (env : Env) (i : Nat) : Env := match env[i]? with
  | some (.pv p) => match p.frz with
    | some t => env.set i (.val t)
    | none => env
  | _ => env
def frz : List Nat → Env → Env
  | [], env => env
  | i :: is, env => frz is (frz1 env i)
theorem At.freeze1 {G : Gm} {w0 : Wd} {H0 H : Hp} {σ : L2.St} {r : RS} (i : Nat) {w : Wd} {env : Env} (a : At G w0 H0 w H σ env r) : ∃ w', At G w0 H0 w' H σ (frz1 env i) r := by
  unfold frz1
  cases q : env[i]? with
  | none => exact ⟨w, a⟩
  | some sl =>
    cases sl with
    | pv p =>
      cases e : p.frz with
      | none => exact ⟨w, by simpa [e] using a⟩
      | some t =>
        obtain ⟨w', h1, h2, h3⟩ := a.s.freeze a.g a.st q e
        exact ⟨w', by simpa [e] using (⟨h1, h2, h3⟩ : At G w0 H0 w' H σ (env.set i (.val t)) r)⟩
    | un => exact ⟨w, a⟩
    | fn => exact ⟨w, a⟩
    | val t => exact ⟨w, a⟩
theorem At.freeze {G : Gm} {w0 : Wd} {H0 H : Hp} {σ : L2.St} {r : RS} : ∀ (is : List Nat) {w : Wd} {env : Env}, At G w0 H0 w H σ env r → ∃ w', At G w0 H0 w' H σ (frz is env) r
  | [], w, env, a => ⟨w, a⟩
  | i :: is, w, env, a => by
    obtain ⟨w1, a1⟩ := a.freeze1 i
    exact At.freeze is a1
theorem ss_frz {X : Cx} {G : Gm} {W : WX} {st : Stmt} {g : Sm} (is : List Nat) (h : SS X G W st g) : SS X G W st (fun env r => g (frz is env) r) := fun w0 H0 => ps_imp (h w0 H0) fun D σ H ⟨w, env, r, a, q⟩ => by
  obtain ⟨w', a'⟩ := a.freeze is
  exact ⟨w', frz is env, r, a', q⟩
/-! ### assignments -/
section
variable {X : Cx} {G : Gm} {W : WX} {pos : Pos} {e : Expr} {f : Env → M T}
def qSet (i : Nat) (f : Env → M T) : Sm := fun env r => ofM env (fun t r => .nx (env.set i (.val t)) r) (f env r)
theorem ss_set {i : Nat} {x : Str} {pos' : Pos} (hN : X.N.Nodup) (hi : X.N[i]? = some x) (hx : Loc X.env.scope x) (he : SE X G W e f) (hs : swapsWith e (some (.Name x pos')) pos.line X.env = pure false := by rfl) (hf : X.fn x = true ∨ X.env.scope.names.lookup x = some .local := by first | exact .inl rfl | exact .inr rfl | assumption) :
    SS X G W (.Assign [.Name x pos'] e pos) (qSet i f) := fun w0 H0 => ps_imp (ps_set hN hi hx he hs hf) fun D σ H ⟨w, env, r, a, h⟩ =>
  at_e a h fun t r1 w1 H1 v a1 d h1 => h1 w1 H1 _ a1.st a1.g (a1.s.setVal i d)
theorem At.notNew {w0 w : Wd} {H0 H : Hp} {σ : L2.St} {env : Env} {r : RS} (a : At G w0 H0 w H σ env r) {j : Nat} {sl : Slot} {b p : Addr} (hj : env[j]? = some sl) (pj : sl.priv = true) (hb : σ[j]? = some (some (.ref b))) (hp : ¬ Vs H p) : b ≠ p := fun eb => by
  subst eb
  obtain ⟨oa, k1, k2⟩ := a.s.ex
  have := k1 j sl hj
  cases sl with
  | un => cases pj
  | fn => cases pj
  | val _ => cases pj
  | pv ys =>
    obtain ⟨b1, _, _, _, o, b6, _⟩ := this
    rw [hb] at b1
    cases b1
    rename_i b7
    exact hp ⟨o, b6, b7.pl.tb⟩
def qOwn (i : Nat) (f : Env → M (List T)) : Sm := fun env r => ofM env (fun xs r => .nx (env.set i (.own xs)) r) (f env r)
theorem at_own {i : Nat} {f : Env → M (List T)} {w0 w : Wd} {H0 H : Hp} {σ : L2.St} {env : Env} {r : RS} {D : Ends} (a : At G w0 H0 w H σ env r) (h : FlowP G W w0 H0 D (qOwn i f env r)) : tSL G W f σ H (fun v H1 => D.nx (σ.set i (some v)) H1) := by
  refine ⟨w, H0, env, r, a.g, a.s, (FlowP.ofM a h).imp fun xs r1 w1 H1 st g1 q p vs hp hP hR hh d z => ?_⟩
  obtain ⟨a1, h1⟩ := q
  refine h1 w1 H1 _ a1.st a1.g (a1.s.setOwn i (fun j sl b hj pj hb => a.notNew hj pj hb hp) hP hR (fun z => hp (a.st.keep _ z)) hh (.lst z d))
theorem ss_own {i : Nat} {x : Str} {pos' : Pos} {f : Env → M (List T)} (hN : X.N.Nodup) (hi : X.N[i]? = some x) (hx : Loc X.env.scope x) (he : SL X G W e f) (hs : swapsWith e (some (.Name x pos')) pos.line X.env = pure false := by rfl) (hf : X.fn x = true ∨ X.env.scope.names.lookup x = some .local := by first | exact .inl rfl | exact .inr rfl | assumption) :
    SS X G W (.Assign [.Name x pos'] e pos) (qOwn i f) := fun w0 H0 => ps_imp (ps_set hN hi hx he hs hf) fun D σ H ⟨w, env, r, a, h⟩ => at_own a h
/-- a, b = e, e' with plain names -/
def qPar2 (i j : Nat) (f g : Env → M T) : Sm := fun env r => ofM env (fun ts r => match ts with
  | [t, u] => .nx ((env.set i (.val t)).set j (.val u)) r
  | _ => .bad) (fAll [f, g] env r)
theorem at_a {w0 w : Wd} {H0 H : Hp} {σ : L2.St} {env : Env} {r : RS} {D : Ends} {fs : List (Env → M T)} {k : List T → RS → SO} {Q : List V → Hp → Prop} (a : At G w0 H0 w H σ env r) (h : FlowP G W w0 H0 D (ofM env k (fAll fs env r)))
    (n : ∀ ts r1 w1 H1 vs, At G w0 H0 w1 H1 σ env r1 → Dens G w1 vs ts → ts.length = fs.length → FlowP G W w0 H0 D (k ts r1) → Q vs H1) : tSA G W fs σ H Q :=
  ⟨w, H0, env, r, a.g, a.s, (FlowP.ofM a h).imp fun t r1 w1 H1 _ _ q v d l => n t r1 w1 H1 v q.1 d l q.2⟩
theorem ss_par2 {i j : Nat} {x y : Str} {e1 e2 : Expr} {f g : Env → M T} {px py pt : Pos} {kt k2 pt2} (hc : X.calm = true) (hN : X.N.Nodup) (hi : X.N[i]? = some x) (hj : X.N[j]? = some y) (hij : i ≠ j)
    (hx : X.env.scope.names.lookup x = some .local) (hy : X.env.scope.names.lookup y = some .local) (ha : SA X G W [e1, e2] [f, g])
    (hw : swappedStores [.Tuple [.Name x px, .Name y py] kt pt] (.Tuple [e1, e2] k2 pt2) X.env = pure (some [x, y]))
    (hs : swapsWithSole [.Tuple [.Name x px, .Name y py] kt pt] (.Tuple [e1, e2] k2 pt2) pos.line X.env = pure false := by rfl) :
    SS X G W (.Assign [.Tuple [.Name x px, .Name y py] kt pt] (.Tuple [e1, e2] k2 pt2) pos) (qPar2 i j f g) := fun w0 H0 => ps_imp (ps_par hc hN hi hj hij hx hy ha hw hs) fun D σ H ⟨w, env, r, a, h⟩ =>
  at_a a h fun ts r1 w1 H1 vs a1 d l h1 => by
    cases d with
    | nil => cases l
    | cons d1 d =>
      cases d with
      | nil => cases l
      | cons d2 d =>
        cases d with
        | cons _ _ => cases l
        | nil => exact ⟨_, _, rfl, h1 w1 H1 _ a1.st a1.g ((a1.s.setVal i d1).setVal j d2)⟩
/-! ### targets -/
/-- all slots but those of vs stay -/
def But (vs : List Nat) (σ σ' : L2.St) : Prop := σ'.length = σ.length ∧ ∀ j, j ∉ vs → σ'[j]? = σ[j]?
theorem But.refl {vs : List Nat} {σ : L2.St} : But vs σ σ := ⟨rfl, fun _ _ => rfl⟩
theorem But.trans {vs us : List Nat} {σ σ1 σ2 : L2.St} (a : But vs σ σ1) (b : But us σ1 σ2) : But (vs ++ us) σ σ2 := ⟨b.1.trans a.1, fun j hj => (b.2 j fun h => hj (List.mem_append_right _ h)).trans (a.2 j fun h => hj (List.mem_append_left _ h))⟩
theorem But.set {σ : L2.St} {i : Nat} {v : Option V} : But [i] σ (σ.set i v) := ⟨List.length_set, fun j hj => List.getElem?_set_ne fun e => hj (by simp [e])⟩
def tG (G : Gm) (vs : List Nat) (w0 : Wd) (H0 : Hp) (h : T → Env → Option Env) : TG := fun v σ H Q => ∃ w env r t env', At G w0 H0 w H σ env r ∧ Den G w v t ∧ h t env = some env' ∧ ∀ σ', Slots G w H0 H σ' env' → But vs σ σ' → Q σ' H
def tGs (G : Gm) (us : List Nat) (w0 : Wd) (H0 : Hp) (h : List T → Env → Option Env) : TGs := fun vs σ H Q => ∃ w env r ts env', At G w0 H0 w H σ env r ∧ Dens G w vs ts ∧ h ts env = some env' ∧ ∀ σ', Slots G w H0 H σ' env' → But us σ σ' → Q σ' H
abbrev SG (X : Cx) (G : Gm) (vs : List Nat) (tg : Expr) (h : T → Env → Option Env) : Prop := ∀ w0 H0, PG X tg (tG G vs w0 H0 h)
abbrev SGs (X : Cx) (G : Gm) (vs : List Nat) (tg : List Expr) (h : List T → Env → Option Env) : Prop := ∀ w0 H0, PGs X tg (tGs G vs w0 H0 h)
theorem pg_imp {tg : Expr} {t t' : TG} (h : PG X tg t) (i : ∀ v σ H Q, t' v σ H Q → t v σ H Q) : PG X tg t' := ⟨fun pins s σ H v u Q I r q => h.run pins s σ H v u Q I r (i v σ H Q q)⟩
theorem pgs_imp {tg : List Expr} {t t' : TGs} (h : PGs X tg t) (i : ∀ v σ H Q, t' v σ H Q → t v σ H Q) : PGs X tg t' := ⟨fun pins s σ H v u Q I r q => h.run pins s σ H v u Q I r (i v σ H Q q)⟩
def hName (i : Nat) : T → Env → Option Env := fun t env => some (env.set i (.val t))
theorem g_name {i : Nat} {x : Str} (hN : X.N.Nodup) (hi : X.N[i]? = some x) (hx : Loc X.env.scope x) (hf : X.fn x = true ∨ X.env.scope.names.lookup x = some .local := by first | exact .inl rfl | exact .inr rfl | assumption) : SG X G [i] (.Name x pos) (hName i) := fun w0 H0 =>
  pg_imp (pg_name hN hi hx hf) fun v σ H Q ⟨w, env, r, t, env', a, d, e, q⟩ => by
    cases e
    exact q _ (a.s.setVal i d) But.set
def hNil : List T → Env → Option Env := fun ts env => match ts with
  | [] => some env
  | _ => none
def hCons (h : T → Env → Option Env) (hs : List T → Env → Option Env) : List T → Env → Option Env := fun ts env => match ts with
  | t :: ts => (h t env).bind (hs ts)
  | [] => none
theorem gs_nil : SGs X G [] [] hNil := fun w0 H0 => pgs_imp pgs_nil fun vs σ H Q ⟨w, env, r, ts, env', a, d, e, q⟩ => by
  cases d with
  | nil => cases e; exact ⟨rfl, q σ a.s But.refl⟩
  | cons _ _ => cases e
theorem gs_cons {tg : Expr} {tgs : List Expr} {h : T → Env → Option Env} {hs : List T → Env → Option Env} {us us' : List Nat} (h1 : SG X G us tg h) (h2 : SGs X G us' tgs hs) (he : (assignEach (tg :: tgs) X.env).map (·.2) = assign tg X.env :: (assignEach tgs X.env).map (·.2) := by rfl) : SGs X G (us ++ us') (tg :: tgs) (hCons h hs) := fun w0 H0 =>
  pgs_imp (pgs_cons (h1 w0 H0) (h2 w0 H0) he) fun vs σ H Q ⟨w, env, r, ts, env', a, d, e, q⟩ => by
    cases d with
    | nil => cases e
    | @cons v vs t ts d1 d2 =>
      have e : (h t env).bind (hs ts) = some env' := e
      cases e1 : h t env with
      | none => rw [e1] at e; cases e
      | some env1 =>
        rw [e1] at e
        exact ⟨v, vs, rfl, w, env, r, t, env1, a, d1, e1, fun σ' s' b => ⟨w, env1, r, ts, env', ⟨a.st, a.g, s'⟩, d2, e, fun σ2 s2 b2 => q σ2 s2 (b.trans b2)⟩⟩
def hTup (n : Nat) (hs : List T → Env → Option Env) : T → Env → Option Env := fun t env => match t with
  | .tup ts => if ts.length = n then hs ts env else none
  | _ => none
theorem g_tup {us : List Nat} {es : List Expr} {k n : Nat} {hs : List T → Env → Option Env} (hc : X.calm = true) (hK : X.K = G.K) (h : SGs X G us es hs) (hn : (assignEach es X.env).length = n := by rfl) (hst : (assignEach es X.env).findIdx? (·.1) = none := by rfl) : SG X G us (.Tuple es k pos) (hTup n hs) := fun w0 H0 =>
  pg_imp (pg_tup hc (h w0 H0) hn hst) fun v σ H Q ⟨w, env, r, t, env', a, d, e, q⟩ => by
    cases d with
    | @tup p vs ts hh z dd =>
      have e : (if ts.length = n then hs ts env else none) = some env' := e
      by_cases hl : ts.length = n
      · rw [if_pos hl] at e
        rw [hK]
        exact ⟨p, vs, rfl, tup_sq a.g.sub hh, by rw [dd.length]; exact hl, w, env, r, ts, env', a, dd, e, q⟩
      · rw [if_neg hl] at e; cases e
    | _ => cases e
def qAsg (f : Env → M T) (h : T → Env → Option Env) : Sm := fun env r => ofM env (fun t r => match h t env with
  | some env' => .nx env' r
  | none => .bad) (f env r)
theorem ss_asg {us : List Nat} {tg : Expr} {h : T → Env → Option Env} (he : SE X G W e f) (hg : SG X G us tg h) (hs : swapsWithSole [tg] e pos.line X.env = pure false := by rfl) (hw : swappedStores [tg] e X.env = pure none := by rfl)
    (h1 : (assignEach [tg] X.env).map (·.2) = [assign tg X.env] := by rfl) : SS X G W (.Assign [tg] e pos) (qAsg f h) := fun w0 H0 => ps_imp (ps_asg he (hg w0 H0) hs hw h1) fun D σ H ⟨w, env, r, a, hq⟩ =>
  at_e a hq fun t r1 w1 H1 v a1 d h2 => by
    cases q : h t env with
    | none => rw [q] at h2; exact h2.elim
    | some env' =>
      rw [q] at h2
      exact ⟨w1, env, r1, t, env', a1, d, q, fun σ' s' _ => h2 w1 H1 σ' a1.st a1.g s'⟩
end
end Ep
namespace Ep
open PySem PySem.Spec L2
/-! ### lists changed -/
section
variable {G : Gm} {w w0 : Wd} {H0 H : Hp} {σ : L2.St} {env : Env} {r : RS}
/-- a changed list of several defs -/
theorem At.ref (a : At G w0 H0 w H σ env r) {k : Nat} {p : Addr} {xs : List T} {vs : List V} (hp : w.R[k]? = some p) (hk : r[k]? = some xs) {ys : List T} (d : Dens G w vs ys) (hz : ys.length ≤ sizeLine) : At G w0 H0 w (upd H p (.lst vs)) σ env (r.set k ys) := by
  have hm : p ∈ w.R := List.mem_of_getElem? hp
  have hl : k < r.length := (List.getElem?_eq_some_iff.mp hk).1
  have st : Step w H w (upd H p (.lst vs)) := ⟨Same.refl _, fun b o h1 h2 _ => by
      rw [upd_ne (fun e => h1 (by rw [e]; exact hm))]
      exact h2, fun b h => by
      exact h.put (by intro _ e; cases e), fun _ _ _ h => h, ⟨[], by simp, by simp⟩, rfl⟩
  obtain ⟨vs0, ev0⟩ := a.g.refs.there hm
  refine a.step st ⟨fun b o e => ?_, ⟨a.g.refs.nd, by rw [List.length_set]; exact a.g.refs.len, a.g.refs.out, fun j zs hj => ?_⟩, tabs_put a.g.tabs (.inr ⟨_, ev0, ⟨fun _ e => (by cases e), fun _ _ e => (by unfold LamX.CodeO at e; cases e)⟩⟩), a.g.nt⟩
  · rw [upd_ne (fun q => by rw [q, a.g.refs.out p hm] at e; cases e)]
    exact a.g.sub b o e
  · by_cases hjk : k = j
    · subst hjk
      rw [List.getElem?_set_self hl] at hj
      cases hj
      exact ⟨p, vs, hp, upd_same, d, hz⟩
    · rw [List.getElem?_set_ne hjk] at hj
      obtain ⟨b, us, h1, h2, h3, h4⟩ := a.g.refs.at_ j zs hj
      refine ⟨b, us, h1, ?_, h3, h4⟩
      have hb : b ≠ p := fun e => by
        subst e
        obtain ⟨l1, e1⟩ := List.getElem?_eq_some_iff.mp hp
        obtain ⟨l2, e2⟩ := List.getElem?_eq_some_iff.mp h1
        exact hjk ((List.getElem_inj a.g.refs.nd).mp (e1.trans e2.symm))
      rw [upd_ne hb]
      exact h2
/-- an own thing is changed -/
theorem At.pv (a : At G w0 H0 w H σ env r) {i : Nat} {xs ys : Pv} {o : HO} {p : Addr} (he : env[i]? = some (.pv xs)) (hp : σ[i]? = some (some (.ref p))) (d : PvOk G w p o ys) : At G w0 H0 w (upd H p o) σ (env.set i (.pv ys)) r := by
  obtain ⟨oa, h1, h2⟩ := a.s.ex
  obtain ⟨b1, b2, b3, b4, u, b6, b7⟩ := h1 i _ he
  rw [hp] at b1
  cases b1
  exact ⟨a.st.chg b4 d.pl.tb, a.g.priv b2 b3 (.inr ⟨u, b6, b7.pl⟩), a.s.chg he hp d⟩
theorem At.own (a : At G w0 H0 w H σ env r) {i : Nat} {xs ys : List T} {vs : List V} {p : Addr} (he : env[i]? = some (.own xs)) (hp : σ[i]? = some (some (.ref p))) (d : Dens G w vs ys) (hz : ys.length ≤ sizeLine) : At G w0 H0 w (upd H p (.lst vs)) σ (env.set i (.own ys)) r :=
  a.pv he hp (.lst hz d)
/-- an own thing: its address -/
theorem At.thing (a : At G w0 H0 w H σ env r) {i : Nat} {q : Pv} (he : env[i]? = some (.pv q)) : ∃ p o, σ[i]? = some (some (.ref p)) ∧ H p = some o ∧ PvOk G w p o q := by
  obtain ⟨oa, h1, h2⟩ := a.s.ex
  obtain ⟨b1, b2, b3, b4, o, b6, b7⟩ := h1 i _ he
  exact ⟨_, o, b1, b6, b7⟩
/-- the list of a slot, to be changed: its address, its items -/
theorem At.lst (a : At G w0 H0 w H σ env r) {i : Nat} {xs : List T} (he : env[i]? = some (.own xs)) : ∃ p vs, σ[i]? = some (some (.ref p)) ∧ H p = some (.lst vs) ∧ Dens G w vs xs ∧ xs.length ≤ sizeLine := by
  obtain ⟨p, o, h1, h2, h3⟩ := a.thing he
  cases h3 with
  | lst z d => exact ⟨p, _, h1, h2, d, z⟩
theorem At.lstR (a : At G w0 H0 w H σ env r) {i k : Nat} {xs : List T} (he : env[i]? = some (.val (.ref k))) (hk : r[k]? = some xs) : ∃ p vs, σ[i]? = some (some (.ref p)) ∧ H p = some (.lst vs) ∧ Dens G w vs xs ∧ w.R[k]? = some p ∧ xs.length ≤ sizeLine := by
  obtain ⟨oa, h1, h2⟩ := a.s.ex
  obtain ⟨v, e1, d⟩ := h1 i _ he
  cases d with
  | ref h =>
    obtain ⟨b, us, h3, h4, h5, h6⟩ := a.g.refs.at_ k xs hk
    rw [h] at h3
    cases h3
    exact ⟨_, us, e1, h4, h5, h, h6⟩
end
section
variable {X : Cx} {G : Gm} {W : WX} {pos : Pos} {e ix : Expr} {f g : Env → M T}
theorem at_eS {w0 w : Wd} {H0 H : Hp} {σ : L2.St} {env : Env} {r : RS} {D : Ends} {k : T → RS → SO} {Q : VK} (a : At G w0 H0 w H σ env r) (h : FlowP G W w0 H0 D (ofM env k (f env r)))
    (n : ∀ t r1 w1 H1 v, Step w H w1 H1 → At G w0 H0 w1 H1 σ env r1 → Den G w1 v t → FlowP G W w0 H0 D (k t r1) → Q v H1) : tS G W f σ H Q :=
  ⟨w, H0, env, r, a.g, a.s, (FlowP.ofM a h).imp fun t r1 w1 H1 st _ q v d => n t r1 w1 H1 v st q.1 d q.2⟩
/-- may the slot's list be changed: an own one, or one of several defs -/
def isMut (env : Env) (i : Nat) : Bool := match env[i]? with
  | some (.pv (.lst _)) => true
  | some (.val (.ref _)) => true
  | _ => false
/-- the items of the slot's list; a new list in its place -/
def mutGet (env : Env) (i : Nat) (r : RS) : Option (List T) := match env[i]? with
  | some (.pv (.lst xs)) => some xs
  | some (.val (.ref k)) => r[k]?
  | _ => none
def mutSet (env : Env) (i : Nat) (r : RS) (ys : List T) : SO := match env[i]? with
  | some (.pv (.lst _)) => .nx (env.set i (.own ys)) r
  | some (.val (.ref k)) => .nx env (r.set k ys)
  | _ => .bad
theorem At.mutA {w w0 : Wd} {H0 H : Hp} {σ : L2.St} {env : Env} {r : RS} (a : At G w0 H0 w H σ env r) {i : Nat} (hm : isMut env i = true) : ∃ p vs, σ[i]? = some (some (.ref p)) ∧ H p = some (.lst vs) := by
  unfold isMut at hm
  cases q : env[i]? with
  | none => rw [q] at hm; cases hm
  | some sl =>
    rw [q] at hm
    cases sl with
    | pv o =>
      cases o with
      | lst xs =>
        obtain ⟨p, vs, e1, hp, _⟩ := a.lst q
        exact ⟨p, vs, e1, hp⟩
      | _ => cases hm
    | val t =>
      cases t with
      | ref k =>
        obtain ⟨oa, k1, k2⟩ := a.s.ex
        obtain ⟨v0, e1, d0⟩ := k1 i _ q
        cases d0 with
        | ref hp =>
          obtain ⟨vs, hh⟩ := a.g.refs.there (List.mem_of_getElem? hp)
          exact ⟨_, vs, e1, hh⟩
      | _ => cases hm
    | un => cases hm
    | fn => cases hm
theorem At.mutG {w w0 : Wd} {H0 H : Hp} {σ : L2.St} {env : Env} {r : RS} (a : At G w0 H0 w H σ env r) {i : Nat} {xs : List T} (hm : mutGet env i r = some xs) : ∃ p vs, σ[i]? = some (some (.ref p)) ∧ H p = some (.lst vs) ∧ Dens G w vs xs ∧ xs.length ≤ sizeLine ∧
    ∀ us ys, Dens G w us ys → ys.length ≤ sizeLine → ∀ (D : Ends), FlowP G W w0 H0 D (mutSet env i r ys) → D.nx σ (upd H p (.lst us)) := by
  unfold mutGet at hm
  cases q : env[i]? with
  | none => rw [q] at hm; cases hm
  | some sl =>
    rw [q] at hm
    cases sl with
    | pv o =>
      cases o with
      | lst ys =>
        cases hm
        obtain ⟨p, vs, e1, hp, d, hz⟩ := a.lst q
        refine ⟨p, vs, e1, hp, d, hz, fun us ys dd hl D h => ?_⟩
        unfold mutSet at h
        rw [q] at h
        have a2 := a.own q e1 dd hl
        exact h _ _ _ a2.st a2.g a2.s
      | _ => cases hm
    | val t =>
      cases t with
      | ref k =>
        obtain ⟨p, vs, e1, hp, d, hR, hz⟩ := a.lstR q hm
        refine ⟨p, vs, e1, hp, d, hz, fun us ys dd hl D h => ?_⟩
        unfold mutSet at h
        rw [q] at h
        have a2 := a.ref hR hm dd hl
        exact h _ _ _ a2.st a2.g a2.s
      | _ => cases hm
    | un => cases hm
    | fn => cases hm
/-- xs.append(e) -/
def qApp (i : Nat) (f : Env → M T) : Sm := fun env r => if isMut env i = true then ofM env (fun t r => match mutGet env i r with
  | some xs => if xs.length < 100000 then mutSet env i r (xs ++ [t]) else .bad
  | none => .bad) (f env r) else .bad
theorem ss_app {x : Str} {px apos cpos : Pos} (hK : X.K = G.K) (i : Nat) (hN : X.N[i]? = some x) (hv : Vis X.env.scope x) (he : SE X G W e f) (hbase : attributeBase (.Name x px) "append" X.env (eval (.Name x px) X.env) = eval (.Name x px) X.env := by rfl)
    (hfew : ((backTo cpos (starEach [e] X.env)).all (fun x => !x.1) && (backToKw cpos (keywordEach [] X.env)).all (fun x => x.1.isSome) && decide (([e] : List Expr).length + ([] : List Keyword).length + (if ([] : List Keyword).isEmpty then 0 else 1) < 30)) = true := by rfl)
    (hline : (apos.endLine == cpos.line) = true := by rfl) (hs : starEach [e] X.env = (false, eval e X.env) :: starEach [] X.env := by rfl) (hplain : (backTo cpos (starEach [] X.env)).any (·.1) = false := by rfl)
    (hd : (x == ("__debug__" : Str)) = false := by decide) (hcd : (x == ("__classdict__" : Str)) = false := by decide) :
    SS X G W (.Expr (.Call (.Attribute (.Name x px) "append" apos) [e] [] cpos) pos) (qApp i f) := fun w0 H0 =>
  ps_imp (ps_expr (pe_bm PySem.F.plainAttrs_list PySem.F.slot_list_append PySem.F.type_list_append mt_append (pe_var hN hv hd hcd) (pa_cons he pa_nil hs) hbase hfew hline hs hplain)) fun D σ H ⟨w, env, r, a, h⟩ => by
    rw [hK]
    unfold qApp at h
    by_cases hm : isMut env i = true
    · rw [if_pos hm] at h
      obtain ⟨p, vs, e1, hp⟩ := a.mutA hm
      refine ⟨_, e1, .inl ⟨rfl, vs, SqL.of hp⟩, at_e a h fun t r1 w1 H1 v a1 d h1 => ?_⟩
      cases q : mutGet env i r1 with
      | none => rw [q] at h1; exact h1.elim
      | some xs =>
        rw [q] at h1
        have h1 : FlowP G W w0 H0 D (if xs.length < 100000 then mutSet env i r1 (xs ++ [t]) else .bad) := h1
        by_cases hl : xs.length < 100000
        · rw [if_pos hl] at h1
          obtain ⟨p', vs', e2, hp', dd, hz', go⟩ := a1.mutG (W := W) q
          rw [e1] at e2
          cases e2
          exact ⟨p, vs', v, rfl, rfl, hp', by rw [dd.length]; exact Nat.lt_of_lt_of_le hl (by decide), go _ _ (dd.append (.cons d .nil)) (by rw [List.length_append]; exact Nat.le_trans (Nat.succ_le_of_lt hl) (by decide)) D h1⟩
        · rw [if_neg hl] at h1; exact h1.elim
    · rw [if_neg hm] at h; exact h.elim
/-- xs.extend(e) -/
def qExt (i : Nat) (f : Env → M T) : Sm := fun env r => if isMut env i = true then ofM env (fun t r => match mutGet env i r, t with
  | some xs, .lst ys => if xs.length + ys.length ≤ 100000 then mutSet env i r (xs ++ ys) else .bad
  | _, _ => .bad) (f env r) else .bad
theorem ss_ext {x : Str} {px apos cpos : Pos} (hK : X.K = G.K) (i : Nat) (hN : X.N[i]? = some x) (hv : Vis X.env.scope x) (he : SE X G W e f) (hbase : attributeBase (.Name x px) "extend" X.env (eval (.Name x px) X.env) = eval (.Name x px) X.env := by rfl)
    (hfew : ((backTo cpos (starEach [e] X.env)).all (fun x => !x.1) && (backToKw cpos (keywordEach [] X.env)).all (fun x => x.1.isSome) && decide (([e] : List Expr).length + ([] : List Keyword).length + (if ([] : List Keyword).isEmpty then 0 else 1) < 30)) = true := by rfl)
    (hline : (apos.endLine == cpos.line) = true := by rfl) (hs : starEach [e] X.env = (false, eval e X.env) :: starEach [] X.env := by rfl) (hplain : (backTo cpos (starEach [] X.env)).any (·.1) = false := by rfl)
    (hd : (x == ("__debug__" : Str)) = false := by decide) (hcd : (x == ("__classdict__" : Str)) = false := by decide) :
    SS X G W (.Expr (.Call (.Attribute (.Name x px) "extend" apos) [e] [] cpos) pos) (qExt i f) := fun w0 H0 =>
  ps_imp (ps_expr (pe_bm PySem.F.plainAttrs_list PySem.F.slot_list_extend PySem.F.type_list_extend mt_extend (pe_var hN hv hd hcd) (pa_cons he pa_nil hs) hbase hfew hline hs hplain)) fun D σ H ⟨w, env, r, a, h⟩ => by
    rw [hK]
    unfold qExt at h
    by_cases hm : isMut env i = true
    · rw [if_pos hm] at h
      obtain ⟨p, vs, e1, hp⟩ := a.mutA hm
      refine ⟨_, e1, .inl ⟨rfl, vs, SqL.of hp⟩, at_e a h fun t r1 w1 H1 v a1 d h1 => ?_⟩
      cases q : mutGet env i r1 with
      | none => rw [q] at h1; exact h1.elim
      | some xs =>
        rw [q] at h1
        cases d with
        | @lst b us ys hb zb db =>
          have h1 : FlowP G W w0 H0 D (if xs.length + ys.length ≤ 100000 then mutSet env i r1 (xs ++ ys) else .bad) := h1
          by_cases hl : xs.length + ys.length ≤ 100000
          · rw [if_pos hl] at h1
            obtain ⟨p', vs', e2, hp', dd, hz', go⟩ := a1.mutG (W := W) q
            rw [e1] at e2
            cases e2
            exact ⟨p, b, vs', us, rfl, rfl, hp', a1.g.sub _ _ hb, by rw [dd.length, db.length]; exact le_size hl, go _ _ (dd.append db) (by rw [List.length_append]; exact le_size hl) D h1⟩
          · rw [if_neg hl] at h1; exact h1.elim
        | _ => exact h1.elim
    · rw [if_neg hm] at h; exact h.elim
/-- xs[i] = e -/
def qSetIx (i : Nat) (f g : Env → M T) : Sm := fun env r => if isMut env i = true then ofM env (fun t r => ofM env (fun u r => match mutGet env i r, u with
  | some xs, .int k => match ixN xs.length k with
    | some j => mutSet env i r (xs.set j t)
    | none => .bad
  | _, _ => .bad) (g env r)) (f env r) else .bad
theorem ss_setIx {x : Str} {px spos : Pos} (i : Nat) (hN : X.N[i]? = some x) (hv : Vis X.env.scope x) (he : SE X G W e f) (hi : SE X G W ix g)
    (ha : ∀ v, assign (.Subscript (.Name x px) ix spos) X.env v = (do let ov ← holding [v] (eval (.Name x px) X.env); let iv ← holding [v, ov] (eval ix X.env); standAt spos; holding [v, ov, iv] (setItem ov iv v); release [v, ov, iv] []) := by intro _; rfl)
    (hs : swapsWithSole [.Subscript (.Name x px) ix spos] e pos.line X.env = pure false := by rfl) (hw : swappedStores [.Subscript (.Name x px) ix spos] e X.env = pure none := by rfl)
    (h1 : (assignEach [.Subscript (.Name x px) ix spos] X.env).map (·.2) = [assign (.Subscript (.Name x px) ix spos) X.env] := by rfl) (hd : (x == ("__debug__" : Str)) = false := by decide) (hcd : (x == ("__classdict__" : Str)) = false := by decide) :
    SS X G W (.Assign [.Subscript (.Name x px) ix spos] e pos) (qSetIx i f g) := fun w0 H0 =>
  ps_imp (ps_asg he (pg_sub (pe_var hN hv hd hcd) hi set_list ha) hs hw h1) fun D σ H ⟨w, env, r, a, h⟩ => by
    unfold qSetIx at h
    by_cases hm : isMut env i = true
    · rw [if_pos hm] at h
      refine at_e a h fun t r1 w1 H1 v a1 d h1 => ?_
      obtain ⟨p, vs, e1, hp⟩ := a1.mutA hm
      refine ⟨_, e1, at_eS a1 h1 fun u r2 w2 H2 y st2 a2 d2 h2 => ?_⟩
      have d := d.mono st2.later
      cases q : mutGet env i r2 with
      | none => rw [q] at h2; exact h2.elim
      | some xs =>
        rw [q] at h2
        cases d2 with
        | int k =>
          obtain ⟨p', vs', e2, hp', dd, hz', go⟩ := a2.mutG (W := W) q
          rw [e1] at e2
          cases e2
          have h2 : FlowP G W w0 H0 D (match ixN xs.length k with
            | some j => mutSet env i r2 (xs.set j t)
            | none => .bad) := h2
          cases q2 : ixN xs.length k with
          | none => rw [q2] at h2; exact h2.elim
          | some j =>
            rw [q2] at h2
            exact ⟨p, vs', k, j, rfl, rfl, hp', by rw [dd.length]; exact q2, go _ _ (dd.set d j) (by rw [List.length_set]; exact hz') D h2⟩
        | _ => exact h2.elim
    · rw [if_neg hm] at h; exact h.elim
/-- a list that several defs change, from a new one -/
def fRef (f : Env → M (List T)) : Env → M T := fun env r => match f env r with
  | .ok xs r' => .ok (.ref r'.length) (r' ++ [xs])
  | .exn c p r' => .exn c p r'
  | .bad => .bad
theorem s_ref {f : Env → M (List T)} (h : SL X G W e f) : SE X G W e (fRef f) := pe_imp h fun σ H Q ⟨w, H0, env, r, g, s, h⟩ => by
  refine ⟨w, H0, env, r, g, s, ?_⟩
  unfold fRef at h
  cases q : f env r with
  | ok xs r1 =>
    rw [q] at h
    intro w1 H1 st g1 p vs hp hP hR hh d z
    have L : Later w1 ⟨w1.P, w1.R ++ [p], w1.fx⟩ := ⟨Same.refl _, [p], rfl⟩
    have st2 : Step w H ⟨w1.P, w1.R ++ [p], w1.fx⟩ H1 := ⟨st.pub, st.fr, st.keep, st.hid, by
      obtain ⟨m, e, hm⟩ := st.refs
      exact ⟨m ++ [p], by show w1.R ++ [p] = _; rw [e, List.append_assoc], fun a ha => by
        rcases List.mem_append.mp ha with z | z
        · exact hm a z
        · rw [List.mem_singleton.mp z]; exact hp⟩, st.me⟩
    have g2 : Good G ⟨w1.P, w1.R ++ [p], w1.fx⟩ H1 (r1 ++ [xs]) := ⟨g1.sub, ⟨List.nodup_append.mpr ⟨g1.refs.nd, by simp, fun a ha b hb e => hR (by rw [← List.mem_singleton.mp hb, ← e]; exact ha)⟩, by simp [g1.refs.len], fun a ha => by
        rcases List.mem_append.mp ha with z | z
        · exact g1.refs.out a z
        · rw [List.mem_singleton.mp z]; exact hP, fun k ys hk => by
        by_cases hl : k < r1.length
        · rw [List.getElem?_append_left hl] at hk
          obtain ⟨a, us, h1, h2, h3, h4⟩ := g1.refs.at_ k ys hk
          exact ⟨a, us, by show (w1.R ++ [p])[k]? = some a; rw [List.getElem?_append_left (by rw [g1.refs.len]; exact hl)]; exact h1, h2, h3.mono L, h4⟩
        · have hk' : k = r1.length := by
            have := (List.getElem?_eq_some_iff.mp hk).1
            rw [List.length_append, List.length_singleton] at this
            omega
          subst hk'
          rw [List.getElem?_append_right (Nat.le_refl _), Nat.sub_self] at hk
          cases hk
          exact ⟨p, vs, by show (w1.R ++ [p])[r1.length]? = some p; rw [List.getElem?_append_right (by rw [g1.refs.len]; exact Nat.le_refl _), g1.refs.len, Nat.sub_self]; rfl, hh, d.mono L, z⟩⟩, g1.tabs, g1.nt⟩
    refine h _ _ st2 g2 _ (.ref ?_)
    show (w1.R ++ [p])[r1.length]? = some p
    rw [List.getElem?_append_right (by rw [g1.refs.len]; exact Nat.le_refl _), g1.refs.len, Nat.sub_self]
    rfl
  | exn c p r1 =>
    rw [q] at h
    exact h
  | bad =>
    rw [q] at h
    exact h
/-- self.f = e in an __init__ -/
def qFld (i C n : Nat) (f : Env → M T) : Sm := fun env r => match env[i]? with
  | some (.pv (.ins C' ts)) => if C' = C ∧ ts.length = n then ofM env (fun t r => .nx (env.set i (.ins C (ts ++ [t]))) r) (f env r) else .bad
  | _ => .bad
theorem putF_new {name : Str} {v : V} : ∀ {fs : List (Str × V)}, fs.lookup name = none → putF name v fs = fs ++ [(name, v)]
  | [], _ => rfl
  | (y, u) :: fs, h => by
    rw [List.lookup_cons] at h
    by_cases q : name = y
    · subst q
      rw [show (name == name) = true by simp] at h
      cases h
    · rw [show (name == y) = false by simp [q]] at h
      have e : ¬ y = name := fun z => q z.symm
      unfold putF
      rw [if_neg e, putF_new h]
      rfl
theorem At.ins {w w0 : Wd} {H0 H : Hp} {σ : L2.St} {env : Env} {r : RS} (a : At G w0 H0 w H σ env r) {i C : Nat} {ts : List T} (he : env[i]? = some (.ins C ts)) : ∃ p cA dx vs, σ[i]? = some (some (.ref p)) ∧ G.mg (G.cn C) = some (.ref cA) ∧ H p = some (.ins cA dx (((G.fl C).take ts.length).zip vs)) ∧ vs.length = ts.length ∧ ts.length ≤ (G.fl C).length ∧
    ∀ v t, Den G w v t → ts.length < (G.fl C).length → At G w0 H0 w (upd H p (.ins cA dx (((G.fl C).take (ts ++ [t]).length).zip (vs ++ [v])))) σ (env.set i (.ins C (ts ++ [t]))) r := by
  obtain ⟨p, o, h1, h2, h3⟩ := a.thing he
  cases h3 with
  | ins hm c l d => exact ⟨p, _, _, _, h1, c, h2, d.length, l, fun v t dd hl => a.pv he h1 (.ins hm c (by rw [List.length_append, List.length_singleton]; exact hl) (d.append (.cons dd .nil)))⟩
/-- the class's n-th field is the name, and stands but once among those ahead -/
structure NthFld (G : Gm) (C n : Nat) (name : Str) : Prop where
  at_ : (G.fl C)[n]? = some name
  new : name ∉ (G.fl C).take n
  few : (G.fl C).length < 1000
  cl : ∀ cA, G.mg (G.cn C) = some (.ref cA) → Cls G.K cA ∧ NoAttr G.K cA name
theorem zip_snoc {l : List Str} {n : Nat} {name : Str} {vs : List V} {v : V} (h : l[n]? = some name) (hv : vs.length = n) : (l.take n).zip vs ++ [(name, v)] = (l.take (n + 1)).zip (vs ++ [v]) := by
  obtain ⟨hl, e⟩ := List.getElem?_eq_some_iff.mp h
  rw [List.take_succ, h]
  simp only [Option.toList]
  rw [List.zip_append (by rw [List.length_take, hv]; omega)]
  rfl
theorem ss_fld {x name : Str} {px fpos : Pos} {C n : Nat} (hK : X.K = G.K) (i : Nat) (hN : X.N[i]? = some x) (hv : Vis X.env.scope x) (ok : NthFld G C n name) (he : SE X G W e f)
    (hs : swapsWith e (some (.Attribute (.Name x px) name fpos)) pos.line X.env = pure false := by rfl) (hd : (x == ("__debug__" : Str)) = false := by decide) (hcd : (x == ("__classdict__" : Str)) = false := by decide) :
    SS X G W (.Assign [.Attribute (.Name x px) name fpos] e pos) (qFld i C n f) := fun w0 H0 =>
  ps_imp (ps_fld (pe_var hN hv hd hcd) he hs) fun D σ H ⟨w, env, r, a, h⟩ => by
    rw [hK]
    unfold qFld at h
    cases q : env[i]? with
    | none => rw [q] at h; exact h.elim
    | some sl =>
      rw [q] at h
      cases sl with
      | pv o =>
       cases o with
       | ins C' ts =>
        have h : FlowP G W w0 H0 D (if C' = C ∧ ts.length = n then ofM env (fun t r => .nx (env.set i (.ins C (ts ++ [t]))) r) (f env r) else .bad) := h
        by_cases hCn : C' = C ∧ ts.length = n
        · rw [if_pos hCn] at h
          obtain ⟨hCC, hn⟩ := hCn
          subst hCC
          refine at_e a h fun t r1 w1 H1 v a1 d h1 => ?_
          obtain ⟨p, cA, dx, vs, e1, c1, e2, l1, l2, go⟩ := a1.ins q
          have hl : ts.length < (G.fl C').length := by
            rw [hn]
            exact (List.getElem?_eq_some_iff.mp ok.at_).1
          have a2 := go v t d hl
          refine ⟨_, e1, p, cA, dx, _, rfl, e2, (ok.cl cA c1).1, (ok.cl cA c1).2, ?_, ?_⟩
          · rw [List.length_zip, List.length_take]
            have := ok.few
            omega
          · rw [putF_new (lookup_zip_none (by rw [hn]; exact ok.new)), zip_snoc (by rw [hn]; exact ok.at_) l1]
            have e3 : ts.length + 1 = (ts ++ [t]).length := by simp
            rw [e3]
            exact h1 _ _ _ a2.st a2.g a2.s
        · rw [if_neg hCn] at h; exact h.elim
       | _ => exact h.elim
      | _ => exact h.elim
end
end Ep
namespace Ep
open PySem PySem.Spec L2
/-! ### another base -/
theorem Slots.base {G : Gm} {w : Wd} {H0 Hb H : Hp} {σ : L2.St} {env : Env} (h : ∀ a, ¬ Vs Hb a → ¬ Vs H0 a) (s : Slots G w Hb H σ env) : Slots G w H0 H σ env := by
  obtain ⟨oa, h1, h2⟩ := s.ex
  refine ⟨s.len, oa, fun i sl hi => ?_, h2⟩
  have := h1 i sl hi
  cases sl with
  | un => trivial
  | fn => exact this
  | val t => exact this
  | pv o =>
    obtain ⟨a1, a2, a3, a4, a5⟩ := this
    exact ⟨a1, a2, a3, h _ a4, a5⟩
theorem FlowP.base {G : Gm} {W : WX} {w0 w : Wd} {H0 Hb : Hp} {D : Ends} {o : SO} (h : FlowP G W w0 H0 D o) (st : Step w0 H0 w Hb) : FlowP G W w Hb D o := by
  have b : ∀ a, ¬ Vs Hb a → ¬ Vs H0 a := fun a ha z => ha (st.keep a z)
  cases o with
  | nx env r => exact fun w' H' σ' s g sl => h w' H' σ' (st.trans s) g (sl.base b)
  | rt t r => exact fun w' H' v s g d => h w' H' v (st.trans s) g d
  | bk env r => exact fun w' H' σ' s g sl => h w' H' σ' (st.trans s) g (sl.base b)
  | ct env r => exact fun w' H' σ' s g sl => h w' H' σ' (st.trans s) g (sl.base b)
  | exn c p env r => exact fun w' H' σ' cls d s g sl x => h w' H' σ' cls d (st.trans s) g (sl.base b) x
  | bad => exact h
open Classical in
/-- the world as it is, the def's own things left out -/
theorem Slots.rebase {G : Gm} {w : Wd} {H0 H : Hp} {σ : L2.St} {env : Env} {r : RS} (s : Slots G w H0 H σ env) (g : Good G w H r) : ∃ Hb, At G w Hb w H σ env r ∧ ∀ w0, Step w0 H0 w H → Step w0 H0 w Hb := by
  obtain ⟨oa, h1, h2⟩ := s.ex
  let own : Addr → Prop := fun b => ∃ i sl, env[i]? = some sl ∧ Slot.priv sl = true ∧ oa i = b
  have hown : ∀ b, own b → ¬ Vs H0 b ∧ w.P b = none ∧ b ∉ w.R := fun b ⟨i, sl, e1, p1, e2⟩ => by
    have := h1 i sl e1
    subst e2
    cases sl with
    | un => cases p1
    | fn => cases p1
    | val _ => cases p1
    | pv o =>
      obtain ⟨a1, a2, a3, a4, a5⟩ := this
      exact ⟨a4, a2, a3⟩
  let Hb : Hp := fun b => if own b then none else H b
  have hb1 : ∀ b, own b → Hb b = none := fun b h => if_pos h
  have hb2 : ∀ b, ¬ own b → Hb b = H b := fun b h => if_neg h
  refine ⟨Hb, ⟨⟨Same.refl _, fun b o e1 e2 _ => ?_, fun b e => ?_, fun b _ _ e => e, ⟨[], by simp, by simp⟩, rfl⟩, g, s.len, oa, fun i sl hi => ?_, h2⟩, fun w0 st => ⟨st.pub, fun b o e1 e2 e3 => ?_, fun b e => ?_, fun b e1 e2 e3 => st.hid b e1 e2 e3, st.refs, st.me⟩⟩
  · by_cases q : own b
    · rw [hb1 b q] at e2; cases e2
    · rw [hb2 b q] at e2; exact e2
  · by_cases q : own b
    · exact absurd e (nvs (hb1 b q))
    · obtain ⟨o, e1, e2⟩ := e
      rw [hb2 b q] at e1
      exact ⟨o, e1, e2⟩
  · have := h1 i sl hi
    cases sl with
    | un => trivial
    | fn => exact this
    | val t => exact this
    | pv o =>
      obtain ⟨a1, a2, a3, a4, a5⟩ := this
      exact ⟨a1, a2, a3, nvs (hb1 _ ⟨i, _, hi, rfl, rfl⟩), a5⟩
  · rw [hb2 b (fun q => (hown b q).1 ⟨o, e2, e3⟩)]
    exact st.fr b o e1 e2 e3
  · obtain ⟨o, e1, e2⟩ := st.keep b e
    exact ⟨o, by rw [hb2 b (fun q => (hown b q).1 e)]; exact e1, e2⟩
theorem At.rebase {G : Gm} {w0 w : Wd} {H0 H : Hp} {σ : L2.St} {env : Env} {r : RS} (a : At G w0 H0 w H σ env r) : ∃ Hb, Step w0 H0 w Hb ∧ At G w Hb w H σ env r := by
  obtain ⟨Hb, h1, h2⟩ := a.s.rebase a.g
  exact ⟨Hb, h2 w0 a.st, h1⟩
/-! ### what is walked -/
def ItOk (G : Gm) (w : Wd) (J : It) (xs : List T) : Prop := ∃ Gd Y, Walk J xs.length Gd Y ∧ (∀ w' H' r', Later w w' → Good G w' H' r' → Gd H') ∧
  ∀ i H1 v H2 w1 r1, Later w w1 → Good G w1 H1 r1 → i < xs.length → Y i H1 v H2 → ∃ t w2, xs[i]? = some t ∧ Step w1 H1 w2 H2 ∧ Good G w2 H2 r1 ∧ Den G w2 v t
def tSI (G : Gm) (W : WX) (f : Env → M (List T)) : TI := fun σ H R => ∃ w H0 env r, Good G w H r ∧ Slots G w H0 H σ env ∧ OutP G w H (WE0 W σ) (fun xs _ w' H' => ∀ J, ItOk G w' J xs → R J H') (f env r)
abbrev SI (X : Cx) (G : Gm) (W : WX) (tg e : Expr) (f : Env → M (List T)) : Prop := PI X tg e (tSI G W f)
/-- a def's own names in the target change the environment so -/
def loopF (h : T → Env → Option Env) (g : Sm) : List T → Sm
  | [], env, r => .nx env r
  | x :: xs, env, r => match h x env with
    | none => .bad
    | some env1 => match g env1 r with
      | .nx e r' => loopF h g xs e r'
      | .ct e r' => loopF h g xs e r'
      | .bk e r' => .nx e r'
      | .rt t r' => .rt t r'
      | .exn c p e r' => .exn c p e r'
      | .bad => .bad
def qFor (f : Env → M (List T)) (h : T → Env → Option Env) (g : Sm) : Sm := fun env r => ofM env (fun xs r => loopF h g xs env r) (f env r)
section
variable {X : Cx} {G : Gm} {W : WX} {pos : Pos}
def tSSx (G : Gm) (W : WX) (g : Sm) : TS := fun D σ H => ∃ w0 H0, tSS G W w0 H0 g D σ H
theorem pss_x {body : List Stmt} {g : Sm} (hb : SSs X G W body g) : PSs X body (tSSx G W g) := ⟨fun pins s σ H D I ⟨w0, H0, q⟩ => (hb w0 H0).run pins s σ H D I q⟩
def tGx (G : Gm) (us : List Nat) (h : T → Env → Option Env) : TG := fun v σ H Q => ∃ w0 H0, tG G us w0 H0 h v σ H Q
theorem pg_x {us : List Nat} {tg : Expr} {h : T → Env → Option Env} (hg : SG X G us tg h) : PG X tg (tGx G us h) := ⟨fun pins s σ H v u Q I r ⟨w0, H0, q⟩ => (hg w0 H0).run pins s σ H v u Q I r q⟩
theorem ss_for {us : List Nat} {iter tg : Expr} {body : List Stmt} {f : Env → M (List T)} {h : T → Env → Option Env} {g : Sm} (hp : PassesOwn (model X.prog X.w) X.A X.env X.xe) (hc : X.calm = true) (hi : SI X G W tg iter f) (hg : SG X G us tg h) (hb : SSs X G W body g)
    (hs : ∀ x, foldedSetIterable iter X.env x = pure x := by intro _; rfl) : SS X G W (.For tg iter body [] pos) (qFor f h g) := by
  intro w0 H0
  refine ⟨fun pins s σ H D I ⟨w, env, r, a, hq⟩ => ?_⟩
  refine (ps_for hp hc hi (pg_x hg) (pss_x hb) hs).run pins s σ H D I ?_
  refine ⟨w, H0, env, r, a.g, a.s, (FlowP.ofM a hq).imp fun xs r1 w1 H1 st1 g1 q J it => ?_⟩
  obtain ⟨a1, hf⟩ := q
  obtain ⟨Gd, Y, wk, hG, hY⟩ := it
  obtain ⟨Hc, stc, ac⟩ := a1.rebase
  refine for_it wk (fun i σ H => ∃ w' env r, At G w1 Hc w' H σ env r ∧ FlowP G W w1 Hc D (loopF h g (xs.drop i) env r)) ⟨w1, env, r1, ac, hf.base stc⟩ (fun i σ' H' _ ⟨w', env', r', a', _⟩ => hG w' H' r' a'.st.later a'.g) ?_ ?_
  · rintro i x σ' H2 H3 hlt ⟨w', env', r', a', hl⟩ y
    obtain ⟨t, w2, ht, st2, g2, d⟩ := hY i H2 x H3 w' r' a'.st.later a'.g hlt y
    have a2 := a'.step st2 g2
    have ed : xs.drop i = t :: xs.drop (i + 1) := by
      rw [List.drop_eq_getElem_cons hlt]
      rw [List.getElem?_eq_getElem hlt] at ht
      cases ht
      rfl
    rw [ed] at hl
    unfold loopF at hl
    cases q : h t env' with
    | none => rw [q] at hl; exact hl.elim
    | some env1 =>
      rw [q] at hl
      refine ⟨w1, Hc, w2, env', r', t, env1, a2, d, q, fun σ2 s2 _ => ⟨w1, Hc, w2, env1, r', ⟨a2.st, a2.g, s2⟩, ?_⟩⟩
      simp only at hl
      cases o : g env1 r' with
      | nx e r2 => rw [o] at hl; exact fun w3 H4 σ3 st g s => ⟨w3, e, r2, ⟨st, g, s⟩, hl⟩
      | ct e r2 => rw [o] at hl; exact fun w3 H4 σ3 st g s => ⟨w3, e, r2, ⟨st, g, s⟩, hl⟩
      | bk e r2 => rw [o] at hl; exact hl
      | rt u r2 => rw [o] at hl; exact hl
      | exn c p e r2 => rw [o] at hl; exact hl
      | bad => rw [o] at hl; exact hl
  · rintro σ' H2 ⟨w', env', r', a', hl⟩
    rw [List.drop_length] at hl
    exact hl w' H2 σ' a'.st a'.g a'.s
end
end Ep
namespace Ep
open PySem PySem.Spec L2
/-! ### what can be walked -/
def iSeqA (K : PySem.W.Frag) (te : TE) : TI := fun σ H R => te σ H fun x H1 => (∃ a xs, x = .ref a ∧ SqL K H1 a xs ∧ R (Itl K a) H1) ∨ (∃ a xs, x = .ref a ∧ SqT K H1 a xs ∧ R (Itt K a) H1) ∨ ∃ z, x = .str z ∧ R (Its z) H1
section
variable {X : Cx} {G : Gm} {W : WX} {pos : Pos} {tg e : Expr} {f : Env → M T}
theorem pi_seqA {te : TE} (he : PE X e te) : PI X tg e (iSeqA X.K te) := by
  refine ⟨fun pins s σ H R I h => ?_⟩
  refine thn (he.run pins s σ H _ I h) fun v s1 ⟨x, H1, I1, r1, q1⟩ => ?_
  have one : ∀ {b : Addr}, b ∈ [s1.heap.objs.size] → FpOk X pins H1 b := fun {b} hb => by
    obtain rfl : b = s1.heap.objs.size := by simpa using hb
    exact I1.fpOk (Nat.le_refl _) (I1.hok.fresh (Nat.le_refl _))
  rcases q1 with ⟨a, xs, ex, hq, q⟩ | ⟨a, xs, ex, hq, q⟩ | ⟨z, ex, q⟩
  · subst ex
    cases r1
    obtain ⟨its, rv, p, hz⟩ := I1.list hq
    exact wpAny_pyIter_list p.isList ⟨s1.heap.objs.size, [s1.heap.objs.size], _, _, H1, rfl, I1.kept (t' := s1.toks) fun b o ho => Heap.get?_push_of_some _ ho, turn_list a _, ⟨_, Heap.get?_push_size _ rfl, rfl, rfl⟩, fun b hb => one hb, q⟩
  · subst ex
    cases r1
    obtain ⟨its, rv, p, hz⟩ := I1.tuple hq
    exact wpAny_pyIter_tuple (show s1.heap.IsTuple a its.toArray from p) ⟨s1.heap.objs.size, [s1.heap.objs.size], _, _, H1, rfl, I1.kept (t' := s1.toks) fun b o ho => Heap.get?_push_of_some _ ho, turn_tuple a _, ⟨_, Heap.get?_push_size _ rfl, rfl, rfl⟩, fun b hb => one hb, q⟩
  · subst ex
    obtain ⟨t, rfl⟩ := r1
    cases ha : z.cps.all (· < 128) with
    | false => exact wpAny_pyIter_wide ha (pi_one (tk := s1.toks) I1 _ (turn_str _ z t "str_iterator" (.inr rfl)) ⟨_, Heap.get?_push_size _ rfl, rfl, rfl⟩ q)
    | true => exact wpAny_pyIter_ascii ha (pi_one (tk := s1.toks) I1 _ (turn_str _ z t "str_ascii_iterator" (.inl rfl)) ⟨_, Heap.get?_push_size _ rfl, rfl, rfl⟩ q)
def chrT (z : Str) : List T := z.cps.toList.map fun c => .str ⟨#[c]⟩
def iterT : T → Option (List T)
  | .lst xs => some xs
  | .kls xs => some xs
  | .tup xs => some xs
  | .str z => some (chrT z)
  | _ => none
def fIter (f : Env → M T) : Env → M (List T) := fun env => f env >>= fun t => M.lift (iterT t)
theorem pi_imp {t t' : TI} (h : PI X tg e t) (i : ∀ σ H Q, t' σ H Q → t σ H Q) : PI X tg e t' := ⟨fun pins s σ H Q I q => h.run pins s σ H Q I (i σ H Q q)⟩
theorem it_l {w : Wd} {a : Addr} {vs : List V} {xs : List T} (h : SqL G.K w.P a vs) (d : Dens G w vs xs) : ItOk G w (Itl G.K a) xs := by
  refine ⟨_, _, by rw [← d.length]; exact walk_list (xs := vs), fun w' H' r' L g => g.sub.seq (L.pub.seq h), fun i H1 v H2 w1 r1 L g hi y => ?_⟩
  obtain ⟨e, y⟩ := y
  subst e
  obtain ⟨t, ht, hd⟩ := d.getV y
  exact ⟨t, w1, ht, Step.refl _ _, g, hd.mono L⟩
theorem it_t {w : Wd} {a : Addr} {vs : List V} {xs : List T} (h : TupAt G.K w.P a vs) (d : Dens G w vs xs) : ItOk G w (Itt G.K a) xs := by
  refine ⟨_, _, by rw [← d.length]; exact walk_tup (xs := vs), fun w' H' r' L g => tup_sq g.sub (h.mono L.pub), fun i H1 v H2 w1 r1 L g hi y => ?_⟩
  obtain ⟨e, y⟩ := y
  subst e
  obtain ⟨t, ht, hd⟩ := d.getV y
  exact ⟨t, w1, ht, Step.refl _ _, g, hd.mono L⟩
theorem it_s {w : Wd} {z : Str} : ItOk G w (Its z) (chrT z) := by
  refine ⟨_, _, by rw [show (chrT z).length = z.cps.size by simp [chrT]]; exact walk_str, fun _ _ _ _ _ => trivial, fun i H1 v H2 w1 r1 L g hi y => ?_⟩
  obtain ⟨e, c, hc, y⟩ := y
  subst e y
  exact ⟨.str ⟨#[c]⟩, w1, by simp [chrT, hc], Step.refl _ _, g, .str _⟩
theorem i_seq (hK : X.K = G.K) (he : SE X G W e f) : SI X G W tg e (fIter f) :=
  pi_imp (pi_seqA he) fun σ H R ⟨w, H0, env, r, g, s, h⟩ => by
    refine seqE g s h fun t r1 w1 H1 v g1 s1 st1 d1 h1 => ?_
    obtain ⟨xs, e1, h2⟩ := liftP h1
    have h3 := h2 w1 H1 (Step.refl _ _) g1
    rw [hK]
    cases d1 with
    | lst h z d => cases e1; exact .inl ⟨_, _, rfl, .inl (.inl (g1.sub _ _ h)), h3 _ (it_l (.inl (.inl h)) d)⟩
    | kls h z d => cases e1; exact .inl ⟨_, _, rfl, g1.sub.seq h, h3 _ (it_l h d)⟩
    | tup h z d => cases e1; exact .inr (.inl ⟨_, _, rfl, tup_sq g1.sub h, h3 _ (it_t h d)⟩)
    | str z => cases e1; exact .inr (.inr ⟨z, rfl, h3 _ it_s⟩)
    | _ => cases e1
/-! ### ranges -/
def rngL (lo : Int) (n : Nat) : List T := (List.range n).map fun i => .int (lo + (i : Nat))
theorem it_r {w : Wd} {lo : Int} {n : Nat} : ItOk G w (Itr lo n) (rngL lo n) := by
  refine ⟨_, _, by rw [show (rngL lo n).length = n by simp [rngL]]; exact walk_range, fun _ _ _ _ _ => trivial, fun i H1 v H2 w1 r1 L g hi y => ?_⟩
  obtain ⟨e, y⟩ := y
  subst e y
  have hi : i < n := by simpa [rngL] using hi
  exact ⟨.int (lo + (i : Nat)), w1, by simp [rngL, hi], Step.refl _ _, g, .int _⟩
def rng1T : List T → Option (List T)
  | [.int j] => if -(2 ^ 62) ≤ j ∧ j < 2 ^ 62 then some (rngL 0 j.toNat) else none
  | _ => none
def rng2T : List T → Option (List T)
  | [.int i, .int j] => if -(2 ^ 62) ≤ i ∧ i < 2 ^ 62 ∧ -(2 ^ 62) ≤ j ∧ j < 2 ^ 62 then some (rngL i (j - i).toNat) else none
  | _ => none
def fRng1 (f : Env → M T) : Env → M (List T) := fun env => fAll [f] env >>= fun ts => M.lift (rng1T ts)
def fRng2 (f g : Env → M T) : Env → M (List T) := fun env => fAll [f, g] env >>= fun ts => M.lift (rng2T ts)
theorem i_range1 {a : Expr} {p : Pos} (hg : Gl X "range") (hm : X.mg "range" = none) (ha : SE X G W a f) (hs : starEach [a] X.env = [(false, eval a X.env)] := by rfl) : SI X G W tg (.Call (.Name "range" p) [a] [] pos) (fRng1 f) :=
  pi_imp (pi_range1 hg hm (a_cons ha a_nil hs) hs) fun σ H R ⟨w, H0, env, r, g, s, h⟩ => by
    refine seqA g s h fun ts r1 w1 H1 vs g1 s1 st1 d1 l h1 => ?_
    obtain ⟨xs, e1, h2⟩ := liftP h1
    have h3 := h2 w1 H1 (Step.refl _ _) g1
    cases d1 with
    | nil => cases e1
    | cons d d' =>
      cases d' with
      | cons _ _ => cases l
      | nil =>
        cases d with
        | int j =>
          have e1 : (if -(2 ^ 62) ≤ j ∧ j < 2 ^ 62 then some (rngL 0 j.toNat) else none) = some xs := e1
          split at e1
          · cases e1
            rename_i q
            exact ⟨j, rfl, q.1, q.2, h3 _ it_r⟩
          · cases e1
        | _ => cases e1
theorem i_range2 {a b : Expr} {f' : Env → M T} {p : Pos} (hg : Gl X "range") (hm : X.mg "range" = none) (ha : SE X G W a f) (hb : SE X G W b f') (hs : starEach [a, b] X.env = [(false, eval a X.env), (false, eval b X.env)] := by rfl) (hs2 : starEach [b] X.env = [(false, eval b X.env)] := by rfl) :
    SI X G W tg (.Call (.Name "range" p) [a, b] [] pos) (fRng2 f f') :=
  pi_imp (pi_range2 hg hm (a_cons ha (a_cons hb a_nil hs2) (hs.trans (by rw [hs2]))) hs hs2) fun σ H R ⟨w, H0, env, r, g, s, h⟩ => by
    refine seqA g s h fun ts r1 w1 H1 vs g1 s1 st1 d1 l h1 => ?_
    obtain ⟨xs, e1, h2⟩ := liftP h1
    have h3 := h2 w1 H1 (Step.refl _ _) g1
    cases d1 with
    | nil => cases e1
    | cons d d' =>
      cases d' with
      | nil => cases l
      | cons d2 d' =>
        cases d' with
        | cons _ _ => cases l
        | nil =>
          cases d with
          | int i =>
            cases d2 with
            | int j =>
              have e1 : (if -(2 ^ 62) ≤ i ∧ i < 2 ^ 62 ∧ -(2 ^ 62) ≤ j ∧ j < 2 ^ 62 then some (rngL i (j - i).toNat) else none) = some xs := e1
              split at e1
              · cases e1
                rename_i q
                exact ⟨i, j, rfl, q, h3 _ it_r⟩
              · cases e1
            | _ => cases e1
          | _ => cases e1
/-! ### pairs: enumerate, zip -/
theorem pair_new {w1 : Wd} {H1 H2 : Hp} {r1 : RS} {x y : V} {t u : T} {p : Addr} (g : Good G w1 H1 r1) (hp : H1 p = none) (e : H2 = upd H1 p (.tup [x, y])) (d1 : Den G w1 x t) (d2 : Den G w1 y u) : ∃ w2, Step w1 H1 w2 H2 ∧ Good G w2 H2 r1 ∧ Den G w2 (.ref p) (.tup [t, u]) := by
  subst e
  obtain ⟨st, g2⟩ := g.new (o := .tup [x, y]) hp
  exact ⟨_, st, g2, .tup (.inl upd_same) (by rw [sizeLine_eq]; exact Nat.le_of_lt (by simp)) (.cons (d1.mono st.later) (.cons (d2.mono st.later) .nil))⟩
def enumL : Nat → List T → List T
  | _, [] => []
  | n, x :: xs => .tup [.int (n : Nat), x] :: enumL (n + 1) xs
theorem enumL_len : ∀ (xs : List T) (n : Nat), (enumL n xs).length = xs.length
  | [], _ => rfl
  | x :: xs, n => by simp [enumL, enumL_len xs]
theorem enumL_at : ∀ (xs : List T) (n i : Nat) (x : T), xs[i]? = some x → (enumL n xs)[i]? = some (.tup [.int ((n + i : Nat) : Int), x])
  | [], _, _, _, e => by simp at e
  | x :: xs, n, 0, y, e => by
    simp at e; subst e; rfl
  | x :: xs, n, i + 1, y, e => by
    have := enumL_at xs (n + 1) i y (by simpa using e)
    simp only [enumL, List.getElem?_cons_succ]
    rw [this, show n + 1 + i = n + (i + 1) by omega]
theorem it_e {w : Wd} {a : Addr} {vs : List V} {xs : List T} (h : SqL G.K w.P a vs) (d : Dens G w vs xs) : ItOk G w (Ite G.K a) (enumL 0 xs) := by
  refine ⟨_, _, by rw [enumL_len, ← d.length]; exact walk_enum (xs := vs), fun w' H' r' L g => g.sub.seq (L.pub.seq h), fun i H1 v H2 w1 r1 L g hi y => ?_⟩
  obtain ⟨p, x, y, ev, hp, e2, ex, ey⟩ := y
  subst ev
  cases ex
  obtain ⟨t, ht, hd⟩ := d.getV ey
  obtain ⟨w2, st, g2, d2⟩ := pair_new g hp e2 (.int (i : Nat)) (hd.mono L)
  exact ⟨_, w2, by rw [enumL_at xs 0 i t ht, Nat.zero_add], st, g2, d2⟩
end
end Ep
namespace Ep
open PySem PySem.Spec L2
/-! ### comprehensions -/
def wipeE (env : Env) : List Nat → Env
  | [] => env
  | v :: vs => (wipeE env vs).set v .un
section
variable {G : Gm} {w : Wd} {H0 H : Hp} {σ : L2.St} {env : Env} {r : RS}
theorem Slots.setUn {o : Option V} (s : Slots G w H0 H σ env) (i : Nat) : Slots G w H0 H (σ.set i o) (env.set i .un) := by
  obtain ⟨oa, h1, h2⟩ := s.ex
  have old : ∀ {m : Nat} {x : Slot}, (env.set i .un)[m]? = some x → x ≠ .un → i ≠ m ∧ env[m]? = some x := fun {m x} hm px => by
    by_cases him : i = m
    · subst him
      by_cases hl : i < env.length
      · rw [List.getElem?_set_self hl] at hm
        cases hm
        exact absurd rfl px
      · rw [List.getElem?_eq_none (by simpa using hl)] at hm
        cases hm
    · rw [List.getElem?_set_ne him] at hm
      exact ⟨him, hm⟩
  have np : ∀ {x : Slot}, x.priv = true → x ≠ .un := fun {x} p e => by subst e; cases p
  refine ⟨by simp [s.len], oa, fun j sl hj => ?_, fun j k u u' hj hk pj pk e => h2 j k u u' (old hj (np pj)).2 (old hk (np pk)).2 pj pk e⟩
  cases sl with
  | un => trivial
  | fn =>
    obtain ⟨ne, e⟩ := old hj (by simp)
    obtain ⟨a, c, q, cv, ct, e1, e2, r⟩ := h1 j _ e
    exact ⟨a, c, q, cv, ct, e1, by rw [List.getElem?_set_ne ne]; exact e2, r⟩
  | val t =>
    obtain ⟨ne, e⟩ := old hj (by simp)
    obtain ⟨v, e1, d⟩ := h1 j _ e
    exact ⟨v, by rw [List.getElem?_set_ne ne]; exact e1, d⟩
  | pv q =>
    obtain ⟨ne, e⟩ := old hj (by simp)
    obtain ⟨b1, b2⟩ := h1 j _ e
    exact ⟨by rw [List.getElem?_set_ne ne]; exact b1, b2⟩
theorem Slots.wiped (s : Slots G w H0 H σ env) : ∀ vs : List Nat, Slots G w H0 H (wipe σ vs) (wipeE env vs)
  | [] => s
  | v :: vs => (s.wiped vs).setUn v
theorem wipe_at : ∀ (vs : List Nat) (j : Nat), (wipe σ vs)[j]? = if j ∈ vs then (σ[j]?).map fun _ => none else σ[j]?
  | [], j => by simp [wipe]
  | v :: vs, j => by
    unfold wipe
    by_cases e : v = j
    · subst e
      rw [List.getElem?_set]
      simp only [wipe_length]
      by_cases hl : v < σ.length
      · simp [hl]
      · simp [hl]
    · rw [List.getElem?_set_ne e, wipe_at vs j]
      by_cases hj : j ∈ vs
      · simp [hj]
      · have : ¬ j = v := fun q => e q.symm
        simp [hj, this]
theorem wipe_but {us vs : List Nat} {σ2 : L2.St} (b : But us (wipe σ vs) σ2) (h : ∀ j ∈ us, j ∈ vs) : wipe σ2 vs = wipe σ vs := by
  apply List.ext_getElem?
  intro j
  rw [wipe_at, wipe_at]
  by_cases hj : j ∈ vs
  · rw [if_pos hj, if_pos hj]
    have := b.1
    rw [wipe_length] at this
    by_cases hl : j < σ.length
    · have h2 : j < σ2.length := by omega
      simp [hl, h2]
    · have h2 : ¬ j < σ2.length := by omega
      simp [hl, h2]
  · rw [if_neg hj, if_neg hj]
    rw [b.2 j (fun q => hj (h j q)), wipe_at, if_neg hj]
end
def noEx {α : Type} (m : M α) : M α := fun r => match m r with
  | .ok a r => .ok a r
  | _ => .bad
def W0 : WX := fun _ _ _ _ => False
def compF (vs : List Nat) (h : T → Env → Option Env) (p : Env → M Bool) (f : Env → M T) : List T → List T → Env → M (List T)
  | [], acc, _ => pure acc
  | x :: xs, acc, env => match h x (wipeE env vs) with
    | none => M.bad
    | some env1 => noEx (p env1) >>= fun b => if b = true then noEx (f env1) >>= fun y => if acc.length < sizeLine then compF vs h p f xs (acc ++ [y]) env else M.bad else compF vs h p f xs acc env
def fComp (vs : List Nat) (h : T → Env → Option Env) (p : Env → M Bool) (f : Env → M T) (fi : Env → M (List T)) : Env → M (List T) := fun env => fi env >>= fun xs => compF vs h p f xs [] env
def fYes : Env → M Bool := fun _ => pure true
abbrev STs (X : Cx) (G : Gm) (ifs : List Expr) (p : Env → M Bool) : Prop := PTs X ifs (tSB G W0 p)
section
variable {X : Cx} {G : Gm} {W : WX} {pos : Pos} {f : Env → M T} {p : Env → M Bool} {env : Env} {r : RS} {w : Wd} {H0 H : Hp} {σ : L2.St}
theorem pts_imp {ifs : List Expr} {t t' : TT} (h : PTs X ifs t) (i : ∀ σ H Q, t' σ H Q → t σ H Q) : PTs X ifs t' := ⟨fun pins s σ H Q I q => h.run pins s σ H Q I (i σ H Q q)⟩
theorem ts_nil : STs X G [] fYes := pts_imp pts_nil fun σ H Q ⟨w, H0, env, r, g, s, h⟩ => OutP.here g h
theorem ts_one {c : Expr} (h : SB X G W0 c p) : STs X G [c] p := pts_one h
theorem seqI {α : Type} {fi : Env → M (List T)} {k : List T → M α} {P : α → RS → Wd → Hp → Prop} {R : It → Hp → Prop} (g : Good G w H r) (s : Slots G w H0 H σ env) (h : OutP G w H (WE0 W σ) P ((fi env >>= k) r))
    (n : ∀ xs r1 w1 H1 J, Good G w1 H1 r1 → Slots G w1 H0 H1 σ env → Step w H w1 H1 → ItOk G w1 J xs → OutP G w1 H1 (WE0 W σ) P (k xs r1) → R J H1) : tSI G W fi σ H R :=
  ⟨w, H0, env, r, g, s, h.bind.imp fun xs r1 w1 H1 st g1 q J it => n xs r1 w1 H1 J g1 (s.step st) st it q⟩
theorem noEx_use {α β : Type} {w' : Wd} {H' : Hp} {E E' : XK} {m : M α} {k : α → M β} {P : β → RS → Wd → Hp → Prop} (h : OutP G w H E P ((noEx m >>= k) r)) : OutP G w' H' E' (fun a r2 _ _ => OutP G w H E P (k a r2)) (m r) := by
  have e : (noEx m >>= k) r = M.bind (noEx m) k r := rfl
  rw [e] at h
  unfold M.bind noEx at h
  cases q : m r with
  | ok a r' => rw [q] at h; exact fun _ _ _ _ => h
  | exn c p r' => rw [q] at h; exact h.elim
  | bad => rw [q] at h; exact h.elim
theorem comp_use {us vs : List Nat} {h : T → Env → Option Env} {fi : Env → M (List T)} {Q : VK} (hu : ∀ j ∈ us, j ∈ vs) (hq : tSL G W (fComp vs h p f fi) σ H Q) : tLc (tSI G W fi) (tGx G us h) (tSB G W0 p) (tS G W0 f) vs σ H Q := by
  obtain ⟨w, H0, env, r, g, s, hq⟩ := hq
  refine seqI g s hq fun xs r1 w1 H1 J g1 s1 st1 it h1 => ?_
  intro D hD
  obtain ⟨Gd, Y, wk, hG, hY⟩ := it
  have hD0 : ¬ Vs H D := st1.before hD
  have stD : Step w1 H1 w1 (upd H1 D (.lst [])) := (Step.refl w1 H1).priv hD
  refine lc_it wk (fun i H' => ∃ w' r' acc vs', Step w1 H1 w' H' ∧ Good G w' H' r' ∧ w'.P D = none ∧ D ∉ w'.R ∧ H' D = some (.lst vs') ∧ Dens G w' vs' acc ∧ OutP G w1 H1 (WE0 W σ) (fun xs _ w' H' => ∀ p vs, ¬ Vs H p → w'.P p = none → p ∉ w'.R → H' p = some (.lst vs) → Dens G w' vs xs → xs.length ≤ sizeLine → Q (.ref p) H') (compF vs h p f (xs.drop i) acc env r') ∧ acc.length ≤ sizeLine)
    ⟨w1, r1, [], [], stD, g1.priv (g1.nopub hD) (g1.noref hD) (.inl hD), g1.nopub hD, g1.noref hD, upd_same, .nil, h1, Nat.zero_le _⟩
    (fun i H' _ ⟨w', r', _, _, st, g', _⟩ => hG w' H' r' st.later g') ?_ ?_
  · rintro i x H2 H3 hlt ⟨w', r', acc, us', st, g', hP, hR, hh, d, hc, hz⟩ y
    obtain ⟨t, w2, ht, st2, g2, dx⟩ := hY i H2 x H3 w' r' st.later g' hlt y
    have hP2 := st2.hid D hR (vs_of hh) hP
    have nr : ∀ {wa wb : Wd} {Ha Hb : Hp}, Step wa Ha wb Hb → D ∉ wa.R → Vs Ha D → D ∉ wb.R := fun {wa wb Ha Hb} s h1 h2 h3 => by
      obtain ⟨m, e, hm⟩ := s.refs
      rw [e] at h3
      rcases List.mem_append.mp h3 with z | z
      · exact h1 z
      · exact hm D z h2
    have hR2 := nr st2 hR (vs_of hh)
    have hh2 := st2.fr D _ hR hh (by intro _ e; cases e)
    have d2 := d.mono st2.later
    have s2 := ((s1.step st).step st2).wiped vs
    obtain ⟨Hb, aB, _⟩ := s2.rebase g2
    have ed : xs.drop i = t :: xs.drop (i + 1) := by
      rw [List.drop_eq_getElem_cons hlt]
      rw [List.getElem?_eq_getElem hlt] at ht
      cases ht
      rfl
    rw [ed] at hc
    unfold compF at hc
    cases q : h t (wipeE env vs) with
    | none => rw [q] at hc; exact hc.elim
    | some env1 =>
      rw [q] at hc
      refine ⟨w2, Hb, w2, _, r', t, env1, aB, dx, q, fun σ2 sl b => ⟨wipe_but b hu, ?_⟩⟩
      refine ⟨w2, Hb, env1, r', g2, sl, (noEx_use hc).imp fun b r3 w3 H4 st3 g3 hc => ?_⟩
      have hP3 := st3.hid D hR2 (vs_of hh2) hP2
      have hR3 := nr st3 hR2 (vs_of hh2)
      have hh3 := st3.fr D _ hR2 hh2 (by intro _ e; cases e)
      have d3 := d2.mono st3.later
      have stA := (st.trans st2).trans st3
      cases b with
      | false => exact ⟨w3, r3, acc, us', stA, g3, hP3, hR3, hh3, d3, hc, hz⟩
      | true =>
        have hc : OutP G w1 H1 (WE0 W σ) (fun xs _ w' H' => ∀ p vs, ¬ Vs H p → w'.P p = none → p ∉ w'.R → H' p = some (.lst vs) → Dens G w' vs xs → xs.length ≤ sizeLine → Q (.ref p) H') ((noEx (f env1) >>= fun y => if acc.length < sizeLine then compF vs h p f (xs.drop (i + 1)) (acc ++ [y]) env else M.bad) r3) := hc
        refine ⟨w3, Hb, env1, r3, g3, sl.step st3, (noEx_use hc).imp fun y r4 w4 H5 st4 g4 hc v dv => ?_⟩
        have hP4 := st4.hid D hR3 (vs_of hh3) hP3
        have hR4 := nr st4 hR3 (vs_of hh3)
        have hh4 := st4.fr D _ hR3 hh3 (by intro _ e; cases e)
        have d4 := d3.mono st4.later
        have stB := stA.trans st4
        by_cases hl : acc.length < sizeLine
        · rw [if_pos hl] at hc
          exact ⟨us', hh4, by rw [d4.length]; exact hl, w4, r4, acc ++ [y], us' ++ [v], stB.chg (nvs hD), g4.priv hP4 hR4 (.inr ⟨_, hh4, ⟨fun _ e => (by cases e), fun _ _ e => (by unfold LamX.CodeO at e; cases e)⟩⟩), hP4, hR4, upd_same, d4.append (.cons dv .nil), hc, by rw [List.length_append, List.length_singleton]; exact hl⟩
        · rw [if_neg hl] at hc
          exact hc.elim
  · rintro H2 ⟨w', r', acc, us', st, g', hP, hR, hh, d, hc, hz⟩
    rw [List.drop_length] at hc
    exact hc w' H2 st g' D us' hD0 hP hR hh d hz
variable {elt tg iter : Expr} {ifs : List Expr} {scope : Scope} {own : List (Str × Nat)} {us : List Nat} {h : T → Env → Option Env} {fi : Env → M (List T)}
theorem l_comp (hc : X.calm = true) (hN : X.N.Nodup) (hi : SI X G W tg iter fi) (ok : BlkOk X.N X.env.scope scope own) (hu : ∀ j ∈ us, j ∈ own.map (·.2))
    (hg : ∀ (s : Shared) (H : Hp) (C : Addr) (cl : List (Str × Addr)) (fp : List Addr), SG (X.blk s H scope (compEnvC scope cl C X.env) fp) G us tg h) (ht : ∀ (s : Shared) (H : Hp) (C : Addr) (cl : List (Str × Addr)) (fp : List Addr), STs (X.blk s H scope (compEnvC scope cl C X.env) fp) G ifs p)
    (he : ∀ (s : Shared) (H : Hp) (C : Addr) (cl : List (Str × Addr)) (fp : List Addr), SE (X.blk s H scope (compEnvC scope cl C X.env) fp) G W0 elt f) (hs : ∀ x, foldedSetIterable iter X.env x = pure x := by intro _; rfl) : SL X G W (.ListComp elt [⟨tg, iter, ifs, 0⟩] scope pos) (fComp (own.map (·.2)) h p f fi) :=
  pe_imp (pe_lc hc hN hi ok (fun s H C cl fp => pg_x (hg s H C cl fp)) ht he hs) fun σ H Q q => comp_use hu q
theorem ss_comp {i : Nat} {y : Str} {py spos : Pos} (hc : X.calm = true) (hN : X.N.Nodup) (hy : X.N[i]? = some y) (hyl : X.env.scope.names.lookup y = some .local)
    (hsw : swapsWith (.ListComp elt [⟨tg, iter, ifs, 0⟩] scope pos) (some (.Name y py)) spos.line X.env = pure true) (hi : SI X G W tg iter fi) (ok : BlkOk X.N X.env.scope scope own) (hu : ∀ j ∈ us, j ∈ own.map (·.2))
    (hg : ∀ (s : Shared) (H : Hp) (C : Addr) (cl : List (Str × Addr)) (fp : List Addr), SG (X.blk s H scope (compEnvC scope cl C X.env) fp) G us tg h) (ht : ∀ (s : Shared) (H : Hp) (C : Addr) (cl : List (Str × Addr)) (fp : List Addr), STs (X.blk s H scope (compEnvC scope cl C X.env) fp) G ifs p)
    (he : ∀ (s : Shared) (H : Hp) (C : Addr) (cl : List (Str × Addr)) (fp : List Addr), SE (X.blk s H scope (compEnvC scope cl C X.env) fp) G W0 elt f) (hs : ∀ x, foldedSetIterable iter X.env x = pure x := by intro _; rfl) : SS X G W (.Assign [.Name y py] (.ListComp elt [⟨tg, iter, ifs, 0⟩] scope pos) spos) (qOwn i (fComp (own.map (·.2)) h p f fi)) := fun w0 H0 =>
  ps_imp (ps_setLc hc hN hy hyl hsw hi ok (fun s H C cl fp => pg_x (hg s H C cl fp)) ht he hs) fun D σ H ⟨w, env, r, a, q⟩ => comp_use hu (at_own a q)
theorem ss_compV {i : Nat} {y : Str} {py spos : Pos} (hc : X.calm = true) (hN : X.N.Nodup) (hy : X.N[i]? = some y) (hyl : X.env.scope.names.lookup y = some .local)
    (hsw : swapsWith (.ListComp elt [⟨tg, iter, ifs, 0⟩] scope pos) (some (.Name y py)) spos.line X.env = pure true) (hi : SI X G W tg iter fi) (ok : BlkOk X.N X.env.scope scope own) (hu : ∀ j ∈ us, j ∈ own.map (·.2))
    (hg : ∀ (s : Shared) (H : Hp) (C : Addr) (cl : List (Str × Addr)) (fp : List Addr), SG (X.blk s H scope (compEnvC scope cl C X.env) fp) G us tg h) (ht : ∀ (s : Shared) (H : Hp) (C : Addr) (cl : List (Str × Addr)) (fp : List Addr), STs (X.blk s H scope (compEnvC scope cl C X.env) fp) G ifs p)
    (he : ∀ (s : Shared) (H : Hp) (C : Addr) (cl : List (Str × Addr)) (fp : List Addr), SE (X.blk s H scope (compEnvC scope cl C X.env) fp) G W0 elt f) (hs : ∀ x, foldedSetIterable iter X.env x = pure x := by intro _; rfl) : SS X G W (.Assign [.Name y py] (.ListComp elt [⟨tg, iter, ifs, 0⟩] scope pos) spos) (qSet i (fOwn (fComp (own.map (·.2)) h p f fi))) := fun w0 H0 =>
  ps_imp (ps_setLc hc hN hy hyl hsw hi ok (fun s H C cl fp => pg_x (hg s H C cl fp)) ht he hs) fun D σ H ⟨w, env, r, a, q⟩ => comp_use hu (own_read (at_e a q fun t r1 w1 H1 v a1 d h1 => h1 w1 H1 _ a1.st a1.g (a1.s.setVal i d)))
end
end Ep
namespace Ep
open PySem PySem.Spec L2
open PyProof.Rows (envOfC)
/-! ### defs -/
def WD (E : XK) : WX := fun cls d _ H => E cls d H
def envOf (m : Nat) (ts : List T) : Env := ts.map .val ++ List.replicate m .un
/-- what a def computes: m slots beyond its parameters -/
def fnS (m : Nat) (g : Sm) : List T → M T := fun ts r => match g (envOf m ts) r with
  | .nx _ r => .ok .non r
  | .rt t r => .ok t r
  | .exn c p _ r => .exn c p r
  | _ => .bad
def insOf : Option Slot → Option (Nat × List T)
  | some (.pv (.ins D fs)) => some (D, fs)
  | _ => none
def fnI (G : Gm) (C m : Nat) (g : Sm) : List T → M (List T) := fun ts r => match g (.ins C [] :: envOf m ts) r with
  | .nx env r => match insOf env[0]? with
    | some (D, fs) => if D = C ∧ fs.length = (G.fl C).length then .ok fs r else .bad
    | none => .bad
  | .exn c p _ r => .exn c p r
  | _ => .bad
/-- another instance in the making -/
def Wd.re (w : Wd) (b : Addr) : Wd := ⟨w.P, w.R, { w.fx with me := b }⟩
theorem Later.re (w : Wd) (b : Addr) : Later w (w.re b) := ⟨Same.refl _, [], by simp [Wd.re]⟩
theorem Later.er (w : Wd) (b : Addr) : Later (w.re b) w := ⟨Same.refl _, [], by simp [Wd.re]⟩
theorem Step.re {w w' : Wd} {H H' : Hp} {b : Addr} (s : Step (w.re b) H w' H') : Step w H (w'.re w.fx.me) H' := ⟨s.pub, s.fr, s.keep, s.hid, s.refs, by show { w'.fx with me := w.fx.me } = w.fx; rw [s.me]; rfl⟩
theorem Good.re {G : Gm} {w : Wd} {H : Hp} {r : RS} (g : Good G w H r) (b : Addr) : Good G (w.re b) H r := ⟨g.sub, ⟨g.refs.nd, g.refs.len, g.refs.out, fun k xs hk => by
  obtain ⟨a, vs, h1, h2, h3, h4⟩ := g.refs.at_ k xs hk
  exact ⟨a, vs, h1, h2, h3.mono (Later.re w b), h4⟩⟩, g.tabs, g.nt⟩
theorem ExcIs.re {G : Gm} {w : Wd} {H : Hp} {c : Nat} {p : T} {cls : Value} {d : Option Addr} (x : ExcIs G w H c p cls d) (b : Addr) : ExcIs G (w.re b) H c p cls d := by
  obtain ⟨cA, dd, v, f, h1, h2, h3, h4, h5, h6⟩ := x.ex
  exact ⟨cA, dd, v, f, h1, h2, h3, h4, h5, h6.mono (Later.re w b)⟩
/-- a body's context -/
abbrev cxB (P : Program) (wd : World) (G : Gm) (base : Heap) (N : List Str) (qual : Str) (st : Stmt) (f : Addr) (cdv : Value) (A : Around) (outer : List PySem.Env) (s : Shared) (H : Hp) (E : XK) : Cx := cxOf (L2.CX P wd) P wd G.K G.mg base N qual (defScope st) f cdv A outer s H E
section
variable {P : Program} {wd : World} {base : Heap} {G : Gm} {k : Nat} {x qual : Str} {st : Stmt} {f : Addr} {fd : FuncData} {N ps : List Str} {n m : Nat} {g : Sm} {dv : List V} {kw : List (Str × V)}
theorem start_slots {w : Wd} {H : Hp} {vs : List V} {ts : List T} (d : Dens G w vs ts) (m : Nat) (hN : N.length - vs.length = m) : Slots G w H H (L2.start N vs) (envOf m ts) := by
  have np : ∀ (i : Nat) (s : Slot), (envOf m ts)[i]? = some s → s = .un ∨ ∃ t, s = .val t ∧ ts[i]? = some t := fun i s hi => by
    unfold envOf at hi
    by_cases hl : i < ts.length
    · rw [List.getElem?_append_left (by simpa using hl)] at hi
      rw [List.getElem?_map] at hi
      cases q : ts[i]? with
      | none => rw [q] at hi; cases hi
      | some t => rw [q] at hi; cases hi; exact .inr ⟨t, rfl, rfl⟩
    · rw [List.getElem?_append_right (by simpa using Nat.le_of_not_lt hl)] at hi
      exact .inl (List.eq_of_mem_replicate (List.mem_of_getElem? hi))
  refine ⟨by simp [L2.start, envOf, d.length, ← hN], fun _ => 0, fun i s hi => ?_, fun i j s u hi hj pi pj _ => ?_⟩
  · rcases np i s hi with e | ⟨t, e, ht⟩
    · subst e; trivial
    · subst e
      obtain ⟨v, hv, dv⟩ := d.get ht
      refine ⟨v, ?_, dv⟩
      unfold L2.start
      rw [List.getElem?_append_left (by rw [List.length_map]; exact (List.getElem?_eq_some_iff.mp hv).1), List.getElem?_map, hv]
      rfl
  · rcases np i s hi with e | ⟨t, e, ht⟩ <;> (subst e; cases pi)
theorem fn_run (F : FunD G.K x qual (defArgs st) (defBody st) (defScope st) dv kw f fd) (S : FnScope N ps (defScope st)) (hps : ps.length = n) (hm : N.length - n = m)
    (hb : ∀ cdv A outer s H E, Room k (A.deeper (envOfC qual (defScope st) s.heap.objs.size f cdv)) → SSs (cxB P wd G base N qual st f cdv A outer s H E) G (WD E) (defBody st) g) :
    FnOk P wd G.K G.mg base (L2.CX P wd) (k + 1) f fd ps (spF G n (fnS m g)) := by
  refine F.ok (CX := L2.CX P wd) S (spF_len hps) fun cdv A outer s H vs Q E hr ⟨w, r, ts, gd, d, l, h⟩ => ?_
  refine ⟨_, hb cdv A outer s H E hr w H, w, _, r, ⟨Step.refl _ _, gd, start_slots d m (by rw [d.length, l]; exact hm)⟩, ?_⟩
  have h : OutP G w H E (fun t _ w' H' => ∀ v, Den G w' v t → Q v H') (fnS m g ts r) := h
  unfold fnS at h
  cases o : g (envOf m ts) r with
  | nx env' r' => rw [o] at h; exact fun w' H' σ' st g' _ => h w' H' st g' _ .non
  | rt t r' => rw [o] at h; exact fun w' H' v st g' dv => h w' H' st g' v dv
  | bk e r' => rw [o] at h; exact h.elim
  | ct e r' => rw [o] at h; exact h.elim
  | exn c p e r' => rw [o] at h; exact fun w' H' σ' cls dd st g' _ x => h w' H' cls dd st g' x
  | bad => rw [o] at h; exact h.elim
theorem meth_ok {C : Nat} {cA : Addr} {ds : List T} {dvs : List V} {dus : List Value} (F : FunD G.K x qual (defArgs st) (defBody st) (defScope st) dv kw f fd) (S : FnScope N ps (defScope st)) (hps : ps.length = n) (hm : N.length - n = m) (hc : G.mg (G.cn C) = some (.ref cA)) (hC : Cls G.K cA) (hM : Meth G.K cA x f) (hB : Binds G.K fd ps dus) (hv : Vals dvs dus) (hd : ∀ w, Dens G w dvs ds) (nof : x ∉ G.fl C)
    (hb : ∀ cdv A outer s H E, Room k (A.deeper (envOfC qual (defScope st) s.heap.objs.size f cdv)) → SSs (cxB P wd G base N qual st f cdv A outer s H E) G (WD E) (defBody st) g) : MethOk P wd base G (k + 1) C x n ds (fnS m g) :=
  ⟨⟨cA, f, fd, ps, dvs, dus, hc, hC, hM, fn_run F S hps hm hb, hB, hv, hd⟩, nof⟩
end
end Ep
namespace Ep
open PySem PySem.Spec L2
/-! ### dicts as two lists -/
section
variable {κ α : Type} [DecidableEq κ]
def gK : List κ → List α → κ → Option α
  | k' :: ks, t :: ts, k => if k' = k then some t else gK ks ts k
  | _, _, _ => none
def repK : List κ → List α → κ → α → List α
  | k' :: ks, t' :: ts, k, t => (if k' = k then t else t') :: repK ks ts k t
  | _, ts, _, _ => ts
def hasK (ks : List κ) (k : κ) : Bool := ks.any fun k' => decide (k' = k)
def putKs (ks : List κ) (k : κ) : List κ := if hasK ks k = true then ks else ks ++ [k]
def putVs (ks : List κ) (ts : List α) (k : κ) (t : α) : List α := if hasK ks k = true then repK ks ts k t else ts ++ [t]
end
theorem Dens.gK {κ : Type} [DecidableEq κ] {G : Gm} {w : Wd} {k : κ} : ∀ {ks : List κ} {vs : List V} {ts : List T} {t : T}, Dens G w vs ts → Ep.gK ks ts k = some t → ∃ v, Ep.gK ks vs k = some v ∧ Den G w v t
  | [], _, _, _, _, e => by cases e
  | _ :: _, _, _, _, .nil, e => by cases e
  | k' :: ks, _, _, t, .cons h r, e => by
    unfold Ep.gK at e ⊢
    by_cases q : k' = k
    · rw [if_pos q] at e ⊢
      cases e
      exact ⟨_, rfl, h⟩
    · rw [if_neg q] at e ⊢
      exact Dens.gK r e
theorem Dens.gKn {κ : Type} [DecidableEq κ] {G : Gm} {w : Wd} {k : κ} : ∀ {ks : List κ} {vs : List V} {ts : List T}, Dens G w vs ts → Ep.gK ks ts k = none → Ep.gK ks vs k = none
  | [], _, _, _, e => rfl
  | _ :: _, _, _, .nil, e => rfl
  | k' :: ks, _, _, .cons h r, e => by
    unfold Ep.gK at e ⊢
    by_cases q : k' = k
    · rw [if_pos q] at e; cases e
    · rw [if_neg q] at e ⊢
      exact Dens.gKn r e
theorem Dens.rep {κ : Type} [DecidableEq κ] {G : Gm} {w : Wd} {k : κ} {v : V} {t : T} (d : Den G w v t) : ∀ {ks : List κ} {vs : List V} {ts : List T}, Dens G w vs ts → Dens G w (repK ks vs k v) (repK ks ts k t)
  | [], _, _, h => h
  | _ :: _, _, _, .nil => .nil
  | k' :: ks, _, _, .cons h r => by
    unfold repK
    by_cases q : k' = k
    · rw [if_pos q, if_pos q]; exact .cons d (Dens.rep d r)
    · rw [if_neg q, if_neg q]; exact .cons h (Dens.rep d r)
theorem Dens.put {κ : Type} [DecidableEq κ] {G : Gm} {w : Wd} {k : κ} {v : V} {t : T} (d : Den G w v t) {ks : List κ} {vs : List V} {ts : List T} (h : Dens G w vs ts) : Dens G w (putVs ks vs k v) (putVs ks ts k t) := by
  unfold putVs
  split
  · exact h.rep d
  · exact h.append (.cons d .nil)
def keyT : T → Option Key
  | .int i => some (.inl i)
  | .str x => some (.inr x)
  | _ => none
theorem key_of' {G : Gm} {w : Wd} {v : V} {t : T} {k : Key} (d : Den G w v t) (e : keyT t = some k) : v = kV k := by
  cases d <;> first | (cases e; rfl) | cases e
def keysT : List T → Option (List Key)
  | [] => some []
  | t :: ts => (keyT t).bind fun k => (keysT ts).map fun ks => k :: ks
theorem keys_of {G : Gm} {w : Wd} : ∀ {vs : List V} {ts : List T} {ks : List Key}, Dens G w vs ts → keysT ts = some ks → vs = ks.map kV
  | _, _, _, .nil, e => by cases e; rfl
  | _, _, ks, .cons (t := t) (ts := ts) h r, e => by
    unfold keysT at e
    cases q : keyT t with
    | none => rw [q] at e; cases e
    | some k =>
      rw [q] at e
      cases q2 : keysT ts with
      | none => simp [q2] at e
      | some ks' =>
        simp [q2] at e
        subst e
        rw [List.map_cons, key_of' h q, keys_of r q2]
/-! ### a dict to be looked into -/
/-- ks at ts: the dict at v, its keys, its values; of either kind of keys -/
inductive DenD (G : Gm) (w : Wd) (H : Hp) : V → T → Prop
  | k {a : Addr} {ks : List Key} {vs : List V} {ts : List T} (h : H a = some (.dK (ks.zip vs))) (n : a ∉ w.R) (l : ks.length = ts.length) (d : Dens G w vs ts) : DenD G w H (.ref a) (.dct ks ts)
  | t {a : Addr} {ks : List (List Key)} {vs : List V} {ts : List T} (h : H a = some (.dT (ks.zip vs))) (n : a ∉ w.R) (l : ks.length = ts.length) (d : Dens G w vs ts) : DenD G w H (.ref a) (.dtt ks ts)
section
variable {X : Cx} {G : Gm} {W : WX} {pos : Pos} {a b e ix : Expr} {f g : Env → M T} {w w' : Wd} {H H' H0 : Hp} {r : RS} {σ : L2.St} {env : Env} {v : V} {t : T}
theorem Step.noR {a : Addr} (s : Step w H w' H') (h1 : a ∉ w.R) (h2 : Vs H a) : a ∉ w'.R := fun h3 => by
  obtain ⟨m, e, hm⟩ := s.refs
  rw [e] at h3
  rcases List.mem_append.mp h3 with z | z
  · exact h1 z
  · exact hm a z h2
theorem DenD.step (d : DenD G w H v t) (s : Step w H w' H') : DenD G w' H' v t := by
  cases d with
  | k h n l d => exact .k (s.fr _ _ n h (by intro _ e; cases e)) (s.noR n (vs_of h)) l (d.mono s.later)
  | t h n l d => exact .t (s.fr _ _ n h (by intro _ e; cases e)) (s.noR n (vs_of h)) l (d.mono s.later)
theorem DenD.of (g : Good G w H r) (d : Den G w v t) : (∃ ks ts, t = .dct ks ts) ∨ (∃ ks ts, t = .dtt ks ts) → DenD G w H v t := fun h => by
  have nr : ∀ {a : Addr} {o : HO}, w.P a = some o → a ∉ w.R := fun {a o} h hm => by rw [g.refs.out a hm] at h; cases h
  cases d with
  | dct q l d => exact .k (g.sub _ _ q) (nr q) l d
  | dtt q l d => exact .t (g.sub _ _ q) (nr q) l d
  | _ => rcases h with ⟨_, _, e⟩ | ⟨_, _, e⟩ <;> cases e
/-- a new dict -/
def tSN (G : Gm) (W : WX) (f : Env → M (List Key × List T)) : TE := fun σ H Q => ∃ w H0 env r, Good G w H r ∧ Slots G w H0 H σ env ∧
  OutP G w H (WE0 W σ) (fun p _ w' H' => ∀ a vs, ¬ Vs H a → w'.P a = none → a ∉ w'.R → H' a = some (.dK (p.1.zip vs)) → p.1.length = p.2.length → p.1.length ≤ sizeLine → Dens G w' vs p.2 → Q (.ref a) H') (f env r)
abbrev SN (X : Cx) (G : Gm) (W : WX) (e : Expr) (f : Env → M (List Key × List T)) : Prop := PE X e (tSN G W f)
def fNewD (f : Env → M (List Key × List T)) : Env → M T := fun env => f env >>= fun p => pure (.dct p.1 p.2)
theorem s_newD {f : Env → M (List Key × List T)} (h : SN X G W a f) : SE X G W a (fNewD f) := pe_imp h fun σ H Q ⟨w, H0, env, r, g, s, h⟩ => by
  refine ⟨w, H0, env, r, g, s, ?_⟩
  have h : OutP G w H (WE0 W σ) (fun t _ w' H' => ∀ v, Den G w' v t → Q v H') (M.bind (f env) (fun p => M.pure (T.dct p.1 p.2)) r) := h
  unfold M.bind at h
  cases q : f env r with
  | ok p r1 =>
    rw [q] at h
    intro w1 H1 st g1 a vs ha hP hR hh hl hz d
    exact h (w1.add a _) H1 (st.publish ha hP) (g1.publish hP hR hh) _ (.dct upd_same hl (d.mono (Later.add hP)))
  | exn c p r1 => rw [q] at h; exact h
  | bad => rw [q] at h; exact h
/-! ### stores into an own dict -/
/-! ### targets that are places -/
/-! ### dicts of the top, str keys -/
structure GdOk (wd : World) (G : Gm) (x : Str) (tb : Str → Option T) : Prop where
  ex : ∃ p es n, G.mg x = some (.ref p) ∧ G.K.lookup p = some ⟨.type "dict", none, .dict es n, #[]⟩ ∧ PySem.W.KeysLit wd.params es.toList ∧ (p == sysModules) = false ∧ ∀ z, (∀ t, tb z = some t → ∃ u v, PySem.W.nsIn G.K p z = some (some u) ∧ RelV v u ∧ ∀ w, Den G w v t)
def fGd (tb : Str → Option T) (f : Env → M T) : Env → M T := fun env => f env >>= fun t => match t with
  | .str z => M.lift (tb z)
  | _ => M.bad
theorem s_gd {x : Str} {px : Pos} {tb : Str → Option T} (ok : GdOk X.w G x tb) (hK : X.K = G.K) (hM : X.mg = G.mg) (hg : Gl X x) (hi : SE X G W ix f) (hs : PlainIx ix) (hd : (x == ("__debug__" : Str)) = false := by decide) : SE X G W (.Subscript (.Name x px) ix pos) (fGd tb f) := by
  obtain ⟨p, es, n, h1, h2, h3, _, h4⟩ := ok.ex
  refine pe_imp (pe_ix ix_kdict (pe_glob (v := .ref p) hg (by rw [hM]; exact h1) rfl hd) hi hs) fun σ H Q ⟨w, H0, env, r, g0, s, h0⟩ => ?_
  refine seqE g0 s h0 fun t r1 w1 H1 y g1 s1 st1 d1 hq => ?_
  cases d1 with
  | str z =>
    obtain ⟨u, eu, h5⟩ := liftP hq
    obtain ⟨uu, v, e1, e2, e3⟩ := h4 z u eu
    rw [hK]
    exact ⟨p, z, v, rfl, rfl, ⟨es, n, uu, h2, h3, e1, e2⟩, h5 w1 H1 (Step.refl _ _) g1 v (e3 w1)⟩
  | _ => exact hq.elim
end
end Ep
namespace Ep
open PySem PySem.Spec L2
/-! ### operators by a class's own defs -/
def own2 (C : Nat) (F : List T → M T) : T → T → M T := fun x y => match x with
  | .obj D vs => if D = C then noEx (F [.obj D vs, y]) else M.bad
  | _ => M.bad
def r2own (G : Gm) (C : Nat) (h : T → T → M T) : R2 := fun x y H Q => ∃ w r t u, Good G w H r ∧ Den G w x t ∧ Den G w y u ∧ OutP G w H (fun _ _ _ => False) (fun t _ w' H' => ∀ v, Den G w' v t → Q v H') (h t u r)
section
variable {X : Cx} {G : Gm} {W : WX} {pos : Pos} {a b : Expr} {f g : Env → M T} {C j k : Nat} {F : List T → M T} {m : Str}
theorem own_use {h : T → T → M T} {σ : L2.St} {H : Hp} {Q : VK} (hne : ∀ t u r c p r', h t u r ≠ .exn c p r') (hq : tS G W (fun env => f env >>= fun x => g env >>= fun y => h x y) σ H Q) : tOp (r2own G C h) (tS G W f) (tS G W g) σ H Q := by
  obtain ⟨w, H0, env, r, g0, s, h0⟩ := hq
  refine seqE g0 s h0 fun t r1 w1 H1 x g1 s1 st1 d1 h1 => ?_
  refine seqE g1 s1 h1 fun u r2 w2 H2 y g2 s2 st2 d2 h2 => ?_
  refine ⟨w2, r2, t, u, g2, d1.mono st2.later, d2, ?_⟩
  cases o : h t u r2 with
  | ok z r3 => rw [o] at h2; exact h2
  | exn c p r3 => exact absurd o (hne t u r2 c p r3)
  | bad => rw [o] at h2; exact h2
theorem noEx_ne {α : Type} (m : M α) (r : RS) (c : Nat) (p : T) (r' : RS) : noEx m r ≠ .exn c p r' := by
  unfold noEx
  cases m r <;> simp
theorem own2_ne (t u : T) (r : RS) (c : Nat) (p : T) (r' : RS) : own2 C F t u r ≠ .exn c p r' := by
  unfold own2
  split
  · split
    · exact noEx_ne _ _ _ _ _
    · simp
  · simp
/-- the two operands, the def that is called -/
theorem own_args {x y : V} {v u : Value} {pins : List (Addr × Obj)} {s : Shared} {σ : L2.St} {H : Hp} {Q : VK} (D : MethOk X.prog X.w X.base G k C m 2 [] F) (hK : X.K = G.K) (hM : X.mg = G.mg) (hr : Room j X.A) (hk : k ≤ j) (I : L2.Inv X pins σ H s) (rx : RelV x v) (ry : RelV y u)
    (h : r2own G C (own2 C F) x y H Q) : ∃ (p cA fn : Addr) (od : Obj × Option Obj), v = .ref p ∧ G.mg (G.cn C) = some (.ref cA) ∧ PySem.W.InstAt s.heap p od.1 cA od.2 ∧ PySem.W.findIn X.K (.ref cA) m = some (some (.ref fn)) ∧ PySem.W.isFn X.K (.ref fn) = true ∧
      ∀ A : Around, Room k A → Env0 X.prog X.w X.K X.mg X.base A X.stack s H → wpAny (model X.prog X.w) A (call (.ref fn) [.ref p, u]) (EP X pins σ Q) X.xe s := by
  obtain ⟨w, r, t, u', g0, d1, d2, h⟩ := h
  obtain ⟨cA, fn, fd, ps, dvs, dus, c1, c2, c3, h1, h4, h5, h6⟩ := D.ex
  rw [← hK, ← hM] at h1
  cases d1 with
  | @obj p cA' dx C' vs ts c hh l d =>
    by_cases hC : C' = C
    · subst hC
      have h : OutP G w H (fun _ _ _ => False) (fun t _ w' H' => ∀ v, Den G w' v t → Q v H') (noEx (F [.obj C' ts, u']) r) := by simpa [own2] using h
      rw [c1] at c
      cases c
      obtain rfl : v = Value.ref p := rx
      obtain ⟨mA, J, _⟩ := ins_get I.hok (g0.sub _ _ hh)
      obtain ⟨od, J, _⟩ := J.look
      have hd0 : dvs = [] := by
        have := h6 w
        generalize dvs = q at this
        cases this; rfl
      subst hd0
      cases h5
      refine ⟨p, cA, fn, (_, _), rfl, c1, J, by rw [hK]; exact c3.at_, by rw [hK]; exact c3.fn, fun A hrA e0 => ?_⟩
      have hsp : spF G 2 F [.ref p, y] H Q (fun _ _ _ => False) := by
        refine ⟨w, r, [.obj C' ts, u'], g0, .cons (.obj c1 hh l d) (.cons d2 .nil), rfl, ?_⟩
        unfold noEx at h
        cases o : F [.obj C' ts, u'] r with
        | ok z r' => rw [o] at h; exact h
        | exn c p r' => rw [o] at h; exact h.elim
        | bad => rw [o] at h; exact h.elim
      have hl := h1.len _ _ _ _ hsp
      refine wpAny_call (codeAny_mono (h1.run A X.stack s H ⟨[.ref p, u], []⟩ [.ref p, u] [.ref p, y] Q (fun _ _ _ => False) hrA e0 (by
        have := h4 s [.ref p, u] (by rw [← hK]; exact I.kIn) (by simpa using hl)
        simpa using this) (.cons rfl (.cons ry .nil)) hsp) fun res s' hq => ?_)
      cases res with
      | error e => exact passAt (W := fun _ _ _ _ => False) takes0 σ pins H s e s' I hq
      | ok fl =>
        cases fl with
        | ret u => exact I.after hq
        | next => exact False.elim hq
        | brk => exact False.elim hq
        | cont => exact False.elim hq
    · have h : OutP G w H (fun _ _ _ => False) (fun t _ w' H' => ∀ v, Den G w' v t → Q v H') ((M.bad : M T) r) := by simpa [own2, hC] using h
      exact h.elim
  | _ => exact h.elim
/-- y is of the same class -/
def sameT (C : Nat) : T → T → Bool
  | _, .obj D _ => decide (D = C)
  | _, _ => false
def own2s (C : Nat) (F : List T → M T) : T → T → M T := fun x y => if sameT C x y = true then own2 C F x y else M.bad
theorem own2s_ne (t u : T) (r : RS) (c : Nat) (p : T) (r' : RS) : own2s C F t u r ≠ .exn c p r' := by
  unfold own2s
  split
  · exact own2_ne _ _ _ _ _ _
  · simp
theorem same_of {x y : V} {H : Hp} {Q : VK} (h : r2own G C (own2s C F) x y H Q) : r2own G C (own2 C F) x y H Q ∧ ∃ p cA dx fs, y = .ref p ∧ G.mg (G.cn C) = some (.ref cA) ∧ H p = some (.ins cA dx fs) := by
  obtain ⟨w, r, t, u, g0, d1, d2, h⟩ := h
  unfold own2s at h
  by_cases hs : sameT C t u = true
  · rw [if_pos hs] at h
    refine ⟨⟨w, r, t, u, g0, d1, d2, h⟩, ?_⟩
    cases d2 with
    | obj c hh l d =>
      have := of_decide_eq_true hs
      subst this
      exact ⟨_, _, _, _, rfl, c, g0.sub _ _ hh⟩
    | _ => simp [sameT] at hs
  · rw [if_neg hs] at h; exact h.elim
theorem op_ownC {op : CmpOp} (hop : ∀ a b, compareOp op a b = richCompare op a b) (D : MethOk X.prog X.w X.base G k C (cmpInfo op).2.1 2 [] F) (hK : X.K = G.K) (hM : X.mg = G.mg) (hr : Room j X.A) (hk : k ≤ j) : OpR X (compareOp op) (r2own G C (own2s C F)) := by
  intro pins s σ H x y v u Q I rx ry h
  obtain ⟨h, q, cA', dx, fs, e, c', hq⟩ := same_of h
  obtain ⟨p, cA, fn, od, rfl, c, J, fi, ff, run⟩ := own_args D hK hM hr hk I rx ry h
  rw [c] at c'
  cases c'
  subst e
  obtain rfl : u = Value.ref q := ry
  obtain ⟨mA, J', _⟩ := ins_get I.hok hq
  obtain ⟨od', J', _⟩ := J'.look
  obtain ⟨m, hF⟩ := I.fr
  rw [hop]
  refine PySem.W.cmp_K (op := op) (tb := .ref cA') hr.units0 hF I.ok.mod.kin J J'.type (by simp [PySem.W.notFirst]) fi ff (wpAny_mono (run X.A (hr.mono hk) I.env0) (fun w s' z => ?_) fun _ _ e => e)
  obtain ⟨z', H', I', rz, qz⟩ := z
  exact SlX.cmpback rz ⟨z', H', I', rz, qz⟩
theorem s_ownC {op : CmpOp} (hop : ∀ a b, compareOp op a b = richCompare op a b) (D : MethOk X.prog X.w X.base G k C (cmpInfo op).2.1 2 [] F) (hK : X.K = G.K) (hM : X.mg = G.mg) (hr : Room j X.A) (hk : k ≤ j) (ha : SE X G W a f) (hb : SE X G W b g) (hm : behindInMarks op b = false) :
    SE X G W (.Compare a [op] [b] pos) (fun env => f env >>= fun x => g env >>= fun y => own2s C F x y) := pe_imp (pe_cmpR (op_ownC hop D hK hM hr hk) ha hb hm) fun σ H Q hq => own_use own2s_ne hq
/-- a != b, the class with an own == and no own != -/
structure NeOk (G : Gm) (C : Nat) : Prop where
  ok : ∀ cA, G.mg (G.cn C) = some (.ref cA) → PySem.W.findIn G.K (.ref cA) "__ne__" = some (some (.builtin "object.__ne__")) ∧ PySem.W.mroIn G.K cA (.type "object") = some true
/-- what a class says of != where it keeps the object's own: that slot, bound to the instance -/
theorem ne_bound {M : Model} {A : Around} {E : Value → Shared → Prop} {s : Shared} {K : PySem.W.Frag} {x cA : Addr} {ox : Obj} {od : Option Obj} {Q : Option (Value × List Value) → Shared → Prop} (kin : K.In s.heap) (at_x : PySem.W.InstAt s.heap x ox cA od)
    (own : PySem.W.findIn K (.ref cA) "__ne__" = some (some (.builtin "object.__ne__"))) (h : Q (some (.builtin "object.__ne__", [.ref x])) s) : wpAny M A (bindSpecialIfBound? (.ref x) "__ne__") Q E s := by
  have bnd : wpAny M A (bindSpecial (.builtin "object.__ne__") (.ref x) >>= fun m => pure (some m)) Q E s := wpAny_of_eq (PySem.F.cmp_object.ne.bind _ ▸ rfl) h
  unfold bindSpecialIfBound?
  exact wpAny_bind (wpAny_bind (at_x.type.here (PySem.W.looks_findIn kin own |>.here (wpAny_bind (wpAny_askSetting (wpAny_ite (by split <;> first | exact bnd | exact wpAny_tryCatch bnd)))))))
theorem ifBound_ne {M : Model} {A : Around} {E : Value → Shared → Prop} {s : Shared} {K : PySem.W.Frag} {x cA : Addr} {ox : Obj} {od : Option Obj} {args : List Value} {Q : Option Value → Shared → Prop} (kin : K.In s.heap) (at_x : PySem.W.InstAt s.heap x ox cA od)
    (own : PySem.W.findIn K (.ref cA) "__ne__" = some (some (.builtin "object.__ne__"))) (h : wpAny M A (call (.builtin "object.__ne__") (.ref x :: args)) (fun v => Q (some v)) E s) : wpAny M A (callSpecialIfBound? (.ref x) "__ne__" args) Q E s :=
  wpAny_holding (wpAny_bind (ne_bound kin at_x own (wpAny_bind (wpAny_mono h (fun _ _ => wpAny_pure) fun _ _ => id))))
def negB : T → M T
  | .bl b => pure (.bl !b)
  | _ => M.bad
def own2n (C : Nat) (F : List T → M T) : T → T → M T := fun x y => own2s C F x y >>= negB
theorem own2n_ne (t u : T) (r : RS) (c : Nat) (p : T) (r' : RS) : own2n C F t u r ≠ .exn c p r' := by
  show M.bind (own2s C F t u) negB r ≠ _
  unfold M.bind
  cases o : own2s C F t u r with
  | ok a r2 => cases a <;> simp [negB, M.bad, pure, M.pure]
  | exn c' p' r2 => exact absurd o (own2s_ne t u r c' p' r2)
  | bad => simp
theorem neg_of {x y : V} {H : Hp} {Q : VK} (h : r2own G C (own2n C F) x y H Q) : r2own G C (own2s C F) x y H (fun v H' => ∃ b, v = .bl b ∧ Q (.bl !b) H') := by
  obtain ⟨w, r, t, u, g0, d1, d2, h⟩ := h
  refine ⟨w, r, t, u, g0, d1, d2, ?_⟩
  have h : OutP G w H (fun _ _ _ => False) (fun t _ w' H' => ∀ v, Den G w' v t → Q v H') (M.bind (own2s C F t u) negB r) := h
  unfold M.bind at h
  cases o : own2s C F t u r with
  | ok a r2 =>
    rw [o] at h
    cases a with
    | bl b =>
      intro w' H' st g' v d
      cases d
      exact ⟨b, rfl, h w' H' st g' _ (.bl !b)⟩
    | _ => exact h.elim
  | exn c' p' r2 => rw [o] at h; exact h
  | bad => rw [o] at h; exact h.elim
theorem objNe_entry {prog : Program} {w : World} {A : Around} {E : Value → Shared → Prop} {s : Shared} {K : PySem.W.Frag} {x cA fn : Addr} {y : Value} {ox : Obj} {od : Option Obj} {Q : Fin → Shared → Prop} (kin : K.In s.heap) (at_x : PySem.W.InstAt s.heap x ox cA od) (own : PySem.W.findIn K (.ref cA) "__eq__" = some (some (.ref fn))) (def_ : PySem.W.isFn K (.ref fn) = true) (room : A.units < cLine)
    (asked : wpAny (model prog w) A (call (.ref fn) [.ref x, y]) (fun v s' => ∃ b, v = .bool b ∧ Q (.done (.ret (.bool (!b)))) s') E s) : wpAny (model prog w) A (Builtin.«object.__ne__» ⟨[.ref x, y], []⟩) Q E s := by
  show wpAny _ A (cRoomFor "comparison" [.ref x, y] >>= _) Q E s
  refine wpAny_bind (wpAny_cRoomFor room (wpAny_bind (PySem.W.ifBound_K kin at_x own def_ (wpAny_mono asked (fun v s' said => ?_) fun _ _ => id))))
  obtain ⟨b, rfl, said⟩ := said
  exact wpAny_bind (wpAny_truthy_bool (wpAny_pure said))
/-- != of two things of one class, where the left one's own != answers -/
theorem rich_ne {M : Model} {A : Around} {E : Value → Shared → Prop} {s : Shared} {l r cA : Addr} {ol oR : Obj} {dl dr : Option Obj} {Q : Value → Shared → Prop} (left : PySem.W.InstAt s.heap l ol cA dl) (right : PySem.W.InstAt s.heap r oR cA dr) (room : A.units < cLine)
    (answer : wpAny M A (tryCompare (.ref l) "__ne__" (.ref r)) (fun o s' => ∃ v, o = some v ∧ Q v s') E s) : wpAny M A (richCompare .NotEq (.ref l) (.ref r)) Q E s := by
  have alike : ¬ ((Value.ref cA != Value.ref cA) = true) := by rw [bne_self_eq_false]; exact Bool.false_ne_true
  unfold richCompare
  rw [PySem.oneThing_ref]
  refine wpAny_holding (wpAny_bind (wpAny_cRoomFor room (wpAny_bind (left.type.here (wpAny_bind (right.type.here ?_))))))
  dsimp only
  rw [if_neg alike]
  refine wpAny_bind (wpAny_pure ?_)
  rw [if_neg Bool.false_ne_true]
  refine (wpAny_bind (wpAny_mono answer (fun o s' said => ?_) fun _ _ => id))
  obtain ⟨v, rfl, said⟩ := said
  exact wpAny_pure said
theorem op_ownN (D : MethOk X.prog X.w X.base G k C "__eq__" 2 [] F) (ne : NeOk G C) (hK : X.K = G.K) (hM : X.mg = G.mg) (hr : Room j X.A) (hk : k + 1 ≤ j) : OpR X (compareOp .NotEq) (r2own G C (own2n C F)) := by
  intro pins s σ H x y v u Q I rx ry asked
  obtain ⟨asked, q, cA', dx, fs, e, c', at_q⟩ := same_of (neg_of asked)
  obtain ⟨p, cA, fn, od, rfl, c, left, found, isdef, run⟩ := own_args D hK hM hr (Nat.le_of_succ_le hk) I rx ry asked
  cases c.symm.trans c'
  subst e
  cases (show u = Value.ref q from ry)
  obtain ⟨_, right, _⟩ := ins_get I.hok at_q
  obtain ⟨_, right, _⟩ := right.look
  have says := ne.ok _ c
  rw [← hK] at says
  have room : Room k X.A.in1 := (hr.mono hk).in1
  have answer : wpAny (model X.prog X.w) X.A.in1 (call (.ref fn) [.ref p, .ref q]) (fun v s' => ∃ b, v = .bool b ∧ EP X pins σ Q (.bool !b) s') X.xe s := wpAny_mono (run X.A.in1 room I.env0.in1) (fun v s' told => by
    obtain ⟨_, H', I', rz, b, rfl, told⟩ := told
    exact ⟨b, rz, .bl !b, H', I', rfl, told⟩) fun _ _ => id
  refine rich_ne left right hr.units0 (wpAny_bind (ifBound_ne I.kIn left says.1 (wpAny_call (codeAny_call_builtin PySem.F.cmp_object.ne.plain PySem.F.cmpEntry_ne (PySem.W.check_slot PySem.F.cmpKind_ne PySem.F.cmpSplit_ne (left.type.andThen (PySem.W.looks_mroIn I.kIn says.2)) (PySem.F.cmpArgs_ne _ _) (objNe_entry I.kIn left found isdef room.units0 (wpAny_mono answer (fun v s' told => ?_) fun _ _ => id)))))))
  obtain ⟨b, rfl, told⟩ := told
  exact ⟨b, rfl, wpAny_pure ⟨_, rfl, told⟩⟩
end
end Ep
namespace Ep
open PySem PySem.Spec L2
open PyProof.Rows (envOfC)
/-! ### NotImplemented by an own == -/
/-- the def of == gives NotImplemented where p says so -/
def NiRun (P : Program) (wd : World) (base : Heap) (G : Gm) (k : Nat) (f : Addr) (fd : FuncData) (ps : List Str) (p : List T → RS → Option RS) : Prop :=
  ∀ (A : Around) (outer : List PySem.Env) (s : Shared) (H : Hp) (args : Args) (us : List Value) (vs : List V) (Q : Hp → Prop), Room k A → Env0 P wd G.K G.mg base A outer s H → BindsTo s fd args (ps.zip us) → Vals vs us →
    (∃ w r ts r', Good G w H r ∧ Dens G w vs ts ∧ ts.length = ps.length ∧ p ts r = some r' ∧ ∀ w' H', Step w H w' H' → Good G w' H' r' → Q H') →
    codeAny (model P wd) A (.call (.ref f) args) (fun r s' => match r with
      | .ok (.ret u) => u = .notImplemented ∧ CE outer P wd H s (fun _ H' => Q H') .none s'
      | .ok _ => False
      | .error e => L2.CX P wd outer H s (fun _ _ _ => False) e s') s
structure NiOk (P : Program) (wd : World) (base : Heap) (G : Gm) (k C : Nat) (p : List T → RS → Option RS) : Prop where
  ex : ∃ cA f fd ps, G.mg (G.cn C) = some (.ref cA) ∧ Meth G.K cA "__eq__" f ∧ NiRun P wd base G k f fd ps p ∧ Binds G.K fd ps [] ∧ ps.length = 2 ∧ PySem.W.subIn G.K (.type "tuple") (.ref cA) = some false ∧ PySem.W.mroIn G.K cA (.type "tuple") = some false
section
variable {X : Cx} {G : Gm} {W : WX} {pos : Pos} {a b : Expr} {f g : Env → M T} {C j k k' : Nat} {F : List T → M T} {p : List T → RS → Option RS}
end
end Ep
namespace Ep
open PySem PySem.Spec L2
/-! ### index -/
section
variable {X : Cx} {G : Gm} {W : WX} {pos apos : Pos} {a b e : Expr} {f g : Env → M T}
/-- a tuple of the top -/
structure GtOk (G : Gm) (x : Str) (xs : List T) : Prop where
  ex : ∃ p o its n us, G.mg x = some (.ref p) ∧ G.K.lookup p = some o ∧ o.cls = .type "tuple" ∧ o.dict = none ∧ o.data = .seq its n ∧ its.size ≤ sizeLine ∧ Vals us its.toList ∧ ∀ w, Dens G w us xs
theorem GtOk.den {x : Str} {xs : List T} (ok : GtOk G x xs) : ∃ v u, G.mg x = some u ∧ RelV v u ∧ ∀ w, Den G w v (.tup xs) := by
  obtain ⟨p, o, its, n, us, h1, h2, h3, h4, h5, h6, h7, h8⟩ := ok.ex
  refine ⟨.ref p, .ref p, h1, rfl, fun w => .tup (.inr ⟨o, its, n, h2, h3, h5, h6, h7⟩) ?_ (h8 w)⟩
  rw [← (h8 w).length, h7.length, Array.length_toList]
  exact h6
theorem s_gt {x : Str} {xs : List T} (ok : GtOk G x xs) (hM : X.mg = G.mg) (hg : Gl X x) (hd : (x == ("__debug__" : Str)) = false := by decide) : SE X G W (.Name x pos) (fC (.tup xs)) := by
  obtain ⟨v, u, h1, h2, h3⟩ := ok.den
  exact s_glob hg (by rw [hM]; exact h1) h2 h3 hd
/-! ### d.get(k, x) of a dict of the top -/
structure GgOk (wd : World) (G : Gm) (x : Str) (tb : Str → Option (Option T)) : Prop where
  ex : ∃ p es n, G.mg x = some (.ref p) ∧ G.K.lookup p = some ⟨.type "dict", none, .dict es n, #[]⟩ ∧ PySem.W.KeysLit wd.params es.toList ∧ (p == sysModules) = false ∧ ∀ z, (∀ t, tb z = some (some t) → ∃ u v, PySem.W.nsIn G.K p z = some (some u) ∧ RelV v u ∧ ∀ w, Den G w v t) ∧ (tb z = some none → PySem.W.nsIn G.K p z = some none)
end
end Ep
namespace Ep
open PySem PySem.Spec L2 He
/-! ### what the head tells -/
/-- a written value is t -/
def denB (K : PySem.W.Frag) : Nat → Value → T → Bool
  | _, .none, .non => true
  | _, .bool b, .bl c => b == c
  | _, .int i _, .int j => decide (i = j)
  | _, .str x _, .str y => decide (x = y)
  | n + 1, .ref a, .tup ts => match K.lookup a with
    | some ⟨.type c, _, .seq its _, _⟩ => decide (c = "tuple") && (decide (its.size ≤ sizeLine) && go n its.toList ts)
    | _ => false
  | _, _, _ => false
where go (n : Nat) : List Value → List T → Bool
  | [], [] => true
  | u :: us, t :: ts => denB K n u t && go n us ts
  | _, _ => false
theorem and2 {a b : Bool} (h : (a && b) = true) : a = true ∧ b = true := Bool.and_eq_true_iff.mp h
section
variable {G : Gm} {wd : World} {K : PySem.W.Frag} {mg : Str → Option Value}
theorem denB_go (hK : G.K = K) (n : Nat) (ih : ∀ u t, denB K n u t = true → ∃ v, RelV v u ∧ ∀ w, Den G w v t) : ∀ {us : List Value} {ts : List T}, denB.go K n us ts = true → ∃ vs, Vals vs us ∧ ∀ w, Dens G w vs ts
  | [], [], _ => ⟨[], .nil, fun _ => .nil⟩
  | [], _ :: _, h => by cases h
  | _ :: _, [], h => by cases h
  | u :: us, t :: ts, h => by
    obtain ⟨h1, h2⟩ := and2 (show (denB K n u t && denB.go K n us ts) = true from h)
    obtain ⟨v, r, d⟩ := ih u t h1
    obtain ⟨vs, rs, ds⟩ := denB_go hK n ih h2
    exact ⟨v :: vs, .cons r rs, fun w => .cons (d w) (ds w)⟩
theorem denB_ok (hK : G.K = K) : ∀ (n : Nat) (u : Value) (t : T), denB K n u t = true → ∃ v, RelV v u ∧ ∀ w, Den G w v t := by
  intro n
  induction n with
  | zero =>
    intro u t h
    cases u <;> cases t <;> first | (simp [denB] at h; done) | skip
    · exact ⟨.non, rfl, fun _ => .non⟩
    · rename_i b c
      obtain rfl : b = c := by simpa [denB] using h
      exact ⟨.bl b, rfl, fun _ => .bl b⟩
    · rename_i i t j
      obtain rfl : i = j := of_decide_eq_true h
      exact ⟨.int i, ⟨t, rfl⟩, fun _ => .int i⟩
    · rename_i x t y
      obtain rfl : x = y := of_decide_eq_true h
      exact ⟨.str x, ⟨t, rfl⟩, fun _ => .str x⟩
  | succ n ih =>
    intro u t h
    cases u <;> cases t <;> first | (simp [denB] at h; done) | skip
    · exact ⟨.non, rfl, fun _ => .non⟩
    · rename_i b c
      obtain rfl : b = c := by simpa [denB] using h
      exact ⟨.bl b, rfl, fun _ => .bl b⟩
    · rename_i i t j
      obtain rfl : i = j := of_decide_eq_true h
      exact ⟨.int i, ⟨t, rfl⟩, fun _ => .int i⟩
    · rename_i x t y
      obtain rfl : x = y := of_decide_eq_true h
      exact ⟨.str x, ⟨t, rfl⟩, fun _ => .str x⟩
    · rename_i a ts
      unfold denB at h
      split at h
      · rename_i c od its n1 sl q
        obtain ⟨h1, h2⟩ := and2 h
        obtain ⟨h3, h4⟩ := and2 h2
        have h1 := of_decide_eq_true h1
        have h3 := of_decide_eq_true h3
        obtain ⟨vs, rs, ds⟩ := denB_go hK n ih h4
        subst hK
        subst h1
        refine ⟨.ref a, rfl, fun w => .tup (.inr ⟨_, its, n1, q, rfl, rfl, h3, rs⟩) ?_ (ds w)⟩
        rw [← (ds w).length, rs.length, Array.length_toList]
        exact h3
      · cases h
/-- a tuple of the top -/
def gtB (K : PySem.W.Frag) (x : Str) (ts : List T) : Bool := match K.lookup (ga K x) with
  | some ⟨.type c, none, .seq its _, _⟩ => decide (c = "tuple") && (decide (its.size ≤ sizeLine) && denB.go K 6 its.toList ts)
  | _ => false
theorem GgOk.gd {x : Str} {tb : Str → Option (Option T)} (ok : GgOk wd G x tb) : GdOk wd G x (fun z => (tb z).bind id) := by
  obtain ⟨p, es, n, h1, h2, h3, h4, h5⟩ := ok.ex
  refine ⟨p, es, n, h1, h2, h3, h4, fun z t e => (h5 z).1 t ?_⟩
  cases q : tb z with
  | none => rw [q] at e; cases e
  | some o => rw [q] at e; rw [show o = some t from e]
/-- isinstance -/
def kvB (K : PySem.W.Frag) (cn : Nat → Str) : Kd → Value
  | .b s => .type s
  | .o C => .ref (ga K (cn C))
def clB (K : PySem.W.Frag) (cn : Nat → Str) : Cl → Value
  | .ty s => .type s
  | .cl C => .ref (ga K (cn C))
def insB (K : PySem.W.Frag) (x : Str) : Bool := (Fa.cls x).ok K && (decide (PySem.W.findIn K (.ref (ga K x)) "__class__" = some (some (.builtin "object.__class__"))) && (decide (PySem.W.specialIn K (.builtin "object.__class__") "__get__" = some (some (.builtin "getset_descriptor.__get__"))) &&
  (decide (PySem.W.takesIn K (.builtin "object.__class__") = some true) && decide (PySem.W.mroIn K (ga K x) (.type "object") = some true))))
theorem insB_ok {x : Str} (h : insB K x = true) : InsTy K (ga K x) := by
  obtain ⟨h1, h2⟩ := and2 h
  obtain ⟨h2, h3⟩ := and2 h2
  obtain ⟨h3, h4⟩ := and2 h3
  obtain ⟨h4, h5⟩ := and2 h4
  exact ⟨cls_ok h1, of_decide_eq_true h2, of_decide_eq_true h3, of_decide_eq_true h4, of_decide_eq_true h5⟩
def tabB (K : PySem.W.Frag) (cn : Nat → Str) : List (Kd × Cl × Bool) → Bool
  | [] => true
  | (k, c, b) :: r => (decide (PySem.W.kitOne K (kvB K cn k) (clB K cn c) = some b) && (match k with
    | .o C => insB K (cn C)
    | _ => true)) && tabB K cn r
def tabF (rows : List (Kd × Cl × Bool)) (k : Kd) (c : Cl) : Option Bool := (rows.find? fun p => decide (p.1 = k ∧ p.2.1 = c)).map fun p => p.2.2
theorem tabB_all {cn : Nat → Str} : ∀ {rows : List (Kd × Cl × Bool)}, tabB K cn rows = true → ∀ p ∈ rows, PySem.W.kitOne K (kvB K cn p.1) (clB K cn p.2.1) = some p.2.2 ∧ ∀ C, p.1 = .o C → InsTy K (ga K (cn C))
  | [], _, _, hp => by cases hp
  | (k, c, b) :: r, h, p, hp => by
    obtain ⟨h1, h2⟩ := and2 h
    rcases List.mem_cons.mp hp with e | hp
    · subst e
      obtain ⟨h3, h4⟩ := and2 h1
      refine ⟨of_decide_eq_true h3, fun C e => ?_⟩
      have e : k = .o C := e
      subst e
      exact insB_ok h4
    · exact tabB_all h2 p hp
theorem tabB_ok {rows : List (Kd × Cl × Bool)} (hK : G.K = K) (hg : ∀ C cA, G.mg (G.cn C) = some (.ref cA) → cA = ga K (G.cn C)) (h : tabB K G.cn rows = true) : TabOk G (tabF rows) := by
  intro k c b e
  unfold tabF at e
  cases q : rows.find? fun p => decide (p.1 = k ∧ p.2.1 = c) with
  | none => rw [q] at e; cases e
  | some p =>
    rw [q] at e
    cases e
    obtain ⟨h1, h2⟩ := tabB_all h p (List.mem_of_find?_eq_some q)
    have hp : p.1 = k ∧ p.2.1 = c := by
      have := List.find?_some q
      simpa using this
    obtain ⟨e1, e2⟩ := hp
    subst e1 e2
    subst hK
    refine ⟨fun C ek cA hc => ?_, fun u z hu hz => ?_⟩
    · rw [hg C cA hc]; exact h2 C ek
    · have eu : u = kvB G.K G.cn p.1 := by
        cases ek : p.1 with
        | b s => rw [ek] at hu; exact hu
        | o C =>
          rw [ek] at hu
          obtain ⟨cA, hc, e, _⟩ := hu
          rw [e, hg C cA hc]; rfl
      have ez : z = clB G.K G.cn p.2.1 := by
        cases ek : p.2.1 with
        | ty s => rw [ek] at hz; exact hz
        | cl C =>
          rw [ek] at hz
          obtain ⟨cA, hc, e⟩ := hz
          rw [e, hg C cA hc]; rfl
      rw [eu, ez]
      exact h1
end
end Ep
namespace Ep
open PySem PySem.Spec L2 He
/-- a tuple at an address of one's own -/
def taB (K : PySem.W.Frag) (a : Addr) (ts : List T) : Bool := denB K 7 (.ref a) (.tup ts)
end Ep
namespace Ep
open PySem PySem.Spec L2 He
/-! ### short words for generated derivations -/
structure Bd (X : Cx) (G : Gm) (W : WX) (j : Nat) : Prop where
  eK : X.K = G.K
  eM : X.mg = G.mg
  tk : Takes X W
  rm : Room j X.A
  nd : X.N.Nodup
  calm : X.calm = true
theorem Bd.blk {X : Cx} {G : Gm} {W : WX} {j : Nat} (B : Bd X G W j) (s : Shared) (H : Hp) (scope : Scope) (cenv : PySem.Env) (fp : List Addr) : Bd (X.blk s H scope cenv fp) G W0 j := ⟨B.eK, B.eM, takes0, B.rm, B.nd, B.calm⟩
theorem bd_of {P : Program} {wd : World} {G : Gm} {base : Heap} {N ps : List Str} {qual : Str} {st : Stmt} {f : Addr} {cdv : Value} {A : Around} {outer : List PySem.Env} {s : Shared} {H : Hp} {E : XK} {k : Nat} (S : FnScope N ps (defScope st)) (hr : Room k (A.deeper (PyProof.Rows.envOfC qual (defScope st) s.heap.objs.size f cdv))) :
    Bd (cxB P wd G base N qual st f cdv A outer s H E) G (WD E) k := ⟨rfl, rfl, takes_of rfl rfl rfl rfl, hr, S.nd, rfl⟩
theorem po_of {P : Program} {wd : World} {G : Gm} {base : Heap} {N : List Str} {qual : Str} {st : Stmt} {f : Addr} {cdv : Value} {A : Around} {outer : List PySem.Env} {s : Shared} {H : Hp} {E : XK} :
    PassesOwn (model P wd) (cxB P wd G base N qual st f cdv A outer s H E).A (cxB P wd G base N qual st f cdv A outer s H E).env (cxB P wd G base N qual st f cdv A outer s H E).xe :=
  passes_of (X := cxB P wd G base N qual st f cdv A outer s H E) (K := fun e s'' => L2.CX P wd outer H s E e s'') (E₁ := fun e' s'' => L2.CX P wd outer H s E e' s'') rfl
section
variable {X : Cx} {G : Gm} {W : WX} {j : Nat} {pos p : Pos} {a b c : Expr} {f g h : Env → M T} {x : Str}
/-! names -/
theorem vr (i : Nat) (hN : X.N[i]? = some x := by rfl) (hv : Vis X.env.scope x := by first | exact Or.inl rfl | exact Or.inr (Or.inl rfl) | exact Or.inr (Or.inr rfl)) (hd : (x == ("__debug__" : Str)) = false := by decide) (hcd : (x == ("__classdict__" : Str)) = false := by decide) : SE X G W (.Name x pos) (fVar i) := s_var i hN hv hd hcd
theorem kv (i : Nat) (hN : X.N[i]? = some x := by rfl) (hv : Vis X.env.scope x := by first | exact Or.inl rfl | exact Or.inr (Or.inl rfl) | exact Or.inr (Or.inr rfl)) (hd : (x == ("__debug__" : Str)) = false := by decide) (hcd : (x == ("__classdict__" : Str)) = false := by decide) : SK X G W (.Name x pos) (fBor i) := k_var i hN hv hd hcd
theorem Bd.cls (B : Bd X G W j) (C : Nat) {cA : Addr} (hm : G.mg x = some (.ref cA)) (hx : x = G.cn C := by rfl) (hg : Gl X x := by rfl) (hd : (x == ("__debug__" : Str)) = false := by decide) : SE X G W (.Name x pos) (fC (.cl C)) := by
  subst hx
  exact s_glob hg (by rw [B.eM]; exact hm) (v := .ref cA) rfl (fun w => .cl hm) hd
theorem Bd.ty (B : Bd X G W j) (n : String) (hm : G.mg x = none) (hb : bootBuiltins x = some (.type n) := by rfl) (hg : Gl X x := by rfl) (hn : x ≠ "__name__" := by decide) (hd : (x == ("__debug__" : Str)) = false := by decide) : SE X G W (.Name x pos) (fC (.ty n)) := s_bltn hg (by rw [B.eM]; exact hm) hb (v := .ty n) rfl (fun w => .ty n) hn hd
theorem Bd.gt (B : Bd X G W j) {xs : List T} (ok : GtOk G x xs) (hg : Gl X x := by rfl) (hd : (x == ("__debug__" : Str)) = false := by decide) : SE X G W (.Name x pos) (fC (.tup xs)) := s_gt ok B.eM hg hd
/-! arithmetic -/
theorem Bd.add (B : Bd X G W j) (ha : SE X G W a f) (hb : SE X G W b g) : SE X G W (.BinOp a .Add b pos) (fBin addT f g) := s_bin op_addA (v_add B.eK) ha hb
theorem Bd.sub (B : Bd X G W j) (ha : SE X G W a f) (hb : SE X G W b g) : SE X G W (.BinOp a .Sub b pos) (fBin subT f g) := s_bin op_sub v_sub ha hb
theorem Bd.mul (B : Bd X G W j) (ha : SE X G W a f) (hb : SE X G W b g) : SE X G W (.BinOp a .Mult b pos) (fBin mulT f g) := s_bin op_mulA (v_mul B.eK) ha hb
theorem Bd.div (B : Bd X G W j) (ha : SE X G W a f) (hb : SE X G W b g) : SE X G W (.BinOp a .FloorDiv b pos) (fBin divT f g) := s_bin op_divA v_div ha hb
theorem Bd.mod (B : Bd X G W j) (ha : SE X G W a f) (hb : SE X G W b g) : SE X G W (.BinOp a .Mod b pos) (fBin modT f g) := s_bin op_modA v_mod ha hb
theorem Bd.pow (B : Bd X G W j) (ha : SE X G W a f) (hb : SE X G W b g) : SE X G W (.BinOp a .Pow b pos) (fBin powT f g) := s_bin op_pow v_pow ha hb
theorem Bd.neg (B : Bd X G W j) (ha : SE X G W a f) : SE X G W (.UnaryOp .USub a pos) (fUn negT f) := s_un un_neg v_neg ha
/-! comparisons, as values and as tests -/
variable {p' : Env → M Bool}
theorem Bd.eq (B : Bd X G W j) (ha : SK X G W a f) (hb : SK X G W b g) (hm : behindInMarks .Eq b = false := by rfl) : SE X G W (.Compare a [.Eq] [b] pos) (fCmp eqT f g) := s_cmp (op_eqD B.rm.units) (v_eq B.eK) ha hb hm
theorem Bd.ne (B : Bd X G W j) (ha : SK X G W a f) (hb : SK X G W b g) (hm : behindInMarks .NotEq b = false := by rfl) : SE X G W (.Compare a [.NotEq] [b] pos) (fCmp neT f g) := s_cmp (op_neD B.rm.units) (v_ne B.eK) ha hb hm
theorem Bd.lt (B : Bd X G W j) (ha : SK X G W a f) (hb : SK X G W b g) (hm : behindInMarks .Lt b = false := by rfl) : SE X G W (.Compare a [.Lt] [b] pos) (fCmp ltT f g) := s_cmp op_lt v_lt ha hb hm
theorem Bd.le (B : Bd X G W j) (ha : SK X G W a f) (hb : SK X G W b g) (hm : behindInMarks .LtE b = false := by rfl) : SE X G W (.Compare a [.LtE] [b] pos) (fCmp leT f g) := s_cmp op_le v_le ha hb hm
theorem Bd.ge (B : Bd X G W j) (ha : SK X G W a f) (hb : SK X G W b g) (hm : behindInMarks .GtE b = false := by rfl) : SE X G W (.Compare a [.GtE] [b] pos) (fCmp geT f g) := s_cmp op_ge v_ge ha hb hm
theorem Bd.is_ (B : Bd X G W j) (ha : SK X G W a f) (hb : SK X G W b g) (hm : behindInMarks .Is b = false := by rfl) : SE X G W (.Compare a [.Is] [b] pos) (fCmp isT f g) := s_cmp op_isA v_is ha hb hm
theorem units65 {A : Around} (r : Room j A) : A.units + 65 < cLine := by have := r.un; omega
theorem Bd.in_ (B : Bd X G W j) (ha : SK X G W a f) (hb : SK X G W b g) (hm : behindInMarks .In b = false := by rfl) : SE X G W (.Compare a [.In] [b] pos) (fCmp inT f g) := s_cmp (op_inA (units65 B.rm)) (v_in B.eK) ha hb hm
theorem Bd.nin (B : Bd X G W j) (ha : SK X G W a f) (hb : SK X G W b g) (hm : behindInMarks .NotIn b = false := by rfl) : SE X G W (.Compare a [.NotIn] [b] pos) (fCmp ninT f g) := s_cmp (op_ninA (units65 B.rm)) (v_nin B.eK) ha hb hm
theorem Bd.eqB (B : Bd X G W j) (ha : SK X G W a f) (hb : SK X G W b g) (hm : behindInMarks .Eq b = false := by rfl) : SB X G W (.Compare a [.Eq] [b] pos) (fCmpB eqT f g) := s_cmpB (op_eqD B.rm.units) (v_eq B.eK) ha hb hm
theorem Bd.neB (B : Bd X G W j) (ha : SK X G W a f) (hb : SK X G W b g) (hm : behindInMarks .NotEq b = false := by rfl) : SB X G W (.Compare a [.NotEq] [b] pos) (fCmpB neT f g) := s_cmpB (op_neD B.rm.units) (v_ne B.eK) ha hb hm
theorem Bd.ltB (B : Bd X G W j) (ha : SK X G W a f) (hb : SK X G W b g) (hm : behindInMarks .Lt b = false := by rfl) : SB X G W (.Compare a [.Lt] [b] pos) (fCmpB ltT f g) := s_cmpB op_lt v_lt ha hb hm
theorem Bd.leB (B : Bd X G W j) (ha : SK X G W a f) (hb : SK X G W b g) (hm : behindInMarks .LtE b = false := by rfl) : SB X G W (.Compare a [.LtE] [b] pos) (fCmpB leT f g) := s_cmpB op_le v_le ha hb hm
theorem Bd.gtB (B : Bd X G W j) (ha : SK X G W a f) (hb : SK X G W b g) (hm : behindInMarks .Gt b = false := by rfl) : SB X G W (.Compare a [.Gt] [b] pos) (fCmpB gtT f g) := s_cmpB op_gt v_gt ha hb hm
theorem Bd.geB (B : Bd X G W j) (ha : SK X G W a f) (hb : SK X G W b g) (hm : behindInMarks .GtE b = false := by rfl) : SB X G W (.Compare a [.GtE] [b] pos) (fCmpB geT f g) := s_cmpB op_ge v_ge ha hb hm
theorem Bd.isB (B : Bd X G W j) (ha : SK X G W a f) (hb : SK X G W b g) (hm : behindInMarks .Is b = false := by rfl) : SB X G W (.Compare a [.Is] [b] pos) (fCmpB isT f g) := s_cmpB op_isA v_is ha hb hm
theorem Bd.nisB (B : Bd X G W j) (ha : SK X G W a f) (hb : SK X G W b g) (hm : behindInMarks .IsNot b = false := by rfl) : SB X G W (.Compare a [.IsNot] [b] pos) (fCmpB nisT f g) := s_cmpB op_notA v_nis ha hb hm
theorem Bd.inB (B : Bd X G W j) (ha : SK X G W a f) (hb : SK X G W b g) (hm : behindInMarks .In b = false := by rfl) : SB X G W (.Compare a [.In] [b] pos) (fCmpB inT f g) := s_cmpB (op_inA (units65 B.rm)) (v_in B.eK) ha hb hm
theorem Bd.ninB (B : Bd X G W j) (ha : SK X G W a f) (hb : SK X G W b g) (hm : behindInMarks .NotIn b = false := by rfl) : SB X G W (.Compare a [.NotIn] [b] pos) (fCmpB ninT f g) := s_cmpB (op_ninA (units65 B.rm)) (v_nin B.eK) ha hb hm
/-- a value as a test -/
theorem Bd.tru (B : Bd X G W j) (ha : SE X G W a f) (he : ∀ whole, isTrue a X.env whole = (do let v ← whole; standAt a.pos; holding [v] (truthy v)) := by intro _; rfl) : SB X G W a (fTru f) := s_tru B.eK ha he
theorem vb (ha : SE X G W a f) (he : ∀ whole, isTrue a X.env whole = (do let v ← whole; standAt a.pos; holding [v] (truthy v)) := by intro _; rfl) : SB X G W a (fToB f) := s_val ha he
/-! built-ins -/
theorem Bd.len (B : Bd X G W j) (m : G.mg "len" = none) (ha : SK X G W a f) (hg : Gl X "len" := by rfl) (hs : starEach [a] X.env = (false, eval a X.env) :: starEach [] X.env := by rfl) : SE X G W (.Call (.Name "len" p) [a] [] pos) (fB1 lenT f) := s_b1 c_len (v_len B.eK) hg (by rw [B.eM]; exact m) rfl ha hs
theorem Bd.int (B : Bd X G W j) (m : G.mg "int" = none) (ha : SK X G W a f) (hg : Gl X "int" := by rfl) (hs : starEach [a] X.env = (false, eval a X.env) :: starEach [] X.env := by rfl) : SE X G W (.Call (.Name "int" p) [a] [] pos) (fB1 intT f) := s_t1 call_int1 v_int hg (by rw [B.eM]; exact m) rfl ha hs
theorem Bd.abs (B : Bd X G W j) (m : G.mg "abs" = none) (ha : SK X G W a f) (hg : Gl X "abs" := by rfl) (hs : starEach [a] X.env = (false, eval a X.env) :: starEach [] X.env := by rfl) : SE X G W (.Call (.Name "abs" p) [a] [] pos) (fB1 absT f) := s_b1 call_abs v_abs hg (by rw [B.eM]; exact m) rfl ha hs
theorem Bd.sum (B : Bd X G W j) (m : G.mg "sum" = none) (ha : SK X G W a f) (hg : Gl X "sum" := by rfl) (hs : starEach [a] X.env = (false, eval a X.env) :: starEach [] X.env := by rfl) : SE X G W (.Call (.Name "sum" p) [a] [] pos) (fB1 sumT f) := s_b1 (cr_sum B.calm) (v_sum B.eK) hg (by rw [B.eM]; exact m) rfl ha hs
theorem Bd.any (B : Bd X G W j) (m : G.mg "any" = none) (ha : SK X G W a f) (hg : Gl X "any" := by rfl) (hs : starEach [a] X.env = (false, eval a X.env) :: starEach [] X.env := by rfl) : SE X G W (.Call (.Name "any" p) [a] [] pos) (fB1 anyT f) := s_b1 (cr_any B.calm) (v_any B.eK) hg (by rw [B.eM]; exact m) rfl ha hs
theorem Bd.all (B : Bd X G W j) (m : G.mg "all" = none) (ha : SK X G W a f) (hg : Gl X "all" := by rfl) (hs : starEach [a] X.env = (false, eval a X.env) :: starEach [] X.env := by rfl) : SE X G W (.Call (.Name "all" p) [a] [] pos) (fB1 allT f) := s_b1 (cr_all B.calm) (v_all B.eK) hg (by rw [B.eM]; exact m) rfl ha hs
theorem Bd.tuple (B : Bd X G W j) (m : G.mg "tuple" = none) (ha : SK X G W a f) (hg : Gl X "tuple" := by rfl) (hs : starEach [a] X.env = (false, eval a X.env) :: starEach [] X.env := by rfl) : SE X G W (.Call (.Name "tuple" p) [a] [] pos) (fB1 tupT f) := s_t1 call_tuple_of (v_tup B.eK) hg (by rw [B.eM]; exact m) rfl ha hs
theorem Bd.list (B : Bd X G W j) (m : G.mg "list" = none) (ha : SK X G W a f) (hg : Gl X "list" := by rfl) (hs : starEach [a] X.env = (false, eval a X.env) :: starEach [] X.env := by rfl) : SE X G W (.Call (.Name "list" p) [a] [] pos) (fB1 lisT f) := s_t1 call_list_of (v_lis B.eK) hg (by rw [B.eM]; exact m) rfl ha hs
theorem Bd.isi (B : Bd X G W j) {tb : Kd → Cl → Option Bool} (ok : TabOk G tb) (m : G.mg "isinstance" = none) (ha : SE X G W a f) (hb : SE X G W b g) (hg : Gl X "isinstance" := by rfl) (hs : starEach [a, b] X.env = (false, eval a X.env) :: starEach [b] X.env := by rfl) (hs2 : starEach [b] X.env = (false, eval b X.env) :: starEach [] X.env := by rfl) (hpl : (backTo pos (starEach [b] X.env)).any (·.1) = false := by rfl) : SE X G W (.Call (.Name "isinstance" p) [a, b] [] pos) (fBin (isiT tb) f g) := s_b2 c_isi (v_isi ok B.eK) hg (by rw [B.eM]; exact m) rfl ha hb hs hs2 (by decide) (by decide) hpl
/-! items, fields, dicts -/
theorem Bd.ix (B : Bd X G W j) (ha : SK X G W a f) (hb : SE X G W b g) (hs : PlainIx b := by intro _ _; rfl) : SE X G W (.Subscript a b pos) (fIx f g) := s_ix B.eK ha hb hs
theorem Bd.sl (B : Bd X G W j) {lo hi : Option Expr} {fl fh : Option (Env → M T)} {p2 : Pos} (ha : SK X G W a f) (hl : PO X lo (tSO G W fl)) (hh : PO X hi (tSO G W fh)) : SE X G W (.Subscript a (.Slice lo hi none p2) pos) (fSl f fl fh) := s_sl B.eK ha hl hh
theorem Bd.fld (B : Bd X G W j) {name : Str} (m : Nat → Option Nat) (ok : ∀ C j, m C = some j → FldOk G name C j) (ha : SE X G W a f) (hb : attributeBase a name X.env (eval a X.env) = eval a X.env := by rfl) : SE X G W (.Attribute a name pos) (fFld m f) := s_fld B.eK m ok ha hb
theorem Bd.gd (B : Bd X G W j) {px : Pos} {tb : Str → Option (Option T)} (ok : GgOk X.w G x tb) (hi : SE X G W b f) (hg : Gl X x := by rfl) (hs : PlainIx b := by intro _ _; rfl) (hd : (x == ("__debug__" : Str)) = false := by decide) : SE X G W (.Subscript (.Name x px) b pos) (fGd (fun z => (tb z).bind id) f) := s_gd ok.gd B.eK B.eM hg hi hs hd
/-! calls -/
variable {es : List Expr} {fs : List (Env → M T)} {ds : List T} {k n C : Nat} {apos : Pos}
theorem Bd.call (B : Bd X G W j) {F : List T → M T} (D : DefOk X.prog X.w X.base G k x n ds F) (ha : SA X G W (a :: es) fs) (hk : k ≤ j := by decide) (hn : fs.length + ds.length = n := by rfl) (hg : Gl X x := by rfl)
    (hdb : (x == ("__debug__" : Str)) = false := by decide) (he : starEach (a :: es) X.env = (false, eval a X.env) :: starEach es X.env := by rfl) (hpl : (backTo pos (starEach es X.env)).any (·.1) = false := by rfl) : SE X G W (.Call (.Name x p) (a :: es) [] pos) (fCall F ds fs) := s_call D B.eK B.eM B.tk B.rm hk hg ha hn hdb he hpl
theorem Bd.make (B : Bd X G W j) {F : List T → M (List T)} (D : MakeOk X.prog X.w X.base G k C n ds F) (ha : SA X G W (a :: es) fs) (hk : k + 1 ≤ j := by decide) (hn : fs.length + ds.length = n := by rfl) (hx : x = G.cn C := by rfl) (hg : Gl X x := by rfl)
    (hdb : (x == ("__debug__" : Str)) = false := by decide) (he : starEach (a :: es) X.env = (false, eval a X.env) :: starEach es X.env := by rfl) (hpl : (backTo pos (starEach es X.env)).any (·.1) = false := by rfl) : SE X G W (.Call (.Name x p) (a :: es) [] pos) (fMake C F ds fs) := s_make D hx B.eK B.eM B.tk B.rm hk hg ha hn hdb he hpl
/-! statements -/
variable {st : Stmt} {rest body : List Stmt} {gg : Sm} {i : Nat}
theorem Bd.set (B : Bd X G W j) (i : Nat) {pos' : Pos} (he : SE X G W a f) (hi : X.N[i]? = some x := by rfl) (hx : Loc X.env.scope x := by first | exact Or.inl rfl | exact Or.inr rfl) (hs : swapsWith a (some (.Name x pos')) pos.line X.env = pure false := by rfl) (hf : X.fn x = true ∨ X.env.scope.names.lookup x = some .local := by first | exact .inl rfl | exact .inr rfl) : SS X G W (.Assign [.Name x pos'] a pos) (qSet i f) := ss_set B.nd hi hx he hs hf
theorem Bd.own (B : Bd X G W j) (i : Nat) {pos' : Pos} {f : Env → M (List T)} (he : SL X G W a f) (hi : X.N[i]? = some x := by rfl) (hx : Loc X.env.scope x := by first | exact Or.inl rfl | exact Or.inr rfl) (hs : swapsWith a (some (.Name x pos')) pos.line X.env = pure false := by rfl) (hf : X.fn x = true ∨ X.env.scope.names.lookup x = some .local := by first | exact .inl rfl | exact .inr rfl) : SS X G W (.Assign [.Name x pos'] a pos) (qOwn i f) := ss_own B.nd hi hx he hs hf
theorem Bd.par2 (B : Bd X G W j) (i l : Nat) {y : Str} {e1 e2 : Expr} {px py pt : Pos} {kt k2 pt2} (ha : SA X G W [e1, e2] [f, g]) (hi : X.N[i]? = some x := by rfl) (hj : X.N[l]? = some y := by rfl) (hij : i ≠ l := by decide)
    (hx : X.env.scope.names.lookup x = some .local := by rfl) (hy : X.env.scope.names.lookup y = some .local := by rfl)
    (hw : swappedStores [.Tuple [.Name x px, .Name y py] kt pt] (.Tuple [e1, e2] k2 pt2) X.env = pure (some [x, y]) := by rfl)
    (hs : swapsWithSole [.Tuple [.Name x px, .Name y py] kt pt] (.Tuple [e1, e2] k2 pt2) pos.line X.env = pure false := by rfl) :
    SS X G W (.Assign [.Tuple [.Name x px, .Name y py] kt pt] (.Tuple [e1, e2] k2 pt2) pos) (qPar2 i l f g) := ss_par2 B.calm B.nd hi hj hij hx hy ha hw hs
theorem Bd.nm (B : Bd X G W j) (i : Nat) (hi : X.N[i]? = some x := by rfl) (hx : Loc X.env.scope x := by first | exact Or.inl rfl | exact Or.inr rfl) (hf : X.fn x = true ∨ X.env.scope.names.lookup x = some .local := by first | exact .inl rfl | exact .inr rfl) : SG X G [i] (.Name x pos) (hName i) := g_name B.nd hi hx hf
theorem Bd.tg (B : Bd X G W j) {us : List Nat} {kk : Nat} {hs : List T → Env → Option Env} (n : Nat) (h : SGs X G us es hs) (hn : (assignEach es X.env).length = n := by rfl) (hst : (assignEach es X.env).findIdx? (·.1) = none := by rfl) : SG X G us (.Tuple es kk pos) (hTup n hs) := g_tup B.calm B.eK h hn hst
theorem Bd.put (B : Bd X G W j) (i : Nat) {px spos : Pos} (he : SE X G W a f) (hi : SE X G W b g) (hN : X.N[i]? = some x := by rfl) (hv : Vis X.env.scope x := by first | exact Or.inl rfl | exact Or.inr (Or.inl rfl) | exact Or.inr (Or.inr rfl))
    (ha : ∀ v, assign (.Subscript (.Name x px) b spos) X.env v = (do let ov ← holding [v] (eval (.Name x px) X.env); let iv ← holding [v, ov] (eval b X.env); standAt spos; holding [v, ov, iv] (setItem ov iv v); release [v, ov, iv] []) := by intro _; rfl)
    (hs : swapsWithSole [.Subscript (.Name x px) b spos] a pos.line X.env = pure false := by rfl) (hw : swappedStores [.Subscript (.Name x px) b spos] a X.env = pure none := by rfl) (hd : (x == ("__debug__" : Str)) = false := by decide) (hcd : (x == ("__classdict__" : Str)) = false := by decide) :
    SS X G W (.Assign [.Subscript (.Name x px) b spos] a pos) (qSetIx i f g) := ss_setIx i hN hv he hi ha hs hw (hd := hd) (hcd := hcd)
end
section
variable {X : Cx} {G : Gm} {W : WX} {j : Nat} {pos spos py : Pos} {elt tg iter : Expr} {ifs : List Expr} {scope : Scope} {own : List (Str × Nat)} {us : List Nat} {h : T → Env → Option Env} {fi : Env → M (List T)} {f : Env → M T} {p : Env → M Bool} {y : Str}
theorem Bd.comp (B : Bd X G W j) (own : List (Str × Nat)) (hi : SI X G W tg iter fi)
    (hg : ∀ (s : Shared) (H : Hp) (C : Addr) (cl : List (Str × Addr)) (fp : List Addr), SG (X.blk s H scope (compEnvC scope cl C X.env) fp) G us tg h) (ht : ∀ (s : Shared) (H : Hp) (C : Addr) (cl : List (Str × Addr)) (fp : List Addr), STs (X.blk s H scope (compEnvC scope cl C X.env) fp) G ifs p)
    (he : ∀ (s : Shared) (H : Hp) (C : Addr) (cl : List (Str × Addr)) (fp : List Addr), SE (X.blk s H scope (compEnvC scope cl C X.env) fp) G W0 elt f) (ok : blkC X.N X.env.scope scope own = true := by kernel_rfl) (hu : ∀ j ∈ us, j ∈ own.map (·.2) := by decide) (hs : ∀ x, foldedSetIterable iter X.env x = pure x := by intro _; rfl) : SL X G W (.ListComp elt [⟨tg, iter, ifs, 0⟩] scope pos) (fComp (own.map (·.2)) h p f fi) := l_comp B.calm B.nd hi (blkOk_by ok) hu hg ht he hs
theorem Bd.setC (B : Bd X G W j) (i : Nat) (own : List (Str × Nat)) (hi : SI X G W tg iter fi)
    (hg : ∀ (s : Shared) (H : Hp) (C : Addr) (cl : List (Str × Addr)) (fp : List Addr), SG (X.blk s H scope (compEnvC scope cl C X.env) fp) G us tg h) (ht : ∀ (s : Shared) (H : Hp) (C : Addr) (cl : List (Str × Addr)) (fp : List Addr), STs (X.blk s H scope (compEnvC scope cl C X.env) fp) G ifs p)
    (he : ∀ (s : Shared) (H : Hp) (C : Addr) (cl : List (Str × Addr)) (fp : List Addr), SE (X.blk s H scope (compEnvC scope cl C X.env) fp) G W0 elt f) (ok : blkC X.N X.env.scope scope own = true := by kernel_rfl) (hu : ∀ j ∈ us, j ∈ own.map (·.2) := by decide)
    (hy : X.N[i]? = some y := by rfl) (hyl : X.env.scope.names.lookup y = some .local := by rfl) (hsw : swapsWith (.ListComp elt [⟨tg, iter, ifs, 0⟩] scope pos) (some (.Name y py)) spos.line X.env = pure true := by rfl) (hs : ∀ x, foldedSetIterable iter X.env x = pure x := by intro _; rfl) : SS X G W (.Assign [.Name y py] (.ListComp elt [⟨tg, iter, ifs, 0⟩] scope pos) spos) (qSet i (fOwn (fComp (own.map (·.2)) h p f fi))) := ss_compV B.calm B.nd hy hyl hsw hi (blkOk_by ok) hu hg ht he hs
theorem Bd.ownC (B : Bd X G W j) (i : Nat) (own : List (Str × Nat)) (hi : SI X G W tg iter fi)
    (hg : ∀ (s : Shared) (H : Hp) (C : Addr) (cl : List (Str × Addr)) (fp : List Addr), SG (X.blk s H scope (compEnvC scope cl C X.env) fp) G us tg h) (ht : ∀ (s : Shared) (H : Hp) (C : Addr) (cl : List (Str × Addr)) (fp : List Addr), STs (X.blk s H scope (compEnvC scope cl C X.env) fp) G ifs p)
    (he : ∀ (s : Shared) (H : Hp) (C : Addr) (cl : List (Str × Addr)) (fp : List Addr), SE (X.blk s H scope (compEnvC scope cl C X.env) fp) G W0 elt f) (ok : blkC X.N X.env.scope scope own = true := by kernel_rfl) (hu : ∀ j ∈ us, j ∈ own.map (·.2) := by decide)
    (hy : X.N[i]? = some y := by rfl) (hyl : X.env.scope.names.lookup y = some .local := by rfl) (hsw : swapsWith (.ListComp elt [⟨tg, iter, ifs, 0⟩] scope pos) (some (.Name y py)) spos.line X.env = pure true := by rfl) (hs : ∀ x, foldedSetIterable iter X.env x = pure x := by intro _; rfl) : SS X G W (.Assign [.Name y py] (.ListComp elt [⟨tg, iter, ifs, 0⟩] scope pos) spos) (qOwn i (fComp (own.map (·.2)) h p f fi)) := ss_comp B.calm B.nd hy hyl hsw hi (blkOk_by ok) hu hg ht he hs
end
section
variable {X : Cx} {G : Gm} {W : WX} {pos : Pos} {a b : Expr} {f g : Env → M T} {C j k k' : Nat} {F : List T → M T} {p : List T → RS → Option RS}
theorem tob_read {f : Env → M T} {σ : L2.St} {H : Hp} {Q : Bool → Hp → Prop} (h : tSB G W (fToB f) σ H Q) : tS G W f σ H (fun v H1 => ∃ k, v = .bl k ∧ Q k H1) := by
  obtain ⟨w, H0, env, r, g0, s, h0⟩ := h
  refine ⟨w, H0, env, r, g0, s, h0.bind.imp fun t r1 w1 H1 st g1 q v d => ?_⟩
  cases d with
  | bl b => exact ⟨b, rfl, OutP.here g1 q⟩
  | _ => exact q.elim
theorem b_ownN (D : MethOk X.prog X.w X.base G k C "__eq__" 2 [] F) (ne : NeOk G C) (hK : X.K = G.K) (hM : X.mg = G.mg) (hr : Room j X.A) (hk : k + 1 ≤ j) (ha : SE X G W a f) (hb : SE X G W b g) (hm : behindInMarks .NotEq b = false) :
    SB X G W (.Compare a [.NotEq] [b] pos) (fToB fun env => f env >>= fun x => g env >>= fun y => own2n C F x y) := pt_imp (pt_cmpR (op_ownN D ne hK hM hr hk) ha hb hm) fun σ H Q hq => own_use own2n_ne (tob_read hq)
end
/-! ### the end -/
/-- what stands, the tables left out -/
def noTb (H : Hp) : Hp := fun b => match H b with
  | some (.tbl _) => none
  | o => o
theorem noTb_at {H : Hp} {b : Addr} {o : HO} (h : H b = some o) (n : NoTab o) : noTb H b = some o := by
  unfold noTb
  rw [h]
  cases o <;> first | rfl | exact absurd rfl (n _)
theorem noTb_of {H : Hp} {b : Addr} {o : HO} (h : noTb H b = some o) : H b = some o ∧ NoTab o := by
  unfold noTb at h
  cases e : H b with
  | none => rw [e] at h; cases h
  | some u =>
    rw [e] at h
    cases u <;> first | (cases h; exact ⟨rfl, fun _ z => by cases z⟩) | cases h
theorem noTb_seq {K : PySem.W.Frag} {H : Hp} {a : Addr} {xs : List V} (h : SqL K H a xs) : SqL K (noTb H) a xs := by
  rcases h with (h | ⟨o, h⟩) | h
  · exact .inl (.inl (noTb_at h (fun _ z => by cases z)))
  · exact .inl (.inr ⟨o, noTb_at h (fun _ z => by cases z)⟩)
  · exact .inr h
end Ep
namespace Ep
open PySem PySem.Spec L2
/-! ### computations, step by step -/
section
variable {f g k : Env → M T} {p q : Env → M Bool} {env env' env2 : Env} {r r1 r2 r3 : RS} {x y z t : T} {s s' : Sm} {so : SO} {b c : Bool}
theorem bind_ok {α β : Type} {m : M α} {k : α → M β} {a : α} {o : Out β} (h1 : m r = .ok a r1) (h2 : k a r1 = o) : (m >>= k) r = o := by
  show M.bind m k r = o
  unfold M.bind
  rw [h1]
  exact h2
theorem e_bin {h : T → T → Option T} (h1 : f env r = .ok x r1) (h2 : g env r1 = .ok y r2) (h3 : h x y = some z) : fBin h f g env r = .ok z r2 := bind_ok h1 (bind_ok h2 (by rw [h3]; rfl))
theorem e_un {h : T → Option T} (h1 : f env r = .ok x r1) (h3 : h x = some z) : fUn h f env r = .ok z r1 := bind_ok h1 (by rw [h3]; rfl)
theorem e_cmp {h : T → T → Option Bool} (h1 : f env r = .ok x r1) (h2 : g env r1 = .ok y r2) (h3 : h x y = some b) : fCmp h f g env r = .ok (.bl b) r2 := e_bin h1 h2 (by rw [h3]; rfl)
theorem e_cmpB {h : T → T → Option Bool} (h1 : f env r = .ok x r1) (h2 : g env r1 = .ok y r2) (h3 : h x y = some b) : fCmpB h f g env r = .ok b r2 := bind_ok h1 (bind_ok h2 (by rw [h3]; rfl))
theorem e_b1 {h : RS → T → Option T} (h1 : f env r = .ok x r1) (h3 : h r1 x = some z) : fB1 h f env r = .ok z r1 := bind_ok h1 (by
  show M.lift (h r1 x) r1 = _
  rw [h3]; rfl)
theorem e_ix (h1 : f env r = .ok x r1) (h2 : g env r1 = .ok y r2) (h3 : ixT r2 x y = some z) : fIx f g env r = .ok z r2 := bind_ok h1 (bind_ok h2 (by
  show M.lift (ixT r2 x y) r2 = _
  rw [h3]; rfl))
theorem e_andF (h1 : f env r = .ok (.bl false) r1) : fAnd f g env r = .ok (.bl false) r1 := bind_ok h1 rfl
theorem e_andT {o : Out T} (h1 : f env r = .ok (.bl true) r1) (h2 : g env r1 = o) : fAnd f g env r = o := bind_ok h1 h2
theorem e_orT (h1 : f env r = .ok (.bl true) r1) : fOr f g env r = .ok (.bl true) r1 := bind_ok h1 rfl
theorem e_orF {o : Out T} (h1 : f env r = .ok (.bl false) r1) (h2 : g env r1 = o) : fOr f g env r = o := bind_ok h1 h2
theorem e_andBF (h1 : p env r = .ok false r1) : fAndB p q env r = .ok false r1 := bind_ok h1 rfl
theorem e_andBT {o : Out Bool} (h1 : p env r = .ok true r1) (h2 : q env r1 = o) : fAndB p q env r = o := bind_ok h1 h2
theorem e_orBT (h1 : p env r = .ok true r1) : fOrB p q env r = .ok true r1 := bind_ok h1 rfl
theorem e_orBF {o : Out Bool} (h1 : p env r = .ok false r1) (h2 : q env r1 = o) : fOrB p q env r = o := bind_ok h1 h2
theorem e_notB (h1 : p env r = .ok b r1) : fNotB p env r = .ok (!b) r1 := bind_ok h1 rfl
theorem e_toB (h1 : f env r = .ok (.bl b) r1) : fToB f env r = .ok b r1 := bind_ok h1 rfl
theorem e_tru (h1 : f env r = .ok x r1) (h2 : truT x = some b) : fTru f env r = .ok b r1 := bind_ok h1 (by rw [h2]; rfl)
theorem e_ifT {o : Out T} (h1 : p env r = .ok true r1) (h2 : f env r1 = o) : fIf p f g env r = o := bind_ok h1 h2
theorem e_ifF {o : Out T} (h1 : p env r = .ok false r1) (h2 : g env r1 = o) : fIf p f g env r = o := bind_ok h1 h2
theorem e_nil : fAll [] env r = .ok [] r := rfl
theorem e_cons {fs : List (Env → M T)} {ts : List T} (h1 : f env r = .ok x r1) (h2 : fAll fs env r1 = .ok ts r2) : fAll (f :: fs) env r = .ok (x :: ts) r2 := by
  show (f env >>= fun t => fAll fs env >>= fun ts => pure (t :: ts)) r = _
  exact bind_ok h1 (bind_ok h2 rfl)
theorem e_tup {fs : List (Env → M T)} {ts : List T} (h1 : fAll fs env r = .ok ts r1) : fTup fs env r = .ok (.tup ts) r1 := bind_ok h1 rfl
theorem e_lst {fs : List (Env → M T)} {ts : List T} (h1 : fAll fs env r = .ok ts r1) : fLst fs env r = .ok (.lst ts) r1 := bind_ok h1 rfl
theorem e_call {F : List T → M T} {ds ts : List T} {fs : List (Env → M T)} {o : Out T} (h1 : fAll fs env r = .ok ts r1) (h2 : F (ts ++ ds) r1 = o) : fCall F ds fs env r = o := bind_ok h1 h2
theorem e_meth {C : Nat} {F : List T → M T} {ds ts vs : List T} {fs : List (Env → M T)} {o : Out T} (h1 : f env r = .ok (.obj C vs) r1) (h2 : fAll fs env r1 = .ok ts r2) (h3 : F (.obj C vs :: (ts ++ ds)) r2 = o) : fMeth C F ds f fs env r = o := bind_ok h1 (by
  show (if C = C then (fAll fs env >>= fun ts => F (.obj C vs :: (ts ++ ds))) else M.bad : M T) r1 = o
  rw [if_pos rfl]
  exact bind_ok h2 h3)
theorem e_own {f : Env → M (List T)} {xs : List T} (h1 : f env r = .ok xs r1) : fOwn f env r = .ok (.lst xs) r1 := bind_ok h1 rfl
theorem e_own2 {h : T → T → M T} {o : Out T} (h1 : f env r = .ok x r1) (h2 : g env r1 = .ok y r2) (h3 : h x y r2 = o) : (fun env => f env >>= fun x => g env >>= fun y => h x y : Env → M T) env r = o := bind_ok h1 (bind_ok h2 h3)
/-! statements -/
theorem n_seq (h1 : s env r = .nx env' r1) (h2 : s' env' r1 = so) : qSeq s s' env r = so := by
  unfold qSeq; rw [h1]; exact h2
theorem n_seqR (h1 : s env r = .rt t r1) : qSeq s s' env r = .rt t r1 := by unfold qSeq; rw [h1]
theorem n_ifT (h1 : p env r = .ok true r1) (h2 : s env r1 = so) : qIf p s s' env r = so := by
  unfold qIf ofM; rw [h1]; exact h2
theorem n_ifF (h1 : p env r = .ok false r1) (h2 : s' env r1 = so) : qIf p s s' env r = so := by
  unfold qIf ofM; rw [h1]; exact h2
theorem n_ret (h1 : f env r = .ok t r1) : qRet f env r = .rt t r1 := by unfold qRet ofM; rw [h1]
theorem n_set {i : Nat} (h1 : f env r = .ok t r1) : qSet i f env r = .nx (env.set i (.val t)) r1 := by unfold qSet ofM; rw [h1]
theorem n_par2 {i j : Nat} (h1 : f env r = .ok x r1) (h2 : g env r1 = .ok y r2) : qPar2 i j f g env r = .nx ((env.set i (.val x)).set j (.val y)) r2 := by
  unfold qPar2 ofM; rw [e_cons h1 (e_cons h2 e_nil)]
theorem n_asg {h : T → Env → Option Env} (h1 : f env r = .ok x r1) (h2 : h x env = some env') : qAsg f h env r = .nx env' r1 := by
  unfold qAsg ofM; rw [h1]; simp only; rw [h2]
theorem n_for {fi : Env → M (List T)} {h : T → Env → Option Env} {xs : List T} (h1 : fi env r = .ok xs r1) (h2 : loopF h s xs env r1 = so) : qFor fi h s env r = so := by
  unfold qFor ofM; rw [h1]; exact h2
theorem n_loopN {h : T → Env → Option Env} : loopF h s [] env r = .nx env r := rfl
theorem n_loop {h : T → Env → Option Env} {xs : List T} (h1 : h x env = some env') (h2 : s env' r = .nx env2 r1) (h3 : loopF h s xs env2 r1 = so) : loopF h s (x :: xs) env r = so := by
  unfold loopF; rw [h1]; simp only; rw [h2]; exact h3
theorem n_loopR {h : T → Env → Option Env} {xs : List T} (h1 : h x env = some env') (h2 : s env' r = .rt t r1) : loopF h s (x :: xs) env r = .rt t r1 := by
  unfold loopF; rw [h1]; simp only; rw [h2]
theorem n_fn {m : Nat} {ts : List T} (h1 : s (envOf m ts) r = .rt t r1) : fnS m s ts r = .ok t r1 := by unfold fnS; rw [h1]
end
/-! ### equality -/
end Ep
/-! an exception class of the program's own whose __init__ says super().__init__(f); self.f = f -/
namespace Ep
namespace SupX
open PySem PySem.W PySem.Calls PyProof.Rows PySem.HandSPX
def iA (f : Str) (p1 p2 : Pos) : Arguments := { posonlyargs := [], args := [{ arg := "self", annotation := none, pos := p1 }, { arg := f, annotation := none, pos := p2 }], vararg := none, kwonlyargs := [], kw_defaults := [], kwarg := none, defaults := [] }
def iB (f : Str) (a1 a2 a3 a4 a5 a6 q1 q2 q3 q4 : Pos) : List Stmt := [.Expr (.Call (.Attribute (.Call (.Name "super" a1) [] [] a2) "__init__" a3) [.Name f a4] [] a5) a6, .Assign [.Attribute (.Name "self" q1) f q2] (.Name f q3) q4]
def iS (f : Str) : Scope := { kind := .function, names := [(PySem.Str.ofString "self", .local), (f, .local), (PySem.Str.ofString "__class__", .free), (PySem.Str.ofString "super", .globalImplicit)], isGenerator := false, isCoroutine := false, more := [] }
/-- a built-in exception below which the program's own ones lie -/
structure XB where
  B : String
  nw : String
  ini : String
  tl : List Value
structure XB.Ok (b : XB) : Prop where
  eb : ExcBaseFacts b.B b.nw b.ini b.tl
  sf : StoreFacts b.B b.tl "object.__setattr__" "object"
  kx : KxsFacts b.B b.ini
  ob : b.tl.contains (.type "object") = true
def xVE : XB := ⟨"ValueError", "ValueError.__new__", "ValueError.__init__", [.type "ValueError", .type "Exception", .type "BaseException", .type "object"]⟩
theorem xVE_ok : xVE.Ok := ⟨F.excBase_ValueError, F.store_ValueError, kxs_ValueError, by decide +kernel⟩
/-- what the written part says of the class at C, its __init__ at fI -/
structure Txt (P : Program) (K : Frag) (mg : Str → Option Value) (qn f : Str) (C fI : Addr) : Prop where
  cls : ∃ b : XB, b.Ok ∧ subIn K (.ref C) (.type b.B) = some true ∧ ks_superIn K C C "__init__" = some (some (.builtin b.ini)) ∧
    ∃ nm q N bs bm sn sub ab col dd k0 k1 k2 k3 k5, K.lookup C = some (excClassObj nm q C N bs bm true sn sub ab col dd k0 k1 k2 k3 k5 b.nw) ∧ excTail b.tl bm = true
  sa : findIn K (.ref C) "__setattr__" = some (some (.builtin "object.__setattr__"))
  noN : findIn K (.ref C) f = some none
  iC : findIn K (.ref C) "__init__" = some (some (.ref fI))
  tC : typeIn K (.ref fI) = some (.type "function")
  kC : keepIn K (.ref C) = true
  exC : subIn K (.ref C) (.type "BaseException") = some true
  tyC : typeIn K (.ref C) = some (.type "type")
  mroC : mroIn K C (.ref C) = some true
  nosup : nsIn K mainGlobals "super" = some none
  opq : nsIn K cStatics "thirdparty.any" = some none
  fn : ∃ (oc : Value) (od : Option Addr) (doc pm : Value) (an : Option Addr) (cda : Addr) (ct : Value) (osl : Array (Option Value)) (p1 p2 a1 a2 a3 a4 a5 a6 q1 q2 q3 q4 : Pos) (cc : Addr) (cl : Value) (cld : Option Addr) (csl : Array (Option Value)) (ccl : Value) (cdd : Option Addr) (vs : Array Value) (ccs : Array (Option Value)) (file : Str) (tf : Tok),
    K.lookup fI = some ⟨oc, od, .func (ksFn "__init__" qn (iA f p1 p2) (iB f a1 a2 a3 a4 a5 a6 q1 q2 q3 q4) (iS f) .none .none doc pm an (.ref cda) ct cc), osl⟩ ∧ codeIn K (.ref cda) qn = true ∧
    K.lookup cc = some ⟨cl, cld, .cell (some (.ref C)), csl⟩ ∧ K.lookup cda = some ⟨ccl, cdd, .fields vs, ccs⟩ ∧ vs[2]? = some (.str file tf) ∧ ((P.main.file : Str) == file) = true ∧
    ∀ L : Addr, ∃ pl : Sem Bool, eval (.Call (.Attribute (.Call (.Name "super" a1) [] [] a2) "__init__" a3) [.Name f a4] [] a5) (ksEnv qn (iS f) L fI (.ref cda) cc) = (do
      let ov ← attributeBase (.Call (.Name "super" a1) [] [] a2) "__init__" (ksEnv qn (iS f) L fI (.ref cda) cc) (eval (.Call (.Name "super" a1) [] [] a2) (ksEnv qn (iS f) L fI (.ref cda) cc))
      standAt a3.atName
      let (g, first) ← holding [ov] (getMethod ov "__init__" pl)
      callWith a5 g first (backTo a5 (starEach [.Name f a4] (ksEnv qn (iS f) L fI (.ref cda) cc))) [])
structure FOk (P : Program) (f : Str) : Prop where
  htop : (P.main.scope.names.lookup ("super" : Str)).isSome = false
  nself : ((PySem.Str.ofString "self") == f) = false
  self' : (f == ("self" : Str)) = false
  dbg : (f == ("__debug__" : Str)) = false
  loc : (iS f).names.lookup f = some .local
  slf : (iS f).names.lookup ("self" : Str) = some .local
  sup : (iS f).names.lookup ("super" : Str) = some .globalImplicit
  cls : (iS f).names.lookup ("__class__" : Str) = some .free
  ncell : ∀ x ∈ (iS f).names, x.2 ≠ .cell
  bnd : ∀ (qn : Str) (a1 a2 a3 a4 a5 a6 q1 q2 q3 q4 p1 p2 : Pos) (doc pm : Value) (an : Option Addr) (cdv ct : Value) (cc : Addr) (u v : Value), bindArgs (ksFn "__init__" qn (iA f p1 p2) (iB f a1 a2 a3 a4 a5 a6 q1 q2 q3 q4) (iS f) .none .none doc pm an cdv ct cc) ⟨[u, v], []⟩ = pure [(PySem.Str.ofString "self", u), (f, v)]
theorem one_size (v : Value) : [v].length ≤ sizeLine := by
  rw [sizeLine_eq]
  exact (by decide : 1 ≤ 16777216)
structure InitEnd (f : Str) (h h' : Heap) (x C dx t1 : Addr) (v : Value) : Prop where
  keep : ∀ b o, b ≠ x → h.get? b = some o → h'.get? b = some o
  obj : h'.get? x = some { cls := .ref C, dict := some dx, data := .fields #[.ref t1, .none, .none, .none, .bool false, .none] }
  dbig : h.objs.size ≤ dx
  dne : dx ≠ x
  ns : h'.Ns1 dx (fun y => if y = f then some v else none)
section
variable {prog : Program} {w : World} {A : Around} {E : Value → Shared → Prop} {h : Heap} {g : Array GenState} {d : Drawn} {t : Nat} {os : OsState}
variable {nm q : Str} {C N : Addr} {bs bm bmB : List Value} {hdct : Bool} {sn : List Str} {sub : List Value} {ab : Bool} {col : Option Bool} {dd : Option Addr} {k0 k1 k2 k3 k5 : Option Value} {B newId initId : String}
/-- a built-in bound to a thing (kxs_mw): a call of it is checked, and goes on at the built-in with the thing ahead -/
theorem mw_tree {M : Model} {i : String} {u e : Addr} {args : Args} {Q : Fin → Shared → Prop} {s : Shared} (at_u : s.heap.get? u = some (kxs_mw i e))
    (on : wpAny M A (checkBoundCall i { args with pos := .ref e :: args.pos }) (fun _ s' => Q (.again (.builtin i { args with pos := .ref e :: args.pos })) s') E s) : wpAny M A (callAny (.ref u) args) Q E s := by
  unfold callAny
  refine wpAny_bind (wpAny_load at_u ?_)
  show wpAny M A (checkBoundCall i { args with pos := .ref e :: args.pos } >>= fun _ => _) Q E s
  exact wpAny_bind (wpAny_mono on (fun _ _ z => wpAny_bind (wpAny_pure (wpAny_pure z))) fun _ _ => id)
/-- a built-in exception's __init__ bound to an instance, called: the instance's arguments are told anew, all else stands -/
theorem call_mw (FB : ExcBaseFacts B newId initId bmB) {u e t0 : Addr} {rest : List Value} {Q : Value → Shared → Prop}
    (at_C : h.get? C = some (excClassObj nm q C N bs bm hdct sn sub ab col dd k0 k1 k2 k3 k5 newId)) (at_e : h.get? e = some (HandSPX.excO C t0)) (at_u : h.get? u = some (kxs_mw initId e)) (few : rest.length ≤ sizeLine)
    (told : ∀ h' t1, (∀ b o, b ≠ e → h.get? b = some o → h'.get? b = some o) → h'.get? e = some (HandSPX.excO C t1) → Q .none ⟨h', g, d, t, os⟩) :
    wpAny (model prog w) A (call (.ref u) rest) Q E ⟨h, g, d, t, os⟩ :=
  wpAny_call (codeAny_of_tree (mw_tree at_u (W.check_bound_init FB.toExcCallFacts at_C at_e rfl
    ⟨plainId_quiet FB.init.plain _, codeAny_builtin FB.initEntry (exc_init_tree (cls := .ref C) (t0 := t0) (dv := none) (c2 := .none) (c3 := .none) (b4 := .bool false) at_e few fun h' same now _ => told h' _ same now)⟩)))
end
section
open Builtin Builtin.ObjectAttr
variable {prog : Program} {w : World} {A : Around} {E : Value → Shared → Prop} {R : Result → Shared → Prop} {hp : Heap} {g : Array GenState} {d : Drawn} {t : Nat} {os : OsState}
/-- the first field of an instance of such a class: osa_openX opens the store, instanceDict_exc makes the instance's dict, store_in_new puts the field into it -/
theorem osa_b {b : XB} (ok : b.Ok) {K : Frag} {name : Str} {tk : Tok} {v : Value} {x C t1 : Addr} {bm : List Value} {cd : ClassData} (kin : K.In hp) (at_x : hp.get? x = some (excO C t1)) (at_C : clsIn K C = some cd) (mro : cd.mro = .ref C :: bm) (tail : excTail b.tl bm = true) (dict : cd.hasDict = true) (free : findIn K (.ref C) name = some none)
    (told : ∀ h' tk' dx, (∀ b o, b ≠ x → hp.get? b = some o → h'.get? b = some o) → hp.objs.size ≤ dx → dx ≠ x → h'.get? x = some { cls := .ref C, dict := some dx, data := .fields #[.ref t1, .none, .none, .none, .bool false, .none] } →
      h'.Ns1 dx (fun y => if y = name then some v else none) → R (.ok (.ret .none)) ⟨h', g, d, tk', os⟩) :
    codeAny (model prog w) A (.call (.builtin "object.__setattr__") ⟨[.ref x, .str name tk, v], []⟩) R ⟨hp, g, d, t, os⟩ := by
  have old : x ≠ hp.objs.size := Nat.ne_of_lt (Heap.lt_size at_x)
  have over : excOver K C b.tl = true := by unfold excOver; rw [at_C, Option.any_some, mro]; exact Bool.and_eq_true_iff.mpr ⟨beq_self_eq_true _, tail⟩
  have at_x' : (hp.push (dictOf [] 0)).get? x = some (excO C t1) := Heap.get?_push_of_some _ at_x
  have made : ((hp.push (dictOf [] 0)).update x fun o => { o with dict := some hp.objs.size }).get? hp.objs.size = some (dictOf [] 0) := by rw [Heap.get?_update_ne _ _ _ _ old.symm, Heap.get?_push_size _ rfl]
  refine osa_openX (r := none) ok.sf kin (InstAt.mk (od := none) at_x rfl rfl trivial) over (by unfold takerIn; rw [free]; rfl) fun _ => ?_
  refine wpAny_bind (wpAny_pure (wpAny_bind (instanceDict_exc at_x (looks_clsIn kin at_C) dict ?_)))
  refine store_in_new ⟨_, #[], 0, made, rfl, fun _ z => absurd z (Array.not_mem_empty _), fun _ => rfl⟩ fun h' tk' held but => told h' tk' hp.objs.size (fun a o ne at_a => ?_) (Nat.le_refl _) old.symm ?_ held
  · rw [but.2 a (Nat.ne_of_lt (Heap.lt_size at_a)), Heap.get?_update_ne _ _ _ _ ne]
    exact Heap.get?_push_of_some _ at_a
  · rw [but.2 x old]
    exact Heap.get?_update_self _ at_x' rfl
end
section
variable {prog : Program} {w : World} {A : Around} {E : Value → Shared → Prop} {R : Result → Shared → Prop} {s : Shared} {K : Frag} {mg : Str → Option Value} {C fI : Addr} {qn f : Str} {base : Heap}
theorem init (T : Txt prog K mg qn f C fI) (Y : FOk prog f) {x t0 : Addr} {v : Value} (X : K.In s.heap) (hg : s.heap.Ns mainGlobals mg) (hm : mg "super" = none) (hb : ∃ mb, s.heap.Ns builtinsNs mb ∧ mb "super" = some (.type "super")) (hlim : s.heap.NoLimit) (hx : s.heap.get? x = some (excO C t0)) (hnx : K.lookup x = none) (hroom : A.depth < recursionLimit)
    (hq : ∀ h' tk dx t1, InitEnd f s.heap h' x C dx t1 v → R (.ok (.ret .none)) { s with heap := h', toks := tk }) :
    codeAny (model prog w) A (.call (.ref fI) ⟨[.ref x, v], []⟩) R s := by
  obtain ⟨oc, od, doc, pm, an, cda, ct, osl, p1, p2, a1, a2, a3, a4, a5, a6, q1, q2, q3, q4, cc, cl, cld, csl, ccl, cdd, vs, ccs, file, tf, ho, hcd, hcell, hcode, hvs, hfile, hev⟩ := T.fn
  obtain ⟨pl, hev⟩ := hev s.heap.objs.size
  obtain ⟨xb, xok, veC, sup, nm, q, N, bs, bm, sn, sub, ab, col, dd, k0, k1, k2, k3, k5, hC, hbm⟩ := T.cls
  have hcl : clsIn K C = some { name := nm, bases := bs, mro := .ref C :: bm, ns := N, qualname := q, hasDict := true, slotNames := sn, subclasses := sub, abstract := ab, collection := col, hasDel := false } := by unfold clsIn; rw [hC] <;> rfl
  refine ks_codeAny_call_defAt (binds := [("self", .ref x), (f, v)]) hroom (X _ _ ho) rfl hlim (codeRec_of X hcd) rfl (BindsTo.of_eq (Y.bnd ..)) Y.ncell (fun y hy => ?_) fun h₀ hn kp => ?_
  · rcases List.mem_cons.mp hy with rfl | hy
    · exact Y.slf
    · rcases List.mem_cons.mp hy with rfl | hy
      · exact Y.loc
      · cases hy
  have kC : K.In h₀ := X.keeps kp
  have hx₀ := kp _ _ hx
  have hxC : x ≠ C := fun e => by rw [e, hC] at hnx; cases hnx
  have m1 : (([(PySem.Str.ofString "self", Value.ref x), (f, v)] : List (Str × Value)).reverse.lookup (PySem.Str.ofString "self")) = some (.ref x) := by
    show List.lookup _ [(f, v), (PySem.Str.ofString "self", Value.ref x)] = _
    simp only [List.lookup, Y.nself, beq_self_eq_true]
  have m2 : (([(PySem.Str.ofString "self", Value.ref x), (f, v)] : List (Str × Value)).reverse.lookup f) = some v := by
    show List.lookup _ [(f, v), (PySem.Str.ofString "self", Value.ref x)] = _
    simp only [List.lookup, beq_self_eq_true]
  obtain ⟨mb, hb1, hb2⟩ := hb
  -- super().__init__(f)
  show _root_.PySem.wpAt _ _ _ (execs _ _) _ _ _
  refine ks_wpAt_execs_cons (ks_wpAt_Expr_any (ks_wpAt_MethodCall (pl := pl) ?_ hev))
  refine ks_wpAt_super_base (env := ksEnv qn (iS f) s.heap.objs.size fI (.ref cda) cc) Y.sup Y.cls (by decide) rfl (kC _ _ ho) rfl rfl rfl (kC _ _ hcode) rfl hvs hfile Y.htop ?_
  refine ks_loadName_global rfl Y.sup (loadGlobal_builtin (env := ksEnv qn (iS f) s.heap.objs.size fI (.ref cda) cc) (hg.at fun o e => kp _ _ e) hm (hb1.at fun o e => kp _ _ e) hb2 ⟨rfl, ?_⟩)
  refine wpAny_loadName_free rfl Y.cls (by rfl) ⟨_, kC _ _ hcell, rfl⟩ ?_
  refine wpAny_loadName_local rfl Y.slf hn m1 ?_
  refine ks_wpAny_isType_cls (kC _ _ hC) rfl ⟨rfl, ?_⟩
  refine ks_wpAny_call_super (kC _ _ hC) rfl hx₀ rfl (fun c e => by cases e) (looks_mroIn kC T.mroC) (fun h1 e1 k1 => ?_)
  have kC1 : K.In h1 := kC.keeps k1
  have hx1 := k1 _ _ hx₀
  have hcls1 : Looks (model prog w) h1 (mroOf (.ref C)) (.ref C :: bm) := (looks_clsIn kC1 hcl).andThen .now
  have hI : Looks (model prog w) h1 (isInstance (.ref x) (.type xb.B)) true := (InstAt.type (C := C) (od := none) ⟨hx1, rfl, rfl, trivial⟩).andThen (looks_subIn kC1 veC)
  have hm2 := sup
  unfold ks_superIn at hm2
  rw [hcl] at hm2
  refine kxs_getMethod xok.kx e1 (looks_opaque kC1 T.opq) hcls1 rfl kC1 hm2 hI hxC (by decide) ?_
  refine kxs_callWith (i := xb.ini) (x := x) (by rfl) ?_
  have hmw : (h1.push (kxs_mw xb.ini x)).get? h1.objs.size = some (kxs_mw xb.ini x) := Heap.get?_push_at rfl rfl
  have kk : ∀ b o, h₀.get? b = some o → (h1.push (kxs_mw xb.ini x)).get? b = some o := fun b o e => Heap.get?_push_of_some _ (k1 b o e)
  refine evalArgs_plain ?_
  refine spliced_cons (wpAny_Name (wpAny_loadName_local rfl Y.loc (hn.at fun o e => kk _ _ e) m2 (spliced_nil ⟨hmw, ?_⟩)) Y.dbg)
  refine call_mw xok.eb (kk _ _ (kp _ _ (X _ _ hC))) (kk _ _ hx₀) hmw (one_size v) fun h2 t1 k2 hx2 => ?_
  -- self.f = f
  have hn1 : (h1.push (kxs_mw xb.ini x)).Ns s.heap.objs.size (fun y => ([(PySem.Str.ofString "self", Value.ref x), (f, v)] : List (Str × Value)).reverse.lookup y) := hn.at fun o e => kk _ _ e
  have nL : s.heap.objs.size ≠ x := Nat.ne_of_gt (Heap.lt_size hx)
  have hn2 : h2.Ns s.heap.objs.size (fun y => ([(PySem.Str.ofString "self", Value.ref x), (f, v)] : List (Str × Value)).reverse.lookup y) := hn1.at fun o e => k2 _ _ nL e
  have kC2 : K.In h2 := fun b o e => k2 b o (fun z => by rw [z, hnx] at e; cases e) (kk _ _ (kC _ _ e))
  refine ks_wpAt_execs_cons (ks_wpAt_Assign_Attr ?_)
  refine wpAt_of_wpAny (wpAny_Name (wpAny_loadName_local rfl Y.loc hn2 m2 (wpAny_Name (wpAny_loadName_local rfl Y.slf hn2 m1 ?_) (by decide))) Y.dbg)
  refine set_plain kC2 (ox := excO C t1) (od := none) ⟨hx2, rfl, rfl, trivial⟩ T.sa ?_
  refine osa_b xok kC2 hx2 hcl rfl hbm rfl T.noN (fun h3 tk3 dx k3 dn dne hx3 hn3 => ?_)
  refine wpAt_of_wpAny (wpAny_execs_nil ?_)
  refine hq h3 tk3 dx t1 ⟨fun b o hb e => k3 b o hb (k2 b o hb (kk _ _ (kp _ _ e))), hx3, ?_, dne, hn3⟩
  have z1 : s.heap.objs.size < h2.objs.size := hn2.lt
  exact Nat.le_of_lt (Nat.lt_of_lt_of_le z1 dn)
/-- a made one -/
structure OwnMade (f : Str) (h h' : Heap) (e C d : Addr) (v : Value) : Prop where
  keep : ∀ b o, h.get? b = some o → h'.get? b = some o
  new : h.objs.size ≤ e
  obj : ∃ oe vs, h'.get? e = some oe ∧ oe.cls = .ref C ∧ oe.dict = some d ∧ oe.data = .fields vs ∧ vs[1]? = some .none
  dbig : h.objs.size ≤ d
  dne : d ≠ e
  ns : h'.Ns1 d (fun y => if y = f then some v else none)
theorem made (T : Txt prog K mg qn f C fI) (Y : FOk prog f) {v : Value} (X : K.In s.heap) (hg : s.heap.Ns mainGlobals mg) (hm : mg "super" = none) (hb : ∃ mb, s.heap.Ns builtinsNs mb ∧ mb "super" = some (.type "super")) (hlim : s.heap.NoLimit) (hroom : A.depth + 1 < recursionLimit)
    (hq : ∀ h' tk e d, OwnMade f s.heap h' e C d v → R (.ok (.ret (.ref e))) { s with heap := h', toks := tk }) :
    codeAny (model prog w) A (.call (.ref C) ⟨[v], []⟩) R s := by
  obtain ⟨xb, xok, veC, sup, nm, q, N, bs, bm, sn, sub, ab, col, dd, k0, k1, k2, k3, k5, hC, hbm⟩ := T.cls
  obtain ⟨hp, g, dr, tk, os⟩ := s
  have k : ∀ b o, hp.get? b = some o → ((hp.push (kdv_tup [v])).push (excO C hp.objs.size)).get? b = some o := fun b o e => Heap.get?_push_of_some _ (Heap.get?_push_of_some _ e)
  have hget : ((hp.push (kdv_tup [v])).push (excO C hp.objs.size)).get? (hp.objs.size + 1) = some (excO C hp.objs.size) := by heap_get
  have hnx : K.lookup (hp.objs.size + 1) = none := by
    cases eL : K.lookup (hp.objs.size + 1) with
    | none => rfl
    | some o =>
      have z : hp.get? (hp.objs.size + 1) = some o := X _ _ eL
      exact absurd (Nat.lt_of_succ_lt (Heap.lt_size z)) (Nat.lt_irrefl _)
  obtain ⟨mb, hb1, hb2⟩ := hb
  refine call_own xok.eb (fun X => excTail_contains X bm hbm) (X _ _ hC) (looks_findIn X T.iC) (fun self => bind_fn X self T.tC) (one_size v) ?_
  refine init (s := ⟨(hp.push (kdv_tup [v])).push (excO C hp.objs.size), g, dr, tk, os⟩) T Y (X.keeps k) (hg.at fun o e => k _ _ e) hm ⟨mb, hb1.at fun o e => k _ _ e, hb2⟩ (hlim.keeps k) hget hnx ?_ fun h' tk' dx t1 ⟨k', hx, dn, dne, hns⟩ => ?_
  · show A.depth + 1 < recursionLimit
    exact hroom
  · have old : ∀ b o, hp.get? b = some o → h'.get? b = some o := fun b o e => k' b o (Nat.ne_of_lt (Nat.lt_succ_of_lt (Heap.lt_size e))) (k b o e)
    have z : hp.objs.size + 1 + 1 ≤ dx := by
      first
        | (simpa only [Heap.size_push] using dn)
        | exact dn
        | (have q := dn; rw [Heap.size_push, Heap.size_push] at q; exact q)
    exact ⟨rfl, hq h' tk' (hp.objs.size + 1) dx ⟨old, Nat.le_succ _, ⟨_, _, hx, rfl, rfl, rfl, rfl⟩, Nat.le_trans (Nat.le_trans (Nat.le_succ _) (Nat.le_succ _)) z, dne, hns⟩⟩
end
end SupX
open PySem PySem.Spec L2 PyProof.Rows
theorem relO_one {f : Str} {v : V} {u : Value} (r : RelV v u) (g : Str) : RelO ([(f, v)].lookup g) (if g = f then some u else none) := by
  by_cases hw : g = f
  · subst hw
    rw [if_pos rfl]
    have q : List.lookup g [(g, v)] = some v := by simp [List.lookup]
    rw [q]
    exact r
  · rw [if_neg hw]
    have qw : (g == f) = false := by simpa using hw
    have q2 : List.lookup g [(f, v)] = none := by simp [List.lookup, qw]
    rw [q2]
    trivial
section
variable {X : Cx} {C fI : Addr} {qn f x : Str}
/-- x(e) -/
def tMkX (f : Str) (C : Addr) (ta : TA) : L2.St → Hp → XK → Prop := fun σ H Q => ta σ H fun vs H1 => ∃ v, vs = [v] ∧ ∀ d, H1 d = none → Q (.ref C) (some d) (upd H1 d (.xd [(f, v)]))
theorem pmk_x {a : Expr} {ta : TA} {p pos : Pos} {k : Nat} (T : SupX.Txt X.prog X.K X.mg qn f C fI) (Y : SupX.FOk X.prog f) (hr : Room k X.A) (hk : 2 ≤ k) (gx : X.mg x = some (.ref C)) (ha : PA X [a] ta) (hg : Gl X x)
    (hd : (x == ("__debug__" : Str)) = false := by decide) (he : starEach (a :: []) X.env = (false, eval a X.env) :: starEach [] X.env := by rfl) (hpl : (backTo pos (starEach [] X.env)).any (·.1) = false := by rfl) :
    PMk X (.Call (.Name x p) [a] [] pos) (tMkX f C ta) := by
  intro pins s σ H Q I h
  refine wpAny_Call_Name_kw (ld_glob I hg gx ?_ hd)
  refine PySem.W.callWith_K (h₀ := X.base) I.ok.mod.kin T.kC (thn (ha.run pos pins s σ H _ I h) fun us s1 hh => ?_) he hpl
  obtain ⟨vs, H1, I1, r1, v, ev, q1⟩ := hh
  subst ev
  refine ⟨I1.kIn, ?_⟩
  cases r1 with
  | cons rv rn =>
    rename_i v' us'
    cases rn
    show wpAny _ _ (call (.ref C) [v']) _ _ _
    have hlim := I1.nolimit
    have hgl := I1.mod.glob.keeps I1.bk
    have hsup : X.mg "super" = none := PySem.W.mg_none_of I1.mod.kin I1.mod.glob T.nosup
    obtain ⟨mb, hb1, hb2⟩ := I1.mod.blt
    have hb : ∃ mb, s1.heap.Ns builtinsNs mb ∧ mb "super" = some (.type "super") := ⟨mb, hb1.keeps I1.bk, (hb2 _ (by decide)).trans (by first | rfl | kernel_rfl)⟩
    obtain ⟨hp, g, dr, tk, os⟩ := s1
    refine wpAny_call (SupX.made T Y I1.kIn hgl hsup hb hlim (by have := hr.dp; omega) fun h' tk' e d M => ?_)
    show MkP X pins σ Q (.ref e) ⟨h', g, dr, tk', os⟩
    obtain ⟨oe, fv, hoe, hc, hd, hdat, h1⟩ := M.obj
    have hns := M.ns
    obtain ⟨G', g1, g2⟩ := restrict h' fun b => decide (b ≠ e)
    have gk : ∀ b, b ≠ e → G'.get? b = h'.get? b := fun b hb => g1 b (decide_eq_true hb)
    have ge : G'.get? e = none := g2 e (by simp)
    have old : ∀ b o, hp.get? b = some o → G'.get? b = some o := fun b o q => (gk b (Nat.ne_of_lt (Nat.lt_of_lt_of_le (Heap.lt_size q) M.new))).trans (M.keep b o q)
    have ob : ObjOk X.prog X.w (upd H1 d (.xd [(f, v)])) G' d (.xd [(f, v)]) :=
      ⟨_, hns.at (fun o q => (gk d M.dne).trans q), fun y => relO_one rv y⟩
    have J : Inv X pins σ (upd H1 d (.xd [(f, v)])) ⟨G', g, dr, tk', os⟩ := I1.laid (t' := tk') old M.dbig ob
    refine ⟨e, oe, fv, ⟨G', g, dr, tk', os⟩, _, .ref C, some d, rfl, J, fun b o q => ?_, ge, hoe, ⟨hc, hd⟩, hdat, h1, ?_, rfl, I1.bare, raises_own T.exC T.tyC, q1 d (I1.hok.fresh M.dbig)⟩
    · by_cases hb : b = e
      · have q' : G'.get? b = some o := q
        rw [hb, ge] at q'; cases q'
      · exact (gk b hb).symm.trans q
    · rw [upd_ne (Ne.symm M.dne)]
      exact I1.hok.fresh M.new
/-- raise x(e) -/
def tRaiseX (f : Str) (C : Addr) (W : WX) (ta : TA) : TS := fun _ σ H => tMkX f C ta σ H fun cls d H' => W cls d σ H'
theorem ps_raiseX {a : Expr} {ta : TA} {W : WX} {p pos pos2 : Pos} {k : Nat} (hc : X.calm = true) (T : SupX.Txt X.prog X.K X.mg qn f C fI) (Y : SupX.FOk X.prog f) (hr : Room k X.A) (hk : 2 ≤ k) (tk : Takes X W) (gx : X.mg x = some (.ref C)) (ha : PA X [a] ta) (hg : Gl X x)
    (hd : (x == ("__debug__" : Str)) = false := by decide) (he : starEach (a :: []) X.env = (false, eval a X.env) :: starEach [] X.env := by rfl) (hpl : (backTo pos (starEach [] X.env)).any (·.1) = false := by rfl) :
    PS X (.Raise (some (.Call (.Name x p) [a] [] pos)) none pos2) (tRaiseX f C W ta) := ps_raise hc tk (pmk_x T Y hr hk gx ha hg hd he hpl)
end
end Ep
/-! try with several clauses that note what they caught -/
namespace Ep
open PySem PySem.Spec L2 PyProof.Rows
abbrev HdT := Value × Nat × (Addr → Value → Option Addr → TS)
/-- behind a suite its note is gone -/
def gone (i : Nat) (D : Ends) : Ends := { nx := fun σ H => D.nx (σ.set i none) H, rt := D.rt, bk := fun σ H => D.bk (σ.set i none) H, ct := fun σ H => D.ct (σ.set i none) H }
def wMA (K : PySem.W.Frag) (Wout : WX) (D : Ends) : List HdT → WX
  | [] => Wout
  | p :: r => fun cls d σ H => ∃ b, PySem.W.exmOne K cls p.1 = some b ∧ (b = true → ∀ a, H a = none → p.2.2 a cls d (gone p.2.1 D) (σ.set p.2.1 (some (.ref a))) H) ∧ (b = false → wMA K Wout D r cls d σ H)
inductive HdAs (X : Cx) : List ExceptHandler → List HdT → Prop
  | nil : HdAs X [] []
  | cons {x n : Str} {c : Value} {i : Nat} {ts : Addr → Value → Option Addr → TS} {b₀ : Stmt} {suite : List Stmt} {np pp : Pos} {hds : List ExceptHandler} {l : List HdT} (hc : Names X x c) (hi : X.N[i]? = some n) (hl : X.env.kindOf n = some .local)
      (hsu : ∀ (a : Addr) (oe : Obj) (cls : Value) (d : Option Addr) (pn : List (Addr × Obj)), Zc cls d oe → (∃ vs, oe.data = .fields vs) → PSs (X.suite a ((a, oe) :: pn)) (b₀ :: suite) (ts a cls d)) (r : HdAs X hds l) :
      HdAs X (.ExceptHandler (some (.Name x np)) (some n) (b₀ :: suite) pp :: hds) ((c, i, ts) :: l)
section
variable {X : Cx} {pins : List (Addr × Obj)} {a : Addr} {B : Heap} {sI : Shared} {σ : L2.St} {H : Hp} {cls : Value} {d : Option Addr} {D : Ends} {Wout : WX}
/-- a raised thing is no def's frame -/
theorem no_frame {B h : Heap} {l : List PySem.Env} {o : Obj} {vs : Array Value} (ff : h.FunFrames B l) (at_a : h.get? a = some o) (rec : o.data = .fields vs) : a ∉ frs l := fun of_l => by
  obtain ⟨_, u, at_u, notFields⟩ := ff.mem of_l
  cases at_a.symm.trans at_u
  exact absurd rec (notFields vs)
/-- what is known when an exception has been caught and is looked at -/
structure Got (X : Cx) (pins : List (Addr × Obj)) (a : Addr) (B : Heap) (sI : Shared) (σ : L2.St) (H : Hp) (cls : Value) (d : Option Addr) (s' : Shared) (h3 : Heap) : Prop where
  ok : X.Ok
  J : Inv X pins σ H sI
  nb : ∀ b o, sI.heap.get? b = some o → b ∉ frs X.stack → B.get? b = some o
  up : sI.heap.UpToSlots h3
  fl : HandSPX.FlyingZ B (X.env :: X.outer) a (Zc cls d) h3
  na : H a = none
  os : s'.os = sI.os
  ag : AllBare s'.gens
theorem Got.nfr {s' : Shared} {h3 : Heap} (g : Got X pins a B sI σ H cls d s' h3) : a ∉ frs (X.env :: X.outer) := by
  obtain ⟨oe, vs, he, _, hd⟩ := g.fl.there
  exact no_frame g.fl.2.2.1 he hd
/-- the frames' own list, one deeper -/
theorem frs_deep {e : PySem.Env} {l : List PySem.Env} {b : Addr} (h : b ∈ frs l) : b ∈ frs (e :: l) := by
  cases q : e.frame with
  | none => rw [show frs (e :: l) = frs l from List.filterMap_cons_none q]; exact h
  | some c => rw [show frs (e :: l) = c :: frs l from List.filterMap_cons_some q]; exact List.mem_cons_of_mem _ h
theorem Got.nF {s' : Shared} {h3 : Heap} (g : Got X pins a B sI σ H cls d s' h3) : a ∉ X.fs := fun of_l => g.nfr (frs_deep of_l)
theorem Got.nL {s' : Shared} {h3 : Heap} (g : Got X pins a B sI σ H cls d s' h3) (hf : X.env.frame = some X.env.locals) : a ≠ X.env.locals := fun z => g.nfr (by
  rw [show frs (X.env :: X.outer) = X.env.locals :: frs X.outer from List.filterMap_cons_some hf, z]
  exact List.mem_cons_self)
theorem Got.again {s' : Shared} {h3 h4 : Heap} (g : Got X pins a B sI σ H cls d s' h3) (fl : HandSPX.FlyingZ B (X.env :: X.outer) a (Zc cls d) h4) (up : h3.UpToSlots h4) : Got X pins a B sI σ H cls d s' h4 := ⟨g.ok, g.J, g.nb, g.up.trans up, fl, g.na, g.os, g.ag⟩
theorem Got.inv {s' : Shared} {h3 : Heap} (g : Got X pins a B sI σ H cls d s' h3) : Inv X pins σ H { s' with heap := h3 } := g.J.landed g.nb g.fl.1 g.up g.os g.ag
theorem Got.in_ {s' : Shared} {h3 : Heap} (g : Got X pins a B sI σ H cls d s' h3) (hf : X.env.frame = some X.env.locals) : ∃ (oe : Obj) (vs : Array Value), h3.get? a = some oe ∧ Zc cls d oe ∧ oe.data = .fields vs ∧ Inv (X.suite a ((a, oe) :: (X.pn ++ pins))) [] σ H { s' with heap := h3 } := by
  obtain ⟨oe, vs, he, hz, hd⟩ := g.fl.there
  exact ⟨oe, vs, he, hz, hd, g.inv.suite he hd g.na (g.nL hf) g.nF⟩
/-- no clause takes it: it goes on, its frame noted -/
theorem Got.goes_on {s' : Shared} {h3 : Heap} (g : Got X pins a B sI σ H cls d s' h3) (hs : X.stack = X.env :: X.outer) (hf : X.env.frame = some X.env.locals) (tk : Takes X Wout) (hw : Wout cls d σ H) :
    wpAny (model X.prog X.w) X.A (handleBy (.ref a) X.env []) (SP X pins D) X.xe { s' with heap := h3 } := by
  obtain ⟨_, _, _, oe, vs, T, oT, _, at_a, _, rec, tb, _⟩ := id g.fl
  have thrown : wpAny (model X.prog X.w) X.A (setFlight (.ref a) X.env.frame) (fun _ z => wpAny (model X.prog X.w) X.A (throw (.ref a) : Sem Flow) (SP X pins D) X.xe z) X.xe { s' with heap := h3 } := hf ▸ HandSPX.setFlight_upZ g.fl fun h4 sky up =>
    wpAny_throw (tk _ _ ⟨a, B, sI, pins, σ, H, cls, d, rfl, g.J, g.nb, g.up.trans up, .inr (.inr (hs ▸ sky)), g.na, g.os, g.ag, hw⟩)
  have some_tb : ¬ ((Value.ref T == Value.none) = true) := fun z => nomatch eq_of_beq z
  refine wpAny_handleBy_nil (wpAny_bind (wpAny_field at_a rec tb ?_))
  rw [if_neg some_tb]
  first
    | exact wpAny_bind (wpAny_pure (wpAny_bind thrown))
    | exact wpAny_bind thrown
/-- a clause's class is looked up, and whether the caught one is of it -/
theorem Got.asked {s' : Shared} {h3 : Heap} (g : Got X pins a B sI σ H cls d s' h3) (hf : X.env.frame = some X.env.locals) {x : Str} {c : Value} {np : Pos} {b : Bool} (hc : Names X x c) (one : PySem.W.exmOne X.K cls c = some b) {Q : Bool → Shared → Prop} {E E' : Value → Shared → Prop} (h : Q b { s' with heap := h3 }) :
    wpAny (model X.prog X.w) (X.A.mark (some (.ref a))) (eval (.Name x np) X.env) (fun m s1 => wpAny (model X.prog X.w) (X.A.mark (some (.ref a))) (excMatches (.ref a) m) Q E' s1) E { s' with heap := h3 } := by
  obtain ⟨oe, _, at_a, of_, _, S⟩ := g.in_ hf
  have is_one : PySem.W.Looks (model X.prog X.w) h3 (excMatches (.ref a) c) b := PySem.W.exm_one g.inv.kIn (fun _ _ _ _ keep q => wpAny_typeOf_ref (keep _ _ at_a) (by rw [of_.1]; exact q)) one
  obtain ⟨glob, dbg, mine | ⟨none_, built, nn⟩⟩ := hc
  · exact ld_glob (X := X.suite a ((a, oe) :: (X.pn ++ pins))) S glob mine (is_one.here h) dbg
  · exact ld_blt (X := X.suite a ((a, oe) :: (X.pn ++ pins))) S glob none_ built (is_one.here h) nn dbg
/-- the clause that takes it: its note is laid, the suite runs, the note goes -/
theorem Got.taken {s' : Shared} {h4 : Heap} (g : Got X pins a B sI σ H cls d s' h4) (hf : X.env.frame = some X.env.locals) (hN : X.N.Nodup) {n : Str} {i : Nat} {ts : Addr → Value → Option Addr → TS} {suite : List Stmt} {pp : Pos} (hi : X.N[i]? = some n) (hl : X.env.kindOf n = some .local)
    (hsu : ∀ (a : Addr) (oe : Obj) (cls : Value) (d : Option Addr) (pn : List (Addr × Obj)), Zc cls d oe → (∃ vs, oe.data = .fields vs) → PSs (X.suite a ((a, oe) :: pn)) suite (ts a cls d)) (yes : ts a cls d (gone i D) (σ.set i (some (.ref a))) H) {E1 E2 : Value → Shared → Prop} :
    wpAny (model X.prog X.w) (X.A.mark (some (.ref a))) (storeName X.env n (.ref a)) (fun _ s1 => wpAny (model X.prog X.w) (X.A.mark (some (.ref a))) (execs suite X.env) (fun f s2 => wpAny (model X.prog X.w) X.A (do bindName X.env n .none; unbindBehindTheSuite X.env n pp) (fun _ s3 => SP X pins D f s3) X.xe s2) E2 s1) E1 { s' with heap := h4 } := by
  obtain ⟨oe, vs, _, of_, rec, S⟩ := g.in_ hf
  have behind : ∀ {σ6 : L2.St} {H6 : Hp} {s6 : Shared} {Q : Shared → Prop}, Inv (X.suite a ((a, oe) :: (X.pn ++ pins))) [] σ6 H6 s6 → (∀ s7, Inv X pins (σ6.set i none) H6 s7 → Q s7) → wpAny (model X.prog X.w) X.A (do bindName X.env n .none; unbindBehindTheSuite X.env n pp) (fun _ s7 => Q s7) X.xe s6 :=
    fun S6 q => gone_ok (S6.unsuite g.ok) hN hi hl q
  refine store_ok (X := X.suite a ((a, oe) :: (X.pn ++ pins))) (v := .ref a) S hN hi (.inl hl) rfl (fun s5 S5 => wpAny_mono ((hsu a oe cls d (X.pn ++ pins) of_ ⟨vs, rec⟩).run [] s5 _ H _ S5 yes) (fun f s6 ran => ?_) fun _ _ => False.elim) (.inr hl)
  cases f <;> dsimp only [SP, gone] at ran ⊢
  case ret u =>
    obtain ⟨v, σ6, H6, S6, rel, q⟩ := ran
    exact behind S6 fun s7 J => ⟨v, _, H6, J, rel, q⟩
  all_goals
    obtain ⟨σ6, H6, S6, q⟩ := ran
    exact behind S6 fun s7 J => ⟨_, H6, J, q⟩
theorem clauses {s' : Shared} (hs : X.stack = X.env :: X.outer) (hf : X.env.frame = some X.env.locals) (hN : X.N.Nodup) (tk : Takes X Wout) : ∀ {hds : List ExceptHandler} {l : List HdT}, HdAs X hds l → ∀ {h3 : Heap}, Got X pins a B sI σ H cls d s' h3 → wMA X.K Wout D l cls d σ H →
    wpAny (model X.prog X.w) X.A (handleBy (.ref a) X.env hds) (SP X pins D) X.xe { s' with heap := h3 }
  | _, _, .nil, _, g, hw => g.goes_on hs hf tk hw
  | _, _, .cons hc hi hl hsu r, h3, g, ⟨true, one, yes, _⟩ => by
    refine wpAny_handleBy_cons (codeAny_handlers_test (g.asked hf hc one (codeAny_handlers_suite_as (HandSPX.lands_againZ g.fl fun h4 fl up => ?_)))) (fun q => nomatch q)
    refine (g.again fl up).taken hf hN hi hl hsu (yes rfl a g.na)
  | _, _, .cons hc hi hl hsu r, h3, g, ⟨false, one, _, no⟩ => wpAny_handleBy_cons (codeAny_handlers_test (g.asked hf hc one (clauses hs hf hN tk r g (no rfl)))) (fun q => nomatch q)
/-- a flow out of a try's body is one of the whole statement -/
theorem flow_out {xe : Value → Shared → Prop} (ok : X.Ok) {f : Flow} {s1 : Shared} (h : SP (X.tr (X.pn ++ pins) xe) [] D f s1) : SP X pins D f s1 := by
  cases f <;> dsimp only [SP] at h ⊢
  case ret u => exact h.imp fun _ => Exists.imp fun _ => Exists.imp fun _ => And.imp_left fun J => J.ofTry ok
  all_goals exact h.imp fun _ => Exists.imp fun _ => And.imp_left fun J => J.ofTry ok
theorem ps_tryMA {body : List Stmt} {h₀ : ExceptHandler} {hds : List ExceptHandler} {l : List HdT} {pos : Pos} {tb : WX → TS} (hs : X.stack = X.env :: X.outer) (hf : X.env.frame = some X.env.locals) (hN : X.N.Nodup) (tk : Takes X Wout)
    (hb : ∀ (W : WX) (pn : List (Addr × Obj)) (xe : Value → Shared → Prop), Takes (X.tr pn xe) W → PassesOwn (model X.prog X.w) X.A X.env xe → PSs (X.tr pn xe) body (tb W)) (hh : HdAs X (h₀ :: hds) l) :
    PS X (.Try body (h₀ :: hds) [] [] pos) (fun D σ H => tb (wMA X.K Wout D l) D σ H) := by
  refine ⟨fun pins s σ H D I h => wpAny_Try_except ?_⟩
  have takes : Takes (X.tr (X.pn ++ pins) (fun e s₁ => wpAny (model X.prog X.w) X.A (noteFrame e X.env) (fun _ s₂ => wpAny (model X.prog X.w) X.A (setFlight e none) (fun _ s₃ => wpAny (model X.prog X.w) X.A (handleBy e X.env (h₀ :: hds)) (SP X pins D) X.xe s₃) X.xe s₂) X.xe s₁)) (wMA X.K Wout D l) := by
    rintro _ s' ⟨a, B, sI, pins', σ', H', cls, d, rfl, J, nb, up, sky, na, os, ag, hw⟩
    exact Sky.land Zc.steady (I.ok.frames.trans (congrArg some hs)) hf (hs ▸ sky) fun h3 fl up3 => clauses hs hf hN tk hh (Got.mk I.ok (J.ofTry I.ok) nb (up.trans up3) fl na os ag) hw
  refine wpAny_mono ((hb _ _ _ takes PassesOwn.looking).run [] s σ H D (I.toTry _) h) (fun f s1 ran => ?_) fun _ _ => id
  cases f with
  | next => exact wpAny_execs_nil (flow_out I.ok ran)
  | _ => exact flow_out I.ok ran
end
/-! ### raise -/
def qRaise (c : Nat) (f : Env → M T) : Sm := fun env r => ofM env (fun t r => .exn c t env r) (f env r)
/-- an exception class of the top, by its number -/
structure XcOk (P : Program) (G : Gm) (c : Nat) (fld : Str) : Prop where
  fl : G.fl c = [fld]
  cl : ∃ qn cA fI, G.mg (G.cn c) = some (.ref cA) ∧ SupX.Txt P G.K G.mg qn fld cA fI
  ok : SupX.FOk P fld
theorem ss_raise {X : Cx} {G : Gm} {W : WX} {a : Expr} {f : Env → M T} {c k : Nat} {x fld : Str} {p pos pos2 : Pos} (hc : X.calm = true) (hK : X.K = G.K) (hM : X.mg = G.mg) (tk : Takes X W) (hr : Room k X.A) (hk : 2 ≤ k) (xc : XcOk X.prog G c fld) (hx : x = G.cn c) (he : SE X G W a f) (hg : Gl X x)
    (hd : (x == ("__debug__" : Str)) = false := by decide) (hs : starEach (a :: []) X.env = (false, eval a X.env) :: starEach [] X.env := by rfl) (hpl : (backTo pos (starEach [] X.env)).any (·.1) = false := by rfl) :
    SS X G W (.Raise (some (.Call (.Name x p) [a] [] pos)) none pos2) (qRaise c f) := fun w0 H0 => by
  obtain ⟨qn, cA, fI, h1, h2⟩ := xc.cl
  rw [← hK, ← hM] at h2
  refine ps_imp (ps_raiseX hc h2 xc.ok hr hk tk (by rw [hM, hx]; exact h1) (pa_cons he pa_nil hs) hg hd hs hpl) fun D σ H ⟨w, env, r, a0, h⟩ => ?_
  refine at_e a0 h fun t r1 w1 H1 v a1 d h3 => ⟨v, rfl, fun dd hdd => ?_⟩
  have st : Step w1 H1 w1 (upd H1 dd (.xd [(fld, v)])) := (Step.refl w1 H1).priv hdd
  have g2 : Good G w1 (upd H1 dd (.xd [(fld, v)])) r1 := a1.g.priv (a1.g.nopub hdd) (a1.g.noref hdd) (.inl hdd)
  exact h3 w1 _ σ _ _ (a1.st.trans st) g2 (a1.s.step st) ⟨cA, dd, v, fld, h1, rfl, rfl, xc.fl, upd_same, d⟩
/-! ### what was caught -/
structure EI (G : Gm) (w : Wd) (H : Hp) (c : Nat) (p : T) (cls : Value) (d : Option Addr) : Prop where
  ex : ∃ cA dd v f, G.mg (G.cn c) = some (.ref cA) ∧ cls = .ref cA ∧ d = some dd ∧ G.fl c = [f] ∧ H dd = some (.xd [(f, v)]) ∧ dd ∉ w.R ∧ Den G w v p
theorem ExcIs.ei {G : Gm} {w : Wd} {H : Hp} {r : RS} {c : Nat} {p : T} {cls : Value} {d : Option Addr} (x : ExcIs G w H c p cls d) (g : Good G w H r) : EI G w H c p cls d := by
  obtain ⟨cA, dd, v, f, h1, h2, h3, h4, h5, h6⟩ := x.ex
  refine ⟨cA, dd, v, f, h1, h2, h3, h4, h5, fun hm => ?_, h6⟩
  obtain ⟨vs, e⟩ := g.refs.there hm
  rw [h5] at e
  cases e
theorem EI.step {G : Gm} {w w' : Wd} {H H' : Hp} {c : Nat} {p : T} {cls : Value} {d : Option Addr} (x : EI G w H c p cls d) (s : Step w H w' H') : EI G w' H' c p cls d := by
  obtain ⟨cA, dd, v, f, h1, h2, h3, h4, h5, h6, h7⟩ := x.ex
  exact ⟨cA, dd, v, f, h1, h2, h3, h4, s.fr _ _ h6 h5 (by intro _ e; cases e), s.noR h6 (vs_of h5), h7.mono s.later⟩
abbrev XF : XK := fun _ _ _ => False
theorem OutP.noW {α : Type} {G : Gm} {w : Wd} {H : Hp} {σ : L2.St} {P : α → RS → Wd → Hp → Prop} {o : Out α} (h : OutP G w H (WE0 W0 σ) P o) : OutP G w H XF P o := by
  cases o with
  | ok a r => exact h
  | exn c p r => exact h
  | bad => exact h
abbrev HM (α : Type) := Nat → T → Env → M α
section
variable {X : Cx} {G : Gm} {a : Addr} {cls : Value} {d : Option Addr} {i : Nat} {pos : Pos}
def tHE (G : Gm) (a : Addr) (cls : Value) (d : Option Addr) (i : Nat) (f : HM T) : TE := fun σ H Q => ∃ w H0 env r c p, Good G w H r ∧ Slots G w H0 H σ env ∧ σ[i]? = some (some (.ref a)) ∧ EI G w H c p cls d ∧ OutP G w H XF (fun t _ w' H' => ∀ v, Den G w' v t → Q v H') (f c p env r)
def tHA (G : Gm) (a : Addr) (cls : Value) (d : Option Addr) (i : Nat) (fs : List (HM T)) : TA := fun σ H Q => ∃ w H0 env r c p, Good G w H r ∧ Slots G w H0 H σ env ∧ σ[i]? = some (some (.ref a)) ∧ EI G w H c p cls d ∧ OutP G w H XF (fun ts _ w' H' => ∀ vs, Dens G w' vs ts → ts.length = fs.length → Q vs H') (fAll (fs.map fun f => f c p) env r)
def tHS (G : Gm) (a : Addr) (cls : Value) (d : Option Addr) (i : Nat) (hb : Nat → T → Sm) : TS := fun D σ H => ∃ w0 H0 w env r c p, At G w0 H0 w H σ env r ∧ σ[i]? = some (some (.ref a)) ∧ EI G w H c p cls d ∧ FlowP G W0 w0 H0 D (hb c p env r)
theorem he_of {e : Expr} {f : Env → M T} (h : SE X G W0 e f) : PE X e (tHE G a cls d i fun _ _ => f) := pe_imp h fun σ H Q ⟨w, H0, env, r, c, p, g, s, _, _, h⟩ => ⟨w, H0, env, r, g, s, h⟩
theorem ha_nil : PA X [] (tHA G a cls d i []) := pa_imp pa_nil fun σ H Q ⟨w, H0, env, r, c, p, g, s, _, _, h⟩ => OutP.here g h [] .nil rfl
theorem ha_cons {e : Expr} {es : List Expr} {f : HM T} {fs : List (HM T)} (h1 : PE X e (tHE G a cls d i f)) (h2 : PA X es (tHA G a cls d i fs)) (hs : starEach (e :: es) X.env = (false, eval e X.env) :: starEach es X.env := by rfl) : PA X (e :: es) (tHA G a cls d i (f :: fs)) :=
  pa_imp (pa_cons h1 h2 hs) fun σ H Q ⟨w, H0, env, r, c, p, g, s, e1, ei, h⟩ => by
    have h : OutP G w H XF (fun ts _ w' H' => ∀ vs, Dens G w' vs ts → ts.length = (f :: fs).length → Q vs H') ((f c p env >>= fun x => fAll (fs.map fun f => f c p) env >>= fun xs => pure (x :: xs)) r) := h
    refine ⟨w, H0, env, r, c, p, g, s, e1, ei, h.bind.imp fun t r1 w1 H1 st1 g1 o v dv => ?_⟩
    refine ⟨w1, H0, env, r1, c, p, g1, s.step st1, e1, ei.step st1, o.bind.imp fun ts r2 w2 H2 st2 g2 o2 vs dvs l => ?_⟩
    exact OutP.here g2 o2 (v :: vs) (.cons (dv.mono st2.later) dvs) (by rw [List.length_cons, List.length_cons, l])
theorem he_tup {es : List Expr} {fs : List (HM T)} {j : Nat} (ha : PA X es (tHA G a cls d i fs)) (hl : fs.length ≤ 1000 := by decide) : PE X (.Tuple es j pos) (tHE G a cls d i fun c p => fTup (fs.map fun f => f c p)) :=
  pe_imp (pe_tup ha) fun σ H Q ⟨w, H0, env, r, c, p, g, s, e1, ei, h⟩ => by
    refine ⟨w, H0, env, r, c, p, g, s, e1, ei, h.bind.imp fun ts r1 w1 H1 st1 g1 o vs d1 l => ?_⟩
    have hz : ts.length ≤ sizeLine := by rw [l]; exact Nat.le_trans hl (by decide)
    refine ⟨by rw [d1.length]; exact hz, fun q hq => ?_⟩
    obtain ⟨st, g2⟩ := g1.new (o := .tup vs) hq
    exact o _ _ st g2 _ (.tup (.inl upd_same) hz (d1.mono st.later))
/-- what must be known of a class, that a field of its exceptions be read -/
structure XgOk (G : Gm) (c : Nat) (fld : Str) : Prop where
  fl : G.fl c = [fld]
  ga : ∀ cA, G.mg (G.cn c) = some (.ref cA) → PySem.W.findIn G.K (.ref cA) "__getattribute__" = some (some (.builtin "BaseException.__getattribute__")) ∧ PySem.W.findIn G.K (.ref cA) "__getattr__" = some none ∧ PySem.W.subIn G.K (.ref cA) (.type "BaseException") = some true ∧ PySem.W.hasDictIn G.K cA = true ∧ PySem.W.findIn G.K (.ref cA) fld = some none
def hFld (xf : Nat → Bool) : HM T := fun c p _ => if xf c = true then pure p else M.bad
theorem he_fld {oe : Obj} {pn : List (Addr × Obj)} {n fld : Str} {np : Pos} (hK : X.K = G.K) (hz : Zc cls d oe) (hf : ∃ vs, oe.data = .fields vs) (xf : Nat → Bool) (ok : ∀ c, xf c = true → XgOk G c fld) (hN : X.N[i]? = some n) (hv : Vis X.env.scope n)
    (hb : attributeBase (.Name n np) fld (X.suite a ((a, oe) :: pn)).env (eval (.Name n np) (X.suite a ((a, oe) :: pn)).env) = eval (.Name n np) (X.suite a ((a, oe) :: pn)).env := by rfl) (hd : (n == ("__debug__" : Str)) = false := by decide) (hcd : (n == ("__classdict__" : Str)) = false := by decide) :
    PE (X.suite a ((a, oe) :: pn)) (.Attribute (.Name n np) fld pos) (tHE G a cls d i (hFld xf)) := by
  refine ⟨fun pins s σ H Q I ⟨w, H0, env, r, c, p, g, sl, e1, ei, h⟩ => ?_⟩
  refine attr_of hb (thn ((pe_var (X := X.suite a ((a, oe) :: pn)) (pos := np) (i := i) hN hv hd hcd).run pins s σ H (fun v H1 => v = .ref a ∧ H1 = H) I ⟨.ref a, e1, rfl, rfl⟩) fun u s1 ⟨v, H1, I1, r1, q1⟩ => ?_)
  obtain ⟨ev, eH⟩ := q1
  subst ev
  rw [eH] at I1
  obtain rfl : u = Value.ref a := r1
  unfold hFld at h
  by_cases hx : xf c = true
  · rw [if_pos hx] at h
    obtain ⟨fl, ga⟩ := ok c hx
    obtain ⟨cA, dd, v, f, k1, k2, k3, k4, k5, k6, k7⟩ := ei.ex
    rw [fl] at k4
    cases k4
    obtain ⟨ga1, ga2, ga3, ga4, ga5⟩ := ga cA k1
    rw [← hK] at ga1 ga2 ga3 ga4 ga5
    subst k2
    subst k3
    obtain ⟨ha, _⟩ := I1.pin (a, oe) (List.mem_append_left _ List.mem_cons_self)
    obtain ⟨vs, hd'⟩ := hf
    have hxd : ObjOk X.prog X.w H s1.heap dd (.xd [(fld, v)]) := I1.hok dd _ k5
    obtain ⟨mA, hns, hr⟩ := hxd
    obtain ⟨od, ho, hl⟩ := lookIn_ns hns
    have l : List.lookup fld [(fld, v)] = some v := by simp [List.lookup]
    obtain ⟨u, hu, ru⟩ := RelO.some_of (v := v) (o := mA fld) (by rw [← l]; exact hr fld)
    have J : PySem.W.InstAt s1.heap a oe cA (some od) := ⟨ha, hz.1, by unfold PySem.W.notCls; rw [hd'] <;> rfl, by rw [hz.2]; exact ho⟩
    exact HandSPX.exc_get I1.kIn J ga1 ga2 ga3 (PySem.W.findObj_own ga4 ga5 rfl (by rw [hl, hu])) (handed_of ru) ⟨v, H, I1.tok _, ru, OutP.here g h v k7⟩
  · rw [if_neg hx] at h
    exact h.elim
/-- return e, in a suite -/
def hRet (f : HM T) : Nat → T → Sm := fun c p env r => ofM env (fun t r => .rt t r) (f c p env r)
end
end Ep
namespace Ep
open PySem PySem.Spec L2 PyProof.Rows
/-! ### try -/
abbrev HdS := (Nat → Option Bool) × Nat × (Nat → T → Sm)
def unS (i : Nat) : SO → SO
  | .nx env r => .nx (env.set i .un) r
  | .bk env r => .bk (env.set i .un) r
  | .ct env r => .ct (env.set i .un) r
  | .rt t r => .rt t r
  | .exn _ _ _ _ => .bad
  | .bad => .bad
def pickH : List HdS → Nat → T → Sm
  | [], c, p, env, r => .exn c p env r
  | (m, i, hb) :: rest, c, p, env, r => match m c with
    | some true => if i < env.length then unS i (hb c p (env.set i .un) r) else .bad
    | some false => pickH rest c p env r
    | none => .bad
def qTry (g : Sm) (hs : List HdS) : Sm := fun env r => match g env r with
  | .exn c p e r' => pickH hs c p e r'
  | o => o
section
variable {X : Cx} {G : Gm} {W : WX}
/-- clauses compute hs -/
def HG (X : Cx) (G : Gm) (W : WX) (hds : List ExceptHandler) (hs : List HdS) : Prop := ∃ l, HdAs X hds l ∧ ∀ (w0 : Wd) (H0 : Hp) (D : Ends) (c : Nat) (p : T) (env : Env) (r : RS), FlowP G W w0 H0 D (pickH hs c p env r) →
  ∀ w' H' σ' cls d, Step w0 H0 w' H' → Good G w' H' r → Slots G w' H0 H' σ' env → ExcIs G w' H' c p cls d → wMA X.K W D l cls d σ' H'
theorem hg_nil : HG X G W [] [] := ⟨[], .nil, fun w0 H0 D c p env r h => h⟩
/-- the classes that a clause takes -/
structure XmOk (K : PySem.W.Frag) (G : Gm) (u : Value) (m : Nat → Option Bool) : Prop where
  ok : ∀ c cA b, G.mg (G.cn c) = some (.ref cA) → m c = some b → PySem.W.exmOne K (.ref cA) u = some b
theorem unS_gone {w0 : Wd} {H0 : Hp} {D : Ends} {i : Nat} {o : SO} (h : FlowP G W w0 H0 D (unS i o)) : FlowP G W0 w0 H0 (gone i D) o := by
  cases o with
  | nx env r => exact fun w' H' σ' st g s => h w' H' _ st g (s.setUn i)
  | bk env r => exact fun w' H' σ' st g s => h w' H' _ st g (s.setUn i)
  | ct env r => exact fun w' H' σ' st g s => h w' H' _ st g (s.setUn i)
  | rt t r => exact fun w' H' v st g dv => h w' H' v st g dv
  | exn c p e r => exact h.elim
  | bad => exact h.elim
theorem hg_cons {x n : Str} {c : Value} {i : Nat} {b₀ : Stmt} {suite : List Stmt} {np pp : Pos} {hds : List ExceptHandler} {m : Nat → Option Bool} {hb : Nat → T → Sm} {hs : List HdS} (hc : Names X x c) (hi : X.N[i]? = some n) (hl : X.env.kindOf n = some .local) (xm : XmOk X.K G c m)
    (hsu : ∀ (a : Addr) (oe : Obj) (cls : Value) (d : Option Addr) (pn : List (Addr × Obj)), Zc cls d oe → (∃ vs, oe.data = .fields vs) → PSs (X.suite a ((a, oe) :: pn)) (b₀ :: suite) (tHS G a cls d i hb)) (r : HG X G W hds hs) :
    HG X G W (.ExceptHandler (some (.Name x np)) (some n) (b₀ :: suite) pp :: hds) ((m, i, hb) :: hs) := by
  obtain ⟨l, h1, h2⟩ := r
  refine ⟨(c, i, fun a cls d => tHS G a cls d i hb) :: l, .cons hc hi hl hsu h1, fun w0 H0 D k p env r h w' H' σ' cls d st g s ex => ?_⟩
  obtain ⟨cA, dd, v, f, k1, k2, k3⟩ := ex.ex
  have h : FlowP G W w0 H0 D (match m k with
    | some true => if i < env.length then unS i (hb k p (env.set i .un) r) else .bad
    | some false => pickH hs k p env r
    | none => .bad) := h
  cases q : m k with
  | none => rw [q] at h; exact h.elim
  | some b =>
    rw [q] at h
    have hm := xm.ok k cA b k1 q
    rw [← k2] at hm
    refine ⟨b, hm, fun hb1 a na => ?_, fun hb1 => ?_⟩
    · subst hb1
      have h : FlowP G W w0 H0 D (if i < env.length then unS i (hb k p (env.set i .un) r) else .bad) := h
      by_cases hl : i < env.length
      · rw [if_pos hl] at h
        exact ⟨w0, H0, w', env.set i .un, r, k, p, ⟨st, g, s.setUn i⟩, by rw [List.getElem?_set_self (by rw [s.len]; exact hl)], ex.ei g, unS_gone h⟩
      · rw [if_neg hl] at h; exact h.elim
    · subst hb1
      exact h2 w0 H0 D k p env r h w' H' σ' cls d st g s ex
theorem ss_try {body : List Stmt} {h₀ : ExceptHandler} {hds : List ExceptHandler} {hs : List HdS} {pos : Pos} {g : Sm} (hst : X.stack = X.env :: X.outer) (hf : X.env.frame = some X.env.locals) (hN : X.N.Nodup) (tk : Takes X W)
    (hb : ∀ (W' : WX) (pn : List (Addr × Obj)) (xe : Value → Shared → Prop), Takes (X.tr pn xe) W' → PassesOwn (model X.prog X.w) X.A X.env xe → SSs (X.tr pn xe) G W' body g) (hh : HG X G W (h₀ :: hds) hs) :
    SS X G W (.Try body (h₀ :: hds) [] [] pos) (qTry g hs) := fun w0 H0 => by
  obtain ⟨l, h1, h2⟩ := hh
  refine ps_imp (ps_tryMA (tb := fun W' => tSS G W' w0 H0 g) hst hf hN tk (fun W' pn xe t po => hb W' pn xe t po w0 H0) h1) fun D σ H ⟨w, env, r, a, h⟩ => ⟨w, env, r, a, ?_⟩
  unfold qTry at h
  cases q : g env r with
  | exn c p e r' =>
    rw [q] at h
    exact fun w' H' σ' cls d st g' s x => h2 w0 H0 D c p e r' h w' H' σ' cls d st g' s x
  | nx e r' => rw [q] at h; exact h
  | rt t r' => rw [q] at h; exact h
  | bk e r' => rw [q] at h; exact h
  | ct e r' => rw [q] at h; exact h
  | bad => rw [q] at h; exact h
end
/-! ### a lambda handed to a def that tries it -/
section
variable {X : Cx} {G : Gm} {Ng : List Str} {x a q : Str} {sg : Scope} {g : Addr} {cdg : Value} {n : Nat} {h₀ : ExceptHandler} {hds : List ExceptHandler} {hs : List HdS} {restB : List Stmt} {rest : Sm} {p1 p2 p3 p4 : Pos}
end
section
variable {X : Cx} {G : Gm} {W : WX}
end
/-! ### a def that makes lambdas: its code's address -/
section
variable {P : Program} {wd : World} {base : Heap} {G : Gm} {k : Nat} {x qual : Str} {st : Stmt} {f : Addr} {fd : FuncData} {N ps : List Str} {n m : Nat} {g : Sm} {dv : List V} {kw : List (Str × V)}
end
/-! ### the end, with tables -/
end Ep
namespace Ep
open PySem PySem.Spec L2 PyProof.Rows
/-! ### own __contains__; own comparisons with what is no instance; names of several classes -/
section
variable {X : Cx} {G : Gm} {W : WX} {pos : Pos} {a b : Expr} {f g : Env → M T} {C j k : Nat} {F : List T → M T} {m : Str}
/-- compared with a text, a number, nothing, a list, a tuple -/
def plainT : T → Option String
  | .str _ => some "str"
  | .int _ => some "int"
  | .bl _ => some "bool"
  | .non => some "NoneType"
  | .lst _ => some "list"
  | .kls _ => some "list"
  | .tup _ => some "tuple"
  | _ => none
def own2x (C : Nat) (F : List T → M T) : T → T → M T := fun x y => if (plainT y).isSome = true then own2 C F x y else own2s C F x y
theorem own2x_ne {C : Nat} {F : List T → M T} (t u : T) (r : RS) (c : Nat) (p : T) (r' : RS) : own2x C F t u r ≠ .exn c p r' := by
  unfold own2x
  split
  · exact own2_ne _ _ _ _ _ _
  · exact own2s_ne _ _ _ _ _ _
/-- no class above the builtin one -/
structure PxOk (G : Gm) (C : Nat) : Prop where
  ok : ∀ cA, G.mg (G.cn C) = some (.ref cA) → PySem.W.notFirst G.K cA (.type "str") = true ∧ PySem.W.notFirst G.K cA (.type "int") = true ∧ PySem.W.notFirst G.K cA (.type "bool") = true ∧ PySem.W.notFirst G.K cA (.type "NoneType") = true ∧
    PySem.W.notFirst G.K cA (.type "list") = true ∧ PySem.W.notFirst G.K cA (.type "tuple") = true
theorem op_ownX {op : CmpOp} (hop : ∀ a b, compareOp op a b = richCompare op a b) (px : PxOk G C) (D : MethOk X.prog X.w X.base G k C (cmpInfo op).2.1 2 [] F) (hK : X.K = G.K) (hM : X.mg = G.mg) (hr : Room j X.A) (hk : k ≤ j) : OpR X (compareOp op) (r2own G C (own2x C F)) := by
  intro pins s σ H x y v u Q I rx ry h
  obtain ⟨w, r, t, u', g0, d1, d2, h⟩ := h
  unfold own2x at h
  by_cases hp : (plainT u').isSome = true
  · rw [if_pos hp] at h
    obtain ⟨p, cA, fn, od, rfl, c, J, fi, ff, run⟩ := own_args D hK hM hr hk I rx ry ⟨w, r, t, u', g0, d1, d2, h⟩
    obtain ⟨mm, hF⟩ := I.fr
    obtain ⟨n1, n2, n3, n4, n5, n6⟩ := px.ok cA c
    rw [← hK] at n1 n2 n3 n4 n5 n6
    rw [hop]
    have fin : ∀ {w' : Value} {s' : Shared}, EP X pins σ Q w' s' → PySem.W.CmpBack (EP X pins σ Q) w' s' := fun {w' s'} z => by
      obtain ⟨z', H', I', rz, qz⟩ := z
      exact SlX.cmpback rz ⟨z', H', I', rz, qz⟩
    cases d2 with
    | str x =>
      obtain ⟨tk, rfl⟩ := ry
      exact PySem.W.cmp_K (op := op) (tb := .type "str") hr.units0 hF I.ok.mod.kin J (PySem.W.Looks.of_pure rfl) n1 fi ff (wpAny_mono (run X.A (hr.mono hk) I.env0) (fun w s' z => fin z) fun _ _ e => e)
    | int i =>
      obtain ⟨tk, rfl⟩ := ry
      exact PySem.W.cmp_K (op := op) (tb := .type "int") hr.units0 hF I.ok.mod.kin J (PySem.W.Looks.of_pure rfl) n2 fi ff (wpAny_mono (run X.A (hr.mono hk) I.env0) (fun w s' z => fin z) fun _ _ e => e)
    | bl b =>
      obtain rfl : u = Value.bool b := ry
      exact PySem.W.cmp_K (op := op) (tb := .type "bool") hr.units0 hF I.ok.mod.kin J (PySem.W.Looks.of_pure rfl) n3 fi ff (wpAny_mono (run X.A (hr.mono hk) I.env0) (fun w s' z => fin z) fun _ _ e => e)
    | non =>
      obtain rfl : u = Value.none := ry
      exact PySem.W.cmp_K (op := op) (tb := .type "NoneType") hr.units0 hF I.ok.mod.kin J (PySem.W.Looks.of_pure rfl) n4 fi ff (wpAny_mono (run X.A (hr.mono hk) I.env0) (fun w s' z => fin z) fun _ _ e => e)
    | @lst qa qvs qts hq z dd =>
      have hl : SqL X.K H qa qvs := by rw [hK]; exact g0.sub.seq (.inl (.inl hq))
      obtain ⟨its, _, pl, _⟩ := I.list hl
      obtain rfl := ry
      obtain ⟨o, n, ho, hc, _, _⟩ := pl
      have LT : PySem.W.Looks (model X.prog X.w) s.heap (typeOf (.ref qa)) o.cls := (PySem.W.Looks.ld ho).andThen .now
      rw [hc] at LT
      exact PySem.W.cmp_K (op := op) (tb := .type "list") hr.units0 hF I.ok.mod.kin J LT n5 fi ff (wpAny_mono (run X.A (hr.mono hk) I.env0) (fun w s' z => fin z) fun _ _ e => e)
    | @kls qa qvs qts hq z dd =>
      have hl : SqL X.K H qa qvs := by rw [hK]; exact g0.sub.seq hq
      obtain ⟨its, _, pl, _⟩ := I.list hl
      obtain rfl := ry
      obtain ⟨o, n, ho, hc, _, _⟩ := pl
      have LT : PySem.W.Looks (model X.prog X.w) s.heap (typeOf (.ref qa)) o.cls := (PySem.W.Looks.ld ho).andThen .now
      rw [hc] at LT
      exact PySem.W.cmp_K (op := op) (tb := .type "list") hr.units0 hF I.ok.mod.kin J LT n5 fi ff (wpAny_mono (run X.A (hr.mono hk) I.env0) (fun w s' z => fin z) fun _ _ e => e)
    | @tup qa qvs qts hq z dd =>
      have hl : SqT X.K H qa qvs := by rw [hK]; exact tup_sq g0.sub hq
      obtain ⟨its, _, pl, _⟩ := I.tuple hl
      obtain rfl := ry
      obtain ⟨o, ho, hc, _⟩ := pl
      have LT : PySem.W.Looks (model X.prog X.w) s.heap (typeOf (.ref qa)) o.cls := (PySem.W.Looks.ld ho).andThen .now
      rw [hc] at LT
      exact PySem.W.cmp_K (op := op) (tb := .type "tuple") hr.units0 hF I.ok.mod.kin J LT n6 fi ff (wpAny_mono (run X.A (hr.mono hk) I.env0) (fun w s' z => fin z) fun _ _ e => e)
    | _ => cases hp
  · rw [if_neg hp] at h
    exact op_ownC hop D hK hM hr hk pins s σ H x y v u Q I rx ry ⟨w, r, t, u', g0, d1, d2, h⟩
end
/-! ### a list taken apart -/
def hTupL (n : Nat) (hs : List T → Env → Option Env) : T → Env → Option Env := fun t env => match t with
  | .tup ts => if ts.length = n then hs ts env else none
  | .lst ts => if ts.length = n then hs ts env else none
  | _ => none
theorem g_lst {X : Cx} {G : Gm} {pos : Pos} {us : List Nat} {es : List Expr} {k n : Nat} {hs : List T → Env → Option Env} (hc : X.calm = true) (hK : X.K = G.K) (h : SGs X G us es hs) (hn : (assignEach es X.env).length = n := by rfl) (hst : (assignEach es X.env).findIdx? (·.1) = none := by rfl) :
    ∀ w0 H0, PG X (.Tuple es k pos) (fun v σ H Q => ∃ w env r t env', At G w0 H0 w H σ env r ∧ Den G w v t ∧ (∃ ts, t = .lst ts ∧ ts.length = n ∧ hs ts env = some env') ∧ ∀ σ', Slots G w H0 H σ' env' → But us σ σ' → Q σ' H) := fun w0 H0 =>
  pg_imp (pg_lst hc (h w0 H0) hn hst) fun v σ H Q ⟨w, env, r, t, env', a, d, ⟨ts, et, hl, e⟩, q⟩ => by
    subst et
    cases d with
    | @lst p vs ts hh z dd =>
      rw [hK]
      exact ⟨p, vs, rfl, SqL.of (a.g.sub _ _ hh), by rw [dd.length]; exact hl, w, env, r, ts, env', a, dd, e, q⟩
/-- a target that takes tuples or lists -/
theorem pg_or {X : Cx} {tg : Expr} {t1 t2 : TG} (h1 : PG X tg t1) (h2 : PG X tg t2) : PG X tg (fun v σ H Q => t1 v σ H Q ∨ t2 v σ H Q) := ⟨fun pins s σ H v u Q I r q => by
  rcases q with q | q
  · exact h1.run pins s σ H v u Q I r q
  · exact h2.run pins s σ H v u Q I r q⟩
theorem g_tl {X : Cx} {G : Gm} {pos : Pos} {us : List Nat} {es : List Expr} {k n : Nat} {hs : List T → Env → Option Env} (hc : X.calm = true) (hK : X.K = G.K) (h : SGs X G us es hs) (hn : (assignEach es X.env).length = n := by rfl) (hst : (assignEach es X.env).findIdx? (·.1) = none := by rfl) : SG X G us (.Tuple es k pos) (hTupL n hs) := fun w0 H0 =>
  pg_imp (pg_or (g_tup (k := k) (pos := pos) hc hK h hn hst w0 H0) (g_lst (k := k) (pos := pos) hc hK h hn hst w0 H0)) fun v σ H Q ⟨w, env, r, t, env', a, d, e, q⟩ => by
    cases t with
    | tup ts => exact .inl ⟨w, env, r, _, env', a, d, e, q⟩
    | lst ts =>
      have e : (if ts.length = n then hs ts env else none) = some env' := e
      by_cases hl : ts.length = n
      · rw [if_pos hl] at e; exact .inr ⟨w, env, r, _, env', a, d, ⟨ts, rfl, hl, e⟩, q⟩
      · rw [if_neg hl] at e; cases e
    | _ => cases e
theorem Bd.tl {X : Cx} {G : Gm} {W : WX} {j : Nat} {pos : Pos} {es : List Expr} (B : Bd X G W j) {us : List Nat} {kk : Nat} {hs : List T → Env → Option Env} (n : Nat) (h : SGs X G us es hs) (hn : (assignEach es X.env).length = n := by rfl) (hst : (assignEach es X.env).findIdx? (·.1) = none := by rfl) : SG X G us (.Tuple es kk pos) (hTupL n hs) := g_tl B.calm B.eK h hn hst
end Ep
namespace Ep
open PySem PySem.Spec L2 PyProof.Rows
/-! ### comprehensions with two clauses -/
/-- the new list at D holds acc -/
structure CS (G : Gm) (D : Addr) (w1 : Wd) (H1 : Hp) (acc : List T) (w' : Wd) (H' : Hp) (r' : RS) : Prop where
  st : Step w1 H1 w' H'
  g : Good G w' H' r'
  hP : w'.P D = none
  hR : D ∉ w'.R
  at_ : ∃ vs, H' D = some (.lst vs) ∧ Dens G w' vs acc
  z : acc.length ≤ sizeLine
theorem CS.step {G : Gm} {D : Addr} {w1 w' w2 : Wd} {H1 H' H2 : Hp} {acc : List T} {r' r2 : RS} (c : CS G D w1 H1 acc w' H' r') (s : Step w' H' w2 H2) (g : Good G w2 H2 r2) : CS G D w1 H1 acc w2 H2 r2 := by
  obtain ⟨vs, h1, h2⟩ := c.at_
  exact ⟨c.st.trans s, g, s.hid D c.hR (vs_of h1) c.hP, s.noR c.hR (vs_of h1), ⟨vs, s.fr D _ c.hR h1 (by intro _ e; cases e), h2.mono s.later⟩, c.z⟩
theorem CS.app {G : Gm} {D : Addr} {w1 w' : Wd} {H1 H' : Hp} {acc : List T} {r' : RS} {v : V} {t : T} (c : CS G D w1 H1 acc w' H' r') (hD : ¬ Vs H1 D) (d : Den G w' v t) (hl : acc.length < sizeLine) : ∃ vs, H' D = some (.lst vs) ∧ vs.length < sizeLine ∧ CS G D w1 H1 (acc ++ [t]) w' (upd H' D (.lst (vs ++ [v]))) r' := by
  obtain ⟨vs, h1, h2⟩ := c.at_
  exact ⟨vs, h1, by rw [h2.length]; exact hl, c.st.chg hD, c.g.priv c.hP c.hR (.inr ⟨_, h1, ⟨fun _ e => (by cases e), fun _ _ e => (by unfold LamX.CodeO at e; cases e)⟩⟩), c.hP, c.hR, ⟨_, upd_same, h2.append (.cons d .nil)⟩, by rw [List.length_append, List.length_singleton]; exact hl⟩
open Classical in
section
variable {G : Gm} {w w1 : Wd} {Hb H1 : Hp} {σ : L2.St} {D : Addr} {f : Env → M T} {p : Env → M Bool} {h : T → Env → Option Env} {us vs : List Nat}
end
end Ep
namespace Ep
open PySem PySem.Spec L2 PyProof.Rows He
/-! ### what the head tells of own exceptions -/
abbrev SupW : Type := Option (Str × Str × Arguments × FuncBody × Scope × Addr × Addr)
def supW (K : PySem.W.Frag) (f : Addr) : SupW := match K.lookup f with
  | some ⟨_, _, .func fd, _⟩ => some (fd.name, fd.qualname, fd.params, fd.body, fd.scope, fd.globals, fd.builtins)
  | _ => none
def supV (qn : Str) (st : Stmt) : SupW := some ("__init__", qn, defArgs st, .stmts (defBody st), defScope st, mainGlobals, builtinsNs)
/-- the class at C is written below b: its order of classes begins with itself, the built-in's follow; its maker is b's; its instances have a dict -/
def excCdB (b : SupX.XB) (C : Addr) (cd : ClassData) : Bool := cd.hasDict && (!cd.hasDel && (cd.mro.head? == some (.ref C) && PySem.W.excTail b.tl cd.mro.tail))
def excSlB (b : SupX.XB) (sl : List (Option Value)) : Bool := sl.length == 6 && sl[4]? == some (some (.builtin b.nw))
def excClsB (b : SupX.XB) (K : PySem.W.Frag) (C : Addr) : Bool := match K.lookup C with
  | some o => match o.cls, o.data with
    | .type n, .cls cd => n == "type" && (excSlB b o.slots.toList && excCdB b C cd)
    | _, _ => false
  | none => false
theorem excSlB_ok {b : SupX.XB} : ∀ {sl : Array (Option Value)}, excSlB b sl.toList = true → ∃ k0 k1 k2 k3 k5, sl = #[k0, k1, k2, k3, some (.builtin b.nw), k5]
  | ⟨l⟩, q => by
    obtain ⟨six, fifth⟩ := Bool.and_eq_true_iff.mp q
    match l, six, fifth with
    | [k0, k1, k2, k3, k4, k5], _, fifth => exact ⟨k0, k1, k2, k3, k5, by rw [Option.some.inj (eq_of_beq fifth)]⟩
theorem excCdB_ok {b : SupX.XB} {C : Addr} : ∀ {cd : ClassData}, excCdB b C cd = true → ∃ nm bs bm N qq sn sub ab col, cd = ⟨nm, bs, .ref C :: bm, N, qq, true, sn, sub, ab, col, false⟩ ∧ PySem.W.excTail b.tl bm = true
  | ⟨_, _, _, _, _, false, _, _, _, _, _⟩, q => absurd q Bool.false_ne_true
  | ⟨_, _, _, _, _, true, _, _, _, _, true⟩, q => absurd q Bool.false_ne_true
  | ⟨_, _, [], _, _, true, _, _, _, _, false⟩, q => absurd q Bool.false_ne_true
  | ⟨nm, bs, own :: bm, N, qq, true, sn, sub, ab, col, false⟩, q => by
    obtain ⟨first, tail⟩ := Bool.and_eq_true_iff.mp (show ((some own == some (Value.ref C)) && PySem.W.excTail b.tl bm) = true from q)
    cases Option.some.inj (eq_of_beq first)
    exact ⟨nm, bs, bm, N, qq, sn, sub, ab, col, rfl, tail⟩
theorem excClsB_ok {b : SupX.XB} {K : PySem.W.Frag} {C : Addr} (q : excClsB b K C = true) : ∃ nm qq N bs bm sn sub ab col dd k0 k1 k2 k3 k5, K.lookup C = some (excClassObj nm qq C N bs bm true sn sub ab col dd k0 k1 k2 k3 k5 b.nw) ∧ PySem.W.excTail b.tl bm = true := by
  unfold excClsB at q
  cases look : K.lookup C with
  | none => rw [look] at q; exact absurd q Bool.false_ne_true
  | some o =>
    rw [look] at q
    obtain ⟨ty, dd, dat, sl⟩ := o
    dsimp only at q
    split at q
    · obtain ⟨isT, q⟩ := Bool.and_eq_true_iff.mp q
      obtain ⟨six, q⟩ := Bool.and_eq_true_iff.mp q
      obtain ⟨k0, k1, k2, k3, k5, es⟩ := excSlB_ok six
      obtain ⟨nm, bs, bm, N, qq, sn, sub, ab, col, ec, tail⟩ := excCdB_ok q
      cases eq_of_beq isT
      cases es
      cases ec
      exact ⟨nm, qq, N, bs, bm, sn, sub, ab, col, dd, k0, k1, k2, k3, k5, rfl, tail⟩
    · exact absurd q Bool.false_ne_true
/-- the parts of __init__ that differ from program to program -/
def supFn (P : Program) (K : PySem.W.Frag) (C f : Addr) (qn : Str) : Bool := match K.lookup f with
  | some ⟨_, _, .func fd, _⟩ => decide (fd.defaults = .none) && (decide (fd.kwdefaults = .none) && (PySem.W.codeIn K fd.code qn && ((match fd.closure with
    | [(x, cc)] => decide (x = "__class__") && (match K.lookup cc with
      | some ⟨_, _, .cell (some (.ref D)), _⟩ => D == C
      | _ => false)
    | _ => false) && (match fd.code with
    | .ref cda => (match K.lookup cda with
      | some ⟨_, _, .fields vs, _⟩ => (match (vs[2]? : Option Value) with
        | some (Value.str file _) => (P.main.file : Str) == file
        | _ => false)
      | _ => false)
    | _ => false))))
  | _ => false
def supL (b : SupX.XB) (P : Program) (K : PySem.W.Frag) (C : Addr) (qn f : Str) : List Bool := [excClsB b K C, eqO (PySem.W.findIn K (.ref C) "__setattr__") (some (some (.builtin "object.__setattr__"))), eqO (PySem.W.findIn K (.ref C) f) (some none), eqO (PySem.W.findIn K (.ref C) "__init__") (some (some (.ref (ma K C "__init__")))),
  decide (PySem.W.typeIn K (.ref (ma K C "__init__")) = some (.type "function")), PySem.W.keepIn K (.ref C), decide (PySem.W.subIn K (.ref C) (.type "BaseException") = some true), decide (PySem.W.subIn K (.ref C) (.type b.B) = some true), decide (PySem.W.typeIn K (.ref C) = some (.type "type")),
  eqO (PySem.W.ks_superIn K C C "__init__") (some (some (.builtin b.ini))), decide (PySem.W.mroIn K C (.ref C) = some true), eqO (PySem.W.nsIn K mainGlobals "super") (some none), eqO (PySem.W.nsIn K cStatics "thirdparty.any") (some none), supFn P K C (ma K C "__init__") qn]
theorem all_at {l : List Bool} (h : l.all id = true) (i : Nat) {b : Bool} (e : l[i]? = some b) : b = true := List.all_eq_true.mp h b (List.mem_of_getElem? e)
/-- the text of such an __init__ -/
structure SupT (f : Str) (st : Stmt) : Prop where
  ar : ∃ p1 p2, defArgs st = SupX.iA f p1 p2
  sc : defScope st = SupX.iS f
  bd : ∃ a1 a2 a3 a4 a5 a6 q1 q2 q3 q4, defBody st = SupX.iB f a1 a2 a3 a4 a5 a6 q1 q2 q3 q4 ∧ ∀ (qn : Str) (L fI cc : Addr) (cdv : Value), ∃ pl : Sem Bool, eval (.Call (.Attribute (.Call (.Name "super" a1) [] [] a2) "__init__" a3) [.Name f a4] [] a5) (PySem.W.ksEnv qn (SupX.iS f) L fI cdv cc) = (do
      let ov ← attributeBase (.Call (.Name "super" a1) [] [] a2) "__init__" (PySem.W.ksEnv qn (SupX.iS f) L fI cdv cc) (eval (.Call (.Name "super" a1) [] [] a2) (PySem.W.ksEnv qn (SupX.iS f) L fI cdv cc))
      standAt a3.atName
      let (g, first) ← holding [ov] (getMethod ov "__init__" pl)
      callWith a5 g first (backTo a5 (starEach [.Name f a4] (PySem.W.ksEnv qn (SupX.iS f) L fI cdv cc))) [])
theorem txt_of {P : Program} {K : PySem.W.Frag} {mg : Str → Option Value} {qn f : Str} {C : Addr} {st : Stmt} (e : supW K (ma K C "__init__") = supV qn st) {xb : SupX.XB} (ok : xb.Ok) (b : (supL xb P K C qn f).all id = true) (t : SupT f st) : SupX.Txt P K mg qn f C (ma K C "__init__") := by
  have rest := all_at b 13 rfl
  refine ⟨⟨xb, ok, of_decide_eq_true (all_at b 7 rfl), eqO_ok (all_at b 9 rfl), excClsB_ok (all_at b 0 rfl)⟩, eqO_ok (all_at b 1 rfl), eqO_ok (all_at b 2 rfl), eqO_ok (all_at b 3 rfl), of_decide_eq_true (all_at b 4 rfl), all_at b 5 rfl, of_decide_eq_true (all_at b 6 rfl), of_decide_eq_true (all_at b 8 rfl),
    of_decide_eq_true (all_at b 10 rfl), eqO_ok (all_at b 11 rfl), eqO_ok (all_at b 12 rfl), ?_⟩
  unfold supW supV at e
  unfold supFn at rest
  cases look : K.lookup (ma K C "__init__") with
  | none => rw [look] at e; cases e
  | some o =>
    obtain ⟨oc, od, dat, osl⟩ := o
    rw [look] at e rest
    cases dat with
    | func fd =>
      obtain ⟨nm, qual, par, body, sc, glb, clo, dfl, kwd, doc, pm, an, code, ct, blt⟩ := fd
      have said : (nm, qual, par, body, sc, glb, blt) = (PySem.Str.ofString "__init__", qn, defArgs st, FuncBody.stmts (defBody st), defScope st, mainGlobals, builtinsNs) := Option.some.inj e
      clear e
      cases said
      obtain ⟨noD, rest⟩ := ba rest
      obtain ⟨noK, rest⟩ := ba rest
      obtain ⟨code_ok, rest⟩ := ba rest
      obtain ⟨cell_ok, file_ok⟩ := ba rest
      obtain rfl : dfl = .none := of_decide_eq_true noD
      obtain rfl : kwd = .none := of_decide_eq_true noK
      obtain ⟨p1, p2, ea⟩ := t.ar
      obtain ⟨a1, a2, a3, a4, a5, a6, q1, q2, q3, q4, eb, hev⟩ := t.bd
      have es := t.sc
      split at cell_ok
      · rename_i x cc ecl
        obtain ⟨isCls, cell_ok⟩ := ba cell_ok
        obtain rfl : x = "__class__" := of_decide_eq_true isCls
        dsimp only at ecl
        subst ecl
        split at cell_ok
        · rename_i u1 u2 D u3 lcc
          obtain rfl : D = C := by simpa using cell_ok
          split at file_ok
          · rename_i cda ecd
            dsimp only at ecd
            subst ecd
            split at file_ok
            · rename_i w1 w2 vs w3 lcd
              split at file_ok
              · rename_i file tf hvs
                exact ⟨oc, od, doc, pm, an, cda, ct, osl, p1, p2, a1, a2, a3, a4, a5, a6, q1, q2, q3, q4, cc, _, _, _, _, _, vs, _, file, tf, (by rw [ea, eb, es]), code_ok, lcc, lcd, hvs, file_ok, fun L => hev _ L _ cc _⟩
              · cases file_ok
            · cases file_ok
          · cases file_ok
        · cases cell_ok
      · cases cell_ok
    | _ => cases e
theorem xc_of {P : Program} {G : Gm} {c : Nat} {f qn : Str} {st : Stmt} {C : Addr} (fl : G.fl c = [f]) (hc : G.mg (G.cn c) = some (.ref C)) (e : supW G.K (ma G.K C "__init__") = supV qn st) {xb : SupX.XB} (ok : xb.Ok) (b : (supL xb P G.K C qn f).all id = true) (t : SupT f st) (y : SupX.FOk P f) : XcOk P G c f := ⟨fl, ⟨qn, C, _, hc, txt_of e ok b t⟩, y⟩
/-- reading a field -/
def xgL (K : PySem.W.Frag) (C : Addr) (f : Str) : List Bool := [eqO (PySem.W.findIn K (.ref C) "__getattribute__") (some (some (.builtin "BaseException.__getattribute__"))), eqO (PySem.W.findIn K (.ref C) "__getattr__") (some none), decide (PySem.W.subIn K (.ref C) (.type "BaseException") = some true), PySem.W.hasDictIn K C, eqO (PySem.W.findIn K (.ref C) f) (some none)]
theorem xg_of {G : Gm} {c : Nat} {f : Str} {C : Addr} (fl : G.fl c = [f]) (hc : ∀ cA, G.mg (G.cn c) = some (.ref cA) → cA = C) (b : (xgL G.K C f).all id = true) : XgOk G c f := ⟨fl, fun cA h => by
  have := hc cA h
  subst this
  exact ⟨eqO_ok (all_at b 0 rfl), eqO_ok (all_at b 1 rfl), of_decide_eq_true (all_at b 2 rfl), all_at b 3 rfl, eqO_ok (all_at b 4 rfl)⟩⟩
/-- a clause -/
def xmB (K : PySem.W.Frag) (cn : Nat → Str) (x : Str) (rows : List (Nat × Bool)) : Bool := rows.all fun p => decide (PySem.W.exmOne K (.ref (ga K (cn p.1))) (.ref (ga K x)) = some p.2)
def xmF (rows : List (Nat × Bool)) (c : Nat) : Option Bool := rows.lookup c
theorem mem_lk {α β : Type} [BEq α] [LawfulBEq α] : ∀ {l : List (α × β)} {a : α} {b : β}, l.lookup a = some b → (a, b) ∈ l
  | [], _, _, h => by cases h
  | (x, y) :: r, a, b, h => by
    rw [List.lookup_cons] at h
    cases e : a == x with
    | true => rw [e] at h; cases h; rw [eq_of_beq e]; exact List.mem_cons_self
    | false => rw [e] at h; exact List.mem_cons_of_mem _ (mem_lk h)
theorem xm_of {K : PySem.W.Frag} {G : Gm} {x : Str} {rows : List (Nat × Bool)} (hc : ∀ c cA, G.mg (G.cn c) = some (.ref cA) → cA = ga K (G.cn c)) (b : xmB K G.cn x rows = true) : XmOk K G (.ref (ga K x)) (xmF rows) := ⟨fun c cA z h e => by
  have := hc c cA h
  subst this
  exact of_decide_eq_true (List.all_eq_true.mp b (c, z) (mem_lk e))⟩
/-! ### tables of code -/
end Ep
namespace Ep
open PySem PySem.Spec L2 PyProof.Rows He
/-! ### words for the generator -/
theorem Bd.tr {X : Cx} {G : Gm} {W W' : WX} {j : Nat} {pn : List (Addr × Obj)} {xe : Value → Shared → Prop} (B : Bd X G W j) (tk : Takes (X.tr pn xe) W') : Bd (X.tr pn xe) G W' j := ⟨B.eK, B.eM, tk, B.rm, B.nd, B.calm⟩
def restOf : List Stmt → List Stmt
  | _ :: r => r
  | [] => []
theorem px_of {G : Gm} {C : Nat} {c : Addr} (hc : ∀ cA, G.mg (G.cn C) = some (.ref cA) → cA = c) (h1 : PySem.W.notFirst G.K c (.type "str") = true) (h2 : PySem.W.notFirst G.K c (.type "int") = true) (h3 : PySem.W.notFirst G.K c (.type "bool") = true) (h4 : PySem.W.notFirst G.K c (.type "NoneType") = true)
    (h5 : PySem.W.notFirst G.K c (.type "list") = true) (h6 : PySem.W.notFirst G.K c (.type "tuple") = true) : PxOk G C := ⟨fun cA h => by
  have := hc cA h
  subst this
  exact ⟨h1, h2, h3, h4, h5, h6⟩⟩
end Ep
namespace Ep
open PySem PySem.Spec L2
/-! ### texts: join, count, str and repr of an integer -/
section
variable {X : Cx} {G : Gm} {W : WX} {pos apos : Pos} {a b : Expr} {f g : Env → M T}
end
end Ep
namespace Ep
open PySem PySem.Spec L2
/-! ### isinstance(e, C) in a handler, e of an own class with a dict -/
structure XiOk (G : Gm) (c C : Nat) (b : Bool) : Prop where
  ex : ∀ cA, G.mg (G.cn c) = some (.ref cA) → ∃ CA, G.mg (G.cn C) = some (.ref CA) ∧ PySem.W.kitOne G.K (.ref cA) (.ref CA) = some b ∧ (PySem.W.clsIn G.K cA).isSome = true ∧ PySem.W.findIn G.K (.ref cA) "__getattribute__" = some (some (.builtin "BaseException.__getattribute__")) ∧ PySem.W.findIn G.K (.ref cA) "__getattr__" = some none ∧
    PySem.W.subIn G.K (.ref cA) (.type "BaseException") = some true ∧ PySem.W.findIn G.K (.ref cA) "__class__" = some (some (.builtin "object.__class__")) ∧ PySem.W.specialIn G.K (.builtin "object.__class__") "__get__" = some (some (.builtin "getset_descriptor.__get__")) ∧ PySem.W.takesIn G.K (.builtin "object.__class__") = some true ∧ PySem.W.mroIn G.K cA (.type "object") = some true
def hIsi (xi : Nat → Option Bool) : HM T := fun c _ _ => match xi c with
  | some b => pure (.bl b)
  | none => M.bad
/-- the call, for the exception that the suite holds -/
theorem call_isX {X : Cx} {a cA dd : Addr} {oe : Obj} {pn : List (Addr × Obj)} {CA : Addr} {b : Bool} {f : Str} {v0 : V} (hz : Zc (.ref cA) (some dd) oe) (hf : ∃ vs, oe.data = .fields vs)
    (k1 : (PySem.W.clsIn X.K cA).isSome = true) (k2 : PySem.W.findIn X.K (.ref cA) "__getattribute__" = some (some (.builtin "BaseException.__getattribute__"))) (k3 : PySem.W.findIn X.K (.ref cA) "__getattr__" = some none) (k4 : PySem.W.subIn X.K (.ref cA) (.type "BaseException") = some true)
    (k5 : PySem.W.findIn X.K (.ref cA) "__class__" = some (some (.builtin "object.__class__"))) (k6 : PySem.W.specialIn X.K (.builtin "object.__class__") "__get__" = some (some (.builtin "getset_descriptor.__get__"))) (k7 : PySem.W.takesIn X.K (.builtin "object.__class__") = some true) (k8 : PySem.W.mroIn X.K cA (.type "object") = some true)
    (k9 : PySem.W.kitOne X.K (.ref cA) (.ref CA) = some b) : CallR (X.suite a ((a, oe) :: pn)) (.builtin "isinstance") (fun xs H Q => xs = [.ref a, .ref CA] ∧ H dd = some (.xd [(f, v0)]) ∧ Q (.bl b) H) := by
  intro pins s σ H xs us Q I r h
  obtain ⟨rfl, hd, q⟩ := h
  cases r with
  | cons rx rr =>
    cases rr with
    | cons rt rr =>
      cases rr
      cases rx
      cases rt
      obtain ⟨hget, _⟩ := I.pin (a, oe) (List.mem_append.mpr (.inl List.mem_cons_self))
      obtain ⟨vs, hv⟩ := hf
      have hxd : ObjOk X.prog X.w H s.heap dd (.xd [(f, v0)]) := I.hok dd _ hd
      obtain ⟨mA, hns, hr⟩ := hxd
      obtain ⟨od, ho, hl⟩ := lookIn_ns hns
      have J : PySem.W.InstAt s.heap a oe cA (some od) := ⟨hget, hz.1, by unfold PySem.W.notCls; rw [hv] <;> rfl, by rw [hz.2]; exact ho⟩
      exact PySem.W.kia_one (PySem.W.kitx_exc k1 k2 k3 k4 k5 k6 k7 k8) I.kIn J k9 (fun z => nomatch z) fun tk => ⟨.bl b, H, I.kept (t' := tk) fun _ _ z => z, rfl, q⟩
section
variable {X : Cx} {G : Gm} {a : Addr} {cls : Value} {d : Option Addr} {i : Nat} {pos : Pos}
theorem he_isi {oe : Obj} {pn : List (Addr × Obj)} {n x : Str} {C : Nat} {p np cp : Pos} {CA0 : Addr} (hK : X.K = G.K) (hM : X.mg = G.mg) (hz : Zc cls d oe) (hf : ∃ vs, oe.data = .fields vs) (xi : Nat → Option Bool) (ok : ∀ c b, xi c = some b → XiOk G c C b) (hx : G.cn C = x) (hcC : G.mg x = some (.ref CA0)) (hN : X.N[i]? = some n) (hv : Vis X.env.scope n)
    (hi : X.mg "isinstance" = none) (hgi : Gl (X.suite a ((a, oe) :: pn)) "isinstance" := by rfl) (hgC : Gl (X.suite a ((a, oe) :: pn)) x := by rfl)
    (hs : starEach [.Name n np, .Name x cp] (X.suite a ((a, oe) :: pn)).env = (false, eval (.Name n np) (X.suite a ((a, oe) :: pn)).env) :: starEach [.Name x cp] (X.suite a ((a, oe) :: pn)).env := by rfl)
    (hs2 : starEach [.Name x cp] (X.suite a ((a, oe) :: pn)).env = (false, eval (.Name x cp) (X.suite a ((a, oe) :: pn)).env) :: starEach [] (X.suite a ((a, oe) :: pn)).env := by rfl)
    (hpl : (backTo pos (starEach [.Name x cp] (X.suite a ((a, oe) :: pn)).env)).any (·.1) = false := by rfl) (hd : (n == ("__debug__" : Str)) = false := by decide) (hcd : (n == ("__classdict__" : Str)) = false := by decide) (hdC : (x == ("__debug__" : Str)) = false := by decide) :
    PE (X.suite a ((a, oe) :: pn)) (.Call (.Name "isinstance" p) [.Name n np, .Name x cp] [] pos) (tHE G a cls d i (hIsi xi)) := by
  refine ⟨fun pins s σ H Q I ⟨w, H0, env, r, c, pl, g, sl, e1, ei, h⟩ => ?_⟩
  unfold hIsi at h
  cases hxi : xi c with
  | none => rw [hxi] at h; exact h.elim
  | some b =>
    rw [hxi] at h
    obtain ⟨cA, dd, v, f, k1, k2, k3, k4, k5, k6, k7⟩ := ei.ex
    obtain ⟨CA, m1, m2, m3, m4, m5, m6, m7, m8, m9, m10⟩ := (ok c b hxi).ex cA k1
    rw [← hK] at m2 m3 m4 m5 m6 m7 m8 m9 m10
    subst k2
    subst k3
    have eCA : CA0 = CA := by
      rw [hx] at m1
      exact Value.ref.inj (Option.some.inj (hcC.symm.trans m1))
    subst eCA
    exact (pe_callB (call_isX (f := f) (v0 := v) hz hf m3 m4 m5 m6 m7 m8 m9 m10 m2) hgi hi rfl (pa_cons (pe_var (X := X.suite a ((a, oe) :: pn)) (pos := np) (i := i) hN hv hd hcd) (pa_cons (pe_glob (X := X.suite a ((a, oe) :: pn)) (v := .ref CA0) (pos := cp) hgC (by show X.mg x = _; rw [hM]; exact hcC) rfl hdC) pa_nil hs2) hs) (by decide) (by decide) hs hpl).run pins s σ H Q I ⟨.ref a, e1, rfl, k5, OutP.here g h (.bl b) (.bl b)⟩
/-- if e: return g, then the rest of the suite -/
def hIfRet (f g : HM T) (k : Nat → T → Sm) : Nat → T → Sm := fun c p env r => ofM env (fun t r => match t with
  | .bl true => hRet g c p env r
  | .bl false => k c p env r
  | _ => .bad) (f c p env r)
theorem hs_nil : PSs X [] (tHS G a cls d i fun _ _ => qNil) := pss_imp pss_nil fun D σ H ⟨w0, H0, w, env, r, c, p, a0, e1, ei, h⟩ => h w H σ a0.st a0.g a0.s
theorem hs_ifret {e1 e2 : Expr} {rest : List Stmt} {f g : HM T} {k : Nat → T → Sm} {p1 p2 : Pos} (h1 : PE X e1 (tHE G a cls d i f)) (h2 : PE X e2 (tHE G a cls d i g)) (h3 : PSs X rest (tHS G a cls d i k))
    (he : ∀ whole, isTrue e1 X.env whole = (do let v ← whole; standAt e1.pos; holding [v] (truthy v)) := by intro _; rfl) : PSs X (.If e1 [.Return (some e2) p1] [] p2 :: rest) (tHS G a cls d i (hIfRet f g k)) :=
  pss_imp (pss_cons (ps_if (pt_val h1 he) (pss_one (ps_ret h2)) pss_nil) h3) fun D σ H ⟨w0, H0, w, env, r, c, p, a0, s1, ei, hq⟩ => by
    refine ⟨w, H0, env, r, c, p, a0.g, a0.s, s1, ei, ((FlowP.ofM a0 hq).imp fun t r1 w1 H1 st1 g1 q v dv => ?_).noW⟩
    obtain ⟨a1, h⟩ := q
    cases dv with
    | bl b =>
      refine ⟨b, rfl, ?_⟩
      cases b with
      | true =>
        rw [if_pos rfl]
        have h : FlowP G W0 w0 H0 D (hRet g c p env r1) := h
        exact ⟨w1, H0, env, r1, c, p, a1.g, a1.s, s1, ei.step st1, ((FlowP.ofM a1 h).imp fun t r2 w2 H2 _ _ q v dv => q.2 w2 H2 v q.1.st q.1.g dv).noW⟩
      | false =>
        rw [if_neg (by decide)]
        exact ⟨w0, H0, w1, env, r1, c, p, a1, s1, ei.step st1, h⟩
    | _ => exact h.elim
end
end Ep
namespace Ep
open PySem PySem.Spec L2
/-! ### repr of None, True, an integer, a text -/
def reprS : T → Option Str
  | .int i => if i.natAbs.log2 < 1920 then some (toString i) else none
  | .str x => if (reprText x).length ≤ 16777216 then some (reprText x) else none
  | .bl b => some (if b then "True" else "False")
  | .non => some "None"
  | _ => none
def reprT (_ : RS) (t : T) : Option T := (reprS t).map .str
section
variable {X : Cx} {G : Gm} {W : WX} {a : Addr} {cls : Value} {d : Option Addr} {i j : Nat} {pos p : Pos} {e : Expr} {f : Env → M T} {h : HM T}
end
/-! ### isinstance of a caught exception, by the head -/
def xiL (K : PySem.W.Frag) (cA CA : Addr) (b : Bool) : List Bool := [decide (PySem.W.kitOne K (.ref cA) (.ref CA) = some b), (PySem.W.clsIn K cA).isSome, decide (PySem.W.findIn K (.ref cA) "__getattribute__" = some (some (.builtin "BaseException.__getattribute__"))), decide (PySem.W.findIn K (.ref cA) "__getattr__" = some none),
  decide (PySem.W.subIn K (.ref cA) (.type "BaseException") = some true), decide (PySem.W.findIn K (.ref cA) "__class__" = some (some (.builtin "object.__class__"))), decide (PySem.W.specialIn K (.builtin "object.__class__") "__get__" = some (some (.builtin "getset_descriptor.__get__"))), decide (PySem.W.takesIn K (.builtin "object.__class__") = some true), decide (PySem.W.mroIn K cA (.type "object") = some true)]
theorem xi_of {G : Gm} {K : PySem.W.Frag} {c C : Nat} {cA CA : Addr} {b : Bool} (hK : G.K = K) (hA : ∀ x, G.mg (G.cn c) = some (.ref x) → x = cA) (hC : G.mg (G.cn C) = some (.ref CA)) (q : (xiL K cA CA b).all id = true) : XiOk G c C b := by
  subst hK
  have at_ : ∀ (i : Nat) {y : Bool}, (xiL G.K cA CA b)[i]? = some y → y = true := fun i y e => List.all_eq_true.mp q y (List.mem_of_getElem? e)
  exact ⟨fun x hx => by
    have e := hA x hx
    subst e
    exact ⟨CA, hC, of_decide_eq_true (at_ 0 rfl), at_ 1 rfl, of_decide_eq_true (at_ 2 rfl), of_decide_eq_true (at_ 3 rfl), of_decide_eq_true (at_ 4 rfl), of_decide_eq_true (at_ 5 rfl), of_decide_eq_true (at_ 6 rfl), of_decide_eq_true (at_ 7 rfl), of_decide_eq_true (at_ 8 rfl)⟩⟩
end Ep
namespace Ep
open PySem PySem.Spec L2
/-! ### list(e) as a new list of the def's own, or a changed one -/
def fSeqL (f : Env → M T) : Env → M (List T) := fun env => f env >>= fun t => fun r => M.lift (seqT r t) r
theorem new_own {G : Gm} {w1 : Wd} {H1 : Hp} {r1 : RS} {l : Addr} {vs : List V} (g1 : Good G w1 H1 r1) (hp : H1 l = none) : Good G w1 (upd H1 l (.lst vs)) r1 :=
  ⟨fun a o e => by
    have := ne_of_none (g1.sub a o e) hp
    rw [upd_ne this]
    exact g1.sub a o e, ⟨g1.refs.nd, g1.refs.len, g1.refs.out, fun k xs hk => by
    obtain ⟨a, us, h1, h2, h3, h4⟩ := g1.refs.at_ k xs hk
    have := ne_of_none h2 hp
    exact ⟨a, us, h1, by rw [upd_ne this]; exact h2, h3, h4⟩⟩, tabs_put g1.tabs (.inl hp), g1.nt⟩
theorem l_list {X : Cx} {G : Gm} {W : WX} {a : Expr} {f : Env → M T} {p pos : Pos} (hK : X.K = G.K) (m : X.mg "list" = none) (ha : SK X G W a f) (hg : Gl X "list" := by rfl) (hs : starEach [a] X.env = (false, eval a X.env) :: starEach [] X.env := by rfl) (hpl : (backTo pos (starEach [] X.env)).any (·.1) = false := by rfl) :
    SL X G W (.Call (.Name "list" p) [a] [] pos) (fSeqL f) :=
  pe_imp (pe_callTy call_list_of hg m rfl (pa_cons ha pa_nil hs) (by decide) (by decide) hs hpl) fun σ H Q ⟨w, H0, env, r, g0, s, h0⟩ => by
    refine seqK g0 s h0 fun t r1 w1 H1 x g1 s1 st1 d1 h1 => ?_
    obtain ⟨xs, ez, h2⟩ := liftP h1
    obtain ⟨q, rfl, sd⟩ := seq_of g1 d1 ez
    have fin : ∀ (vs : List V), Dens G w1 vs xs → xs.length ≤ sizeLine → ∀ l, H1 l = none → Q (.ref l) (upd H1 l (.lst vs)) := fun vs dd zz l hl => by
      have st2 : Step w1 H1 w1 (upd H1 l (.lst vs)) := (Step.refl w1 H1).priv hl
      exact h2 w1 _ st2 (new_own g1 hl) l vs (fun z => nvs hl (st1.keep l z)) (g1.nopub hl) (g1.noref hl) upd_same dd zz
    cases sd with
    | l vs h dd zz => exact ⟨q, vs, rfl, .inl (by rw [hK]; exact h), fin vs dd zz⟩
    | t vs h dd zz => exact ⟨q, vs, rfl, .inr (by rw [hK]; exact h), fin vs dd zz⟩
/-- the truth of a changed list -/
def truR (r : RS) : T → Option Bool
  | .ref k => r[k]?.map fun xs => !xs.isEmpty
  | _ => none
def fTruR (f : Env → M T) : Env → M Bool := fun env => f env >>= fun x => fun r => M.lift (truR r x) r
theorem s_truR {X : Cx} {G : Gm} {W : WX} {a : Expr} {f : Env → M T} (hK : X.K = G.K) (ha : SE X G W a f) (he : ∀ whole, isTrue a X.env whole = (do let v ← whole; standAt a.pos; holding [v] (truthy v)) := by intro _; rfl) : SB X G W a (fTruR f) :=
  pt_imp (pt_truth ha he) fun σ H Q ⟨w, H0, env, r, g0, s, h0⟩ => by
    refine seqE g0 s h0 fun t r1 w1 H1 x g1 s1 st1 d1 h1 => ?_
    obtain ⟨z, ez, h2⟩ := liftP h1
    refine ⟨z, ?_, h2 w1 H1 (Step.refl _ _) g1⟩
    cases d1 with
    | @ref k p hr =>
      have ez : (r1[k]?).map (fun xs => !xs.isEmpty) = some z := ez
      cases q : r1[k]? with
      | none => rw [q] at ez; cases ez
      | some xs =>
        rw [q] at ez
        cases ez
        obtain ⟨b, vs, e1, e2, e3, _⟩ := g1.refs.at_ k xs q
        rw [hr] at e1
        cases e1
        rw [hK]
        exact .inl ⟨_, SqL.of e2, by rw [e3.emp]⟩
    | _ => cases ez
/-! ### own lists that become values ahead of a statement -/
def qFrz (is : List Nat) (g : Sm) : Sm := fun env r => g (frz is env) r
theorem ss_frzq {X : Cx} {G : Gm} {W : WX} {st : Stmt} {g : Sm} (is : List Nat) (h : SS X G W st g) : SS X G W st (qFrz is g) := ss_frz is h
theorem n_frz {is : List Nat} {g : Sm} {env : Env} {r : RS} {so : SO} (h : g (frz is env) r = so) : qFrz is g env r = so := h
end Ep
namespace Ep
open PySem PySem.Spec L2
/-! ### {} -/
def fDisp0 : Env → M (List Key × List T) := fun _ => pure ([], [])
theorem n_disp0 {X : Cx} {G : Gm} {W : WX} {pos : Pos} : SN X G W (.Dict [] [] pos) fDisp0 := pe_imp pe_dnewK fun σ H Q ⟨w, H0, env, r, g0, s, h⟩ => by
  intro p hp
  have st0 : Step w H w (upd H p (.dK [])) := (Step.refl w H).priv hp
  have g1 : Good G w (upd H p (.dK [])) r := g0.priv (g0.nopub hp) (g0.noref hp) (.inl hp)
  exact h w _ st0 g1 p [] (nvs hp) (g0.nopub hp) (g0.noref hp) upd_same rfl (Nat.zero_le _) .nil
end Ep
namespace Ep
open PySem PySem.Spec L2 PyProof.Rows
/-! ### e[::-1] of a text or a list -/
def revS (z : Str) : Str := ⟨z.cps.toList.reverse.toArray⟩
theorem fm_map {α β : Type} {g : α → Option β} {f : α → β} : ∀ {l : List α}, (∀ a ∈ l, g a = some (f a)) → l.filterMap g = l.map f
  | [], _ => rfl
  | a :: l, h => by
    rw [List.filterMap_cons, h a List.mem_cons_self, List.map_cons, fm_map fun b hb => h b (List.mem_cons_of_mem _ hb)]
theorem range_back : ∀ (l : List Nat) (n : Nat), l.length = n → ((List.range n).map (fun k => n - 1 - k)).filterMap (l[·]?) = l.reverse := fun l n h => by
  refine List.ext_getElem? fun i => ?_
  have e : ((List.range n).map (fun k => n - 1 - k)).filterMap (l[·]?) = (List.range n).map (fun k => (l[n - 1 - k]?).getD 0) := by
    rw [List.filterMap_map]
    refine fm_map fun k hk => ?_
    have hk := List.mem_range.mp hk
    simp only [Function.comp]
    rw [List.getElem?_eq_getElem (by omega)]
    rfl
  rw [e]
  by_cases hi : i < n
  · rw [List.getElem?_map, List.getElem?_range hi, List.getElem?_reverse (by omega), h]
    simp only [Option.map_some]
    rw [List.getElem?_eq_getElem (by omega)]
    rfl
  · rw [List.getElem?_eq_none (by simp; omega), List.getElem?_eq_none (by simp; omega)]
theorem sidx_back (n : Nat) : Builtin.Str.strSliceIndices none none (-1) n = (List.range n).map (fun k => n - 1 - k) := by
  unfold Builtin.Str.strSliceIndices sliceRange
  simp only [show ¬ ((-1 : Int) > 0) from by decide, if_false]
  by_cases h : 0 < n
  · have e : (((n : Int) - 1 - (-1) - (-1) - 1) / (- -1)).toNat = n := by
      rw [show (- (-1 : Int)) = 1 from rfl, Int.ediv_one]; omega
    rw [if_pos (by omega), e]
    refine List.map_congr_left fun k hk => ?_
    have := List.mem_range.mp hk
    omega
  · have : n = 0 := by omega
    subst this
    rfl
def tRevA (K : PySem.W.Frag) (te : TE) : TE := fun σ H Q => te σ H fun x H1 => (∃ z, x = .str z ∧ z.length ≤ sizeLine ∧ Q (.str (revS z)) H1) ∨ (∃ a xs, x = .ref a ∧ SqL K H1 a xs ∧ ∀ p, H1 p = none → Q (.ref p) (upd H1 p (.lst xs.reverse)))
/-- the bounds of [::-1] as the slice's object holds them -/
structure Back (h : Heap) (p : Addr) (l u m : Value) : Prop where
  obj : h.IsSliceOf p l u m
  lo : IsPart l none
  up : IsPart u none
  by_ : IsPart m (some (-1))
/-- the slice of [::-1], evaluated -/
theorem back_slice {X : Cx} {pins : List (Addr × Obj)} {σ : L2.St} {H0 : Hp} {s : Shared} {k : Nat} {p1 p2 p3 : Pos} {Q : Value → Shared → Prop} (I : Inv X pins σ H0 s)
    (h : ∀ s1 l u m, Inv X pins σ H0 s1 → Back s1.heap (s1.heap.objs.size - 1) l u m → Q (.ref (s1.heap.objs.size - 1)) s1) : wpAny (model X.prog X.w) X.A (eval (.Slice none none (some (.UnaryOp .USub (.Constant (.int 1) k p1) p2)) p3) X.env) Q X.xe s := by
  have minus : PO X (some (.UnaryOp .USub (.Constant (.int 1) k p1) p2)) (tPart (tUn (rU fun i => .int (-i)) (tC (.int 1)))) := po_some (pe_un un_neg pe_int)
  refine wpAny_Slice (thn (po_none.run pins s σ H0 (fun o H' => o = none ∧ H' = H0) I ⟨rfl, rfl⟩) ?_)
  rintro l s1 ⟨_, H1, I1, lo, rfl, eH⟩
  rw [eH] at I1
  refine thn (po_none.run pins s1 σ H0 (fun o H' => o = none ∧ H' = H0) I1 ⟨rfl, rfl⟩) ?_
  rintro u s2 ⟨_, H2, I2, up, rfl, eH⟩
  rw [eH] at I2
  refine thn (minus.run pins s2 σ H0 (fun o H' => o = some (-1) ∧ H' = H0) I2 ⟨1, rfl, -1, rfl, rfl, rfl⟩) ?_
  rintro m s3 ⟨_, H3, I3, by_, rfl, eH⟩
  rw [eH] at I3
  have far : (s3.heap.push { cls := .type "slice", data := .fields #[l, u, m] }).objs.size - 1 = s3.heap.objs.size := by rw [Heap.size_push, Nat.add_sub_cancel]
  have told := h { s3 with heap := s3.heap.push { cls := .type "slice", data := .fields #[l, u, m] } } l u m (I3.kept (t' := s3.toks) fun _ _ => Heap.get?_push_of_some _) ⟨by dsimp only; rw [far]; exact Heap.IsSliceOf.new _ l u m, lo, up, by_⟩
  dsimp only at told
  rw [far] at told
  exact told
/-- a text, backwards -/
theorem str_back (z : Str) : (⟨((Builtin.Str.strSliceIndices none none (-1) z.length).filterMap (z.cps[·]?)).toArray⟩ : Str) = revS z := by
  have at_ : (fun i => z.cps[i]?) = fun i => z.cps.toList[i]? := funext fun i => Array.getElem?_toList.symm
  unfold revS
  rw [sidx_back, at_, range_back z.cps.toList z.length rfl]
theorem pe_revA {X : Cx} {e : Expr} {te : TE} {k : Nat} {p1 p2 p3 pos : Pos} (he : PE X e te) : PE X (.Subscript e (.Slice none none (some (.UnaryOp .USub (.Constant (.int 1) k p1) p2)) p3) pos) (tRevA X.K te) := by
  refine ⟨fun pins s σ H Q I h => Subscript_ (thn (he.run pins s σ H _ I h) fun v s1 ⟨x, H1, I1, rel, kinds⟩ => back_slice I1 fun s2 l u m I2 back => ?_)⟩
  rcases kinds with ⟨z, rfl, few, q⟩ | ⟨a, xs, rfl, hq, q⟩
  · obtain ⟨tk, rfl⟩ := rel
    obtain ⟨vl, rfl, el⟩ := IsPart.raw back.lo
    obtain ⟨vu, rfl, eu⟩ := IsPart.raw back.up
    obtain ⟨vm, rfl, em⟩ := IsPart.raw back.by_
    have picked : slicePicked z vl vu vm = Builtin.Str.strSliceIndices none none (-1) z.length := by unfold slicePicked; rw [el, eu, em]; rfl
    refine tail_any (T := "str") (ops := [.str z tk, .ref (s2.heap.objs.size - 1)]) (typeIs_str _ _ _) F.slot_str_getitem.lookup (wpAny_getItem_str_slice back.obj (by rw [em]; rfl) ?_) (by with_unfolding_all rfl)
    unfold sliceMade
    rw [picked, em, if_neg (by simp), str_back]
    exact ⟨by show z.cps.toList.reverse.toArray.size ≤ _; rw [List.size_toArray, List.length_reverse]; exact few, .str _, _, I2.tok _, ⟨_, rfl⟩, q⟩
  · cases rel
    obtain ⟨its, rels, at_a, few⟩ := I2.list hq
    refine tail_any (ops := [.ref a, .ref (s2.heap.objs.size - 1)]) at_a.isList.typeIs PySem.slot_list_getitem.lookup (wpAny_getItem_list_slice at_a.isList back.obj back.lo back.up back.by_ (by decide) ?_ (by rw [List.size_toArray, ← rels.length]; exact few)) (by with_unfolding_all rfl)
    rw [PySem.W.krv_pick]
    have put := I2.laid (t' := s2.toks) (o := .lst xs.reverse) (h' := s2.heap.push { cls := .type "list", data := .seq its.reverse.toArray }) (fun _ _ z => Heap.get?_push_of_some _ z) (Nat.le_refl _) ⟨(List.length_reverse (as := xs)).symm ▸ few, its.reverse, 0, rels.reverse, Heap.get?_push_size _ rfl⟩
    exact ⟨.ref s2.heap.objs.size, _, put, rfl, q _ (I2.hok.fresh (Nat.le_refl _))⟩
def revT : T → Option T
  | .str z => if z.length ≤ 100000 then some (.str (revS z)) else none
  | .lst xs => some (.lst xs.reverse)
  | .kls xs => some (.lst xs.reverse)
  | _ => none
def fRev (f : Env → M T) : Env → M T := fun env => f env >>= fun x => M.lift (revT x)
theorem Dens.rev {G : Gm} {w : Wd} : ∀ {vs : List V} {ts : List T}, Dens G w vs ts → Dens G w vs.reverse ts.reverse
  | _, _, .nil => .nil
  | _, _, .cons a d => by
    rw [List.reverse_cons, List.reverse_cons]
    exact (Dens.rev d).append (.cons a .nil)
theorem s_rev {X : Cx} {G : Gm} {W : WX} {a : Expr} {f : Env → M T} {k : Nat} {p1 p2 p3 pos : Pos} (hK : X.K = G.K) (ha : SE X G W a f) : SE X G W (.Subscript a (.Slice none none (some (.UnaryOp .USub (.Constant (.int 1) k p1) p2)) p3) pos) (fRev f) :=
  pe_imp (pe_revA ha) fun σ H Q ⟨w, H0, env, r, g0, s, h0⟩ => by
    refine seqE g0 s h0 fun t r1 w1 H1 x g1 s1 st1 d1 h1 => ?_
    obtain ⟨z, ez, h2⟩ := liftP h1
    have go : ∀ (a : Addr) (vs : List V) (xs : List T), x = .ref a → SqL G.K H1 a vs → Dens G w1 vs xs → xs.length ≤ sizeLine → z = .lst xs.reverse → ∃ a xs, x = .ref a ∧ SqL X.K H1 a xs ∧ ∀ p, H1 p = none → Q (.ref p) (upd H1 p (.lst xs.reverse)) := fun a vs xs ex h d zz e => ⟨a, vs, ex, by rw [hK]; exact h, fun p hp => by
      obtain ⟨st, g2⟩ := g1.new (o := .lst vs.reverse) hp
      subst e
      exact h2 _ _ st g2 _ (.lst upd_same (by rw [List.length_reverse]; exact zz) (d.rev.mono st.later))⟩
    cases d1 with
    | str zz =>
      have e : (if zz.length ≤ 100000 then some (T.str (revS zz)) else none) = some z := ez
      by_cases hz : zz.length ≤ 100000
      · rw [if_pos hz] at e
        cases e
        exact .inl ⟨zz, rfl, Nat.le_trans hz (by decide), h2 w1 H1 (Step.refl _ _) g1 _ (.str _)⟩
      · rw [if_neg hz] at e; cases e
    | lst h zz d => cases ez; exact .inr (go _ _ _ rfl (SqL.of (g1.sub _ _ h)) d zz rfl)
    | kls h zz d => cases ez; exact .inr (go _ _ _ rfl (g1.sub.seq h) d zz rfl)
    | _ => cases ez
end Ep
namespace Ep
open PySem PySem.Spec L2
/-! ### a, b, c = [], e, e' with a a list of the def's own -/
section
variable {X : Cx} {G : Gm} {W : WX} {pos : Pos}
end
end Ep
namespace Ep
namespace EnT
open PySem PySem.Spec L2 PyProof.Rows
section
variable {prog : Program} {w : World} {A : Around} {E : Value → Shared → Prop} {s : Shared} {v : Value} {o : Obj} {HB : Heap → Prop}
/-- enumerate's object, over the iterator at it -/
def eObj (it : Addr) : Obj := { cls := .type "enumerate", data := .fields #[.none, .bool false, .ref it, rawInt 0, .none, .none] }
/-- enumerate.__new__ of one thing that begins to be walked (Begins) -/
theorem new_one (B : Begins v o HB) (now : HB s.heap) {Q : Fin → Shared → Prop} (told : Q (.done (.ret (.ref (s.heap.push o).objs.size))) { s with heap := (s.heap.push o).push (eObj s.heap.objs.size) }) :
    wpAny (model prog w) A (Builtin.«enumerate.__new__» ⟨[.type "enumerate", v], []⟩) Q E s := by
  have cls : Builtin.SmallTypes.newClass "enumerate" ⟨[.type "enumerate", v], []⟩ = pure (.type "enumerate", [v]) := by
    unfold Builtin.SmallTypes.newClass
    show (isSubtype (.type "enumerate") (.type "enumerate") >>= fun b => _) = _
    rw [sub_enumerate]
    rfl
  unfold Builtin.«enumerate.__new__»
  refine wpAny_bind (wpAny_of_eq cls ?_)
  have last : wpAny (model prog w) A (pyIter v >>= fun i => Builtin.SmallTypes.newRecord (.type "enumerate") (Builtin.SmallTypes.ownedTupleFields ++ [i, rawInt 0, .none, .none]) >>= fun r => PySem.ret r) Q E s := by
    refine wpAny_bind (B.iter prog w A E s _ now ?_)
    show wpAny _ A (newObj (.type "enumerate") (.fields #[.none, .bool false, .ref s.heap.objs.size, rawInt 0, .none, .none]) >>= fun r => PySem.ret r) Q E _
    exact wpAny_bind (wpAny_newObj_type (wpAny_pure told))
  dsimp only
  rw [if_pos (beq_self_eq_true _)]
  have how : wpAny (model prog w) A (Builtin.SmallTypes.calledThroughType (.type "enumerate")) (fun _ z => z = s) E s := wpAny_bind (wpAny_stack_any fun _ => wpAny_pure rfl)
  refine wpAny_bind (wpAny_mono how (fun short z same => ?_) fun _ _ => id)
  subst same
  cases short with
  | false => exact last
  | true => exact last
/-- .. and the call of the class -/
theorem call_one (B : Begins v o HB) (now : HB s.heap) {Q : Value → Shared → Prop} (told : ∀ h', IsEnum h' (s.heap.objs.size + 1) s.heap.objs.size 0 .none → h'.get? s.heap.objs.size = some o → (∀ b z, s.heap.get? b = some z → h'.get? b = some z) → Q (.ref (s.heap.objs.size + 1)) { s with heap := h' }) :
    wpAny (model prog w) A (call (.type "enumerate") [v]) Q E s := by
  have one_on : (s.heap.push o).objs.size = s.heap.objs.size + 1 := Heap.size_push ..
  have at_e := Heap.get?_push_size (s.heap.push o) (o := eObj s.heap.objs.size) rfl
  refine callType_new (S := fun _ R z => HB z.heap ∧ R (.ok (.ret (.ref (z.heap.push o).objs.size))) { z with heap := (z.heap.push o).push (eObj z.heap.objs.size) }) F.called_enumerate (by decide) (F.typeCall_enumerate_1 _) (F.newCall_enumerate_1 _) (fun obj => F.args_object_init_2 obj _) F.entry_enumerate_new
    (fun prog w A R z both => new_one B both.1 both.2) ⟨now, ?_⟩
  rw [one_on] at at_e
  show _ ∧ _
  rw [one_on]
  exact ⟨⟨_, at_e, rfl⟩, told _ at_e (Heap.get?_push_of_some _ (Heap.get?_push_size _ B.free)) fun b z q => Heap.get?_push_of_some _ (Heap.get?_push_of_some _ q)⟩
end
/-- the tuple at a as it stands at each turn, each item in a new pair -/
def IteT (K : PySem.W.Frag) (a : Addr) : It :=
  ⟨fun i H => ∃ (xs : List V) (x : V), SqT K H a xs ∧ xs[i]? = some x, fun i H v H' => ∃ T x, v = .ref T ∧ H T = none ∧ H' = upd H T (.tup [.int (i : Nat), x]) ∧ ∀ xs, SqT K H a xs → xs[i]? = some x, fun i H => ∃ xs : List V, SqT K H a xs ∧ xs.length = i⟩
/-- the two records stand, i turns done -/
def At (a e it : Addr) (i : Nat) (h : Heap) : Prop := (∃ old, IsEnum h e it ((i : Nat) : Int) old) ∧ h.IsTupleIter it a i ∧ e ≠ it
theorem apart {h : Heap} {a b : Addr} {S T : String} (x : ∃ o, h.get? a = some o ∧ o.cls = .type S) (y : ∃ o, h.get? b = some o ∧ o.cls = .type T) (n : S ≠ T) : a ≠ b := by
  rintro rfl
  obtain ⟨o, p, c⟩ := x
  obtain ⟨o', p', c'⟩ := y
  cases p.symm.trans p'
  exact n (Value.type.inj (c.symm.trans c'))
/-- as long as the tuple stands, its walk is the library's (Draws.tuple, WalksT.enumerateD) -/
theorem walks {X : Cx} {pins : List (Addr × Obj)} {s : Shared} {σ : L2.St} {H : Hp} {a e it : Addr} {i : Nat} {xs : List V} (hc : X.calm = true) (I : Inv X pins σ H s) (st : At a e it i s.heap) (hq : SqT X.K H a xs) : ∃ its : List Value, Vals xs its ∧ s.heap.IsTuple a its.toArray ∧
    WalksT X.prog X.w X.A e (e :: [it, a]) [e, it] its.toArray.size (fun i vals => ∃ t x, its.toArray[i]? = some x ∧ vals = #[.int i t, x]) (fun i h => (∃ old, IsEnum h e it i old) ∧ h.IsTupleIter it a i ∧ h.IsTuple a its.toArray)
      (fun i T h => (∃ x, IsEnumOut h e it ((i : Int) + 1) x T) ∧ (h.IsTupleIter it a (i + 1) ∧ h.IsTuple a its.toArray) ∧ T ≠ e ∧ T ≠ it) := by
  obtain ⟨⟨old, at_e⟩, at_it, ne⟩ := st
  obtain ⟨its, vals, at_a, _⟩ := I.tuple hq
  have ca : ∃ o, s.heap.get? a = some o ∧ o.cls = .type "tuple" := at_a.imp fun _ z => ⟨z.1, z.2.1⟩
  have ci : ∃ o, s.heap.get? it = some o ∧ o.cls = .type "tuple_iterator" := at_it.imp fun _ z => ⟨z.1, z.2.1⟩
  have ce : ∃ o, s.heap.get? e = some o ∧ o.cls = .type "enumerate" := ⟨_, at_e, rfl⟩
  have nea := apart ce ca (by decide)
  exact ⟨its, vals, at_a, .enumerateD (.tuple (show X.A.in1.handled = none from I.ok.hd hc) it a (apart ca ci (by decide)) its.toArray) e ne (by simp [ne, nea]) (by simp)⟩
theorem at_obj {a e it : Addr} {i : Nat} {h : Heap} (st : At a e it i h) {b : Addr} (of_ : b ∈ [e, it]) : ∃ o, h.get? b = some o ∧ ∀ v, o.data ≠ .cell v := by
  obtain ⟨⟨old, at_e⟩, ⟨o, at_it, _, rec⟩, _⟩ := st
  rcases List.mem_cons.mp of_ with rfl | of_
  · exact ⟨_, at_e, fun _ z => nomatch z⟩
  · cases List.mem_singleton.mp of_
    exact ⟨o, at_it, fun _ z => nomatch rec.symm.trans z⟩
theorem turn {P : Program} {w : World} {K : PySem.W.Frag} {elts : List Expr} {kk : Nat} {tpos : Pos} (a e it : Addr) : Turn P w K (.Tuple elts kk tpos) (IteT K a) [e, it] e (At a e it) where
  mem := List.mem_cons_self
  obj i h st b of_ := at_obj st of_
  keep i h h' st same := ⟨st.1.imp fun _ z => same e (by simp) _ z, st.2.1.at fun o z => same it (by simp) o z, st.2.2⟩
  self A i s Q E st q := st.1.elim fun _ z => wpAny_pyIter_enum z q
  done := by
    rintro X rfl rfl rfl hc i pins s σ H E I hf st ⟨xs, hq, rfl⟩
    obtain ⟨its, vals, at_a, W⟩ := walks hc I st hq
    refine W.done s _ E (by rw [List.size_toArray, ← vals.length]; exact ⟨st.1, st.2.1, at_a⟩) fun h' tk same => ⟨rfl, I.turnedL same hf⟩
  item := by
    rintro X rfl rfl rfl hc i pins s σ H E I hf st ⟨xs, x, hq, hx⟩
    obtain ⟨its, vals, at_a, W⟩ := walks hc I st hq
    obtain ⟨u, at_u, rel⟩ := vals.get hx
    have now : i < its.toArray.size := by simpa using (List.getElem?_eq_some_iff.mp at_u).1
    refine W.item i s _ E now ⟨st.1, st.2.1, at_a⟩ fun T _ h' tk ⟨t, y, at_y, ev⟩ new at_T mid same => ⟨_, rfl, W.go elts kk tpos i T _ _ _ mid fun h'' st' same' => ?_⟩
    subst ev
    obtain rfl : y = u := by
      rw [show its.toArray[i]? = its[i]? from by simp, at_u] at at_y
      exact (Option.some.inj at_y).symm
    have put : h''.IsTuple T #[.int i t, y] := at_T.at fun o z => same' T o (W.apart i T h' mid) z
    have pair : ObjOk X.prog X.w (upd H T (.tup [.int (i : Nat), x])) h'' T (.tup [.int (i : Nat), x]) := ⟨show 2 ≤ sizeLine by decide, [.int i t, y], .cons ⟨t, rfl⟩ (.cons rel .nil), put⟩
    refine ⟨.ref T, _, I.turnedNew (fun b o out z => same' b o out (same b o out z)) hf new pair, rfl, ⟨T, x, rfl, I.hok.fresh new, rfl, fun ys hy => by rw [I.tuple_inj hy hq]; exact hx⟩, ⟨st'.1, st'.2.1, st.2.2⟩, fun b of_ => ?_⟩
    have before : b < s.heap.objs.size := (at_obj st of_).elim fun _ z => Heap.lt_size z.1
    rw [upd_ne (Nat.ne_of_lt (Nat.lt_of_lt_of_le before new))]
    exact (hf b of_).1
/-- enumerate of a list or a tuple -/
def iEnumA (K : PySem.W.Frag) (ta : TA) : TI := fun σ H R => ta σ H fun vs H1 => ∃ a xs, vs = [.ref a] ∧ ((SqL K H1 a xs ∧ R (Ite K a) H1) ∨ (SqT K H1 a xs ∧ R (IteT K a) H1))
theorem pi_enumA {X : Cx} {e : Expr} {ta : TA} {p pos tpos : Pos} {elts : List Expr} {kk : Nat} (hg : Gl X "enumerate") (hm : X.mg "enumerate" = none) (ha : PA X [e] ta) (hs : starEach [e] X.env = [(false, eval e X.env)] := by rfl) :
    PI X (.Tuple elts kk tpos) (.Call (.Name "enumerate" p) [e] [] pos) (iEnumA X.K ta) := by
  have laid : ∀ {pins : List (Addr × Obj)} {s1 : Shared} {H1 : Hp} {σ : L2.St}, Inv X pins σ H1 s1 → ∀ b ∈ [s1.heap.objs.size + 1, s1.heap.objs.size], FpOk X pins H1 b := fun {pins s1 H1 σ} I1 b hb => by
    have new : s1.heap.objs.size ≤ b := by
      rcases List.mem_cons.mp hb with rfl | hb
      · exact Nat.le_succ _
      · exact Nat.le_of_eq (List.mem_singleton.mp hb).symm
    exact I1.fpOk new (I1.hok.fresh new)
  refine ⟨fun pins s σ H R I h => Call_ (ld_blt I hg hm boot_enumerate (PyProof.Rows.callWith_type1 (thn (ha.run pos pins s σ H _ I h) fun us s1 came => ?_) hs rfl))⟩
  obtain ⟨_, H1, I1, rels, a, xs, rfl, q⟩ := came
  cases rels with
  | cons rel none_ =>
    cases none_
    cases rel
    rcases q with ⟨hq, q⟩ | ⟨hq, q⟩
    · obtain ⟨its, _, at_a, _⟩ := I1.list hq
      exact call_enumerate_list at_a.isList fun h' at_e at_it _ same => wpAny_pyIter_enum at_e ⟨_, _, _, _, H1, rfl, I1.kept (t' := s1.toks) same, turn_enum a _ s1.heap.objs.size, ⟨⟨.none, at_e⟩, at_it, Nat.succ_ne_self _⟩, laid I1, q⟩
    · obtain ⟨its, _, at_a, _⟩ := I1.tuple hq
      exact call_one (begins_tuple a its.toArray) at_a fun h' at_e at_it same => wpAny_pyIter_enum at_e ⟨_, _, _, _, H1, rfl, I1.kept (t' := s1.toks) same, turn a _ s1.heap.objs.size, ⟨⟨.none, at_e⟩, ⟨_, at_it, rfl, rfl⟩, Nat.succ_ne_self _⟩, laid I1, q⟩
theorem walk {K : PySem.W.Frag} {a : Addr} {xs : List V} : Walk (IteT K a) xs.length (fun H => SqT K H a xs) (YPair (fun i => some (.int (i : Nat))) (fun i => xs[i]?)) where
  goes i H lt hq := ⟨xs, _, hq, List.getElem?_eq_getElem lt⟩
  stops H hq := ⟨xs, hq, rfl⟩
  yields i H v H' lt hq := fun ⟨p, x, ev, new, eH, item⟩ => ⟨p, .int (i : Nat), x, ev, new, eH, rfl, item xs hq⟩
end EnT
open PySem PySem.Spec L2
section
variable {X : Cx} {G : Gm} {W : WX} {f : Env → M T} {pos : Pos}
theorem it_eT {w : Wd} {a : Addr} {vs : List V} {xs : List T} (h : TupAt G.K w.P a vs) (d : Dens G w vs xs) : ItOk G w (EnT.IteT G.K a) (enumL 0 xs) := by
  refine ⟨_, _, by rw [enumL_len, ← d.length]; exact EnT.walk (xs := vs), fun w' H' r' L g => tup_sq g.sub (h.mono L.pub), fun i H1 v H2 w1 r1 L g hi y => ?_⟩
  obtain ⟨p, x, y, ev, hp, e2, ex, ey⟩ := y
  subst ev
  cases ex
  obtain ⟨t, ht, hd⟩ := d.getV ey
  obtain ⟨w2, st, g2, d2⟩ := pair_new g hp e2 (.int (i : Nat)) (hd.mono L)
  exact ⟨_, w2, by rw [enumL_at xs 0 i t ht, Nat.zero_add], st, g2, d2⟩
def EnTlt : T → Option (List T)
  | .lst xs => some xs
  | .kls xs => some xs
  | .tup xs => some xs
  | _ => none
def fEnumA (f : Env → M T) : Env → M (List T) := fun env => fAll [f] env >>= fun ts => M.lift (match ts with
  | [t] => (EnTlt t).map (enumL 0)
  | _ => none)
theorem i_enumA {a : Expr} {p tpos : Pos} {elts : List Expr} {kk : Nat} (hK : X.K = G.K) (hg : Gl X "enumerate") (hm : X.mg "enumerate" = none) (ha : SE X G W a f) (hs : starEach [a] X.env = [(false, eval a X.env)] := by rfl) :
    SI X G W (.Tuple elts kk tpos) (.Call (.Name "enumerate" p) [a] [] pos) (fEnumA f) :=
  pi_imp (EnT.pi_enumA hg hm (a_cons ha a_nil hs) hs) fun σ H R ⟨w, H0, env, r, g, s, h⟩ => by
    refine seqA g s h fun ts r1 w1 H1 vs g1 s1 st1 d1 l h1 => ?_
    obtain ⟨xs, e1, h2⟩ := liftP h1
    have h3 := h2 w1 H1 (Step.refl _ _) g1
    cases d1 with
    | nil => cases e1
    | @cons v vs t ts d d' =>
      cases d' with
      | cons _ _ => cases l
      | nil =>
        have e1 : (EnTlt t).map (enumL 0) = some xs := e1
        rw [hK]
        cases d with
        | lst h z dd => cases e1; exact ⟨_, _, rfl, .inl ⟨g1.sub.seq (.inl (.inl h)), h3 _ (it_e (.inl (.inl h)) dd)⟩⟩
        | kls h z dd => cases e1; exact ⟨_, _, rfl, .inl ⟨g1.sub.seq h, h3 _ (it_e h dd)⟩⟩
        | tup h z dd => cases e1; exact ⟨_, _, rfl, .inr ⟨tup_sq g1.sub h, h3 _ (it_eT h dd)⟩⟩
        | _ => cases e1
end
end Ep
namespace Ep
open PySem PySem.Spec L2
/-! ### self.f in an __init__, of the fields that are there already -/
end Ep
namespace Ep
open PySem PySem.Spec L2
/-! ### a, b = e, e' where one of both is a new list of the def's own -/
section
variable {X : Cx} {G : Gm} {W : WX} {pos : Pos}
end
end Ep
namespace Ep
open PySem PySem.Spec L2
/-! ### a walk through a list that is changed by several defs, as long as it stays as it is -/
def chkR (c : Option (Nat × List T)) (r : RS) : Prop := match c with
  | none => True
  | some (k, ys) => r[k]? = some ys
open Classical in
noncomputable def loopG (c : Option (Nat × List T)) (h : T → Env → Option Env) (g : Sm) : List T → Sm
  | [], env, r => if chkR c r then .nx env r else .bad
  | x :: xs, env, r => if chkR c r then (match h x env with
    | none => .bad
    | some env1 => match g env1 r with
      | .nx e r' => loopG c h g xs e r'
      | .ct e r' => loopG c h g xs e r'
      | .bk e r' => .nx e r'
      | .rt t r' => .rt t r'
      | .exn c p e r' => .exn c p e r'
      | .bad => .bad) else .bad
noncomputable def qForG (f : Env → M (List T × Option (Nat × List T))) (h : T → Env → Option Env) (g : Sm) : Sm := fun env r => ofM env (fun p r => loopG p.2 h g p.1 env r) (f env r)
theorem loopG_nil {c : Option (Nat × List T)} {h : T → Env → Option Env} {g : Sm} {env : Env} {r : RS} (hc : chkR c r) : loopG c h g [] env r = .nx env r := by unfold loopG; rw [if_pos hc]
theorem loopG_cons {c : Option (Nat × List T)} {h : T → Env → Option Env} {g : Sm} {x : T} {xs : List T} {env : Env} {r : RS} (hc : chkR c r) : loopG c h g (x :: xs) env r = (match h x env with
    | none => .bad
    | some env1 => match g env1 r with
      | .nx e r' => loopG c h g xs e r'
      | .ct e r' => loopG c h g xs e r'
      | .bk e r' => .nx e r'
      | .rt t r' => .rt t r'
      | .exn c p e r' => .exn c p e r'
      | .bad => .bad) := by rw [loopG, if_pos hc]
theorem loopG_chk {G : Gm} {W : WX} {w0 : Wd} {H0 : Hp} {D : Ends} {c : Option (Nat × List T)} {h : T → Env → Option Env} {g : Sm} : ∀ {xs : List T} {env : Env} {r : RS}, FlowP G W w0 H0 D (loopG c h g xs env r) → chkR c r
  | [], env, r, q => by
    unfold loopG at q
    by_cases hc : chkR c r
    · exact hc
    · rw [if_neg hc] at q; exact q.elim
  | x :: xs, env, r, q => by
    rw [loopG] at q
    by_cases hc : chkR c r
    · exact hc
    · rw [if_neg hc] at q; exact q.elim
def ItOkG (G : Gm) (w : Wd) (J : It) (xs : List T) (c : Option (Nat × List T)) : Prop := ∃ Gd Y, Walk J xs.length Gd Y ∧ (∀ w' H' r', Later w w' → Good G w' H' r' → chkR c r' → Gd H') ∧
  ∀ i H1 v H2 w1 r1, Later w w1 → Good G w1 H1 r1 → chkR c r1 → i < xs.length → Y i H1 v H2 → ∃ t w2, xs[i]? = some t ∧ Step w1 H1 w2 H2 ∧ Good G w2 H2 r1 ∧ Den G w2 v t
theorem ItOk.g {G : Gm} {w : Wd} {J : It} {xs : List T} (h : ItOk G w J xs) (c : Option (Nat × List T)) : ItOkG G w J xs c := by
  obtain ⟨Gd, Y, h1, h2, h3⟩ := h
  exact ⟨Gd, Y, h1, fun w' H' r' a b _ => h2 w' H' r' a b, fun i H1 v H2 w1 r1 a b _ => h3 i H1 v H2 w1 r1 a b⟩
def tSIG (G : Gm) (W : WX) (f : Env → M (List T × Option (Nat × List T))) : TI := fun σ H R => ∃ w H0 env r, Good G w H r ∧ Slots G w H0 H σ env ∧ OutP G w H (WE0 W σ) (fun p _ w' H' => ∀ J, ItOkG G w' J p.1 p.2 → R J H') (f env r)
abbrev SIG (X : Cx) (G : Gm) (W : WX) (tg e : Expr) (f : Env → M (List T × Option (Nat × List T))) : Prop := PI X tg e (tSIG G W f)
section
variable {X : Cx} {G : Gm} {W : WX} {pos : Pos}
theorem ss_forG {us : List Nat} {iter tg : Expr} {body : List Stmt} {f : Env → M (List T × Option (Nat × List T))} {h : T → Env → Option Env} {g : Sm} (hp : PassesOwn (model X.prog X.w) X.A X.env X.xe) (hc : X.calm = true) (hi : SIG X G W tg iter f) (hg : SG X G us tg h) (hb : SSs X G W body g)
    (hs : ∀ x, foldedSetIterable iter X.env x = pure x := by intro _; rfl) : SS X G W (.For tg iter body [] pos) (qForG f h g) := by
  intro w0 H0
  refine ⟨fun pins s σ H D I ⟨w, env, r, a, hq⟩ => ?_⟩
  refine (ps_for hp hc hi (pg_x hg) (pss_x hb) hs).run pins s σ H D I ?_
  refine ⟨w, H0, env, r, a.g, a.s, (FlowP.ofM a hq).imp fun xc r1 w1 H1 st1 g1 q J it => ?_⟩
  obtain ⟨xs, c⟩ := xc
  obtain ⟨a1, hf⟩ := q
  obtain ⟨Gd, Y, wk, hG, hY⟩ := it
  obtain ⟨Hc, stc, ac⟩ := a1.rebase
  have hf : FlowP G W w0 H0 D (loopG c h g xs env r1) := hf
  refine for_it wk (fun i σ H => ∃ w' env r, At G w1 Hc w' H σ env r ∧ FlowP G W w1 Hc D (loopG c h g (xs.drop i) env r)) ⟨w1, env, r1, ac, hf.base stc⟩ (fun i σ' H' _ ⟨w', env', r', a', hl⟩ => hG w' H' r' a'.st.later a'.g (loopG_chk hl)) ?_ ?_
  · rintro i x σ' H2 H3 hlt ⟨w', env', r', a', hl⟩ y
    have ck := loopG_chk hl
    obtain ⟨t, w2, ht, st2, g2, d⟩ := hY i H2 x H3 w' r' a'.st.later a'.g ck hlt y
    have a2 := a'.step st2 g2
    have ed : xs.drop i = t :: xs.drop (i + 1) := by
      rw [List.drop_eq_getElem_cons hlt]
      rw [List.getElem?_eq_getElem hlt] at ht
      cases ht
      rfl
    rw [ed, loopG_cons ck] at hl
    cases q : h t env' with
    | none => rw [q] at hl; exact hl.elim
    | some env1 =>
      rw [q] at hl
      refine ⟨w1, Hc, w2, env', r', t, env1, a2, d, q, fun σ2 s2 _ => ⟨w1, Hc, w2, env1, r', ⟨a2.st, a2.g, s2⟩, ?_⟩⟩
      simp only at hl
      cases o : g env1 r' with
      | nx e r2 => rw [o] at hl; exact fun w3 H4 σ3 st g s => ⟨w3, e, r2, ⟨st, g, s⟩, hl⟩
      | ct e r2 => rw [o] at hl; exact fun w3 H4 σ3 st g s => ⟨w3, e, r2, ⟨st, g, s⟩, hl⟩
      | bk e r2 => rw [o] at hl; exact hl
      | rt u r2 => rw [o] at hl; exact hl
      | exn c p e r2 => rw [o] at hl; exact hl
      | bad => rw [o] at hl; exact hl
  · rintro σ' H2 ⟨w', env', r', a', hl⟩
    have hl : FlowP G W w1 Hc D (loopG c h g (xs.drop xs.length) env' r') := hl
    rw [List.drop_length] at hl
    have ck := loopG_chk hl
    rw [loopG_nil ck] at hl
    exact hl w' H2 σ' a'.st a'.g a'.s
theorem walk_enumR {K : PySem.W.Frag} {a : Addr} {n : Nat} : Walk (Ite K a) n (fun H => ∃ vs : List V, vs.length = n ∧ SqL K H a vs) (fun i H v H' => ∃ (T : Addr) (x : V), v = .ref T ∧ H T = none ∧ H' = upd H T (.tup [.int (i : Nat), x]) ∧ ∀ vs, SqL K H a vs → vs[i]? = some x) := by
  refine ⟨fun i H hi q => ?_, fun H q => ?_, fun i H v H' _ q y => ?_⟩
  · obtain ⟨vs, hl, h⟩ := q
    exact ⟨vs, vs[i], h, by simp [hl, hi]⟩
  · obtain ⟨vs, hl, h⟩ := q
    exact ⟨vs, h, by omega⟩
  · obtain ⟨T, x, h1, h2, h3, h4⟩ := y
    exact ⟨T, x, h1, h2, h3, h4⟩
theorem it_eR {w : Wd} {a : Addr} {k : Nat} {ys : List T} (hk : w.R[k]? = some a) : ItOkG G w (Ite G.K a) (enumL 0 ys) (some (k, ys)) := by
  have same : ∀ w' H' r', Later w w' → Good G w' H' r' → r'[k]? = some ys → ∃ vs, H' a = some (.lst vs) ∧ Dens G w' vs ys := fun w' H' r' L g c => by
    obtain ⟨a', vs, h1, h2, h3, h4⟩ := g.refs.at_ k ys c
    obtain ⟨more, e⟩ := L.refs
    have : w'.R[k]? = some a := by
      rw [e, List.getElem?_append_left (List.getElem?_eq_some_iff.mp hk).1]; exact hk
    rw [this] at h1
    cases h1
    exact ⟨vs, h2, h3⟩
  refine ⟨_, _, by rw [enumL_len]; exact walk_enumR, fun w' H' r' L g c => ?_, fun i H1 v H2 w1 r1 L g c hi y => ?_⟩
  · obtain ⟨vs, h1, h2⟩ := same w' H' r' L g c
    exact ⟨vs, h2.length, SqL.of h1⟩
  · obtain ⟨p, x, ev, hp, e2, hx⟩ := y
    subst ev
    obtain ⟨vs, h1, h2⟩ := same w1 H1 r1 L g c
    have ey := hx vs (SqL.of h1)
    obtain ⟨t, ht, hd⟩ := h2.getV ey
    obtain ⟨w2, st, g2, d2⟩ := pair_new g hp e2 (.int (i : Nat)) hd
    exact ⟨_, w2, by rw [enumL_at ys 0 i t ht, Nat.zero_add], st, g2, d2⟩
def EnTltR (r : RS) : T → Option (List T × Option (Nat × List T))
  | .lst xs => some (xs, none)
  | .kls xs => some (xs, none)
  | .tup xs => some (xs, none)
  | .ref k => (r[k]?).map fun ys => (ys, some (k, ys))
  | _ => none
def fEnumG (f : Env → M T) : Env → M (List T × Option (Nat × List T)) := fun env => f env >>= fun t => fun r => M.lift ((EnTltR r t).map fun p => (enumL 0 p.1, p.2)) r
theorem i_enumG {a : Expr} {f : Env → M T} {p tpos : Pos} {elts : List Expr} {kk : Nat} (hK : X.K = G.K) (hg : Gl X "enumerate") (hm : X.mg "enumerate" = none) (ha : SE X G W a f) (hs : starEach [a] X.env = [(false, eval a X.env)] := by rfl) :
    SIG X G W (.Tuple elts kk tpos) (.Call (.Name "enumerate" p) [a] [] pos) (fEnumG f) :=
  pi_imp (EnT.pi_enumA hg hm (pa_cons ha pa_nil hs) hs) fun σ H R ⟨w, H0, env, r, g, s, h⟩ => by
    refine seqE g s h fun t r1 w1 H1 v g1 s1 st1 d h1 => ?_
    have h1 : OutP G w1 H1 (WE0 W σ) (fun p _ w' H' => ∀ J, ItOkG G w' J p.1 p.2 → R J H') (M.lift ((EnTltR r1 t).map fun p => (enumL 0 p.1, p.2)) r1) := h1
    show ∃ a xs, [v] = [V.ref a] ∧ _
    rw [hK]
    cases d with
    | lst h z dd => exact ⟨_, _, rfl, .inl ⟨g1.sub.seq (.inl (.inl h)), OutP.here g1 h1 _ ((it_e (.inl (.inl h)) dd).g _)⟩⟩
    | kls h z dd => exact ⟨_, _, rfl, .inl ⟨g1.sub.seq h, OutP.here g1 h1 _ ((it_e h dd).g _)⟩⟩
    | tup h z dd => exact ⟨_, _, rfl, .inr ⟨tup_sq g1.sub h, OutP.here g1 h1 _ ((it_eT h dd).g _)⟩⟩
    | @ref k b h =>
      cases q : r1[k]? with
      | none =>
        have e : EnTltR r1 (.ref k) = none := by show (r1[k]?).map _ = none; rw [q]; rfl
        rw [e] at h1
        exact h1.elim
      | some ys =>
        have e : EnTltR r1 (.ref k) = some (ys, some (k, ys)) := by show (r1[k]?).map _ = _; rw [q]; rfl
        rw [e] at h1
        obtain ⟨b', vs, k1, k2, k3, k4⟩ := g1.refs.at_ k ys q
        rw [h] at k1
        cases k1
        exact ⟨_, _, rfl, .inl ⟨SqL.of k2, OutP.here g1 h1 _ (it_eR h)⟩⟩
    | _ => exact h1.elim
end
end Ep
/-! int of a whole number, a truth or a short text of figures -/
namespace Ep
open PySem PySem.Spec L2 PyProof.Rows
section
variable {X : Cx} {G : Gm} {W : WX} {pos : Pos} {a : Expr} {f : Env → M T}
end
end Ep
namespace Ep
open PySem PySem.Spec L2
/-! ### steps, for the walker (wk.hd) -/
section
variable {f g k : Env → M T} {p q : Env → M Bool} {env env' env2 e : Env} {r r1 r2 r3 : RS} {x y z t u : T} {s s' : Sm} {so : SO} {b c : Bool} {n C : Nat} {F : List T → M T} {ts vs us : List T} {fs : List (Env → M T)}
theorem x_call {o : Out T} (h1 : fAll fs env r = .ok ts r1) (h2 : F ts r1 = o) : fCall F [] fs env r = o := bind_ok h1 (by rw [List.append_nil]; exact h2)
theorem x_make {F : List T → M (List T)} (h1 : fAll fs env r = .ok ts r1) (h2 : F ts r1 = .ok us r2) : fMake C F [] fs env r = .ok (.obj C us) r2 := bind_ok h1 (by rw [List.append_nil]; exact bind_ok h2 rfl)
theorem x_meth {o : Out T} (h1 : f env r = .ok (.obj C vs) r1) (h2 : fAll fs env r1 = .ok ts r2) (h3 : F (.obj C vs :: ts) r2 = o) : fMeth C F [] f fs env r = o := e_meth h1 h2 (by rw [List.append_nil]; exact h3)
theorem x_fld {m : Nat → Option Nat} {j : Nat} (h1 : f env r = .ok (.obj C vs) r1) (h2 : m C = some j) (h3 : vs[j]? = some t) : fFld m f env r = .ok t r1 := bind_ok h1 (by
  show M.lift ((m C).bind fun j => vs[j]?) r1 = _
  rw [h2]
  show M.lift (vs[j]?) r1 = _
  rw [h3]; rfl)
theorem x_exprX {c : Nat} {p : T} (h : f env r = .exn c p r1) : qExpr f env r = .exn c p env r1 := by unfold qExpr ofM; rw [h]
theorem x_seqX {c : Nat} {p : T} (h : s env r = .exn c p e r1) : qSeq s s' env r = .exn c p e r1 := by unfold qSeq; rw [h]
theorem x_own {i : Nat} {f : Env → M (List T)} {xs : List T} (h : f env r = .ok xs r1) : qOwn i f env r = .nx (env.set i (.own xs)) r1 := by unfold qOwn ofM; rw [h]
theorem x_app {i : Nat} {xs : List T} (h : f env r = .ok t r1) (he : env[i]? = some (.own xs)) (hl : xs.length < 100000) : qApp i f env r = .nx (env.set i (.own (xs ++ [t]))) r1 := by
  have e1 : isMut env i = true := by unfold isMut; rw [he]
  have e2 : mutGet env i r1 = some xs := by unfold mutGet; rw [he]
  have e3 : mutSet env i r1 (xs ++ [t]) = .nx (env.set i (.own (xs ++ [t]))) r1 := by unfold mutSet; rw [he]
  unfold qApp
  rw [if_pos e1, h]
  show (match mutGet env i r1 with
    | some xs => if xs.length < 100000 then mutSet env i r1 (xs ++ [t]) else .bad
    | none => .bad) = _
  rw [e2]
  show (if xs.length < 100000 then mutSet env i r1 (xs ++ [t]) else .bad) = _
  rw [if_pos hl, e3]
theorem x_notF (h1 : p env r = .ok true r1) : fNotB p env r = .ok false r1 := e_notB h1
theorem x_it {xs : List T} (h : f env r = .ok t r1) (h2 : iterT t = some xs) : fIter f env r = .ok xs r1 := bind_ok h (by rw [h2]; rfl)
theorem x_sl0 {j : Int} (h1 : f env r = .ok x r1) (h3 : k env r1 = .ok (.int j) r2) (h4 : slT r2 x none (some j) = some y) : fSl f none (some k) env r = .ok y r2 := by
  refine bind_ok h1 (bind_ok (a := none) (r1 := r1) rfl (bind_ok (a := some j) (r1 := r2) (bind_ok h3 rfl) ?_))
  show M.lift (slT r2 x none (some j)) r2 = _
  rw [h4]; rfl
theorem x_sl1 {j : Int} (h1 : f env r = .ok x r1) (h3 : k env r1 = .ok (.int j) r2) (h4 : slT r2 x (some j) none = some y) : fSl f (some k) none env r = .ok y r2 := by
  refine bind_ok h1 (bind_ok (a := some j) (r1 := r2) (bind_ok h3 rfl) (bind_ok (a := none) (r1 := r2) rfl ?_))
  show M.lift (slT r2 x (some j) none) r2 = _
  rw [h4]; rfl
theorem x_rng2 {xs : List T} (h1 : f env r = .ok x r1) (h2 : g env r1 = .ok y r2) (h3 : rng2T [x, y] = some xs) : fRng2 f g env r = .ok xs r2 := bind_ok (e_cons h1 (e_cons h2 e_nil)) (by rw [h3]; rfl)
/-! own comparisons -/
end
/-! loops, by what stands of the slots -/
/-! what holds of a run's end -/
section
variable {s s' : Sm} {env env' : Env} {r r1 : RS} {t : T} {Q : SO → Prop}
end
/-! leaves -/
theorem lf_le {i j : Int} (h : i ≤ j) : leT (.int i) (.int j) = some true := by show some (decide (i ≤ j)) = _; rw [decide_eq_true h]
theorem lf_leF {i j : Int} (h : ¬ i ≤ j) : leT (.int i) (.int j) = some false := by show some (decide (i ≤ j)) = _; rw [decide_eq_false h]
theorem lf_geF {i j : Int} (h : ¬ j ≤ i) : geT (.int i) (.int j) = some false := by show some (decide (j ≤ i)) = _; rw [decide_eq_false h]
theorem lf_eq {i j : Int} (h : i = j) : eqT (.int i) (.int j) = some true := by show some (i == j) = _; rw [h, beq_self_eq_true]
theorem lf_eqF {i j : Int} (h : i ≠ j) : eqT (.int i) (.int j) = some false := by show some (i == j) = _; rw [beq_eq_false_iff_ne.mpr h]
theorem lf_mulR {i j : Int} (h : -(2 ^ 64) < j ∧ j < 2 ^ 64) : mulT (.int i) (.int j) = some (.int (i * j)) := by
  show (if mulOk i j = true then some (T.int (i * j)) else none) = _
  rw [if_pos]
  unfold mulOk
  rw [decide_eq_true h.1, decide_eq_true h.2]
  simp
theorem lf_mod {i j : Int} (h : 0 < j) : modT (.int i) (.int j) = some (.int (i % j)) := if_pos h
theorem lf_div {i j : Int} (h : 0 < j) (h2 : j.natAbs < 2 ^ 1000) : divT (.int i) (.int j) = some (.int (i / j)) := by
  refine if_pos ⟨h, ?_⟩
  have := (Nat.log2_lt (by omega : j.natAbs ≠ 0)).mpr h2
  omega
end Ep
local macro_rules | `(tactic| infer_instance) => `(tactic| first
  | with_reducible assumption
  | with_reducible exact Ep.e_nil
  | (with_reducible apply Ep.e_cons) <;> infer_instance
  | (with_reducible apply Ep.e_bin) <;> infer_instance
  | (with_reducible apply Ep.e_un) <;> infer_instance
  | (with_reducible apply Ep.e_b1) <;> infer_instance
  | (with_reducible apply Ep.e_ix) <;> infer_instance
  | (with_reducible apply Ep.e_tup) <;> infer_instance
  | (with_reducible apply Ep.e_lst) <;> infer_instance
  | (with_reducible apply Ep.e_own) <;> infer_instance
  | (with_reducible apply Ep.x_call) <;> infer_instance
  | (with_reducible apply Ep.x_make) <;> infer_instance
  | (with_reducible apply Ep.x_meth) <;> infer_instance
  | (with_reducible apply Ep.x_fld) <;> infer_instance
  | (with_reducible apply Ep.e_cmpB) <;> infer_instance
  | (with_reducible apply Ep.e_cmp) <;> infer_instance
  | (with_reducible apply Ep.e_tru) <;> infer_instance
  | (with_reducible apply Ep.e_toB) <;> infer_instance
  | (with_reducible apply Ep.x_ref) <;> infer_instance
  | (with_reducible apply Ep.x_seqL) <;> infer_instance
  | (with_reducible apply Ep.x_it) <;> infer_instance
  | (with_reducible apply Ep.x_sl2) <;> infer_instance
  | (with_reducible apply Ep.x_sl1) <;> infer_instance
  | (with_reducible apply Ep.x_sl0) <;> infer_instance
  | (with_reducible apply Ep.x_str1) <;> infer_instance
  | (with_reducible apply Ep.x_rng1) <;> infer_instance
  | (with_reducible apply Ep.x_rng2) <;> infer_instance
  | exact rfl)
local macro_rules | `(tactic| infer_instance) => `(tactic| first
  | (with_reducible apply Ep.x_own2s) <;> infer_instance
  | (with_reducible apply Ep.x_own2n) <;> infer_instance
  | (with_reducible apply Ep.x_own2x) <;> infer_instance
  | (with_reducible apply Ep.x_own2c) <;> infer_instance
  | (with_reducible apply Ep.x_own2nc) <;> infer_instance
  | (with_reducible apply Ep.x_notF) <;> infer_instance
  | (with_reducible apply Ep.x_notT) <;> infer_instance
  | (with_reducible apply Ep.x_nvF) <;> infer_instance
  | (with_reducible apply Ep.x_nvT) <;> infer_instance
  | (with_reducible apply Ep.e_notB) <;> infer_instance
  | (with_reducible apply Ep.e_not) <;> infer_instance
  | (with_reducible apply Ep.e_orBF) <;> infer_instance
  | (with_reducible apply Ep.e_orBT) <;> infer_instance
  | (with_reducible apply Ep.e_andBF) <;> infer_instance
  | (with_reducible apply Ep.e_andBT) <;> infer_instance
  | (with_reducible apply Ep.e_orF) <;> infer_instance
  | (with_reducible apply Ep.e_orT) <;> infer_instance
  | (with_reducible apply Ep.e_andF) <;> infer_instance
  | (with_reducible apply Ep.e_andT) <;> infer_instance
  | (with_reducible apply Ep.e_ifF) <;> infer_instance
  | (with_reducible apply Ep.e_ifT) <;> infer_instance
  | (with_reducible apply Ep.x_chain) <;> infer_instance
  | (with_reducible apply Ep.x_chainF) <;> infer_instance
  | (with_reducible apply Ep.x_chainB) <;> infer_instance
  | (with_reducible apply Ep.x_chainBF) <;> infer_instance)
local macro_rules | `(tactic| infer_instance) => `(tactic| first
  | (with_reducible apply Ep.n_set) <;> infer_instance
  | (with_reducible apply Ep.n_par2) <;> infer_instance
  | (with_reducible apply Ep.x_par3) <;> infer_instance
  | (with_reducible apply Ep.n_asg) <;> infer_instance
  | (with_reducible apply Ep.x_expr) <;> infer_instance
  | (with_reducible apply Ep.n_ret) <;> infer_instance
  | (with_reducible apply Ep.x_own) <;> infer_instance
  | (with_reducible apply Ep.x_app) <;> infer_instance
  | (with_reducible apply Ep.x_raise) <;> infer_instance
  | (with_reducible apply Ep.n_ifF) <;> infer_instance
  | (with_reducible apply Ep.n_ifT) <;> infer_instance
  | (with_reducible apply Ep.n_seqR) <;> infer_instance
  | (with_reducible apply Ep.n_seq) <;> infer_instance
  | (with_reducible apply Ep.x_seqX) <;> infer_instance)
local macro_rules | `(tactic| infer_instance) => `(tactic| first
  | (with_reducible apply Ep.lf_lt); omega
  | (with_reducible apply Ep.lf_ltF); omega
  | (with_reducible apply Ep.lf_le); omega
  | (with_reducible apply Ep.lf_leF); omega
  | (with_reducible apply Ep.lf_gt); omega
  | (with_reducible apply Ep.lf_gtF); omega
  | (with_reducible apply Ep.lf_ge); omega
  | (with_reducible apply Ep.lf_geF); omega
  | (with_reducible apply Ep.lf_eq); omega
  | (with_reducible apply Ep.lf_eqF); omega
  | (with_reducible apply Ep.lf_ne); omega
  | (with_reducible apply Ep.lf_neF); omega
  | (with_reducible apply Ep.lf_mulL); omega
  | (with_reducible apply Ep.lf_mulR); omega
  | (with_reducible apply Ep.lf_mod); omega
  | (with_reducible apply Ep.lf_div) <;> omega)
namespace Ep
open PySem PySem.Spec L2
/-! ### == and != where a changed list stands on a side -/
section
variable {X : Cx} {G : Gm} {W : WX} {j : Nat} {pos : Pos} {a b : Expr} {f g : Env → M T}
end
/-! ### [x] * n and xs + ys as new lists -/
section
variable {X : Cx} {G : Gm} {W : WX} {pos : Pos} {a b : Expr} {f g : Env → M T}
end
end Ep
namespace Ep
open PySem PySem.Spec L2
/-! ### a def called on instances of several classes; x += an integer -/
section
variable {X : Cx} {G : Gm} {W : WX} {pos apos : Pos} {e : Expr} {es : List Expr} {f : Env → M T} {fs : List (Env → M T)} {ds : List T} {j k n : Nat} {Cs : List Nat}
end
end Ep
/-! zip of two sources of any kind: lists, tuples, texts. -/
namespace Ep
open PySem PySem.Spec PyProof.Rows L2
theorem vals_back {xs : List V} {us : List Value} (rel : Vals xs us) {i : Nat} {v : Value} (e : us[i]? = some v) : ∃ x, xs[i]? = some x ∧ RelV x v := by
  have lt : i < xs.length := by rw [rel.length]; exact (List.getElem?_eq_some_iff.mp e).1
  obtain ⟨u, eu, r⟩ := rel.get (List.getElem?_eq_getElem lt)
  rw [e] at eu
  cases eu
  exact ⟨_, List.getElem?_eq_getElem lt, r⟩
inductive Src where
  | l (a : Addr)
  | t (a : Addr)
  | s (z : Str) (tk : Tok)
namespace Src
def val : Src → Value
  | .l a => .ref a
  | .t a => .ref a
  | .s z tk => .str z tk
def fp (it : Addr) : Src → List Addr
  | .l a => [it, a]
  | .t a => [it, a]
  | .s _ _ => [it]
def At (K : PySem.W.Frag) (H : Hp) : Src → List V → Prop
  | .l a, xs => SqL K H a xs
  | .t a, xs => SqT K H a xs
  | .s z _, xs => xs = z.cps.toList.map fun c => V.str ⟨#[c]⟩
def Cur (it : Addr) : Src → Nat → Heap → Prop
  | .l a, i, h => h.IsListIter it a i
  | .t a, i, h => h.IsTupleIter it a i
  | .s z tk, i, h => h.IsStrIter it (strIterType z) z tk i
def ob : Src → Obj
  | .l a => { cls := .type "list_iterator", data := .fields #[.ref a, .int 0 0] }
  | .t a => { cls := .type "tuple_iterator", data := .fields #[.ref a, .int 0 0] }
  | .s z tk => { cls := .type (strIterType z), data := .fields #[.str z tk, .int 0 0] }
theorem cur_ob : ∀ (o : Src) {it : Addr} {i : Nat} {h : Heap}, o.Cur it i h → ∃ b, h.get? it = some b ∧ ∀ v, b.data ≠ .cell v
  | .l _, _, _, _, ⟨b, e, _, d⟩ => ⟨b, e, fun v q => by rw [d] at q; nomatch q⟩
  | .t _, _, _, _, ⟨b, e, _, d⟩ => ⟨b, e, fun v q => by rw [d] at q; nomatch q⟩
  | .s _ _, _, _, _, ⟨b, e, _, d⟩ => ⟨b, e, fun v q => by rw [d] at q; nomatch q⟩
theorem cur_keep : ∀ (o : Src) {it : Addr} {i : Nat} {h h' : Heap}, o.Cur it i h → (∀ b, h.get? it = some b → h'.get? it = some b) → o.Cur it i h'
  | .l _, _, _, _, _, ⟨b, e, r⟩, k => ⟨b, k b e, r⟩
  | .t _, _, _, _, _, ⟨b, e, r⟩, k => ⟨b, k b e, r⟩
  | .s _ _, _, _, _, _, ⟨b, e, r⟩, k => ⟨b, k b e, r⟩
variable {s : Shared} {H : Hp} {σ : L2.St} {X : Cx} {pins : List (Addr × Obj)}
theorem draws {A : Around} (hh : A.handled = none) (I : Inv X pins σ H s) (it : Addr) : ∀ {o : Src} {xs : List V}, o.At X.K H xs → (∀ a, o.val = .ref a → a ≠ it) →
    ∃ Pd Sd, Draws X.prog X.w A it (o.fp it) xs.length Pd Sd ∧ (∀ i v, Pd i v → ∃ x, xs[i]? = some x ∧ RelV x v) ∧ (∀ i h, Sd i h → o.Cur it i h) ∧ ∀ i, o.Cur it i s.heap → Sd i s.heap
  | .l a, xs, h, ne => by
    obtain ⟨us, rel, pl, _⟩ := I.list h
    have D := Draws.list (prog := X.prog) (w := X.w) hh it a (ne a rfl) us.toArray
    rw [show us.toArray.size = xs.length by rw [rel.length]; rfl] at D
    exact ⟨_, _, D, fun i v q => vals_back rel (by simpa using q), fun i h q => q.1, fun i q => ⟨q, pl.isList⟩⟩
  | .t a, xs, h, ne => by
    obtain ⟨us, rel, pl, _⟩ := I.tuple h
    have D := Draws.tuple (prog := X.prog) (w := X.w) hh it a (ne a rfl) us.toArray
    rw [show us.toArray.size = xs.length by rw [rel.length]; rfl] at D
    exact ⟨_, _, D, fun i v q => vals_back rel (by simpa using q), fun i h q => q.1, fun i q => ⟨q, pl⟩⟩
  | .s z tk, xs, h, _ => by
    have D := Draws.text (prog := X.prog) (w := X.w) hh it z tk
    have h : xs = z.cps.toList.map fun c => V.str ⟨#[c]⟩ := h
    rw [show z.cps.size = xs.length by rw [h]; simp] at D
    exact ⟨_, _, D, fun i v ⟨c, u, e, ev⟩ => ⟨.str ⟨#[c]⟩, by rw [h]; simp [e], u, ev⟩, fun _ _ q => q, fun _ q => q⟩
theorem begins (I : Inv X pins σ H s) : ∀ {o : Src} {xs : List V}, o.At X.K H xs → ∃ Hb, Begins o.val o.ob Hb ∧ Hb s.heap
  | .l a, xs, h => by
    obtain ⟨us, rel, pl, _⟩ := I.list h
    exact ⟨_, begins_list a us.toArray, pl.isList⟩
  | .t a, xs, h => by
    obtain ⟨us, rel, pl, _⟩ := I.tuple h
    exact ⟨_, begins_tuple a us.toArray, pl⟩
  | .s z tk, _, _ => ⟨_, begins_text z tk, trivial⟩
end Src
section
variable {P : Program} {w : World} {K : PySem.W.Frag} {elts : List Expr} {kk : Nat} {tpos : Pos}
structure Five (o p : Src) (z TI TO i1 i2 : Addr) : Prop where
  sep : ZipSep2 z TI TO i1 i2 (o.fp i1) (p.fp i2)
  ne1 : ∀ a, o.val = .ref a → a ≠ i1
  ne2 : ∀ a, p.val = .ref a → a ≠ i2
theorem Src.below {X : Cx} {pins : List (Addr × Obj)} {σ : L2.St} {H : Hp} {s : Shared} (I : Inv X pins σ H s) : ∀ {o : Src} {xs : List V} {a : Addr}, o.At X.K H xs → o.val = .ref a → a < s.heap.objs.size
  | .l _, _, _, h, e => by cases e; obtain ⟨_, _, pl, _⟩ := I.list h; exact pl.lt
  | .t _, _, _, h, e => by cases e; obtain ⟨_, _, ⟨_, q, _⟩, _⟩ := I.tuple h; exact Heap.lt_size q
  | .s _ _, _, _, _, e => nomatch e
structure SrcOf (K : PySem.W.Frag) (H : Hp) (x : V) (xs : List V) (o : Tok → Src) : Prop where
  val : ∀ u, RelV x u → ∃ tk, u = (o tk).val
  at_ : ∀ tk, (o tk).At K H xs
end
section
variable {X : Cx} {G : Gm} {W : WX} {pos : Pos} {f : Env → M T}
end
/-! e[::-1] of a tuple -/
section
variable {s : Shared} {w : World} {prog : Program} {E : Value → Shared → Prop} {A : Around}
end
end Ep
/-! a tuple of any length times any small integer -/
namespace Ep
open PySem PySem.Spec PyProof.Rows L2
section
variable {l : Addr} {us : Array Value} {n : Nat} {dd : Option Addr} {sl : Array (Option Value)} {k : Int} {tk : Tok}
end
end Ep
/-! displays with stars, list(range(..)), sorted(ints), walks over a new dict of a comprehension. -/
namespace Ep
open PySem PySem.Spec PyProof.Rows L2
/-! ### arguments with stars -/
def tSAx (G : Gm) (W : WX) (f : Env → M (List T)) : TA := fun σ H Q => ∃ w H0 env r, Good G w H r ∧ Slots G w H0 H σ env ∧ OutP G w H (WE0 W σ) (fun ts _ w' H' => ∀ vs, Dens G w' vs ts → Q vs H') (f env r)
abbrev SAx (X : Cx) (G : Gm) (W : WX) (es : List Expr) (f : Env → M (List T)) : Prop := PA X es (tSAx G W f)
def fCons (f : Env → M T) (g : Env → M (List T)) : Env → M (List T) := fun env => f env >>= fun x => g env >>= fun xs => pure (x :: xs)
def mSeq (t : T) : M (List T) := fun r => M.lift (seqT r t) r
def fStar (f : Env → M T) (g : Env → M (List T)) : Env → M (List T) := fun env => f env >>= fun x => mSeq x >>= fun xs => g env >>= fun ys => pure (xs ++ ys)
section
variable {X : Cx} {G : Gm} {W : WX} {pos : Pos} {a e : Expr} {es : List Expr} {f : Env → M T} {g : Env → M (List T)} {fs : List (Env → M T)}
theorem seqAx {α : Type} {w : Wd} {H0 H : Hp} {r : RS} {σ : L2.St} {env : Env} {k : List T → M α} {P : α → RS → Wd → Hp → Prop} {Q : List V → Hp → Prop} (g0 : Good G w H r) (s : Slots G w H0 H σ env) (h : OutP G w H (WE0 W σ) P ((g env >>= k) r))
    (n : ∀ t r1 w1 H1 v, Good G w1 H1 r1 → Slots G w1 H0 H1 σ env → Step w H w1 H1 → Dens G w1 v t → OutP G w1 H1 (WE0 W σ) P (k t r1) → Q v H1) : tSAx G W g σ H Q :=
  ⟨w, H0, env, r, g0, s, h.bind.imp fun t r1 w1 H1 st g1 o v d => n t r1 w1 H1 v g1 (s.step st) st d o⟩
theorem ax_of (h : SA X G W es fs) : SAx X G W es (fAll fs) := pa_imp h fun σ H Q ⟨w, H0, env, r, g, s, h⟩ => ⟨w, H0, env, r, g, s, h.imp fun _ _ _ _ _ _ z v d _ => z v d⟩
theorem ax_cons (ha : SE X G W e f) (hr : SAx X G W es g) (hs : starEach (e :: es) X.env = (false, eval e X.env) :: starEach es X.env := by rfl) : SAx X G W (e :: es) (fCons f g) :=
  pa_imp (pa_cons ha hr hs) fun σ H Q ⟨w, H0, env, r, g0, s, h0⟩ => by
    refine seqE g0 s h0 fun t r1 w1 H1 x g1 s1 st1 d1 h1 => ?_
    refine seqAx g1 s1 h1 fun ts r2 w2 H2 xs g2 s2 st2 d2 h2 => ?_
    exact OutP.here g2 h2 (x :: xs) (.cons (d1.mono st2.later) d2)
theorem ax_star {p : Pos} (hK : X.K = G.K) (he : SK X G W e f) (hr : SAx X G W es g) (hs : starEach (.Starred e p :: es) X.env = (true, eval e X.env) :: starEach es X.env := by rfl) : SAx X G W (.Starred e p :: es) (fStar f g) :=
  pa_imp (StX.pa_star he hr hs) fun σ H Q ⟨w, H0, env, r, g0, s, h0⟩ => by
    refine seqK g0 s h0 fun t r1 w1 H1 x g1 s1 st1 d1 h1 => ?_
    have h1 := h1.bind
    have h1 : OutP G w1 H1 (WE0 W σ) _ (M.lift (seqT r1 t) r1) := h1
    obtain ⟨xs, ex, h2⟩ := liftP h1
    obtain ⟨b, rfl, sq⟩ := seq_of g1 d1 ex
    have h3 := h2 w1 H1 (Step.refl _ _) g1
    rw [hK]
    cases sq with
    | l vs h d z => exact ⟨b, vs, rfl, .inr h, seqAx g1 s1 h3 fun ts r2 w2 H2 us g2 s2 st2 d2 h4 => OutP.here g2 h4 (vs ++ us) ((d.mono st2.later).append d2)⟩
    | t vs h d z => exact ⟨b, vs, rfl, .inl h, seqAx g1 s1 h3 fun ts r2 w2 H2 us g2 s2 st2 d2 h4 => OutP.here g2 h4 (vs ++ us) ((d.mono st2.later).append d2)⟩
def fitL (ts : List T) : M (List T) := if ts.length ≤ sizeLine then pure ts else M.bad
def fLstX (g : Env → M (List T)) : Env → M T := fun env => g env >>= fun ts => fitL ts >>= fun us => pure (.lst us)
theorem fit_use {α : Type} {w : Wd} {H : Hp} {r : RS} {E : XK} {ts : List T} {k : List T → M α} {P : α → RS → Wd → Hp → Prop} (g : Good G w H r) (h : OutP G w H E P ((fitL ts >>= k) r)) : ts.length ≤ sizeLine ∧ OutP G w H E P (k ts r) := by
  unfold fitL at h
  by_cases q : ts.length ≤ sizeLine
  · rw [if_pos q] at h; exact ⟨q, h⟩
  · rw [if_neg q] at h; exact h.elim
theorem s_lstX (ha : SAx X G W es g) : SE X G W (.List es pos) (fLstX g) :=
  pe_imp (pe_lst ha) fun σ H Q ⟨w, H0, env, r, g0, s, h0⟩ => by
    refine seqAx g0 s h0 fun ts r1 w1 H1 vs g1 s1 st1 d1 h1 => ?_
    obtain ⟨hz, h1⟩ := fit_use g1 h1
    refine ⟨by rw [d1.length]; exact hz, fun p hp => ?_⟩
    obtain ⟨st, g2⟩ := g1.new (o := .lst vs) hp
    exact h1 _ _ st g2 _ (.lst upd_same hz (d1.mono st.later))
end
/-! ### list(range(..)) -/
section
variable {X : Cx} {G : Gm} {W : WX} {pos pos2 p p2 : Pos} {a b : Expr} {f g : Env → M T}
end
/-! ### sorted(ints) -/
def sortI (ns : List Int) : List Int := ns.mergeSort (fun a b => decide (a ≤ b))
theorem sortI_perm (ns : List Int) : (sortI ns).Perm ns := List.mergeSort_perm _ _
theorem sortI_le (ns : List Int) : (sortI ns).Pairwise (· ≤ ·) :=
  (List.pairwise_mergeSort (le := fun a b : Int => decide (a ≤ b)) (fun a b c h1 h2 => by simp at *; omega) (fun a b => by simp; omega) ns).imp fun h => by simpa using h
theorem sort_one : ∀ {xs ys : List Int}, xs.Perm ys → xs.Pairwise (· ≤ ·) → ys.Pairwise (· ≤ ·) → xs = ys
  | [], ys, p, _, _ => (List.nil_perm.mp p).symm ▸ rfl
  | x :: xs, [], p, _, _ => absurd p.length_eq (by simp)
  | x :: xs, y :: ys, p, hx, hy => by
    have h1 := List.pairwise_cons.mp hx
    have h2 := List.pairwise_cons.mp hy
    have e : x = y := by
      have a : y ∈ x :: xs := p.mem_iff.mpr (List.mem_cons_self ..)
      have b : x ∈ y :: ys := p.mem_iff.mp (List.mem_cons_self ..)
      rcases List.mem_cons.mp a with q | q
      · exact q.symm
      · rcases List.mem_cons.mp b with q' | q'
        · exact q'
        · have := h1.1 y q; have := h2.1 x q'; omega
    subst e
    rw [sort_one ((List.perm_cons x).mp p) h1.2 h2.2]
def sortT (r : RS) (t : T) : Option T := (lstT r t).bind fun xs => (intsT xs).map fun ns => .lst ((sortI ns).map T.int)
theorem ints_back {G : Gm} {w : Wd} : ∀ ns : List Int, Dens G w (ns.map V.int) (ns.map T.int)
  | [] => .nil
  | _ :: ns => .cons (.int _) (ints_back ns)
theorem ints_len : ∀ {ts : List T} {ns : List Int}, intsT ts = some ns → ns.length = ts.length
  | [], ns, e => by cases e; rfl
  | t :: ts, ns, e => by
    cases t <;> try (cases e)
    rename_i i
    have e : (intsT ts).map (i :: ·) = some ns := e
    cases q : intsT ts with
    | none => rw [q] at e; exact nomatch e
    | some ms => rw [q] at e; cases e; simp [ints_len q]
theorem v_sort {X : Cx} {G : Gm} (hK : X.K = G.K) : B1 G (rSortedI X.K) sortT := fun w H r v t z Q g d e q => by
  unfold sortT at e
  obtain ⟨xs, e1, e⟩ := Option.bind_eq_some_iff.mp e
  obtain ⟨ns, e2, rfl⟩ := Option.map_eq_some_iff.mp e
  obtain ⟨a, vs, rfl, hq, dd, hz⟩ := lst_of g d e1
  have ev := ints_of dd e2
  subst ev
  refine ⟨a, ns, rfl, by rw [hK]; exact hq, fun ns' p hp hs hn => ?_⟩
  obtain rfl : ns' = sortI ns := sort_one (hp.trans (sortI_perm ns).symm) hs (sortI_le ns)
  obtain ⟨st, g2⟩ := g.new (o := .lst ((sortI ns).map V.int)) hn
  exact q _ _ _ st g2 (.lst upd_same (by rw [List.length_map, (sortI_perm ns).length_eq, ints_len e2]; exact hz) (ints_back _))
/-! ### {k: v for x in xs if p}, a new dict -/
section
variable {X : Cx} {G : Gm} {W : WX} {pos : Pos} {fk fv : Env → M T} {p : Env → M Bool} {env : Env} {r : RS} {w : Wd} {H0 H : Hp} {σ : L2.St}
variable {kx vx tg iter : Expr} {ifs : List Expr} {scope : Scope} {own : List (Str × Nat)} {us : List Nat} {h : T → Env → Option Env} {fi : Env → M (List T)}
end
/-! ### walking a new dict -/
section
variable {X : Cx} {G : Gm} {W : WX} {tg e : Expr}
end
section
variable {X : Cx} {G : Gm} {W : WX} {j : Nat} {pos p p2 : Pos} {a b : Expr} {f g : Env → M T}
theorem Bd.sorted (B : Bd X G W j) (m : G.mg "sorted" = none) (ha : SK X G W a f) (hg : Gl X "sorted" := by rfl) (hs : starEach [a] X.env = (false, eval a X.env) :: starEach [] X.env := by rfl) : SE X G W (.Call (.Name "sorted" p) [a] [] pos) (fB1 sortT f) := s_b1 cr_sortedI (v_sort B.eK) hg (by rw [B.eM]; exact m) rfl ha hs
variable {fk fv : Env → M T} {q : Env → M Bool} {kx vx tg iter : Expr} {ifs : List Expr} {scope : Scope} {us : List Nat} {h : T → Env → Option Env} {fi : Env → M (List T)}
end
end Ep
/-! list(zip(a, b)) of two lists. -/
namespace Ep
open PySem PySem.Spec PyProof.Rows L2
/-- two lists and the zip that walks both, i turns on; S: the list that takes the pairs -/
structure ZW (z TI TO i1 i2 l1 l2 S : Addr) (xs ys : Array Value) (i : Nat) (h : Heap) : Prop where
  ti : IsPair h TI (.ref i1) (.ref i2)
  c1 : h.IsListIter i1 l1 i
  c2 : h.IsListIter i2 l2 i
  a1 : h.IsList l1 xs
  a2 : h.IsList l2 ys
  z : (IsZip h z TI TO .none ∧ ∃ a b, IsPair h TO a b) ∨ ∃ T f oT, IsZipHeld h z TI TO T f ∧ h.get? T = some oT ∧ T ≠ z ∧ T ≠ i1 ∧ T ≠ i2 ∧ T ≠ S
section
variable {z TI TO i1 i2 l1 l2 S : Addr} {xs ys : Array Value} {i : Nat}
/-- a write at S alone leaves it -/
theorem ZW.put {h h' : Heap} (w : ZW z TI TO i1 i2 l1 l2 S xs ys i h) (k : ∀ b o, b ≠ S → h.get? b = some o → h'.get? b = some o) (n : ∀ b ∈ [z, TI, TO, i1, i2, l1, l2], b ≠ S) : ZW z TI TO i1 i2 l1 l2 S xs ys i h' := by
  have nz : z ≠ S := n _ (by simp)
  refine ⟨k _ _ (n _ (by simp)) w.ti, w.c1.at fun o e => k _ o (n _ (by simp)) e, w.c2.at fun o e => k _ o (n _ (by simp)) e, w.a1.at fun o e => k _ o (n _ (by simp)) e, w.a2.at fun o e => k _ o (n _ (by simp)) e, ?_⟩
  rcases w.z with ⟨hz, a, b, hT⟩ | ⟨T, f, oT, hz, hT, r1, r2, r3, r4⟩
  · exact .inl ⟨k _ _ nz hz, a, b, k _ _ (n _ (by simp)) hT⟩
  · exact .inr ⟨T, f, oT, k _ _ nz hz, k _ _ r4 hT, r1, r2, r3, r4⟩
variable {s : Shared} {A : Around} {P : Program} {w : World} {E : Value → Shared → Prop}
theorem ZW.item (D : ZipApart z TI TO i1 i2 l1 l2) (st : ZW z TI TO i1 i2 l1 l2 S xs ys i s.heap) (hS : S < s.heap.objs.size) {x y : Value} (ex : xs[i]? = some x) (ey : ys[i]? = some y) {Q : Option Value → Shared → Prop}
    (q : ∀ h', IsPair h' s.heap.objs.size x y → ZW z TI TO i1 i2 l1 l2 S xs ys (i + 1) h' → (∀ c o, c ∉ [z, TO, i1, i2] → s.heap.get? c = some o → h'.get? c = some o) → Q (some (.ref s.heap.objs.size)) { s with heap := h' }) : wpAny (model P w) A (pyNext (.ref z)) Q E s := by
  have gone : ∀ {c o}, s.heap.get? c = some o → s.heap.objs.size ≠ c := fun e => Nat.ne_of_gt (Heap.lt_size e)
  have g1 : s.heap.objs.size ≠ i1 := let ⟨_, e, _⟩ := st.c1; gone e
  have g2 : s.heap.objs.size ≠ i2 := let ⟨_, e, _⟩ := st.c2; gone e
  rcases st.z with ⟨hz, a, b, hT⟩ | ⟨T, f, oT, hz, hT, r1, r2, r3, r4⟩
  · refine wpAny_pyNext_zip_item D hz st.ti hT st.c1 st.c2 st.a1 st.a2 ex ey fun h' b1 _ b3 b4 b5 _ k => q h' b5 ⟨k _ _ D.TIz D.TITO D.TIi1 D.TIi2 st.ti, b3, b4, st.a1.at fun o e => k _ o D.l1z D.l1TO D.l1i1 D.l1i2 e, st.a2.at fun o e => k _ o D.l2z D.l2TO D.l2i1 D.l2i2 e, .inr ⟨_, false, _, b1, b5, gone hz, g1, g2, Nat.ne_of_gt hS⟩⟩ fun c o hc e => ?_
    simp only [List.mem_cons, List.not_mem_nil, or_false, not_or] at hc
    exact k c o hc.1 hc.2.1 hc.2.2.1 hc.2.2.2 e
  · refine wpAny_pyNext_zip_item_held D hz hT st.ti st.c1 st.c2 st.a1 st.a2 ex ey fun h' b1 b3 b4 b5 _ k => q h' b5 ⟨k _ _ D.TIz D.TIi1 D.TIi2 st.ti, b3, b4, st.a1.at fun o e => k _ o D.l1z D.l1i1 D.l1i2 e, st.a2.at fun o e => k _ o D.l2z D.l2i1 D.l2i2 e, .inr ⟨T, true, oT, b1, k _ _ r1 r2 r3 hT, r1, r2, r3, r4⟩⟩ fun c o hc e => ?_
    simp only [List.mem_cons, List.not_mem_nil, or_false, not_or] at hc
    exact k c o hc.1 hc.2.2.1 hc.2.2.2 e
theorem ZW.done (hh : A.handled = none) (D : ZipApart z TI TO i1 i2 l1 l2) (st : ZW z TI TO i1 i2 l1 l2 S xs ys (min xs.size ys.size) s.heap) {Q : Option Value → Shared → Prop}
    (q : ∀ h', (∀ c o, c ∉ [z, TO, i1, i2] → s.heap.get? c = some o → h'.get? c = some o) → Q none { s with heap := h' }) : wpAny (model P w) A (pyNext (.ref z)) Q E s := by
  have en : xs[min xs.size ys.size]? = none ∨ ys[min xs.size ys.size]? = none := by
    rw [Array.getElem?_eq_none_iff, Array.getElem?_eq_none_iff]
    omega
  rcases st.z with ⟨hz, a, b, hT⟩ | ⟨T, f, oT, hz, hT, r1, r2, r3, r4⟩
  · refine wpAny_pyNext_zip_end hh D hz st.ti hT st.c1 st.c2 st.a1 st.a2 en fun h' k => q h' fun c o hc e => ?_
    simp only [List.mem_cons, List.not_mem_nil, or_false, not_or] at hc
    exact k c o hc.1 hc.2.1 hc.2.2.1 hc.2.2.2 e
  · refine wpAny_pyNext_zip_end_held hh D hz hT st.ti st.c1 st.c2 st.a1 st.a2 en fun h' k => q h' fun c o hc e => ?_
    simp only [List.mem_cons, List.not_mem_nil, or_false, not_or] at hc
    exact k c o hc.1 hc.2.2.1 hc.2.2.2 e
end
/-- the pairs of two rows, drawn one by one into new tuples: what a world keeps of it -/
structure ZJ (us vs : List V) (J : Nat → List V → Hp → Prop) : Prop where
  step : ∀ i ws H q x y, J i ws H → H q = none → us[i]? = some x → vs[i]? = some y → J (i + 1) (ws ++ [.ref q]) (upd H q (.tup [x, y]))
section
variable {X : Cx} {pins : List (Addr × Obj)} {σ : L2.St} {H0 : Hp} {s0 : Shared} {z TI TO i1 i2 l1 l2 S : Addr} {us vs : List V} {xs ys : Array Value}
/-- the list S as it stands; s0: ahead of the zip's making -/
structure ZE (X : Cx) (pins : List (Addr × Obj)) (σ : L2.St) (S : Addr) (H0 : Hp) (s0 : Shared) (i : Nat) (H : Hp) (s : Shared) (ws : List V) (acc : Array Value) (c : Nat) : Prop where
  I : Inv X pins σ H s
  own : s.heap.get? S = some (lstObj acc c)
  rel : Vals ws acc.toList
  len : ws.length = i
  free : H S = none
  gt : s0.heap.objs.size ≤ S
  old : ∀ b o, s0.heap.get? b = some o → s.heap.get? b = some o
  hp : ∀ b, b < s0.heap.objs.size → H b = H0 b
  os : s.os = s0.os
/-- the loop amid its turns -/
structure ZL (X : Cx) (pins : List (Addr × Obj)) (σ : L2.St) (z TI TO i1 i2 l1 l2 S : Addr) (H0 : Hp) (s0 : Shared) (J : Nat → List V → Hp → Prop) (i : Nat) (H : Hp) (s : Shared) (ws : List V) (acc : Array Value) (c : Nat) : Prop where
  e : ZE X pins σ S H0 s0 i H s ws acc c
  fr : ∀ b ∈ [z, TO, i1, i2, S], FpOk X pins H b ∧ s0.heap.objs.size ≤ b ∧ b < s.heap.objs.size
  j : J i ws H
  ne : ∀ b ∈ [z, TI, TO, i1, i2, l1, l2], b ≠ S
variable {J : Nat → List V → Hp → Prop} {i : Nat} {H : Hp} {s : Shared} {ws : List V} {acc : Array Value} {c : Nat}
theorem in5 {b : Addr} (m : b ∈ [z, TO, i1, i2]) : b ∈ [z, TO, i1, i2, S] := by
  simp only [List.mem_cons, List.not_mem_nil, or_false] at m ⊢
  rcases m with h | h | h | h <;> simp [h]
theorem in7 {b : Addr} (m : b ∈ [z, TO, i1, i2]) : b ∈ [z, TI, TO, i1, i2, l1, l2] := by
  simp only [List.mem_cons, List.not_mem_nil, or_false] at m ⊢
  rcases m with h | h | h | h <;> simp [h]
/-- the end: the list is known -/
theorem ZE.known (L : ZE X pins σ S H0 s0 i H s ws acc c) (I0 : Inv X pins σ H0 s0) (few : i ≤ sizeLine) : Inv X pins σ (upd H S (.lst ws)) s := by
  have lt : ∀ b u, H0 b = some u → b < s0.heap.objs.size := fun b u e => by
    rcases Nat.lt_or_ge b s0.heap.objs.size with h | h
    · exact h
    · rw [I0.hok.fresh h] at e; cases e
  have at_ : ∀ b, b < s0.heap.objs.size → upd H S (.lst ws) b = H0 b := fun b h => by rw [upd_ne (Nat.ne_of_lt (Nat.lt_of_lt_of_le h L.gt)), L.hp b h]
  refine I0.call' (ch := []) L.os ⟨fun b o e _ _ _ => L.old b o e, fun b o e _ _ _ => ⟨o.slots, L.old b o e⟩, fun b o e n _ => (at_ b (Heap.lt_size e)).trans n, fun b o e _ => ⟨o, L.old b o e⟩, fun b xs e => (at_ b (lt b _ e)).trans e, fun b o u e => (at_ b (lt b _ e)).trans e, fun b ps e => ⟨#[], by rw [at_ b (lt b _ e), e]; simp⟩⟩ (fun b u e => ?_) L.I.bare (fun b hb => absurd hb List.not_mem_nil)
  by_cases q : b = S
  · subst q
    rw [upd_same] at e
    cases e
    exact ⟨by rw [L.len]; exact few, acc.toList, c, L.rel, L.own⟩
  · rw [upd_ne q] at e
    refine (L.I.hok b u e).stay (fun _ _ _ h => h) (fun d h => ?_) (fun d v h => ?_)
    · rw [upd_ne (ne_of_none h L.free)]; exact h
    · rw [upd_ne (ne_of_none h L.free)]; exact h
theorem ZL.turned {h' : Heap} (L : ZL X pins σ z TI TO i1 i2 l1 l2 S H0 s0 J i H s ws acc c) (kp : ∀ c o, c ∉ [z, TO, i1, i2] → s.heap.get? c = some o → h'.get? c = some o) : ZE X pins σ S H0 s0 i H { s with heap := h' } ws acc c where
  I := L.e.I.turnedL (t' := s.toks) (ch := [z, TO, i1, i2]) kp fun b hb => (L.fr b (in5 hb)).1
  own := kp S _ (fun m => L.ne S (in7 m) rfl) L.e.own
  rel := L.e.rel
  len := L.e.len
  free := L.e.free
  gt := L.e.gt
  old := fun b o q => kp b o (fun m => absurd (L.fr b (in5 m)).2.1 (Nat.not_le.mpr (Heap.lt_size q))) (L.e.old b o q)
  hp := L.e.hp
  os := L.e.os
end
/-! ### the call -/
section
variable {X : Cx} {pins : List (Addr × Obj)} {σ : L2.St} {H0 : Hp} {s0 s : Shared} {z : Addr} {A : Around} {E : Value → Shared → Prop} {Q : Value → Shared → Prop} {P : Program} {w : World}
end
section
variable {X : Cx}
end
section
variable {X : Cx} {G : Gm} {W : WX} {pos pos2 p np : Pos} {a b : Expr} {f g : Env → M T}
end
end Ep
/-! a comprehension over a list that is changed by several defs, as long as it stays as it is. -/
namespace Ep
open PySem PySem.Spec PyProof.Rows L2
def fIterG (f : Env → M T) : Env → M (List T × Option (Nat × List T)) := fun env => f env >>= fun t => fun r => M.lift (EnTltR r t) r
section
variable {X : Cx} {G : Gm} {W : WX} {pos : Pos} {tg e : Expr}
theorem it_lR {w : Wd} {a : Addr} {k : Nat} {ys : List T} (hk : w.R[k]? = some a) : ItOkG G w (Itl G.K a) ys (some (k, ys)) := by
  have same : ∀ w' H' r', Later w w' → Good G w' H' r' → r'[k]? = some ys → ∃ vs, SqL G.K H' a vs ∧ Dens G w' vs ys := fun w' H' r' L g c => by
    obtain ⟨a', vs, h1, h2, h3, _⟩ := g.refs.at_ k ys c
    obtain ⟨more, em⟩ := L.refs
    rw [em, List.getElem?_append_left (List.getElem?_eq_some_iff.mp hk).1, hk] at h1
    cases h1
    exact ⟨vs, SqL.of h2, h3⟩
  refine ⟨fun H => ∃ vs : List V, vs.length = ys.length ∧ SqL G.K H a vs, fun i H x H' => H' = H ∧ ∀ vs, SqL G.K H a vs → vs[i]? = some x, ⟨fun i H hi ⟨vs, l, h⟩ => ⟨vs, vs[i], h, by simp [l, hi]⟩, fun H ⟨vs, l, h⟩ => ⟨vs, h, by omega⟩, fun i H x H' _ _ y => y⟩, fun w' H' r' L g c => ?_, fun i H1 v H2 w1 r1 L g c hi y => ?_⟩
  · obtain ⟨vs, h1, h2⟩ := same w' H' r' L g c
    exact ⟨vs, h2.length, h1⟩
  · obtain ⟨rfl, y⟩ := y
    obtain ⟨vs, h1, h2⟩ := same w1 _ r1 L g c
    obtain ⟨t, ht, hd⟩ := h2.getV (y vs h1)
    exact ⟨t, w1, ht, Step.refl _ _, g, hd⟩
theorem i_seqG {f : Env → M T} (hK : X.K = G.K) (he : SE X G W e f) : SIG X G W tg e (fIterG f) :=
  pi_imp (pi_seqA he) fun σ H R ⟨w, H0, env, r, g, s, h⟩ => by
    refine seqE g s h fun t r1 w1 H1 v g1 s1 st1 d h1 => ?_
    have h1 : OutP G w1 H1 (WE0 W σ) (fun p _ w' H' => ∀ J, ItOkG G w' J p.1 p.2 → R J H') (M.lift (EnTltR r1 t) r1) := h1
    rw [hK]
    cases d with
    | lst h z dd => exact .inl ⟨_, _, rfl, .inl (.inl (g1.sub _ _ h)), OutP.here g1 h1 _ ((it_l (.inl (.inl h)) dd).g _)⟩
    | kls h z dd => exact .inl ⟨_, _, rfl, g1.sub.seq h, OutP.here g1 h1 _ ((it_l h dd).g _)⟩
    | tup h z dd => exact .inr (.inl ⟨_, _, rfl, tup_sq g1.sub h, OutP.here g1 h1 _ ((it_t h dd).g _)⟩)
    | @ref k b h =>
      cases q : r1[k]? with
      | none =>
        have e : EnTltR r1 (.ref k) = none := by show (r1[k]?).map _ = none; rw [q]; rfl
        rw [e] at h1
        exact h1.elim
      | some ys =>
        have e : EnTltR r1 (.ref k) = some (ys, some (k, ys)) := by show (r1[k]?).map _ = _; rw [q]; rfl
        rw [e] at h1
        obtain ⟨b', vs, k1, k2, k3, k4⟩ := g1.refs.at_ k ys q
        rw [h] at k1
        cases k1
        exact .inl ⟨_, _, rfl, SqL.of k2, OutP.here g1 h1 _ (it_lR h)⟩
    | _ => exact h1.elim
end
open Classical in
noncomputable def ifR {α : Type} (c : Option (Nat × List T)) (m : M α) : M α := fun r => if chkR c r then m r else .bad
theorem ifR_ok {α : Type} {c : Option (Nat × List T)} {m : M α} {r : RS} (h : chkR c r) : ifR c m r = m r := by unfold ifR; rw [if_pos h]
theorem ifR_use {α : Type} {G : Gm} {w : Wd} {H : Hp} {E : XK} {P : α → RS → Wd → Hp → Prop} {c : Option (Nat × List T)} {m : M α} {r : RS} (h : OutP G w H E P (ifR c m r)) : chkR c r ∧ OutP G w H E P (m r) := by
  by_cases q : chkR c r
  · rw [ifR_ok q] at h; exact ⟨q, h⟩
  · unfold ifR at h; rw [if_neg q] at h; exact h.elim
noncomputable def compG (c : Option (Nat × List T)) (vs : List Nat) (h : T → Env → Option Env) (p : Env → M Bool) (f : Env → M T) : List T → List T → Env → M (List T)
  | [], acc, _ => ifR c (pure acc)
  | x :: xs, acc, env => ifR c (match h x (wipeE env vs) with
    | none => M.bad
    | some env1 => noEx (p env1) >>= fun b => if b = true then noEx (f env1) >>= fun y => if acc.length < sizeLine then compG c vs h p f xs (acc ++ [y]) env else M.bad else compG c vs h p f xs acc env)
noncomputable def fCompG (vs : List Nat) (h : T → Env → Option Env) (p : Env → M Bool) (f : Env → M T) (fi : Env → M (List T × Option (Nat × List T))) : Env → M (List T) := fun env => fi env >>= fun q => compG q.2 vs h p f q.1 [] env
theorem compG_chk {α : Type} {G : Gm} {w : Wd} {H : Hp} {E : XK} {P : List T → RS → Wd → Hp → Prop} {c : Option (Nat × List T)} {vs : List Nat} {h : T → Env → Option Env} {p : Env → M Bool} {f : Env → M T} : ∀ {xs acc : List T} {env : Env} {r : RS}, OutP G w H E P (compG c vs h p f xs acc env r) → chkR c r
  | [], _, _, _, q => (ifR_use q).1
  | _ :: _, _, _, _, q => (ifR_use q).1
section
variable {X : Cx} {G : Gm} {W : WX} {pos : Pos} {f : Env → M T} {p : Env → M Bool}
theorem compG_use {σ : L2.St} {H : Hp} {us vs : List Nat} {h : T → Env → Option Env} {fi : Env → M (List T × Option (Nat × List T))} {Q : VK} (hu : ∀ j ∈ us, j ∈ vs) (hq : tSL G W (fCompG vs h p f fi) σ H Q) : tLc (tSIG G W fi) (tGx G us h) (tSB G W0 p) (tS G W0 f) vs σ H Q := by
  obtain ⟨w, H0, env, r, g, s, hq⟩ := hq
  refine ⟨w, H0, env, r, g, s, hq.bind.imp fun xc r1 w1 H1 st1 g1 h1 J it D hD => ?_⟩
  obtain ⟨xs, c⟩ := xc
  obtain ⟨Gd, Y, wk, hG, hY⟩ := it
  have s1 := s.step st1
  have hD0 : ¬ Vs H D := st1.before hD
  have c0 : CS G D w1 H1 [] w1 (upd H1 D (.lst [])) r1 := ⟨(Step.refl w1 H1).priv hD, g1.priv (g1.nopub hD) (g1.noref hD) (.inl hD), g1.nopub hD, g1.noref hD, ⟨[], upd_same, .nil⟩, Nat.zero_le _⟩
  refine lc_it wk (fun i H' => ∃ w' r' acc, CS G D w1 H1 acc w' H' r' ∧ OutP G w1 H1 (WE0 W σ) (fun xs _ w' H' => ∀ p vs, ¬ Vs H p → w'.P p = none → p ∉ w'.R → H' p = some (.lst vs) → Dens G w' vs xs → xs.length ≤ sizeLine → Q (.ref p) H') (compG c vs h p f (xs.drop i) acc env r'))
    ⟨w1, r1, [], c0, h1⟩ (fun i H' _ ⟨w', r', acc, cs, hc⟩ => hG w' H' r' cs.st.later cs.g (compG_chk (α := Unit) hc)) ?_ ?_
  · rintro i x H2 H3 hlt ⟨w', r', acc, cs, hc⟩ y
    obtain ⟨t, w2, ht, st2, g2, dx⟩ := hY i H2 x H3 w' r' cs.st.later cs.g (compG_chk (α := Unit) hc) hlt y
    have cs2 := cs.step st2 g2
    have s2 := (s1.step cs2.st).wiped vs
    obtain ⟨Hb, aB, _⟩ := s2.rebase g2
    obtain ⟨_, et⟩ := List.getElem?_eq_some_iff.mp ht
    rw [List.drop_eq_getElem_cons hlt, et] at hc
    have hc := (ifR_use hc).2
    cases q : h t (wipeE env vs) with
    | none => rw [q] at hc; exact hc.elim
    | some env1 =>
      rw [q] at hc
      refine ⟨w2, Hb, w2, _, r', t, env1, aB, dx, q, fun σ2 sl b => ⟨wipe_but b hu, w2, Hb, env1, r', g2, sl, (noEx_use hc).imp fun b r3 w3 H4 st3 g3 hc => ?_⟩⟩
      have cs3 := cs2.step st3 g3
      cases b with
      | false => exact ⟨w3, r3, acc, cs3, hc⟩
      | true =>
        refine ⟨w3, Hb, env1, r3, g3, sl.step st3, (noEx_use (m := f env1) hc).imp fun y r4 w4 H5 st4 g4 hc v dv => ?_⟩
        have cs4 := cs3.step st4 g4
        by_cases hl : acc.length < sizeLine
        · rw [if_pos hl] at hc
          obtain ⟨us', hh, hz, cs5⟩ := cs4.app (nvs hD) dv hl
          exact ⟨us', hh, hz, w4, r4, acc ++ [y], cs5, hc⟩
        · rw [if_neg hl] at hc
          exact hc.elim
  · rintro H2 ⟨w', r', acc, cs, hc⟩
    rw [List.drop_length] at hc
    obtain ⟨us', hh, dd⟩ := cs.at_
    exact (ifR_use hc).2 w' H2 cs.st cs.g D us' hD0 cs.hP cs.hR hh dd cs.z
variable {elt tg iter : Expr} {ifs : List Expr} {scope : Scope} {us : List Nat} {h : T → Env → Option Env} {fi : Env → M (List T × Option (Nat × List T))} {j : Nat}
theorem Bd.compR (B : Bd X G W j) (own : List (Str × Nat)) (hi : SIG X G W tg iter fi)
    (hg : ∀ (s : Shared) (H : Hp) (C : Addr) (cl : List (Str × Addr)) (fp : List Addr), SG (X.blk s H scope (compEnvC scope cl C X.env) fp) G us tg h) (ht : ∀ (s : Shared) (H : Hp) (C : Addr) (cl : List (Str × Addr)) (fp : List Addr), STs (X.blk s H scope (compEnvC scope cl C X.env) fp) G ifs p)
    (he : ∀ (s : Shared) (H : Hp) (C : Addr) (cl : List (Str × Addr)) (fp : List Addr), SE (X.blk s H scope (compEnvC scope cl C X.env) fp) G W0 elt f) (ok : blkC X.N X.env.scope scope own = true := by kernel_rfl) (hu : ∀ j ∈ us, j ∈ own.map (·.2) := by decide) (hs : ∀ x, foldedSetIterable iter X.env x = pure x := by intro _; rfl) :
    SL X G W (.ListComp elt [⟨tg, iter, ifs, 0⟩] scope pos) (fCompG (own.map (·.2)) h p f fi) :=
  pe_imp (pe_lc B.calm B.nd hi (blkOk_by ok) (fun s H C cl fp => pg_x (hg s H C cl fp)) ht he hs) fun σ H Q q => compG_use hu q
end
end Ep
/-! what comprehensions compute, told for rows of any kind. -/
namespace Ep
open PySem PySem.Spec L2
section
variable {α β : Type} {vs vs1 : List Nat} {h h1 : T → Env → Option Env} {p p1 : Env → M Bool} {f fk fv : Env → M T} {env : Env} {r r1 : RS}
theorem noEx_k {γ δ : Type} {m : M γ} {k : γ → M δ} {a : γ} {o : Out δ} (h1 : m r = .ok a r1) (h2 : k a r1 = o) : (noEx m >>= k) r = o := bind_ok (a := a) (r1 := r1) (by unfold noEx; rw [h1]) h2
theorem compF_ok (u v : α → T) (c : α → Bool) : ∀ (L : List α) (acc : List T), (∀ a ∈ L, ∃ e, h (u a) (wipeE env vs) = some e ∧ p e r = .ok (c a) r ∧ (c a = true → f e r = .ok (v a) r)) → acc.length + L.length ≤ 100000 → compF vs h p f (L.map u) acc env r = .ok (acc ++ (L.filter c).map v) r
  | [], acc, _, _ => by show Out.ok acc r = Out.ok (acc ++ []) r; rw [List.append_nil]
  | a :: L, acc, H, hl => by
    obtain ⟨e, k1, k2, k3⟩ := H a (List.mem_cons_self ..)
    rw [List.length_cons] at hl
    have hz : acc.length < sizeLine := by rw [sizeLine_eq]; omega
    have tl := fun b hb => H b (List.mem_cons_of_mem a hb)
    rw [List.map_cons]
    unfold compF
    rw [k1]
    refine noEx_k k2 ?_
    cases q : c a with
    | true =>
      rw [if_pos rfl]
      refine noEx_k (k3 q) ?_
      rw [if_pos hz, compF_ok u v c L (acc ++ [v a]) tl (by rw [List.length_append, List.length_singleton]; omega), List.filter_cons_of_pos q, List.map_cons, List.append_assoc]
      rfl
    | false =>
      rw [if_neg Bool.false_ne_true, compF_ok u v c L acc tl (by omega), List.filter_cons_of_neg (by rw [q]; exact Bool.false_ne_true)]
theorem comp_ok {fi : Env → M (List T)} (u v : α → T) (c : α → Bool) (L : List α) (hi : fi env r = .ok (L.map u) r) (H : ∀ a ∈ L, ∃ e, h (u a) (wipeE env vs) = some e ∧ p e r = .ok (c a) r ∧ (c a = true → f e r = .ok (v a) r)) (hl : L.length ≤ 100000) : fComp vs h p f fi env r = .ok ((L.filter c).map v) r :=
  bind_ok hi ((compF_ok u v c L [] H (by rw [List.length_nil]; omega)).trans (by rw [List.nil_append]))
theorem comp_all {fi : Env → M (List T)} (u v : α → T) (L : List α) (hi : fi env r = .ok (L.map u) r) (H : ∀ a ∈ L, ∃ e, h (u a) (wipeE env vs) = some e ∧ f e r = .ok (v a) r) (hl : L.length ≤ 100000) : fComp vs h fYes f fi env r = .ok (L.map v) r :=
  (comp_ok u v (fun _ => true) L hi (fun a m => let ⟨e, k1, k2⟩ := H a m; ⟨e, k1, rfl, fun _ => k2⟩) hl).trans (by rw [List.filter_eq_self.mpr fun _ _ => rfl])
theorem compG_ok (u v : α → T) (c : α → Bool) {q : Option (Nat × List T)} (ck : chkR q r) : ∀ (L : List α) (acc : List T), (∀ a ∈ L, ∃ e, h (u a) (wipeE env vs) = some e ∧ p e r = .ok (c a) r ∧ (c a = true → f e r = .ok (v a) r)) → acc.length + L.length ≤ 100000 → compG q vs h p f (L.map u) acc env r = .ok (acc ++ (L.filter c).map v) r
  | [], acc, _, _ => by show ifR q (pure acc) r = Out.ok (acc ++ []) r; rw [List.append_nil]; exact ifR_ok ck
  | a :: L, acc, H, hl => by
    obtain ⟨e, k1, k2, k3⟩ := H a (List.mem_cons_self ..)
    rw [List.length_cons] at hl
    have hz : acc.length < sizeLine := by rw [sizeLine_eq]; omega
    have tl := fun b hb => H b (List.mem_cons_of_mem a hb)
    rw [List.map_cons]
    unfold compG
    rw [ifR_ok ck, k1]
    refine noEx_k k2 ?_
    cases w : c a with
    | true =>
      rw [if_pos rfl]
      refine noEx_k (k3 w) ?_
      rw [if_pos hz, compG_ok u v c ck L (acc ++ [v a]) tl (by rw [List.length_append, List.length_singleton]; omega), List.filter_cons_of_pos w, List.map_cons, List.append_assoc]
      rfl
    | false =>
      rw [if_neg Bool.false_ne_true, compG_ok u v c ck L acc tl (by omega), List.filter_cons_of_neg (by rw [w]; exact Bool.false_ne_true)]
end
end Ep
/-! == of plain trees: tuples and lists of leaves that are told apart. -/
namespace Ep
open PySem PySem.Spec L2
/-- leaves: told apart by their data, unlike tuples and lists -/
structure LeafOk (L : T → Prop) : Prop where
  two : ∀ t u, L t → L u → ∃ d e, pyT t = some d ∧ pyT u = some e ∧ (PyData.eqv d e = true ↔ t = u)
  one : ∀ t, L t → ∃ d, pyT t = some d ∧ d.canLay0 = true ∧ d.depth = 0 ∧ (∀ ds, PyData.eqv d (.tuple ds) = false ∧ PyData.eqv (.tuple ds) d = false ∧ PyData.eqv d (.list ds) = false ∧ PyData.eqv (.list ds) d = false) ∧ ∀ xs, t ≠ .tup xs ∧ t ≠ .lst xs
def LfI (t : T) : Prop := t = .non ∨ (∃ i, t = .int i) ∨ ∃ x, t = .str x ∧ PyData.strOk x = true
theorem lfI : LeafOk LfI := by
  refine ⟨fun t u ht hu => ?_, fun t ht => ?_⟩
  · rcases ht with rfl | ⟨i, rfl⟩ | ⟨x, rfl, _⟩ <;> rcases hu with rfl | ⟨j, rfl⟩ | ⟨y, rfl, _⟩
    · exact ⟨_, _, rfl, rfl, Iff.intro (fun _ => rfl) fun _ => rfl⟩
    · exact ⟨_, _, rfl, rfl, ⟨fun h => Bool.noConfusion (show false = true from h), fun h => T.noConfusion h⟩⟩
    · exact ⟨_, _, rfl, rfl, ⟨fun h => Bool.noConfusion (show false = true from h), fun h => T.noConfusion h⟩⟩
    · exact ⟨_, _, rfl, rfl, ⟨fun h => Bool.noConfusion (show false = true from h), fun h => T.noConfusion h⟩⟩
    · exact ⟨_, _, rfl, rfl, ⟨fun h => by have : (i == j) = true := h; rw [eq_of_beq this], fun h => by cases h; show (i == i) = true; exact beq_self_eq_true i⟩⟩
    · exact ⟨_, _, rfl, rfl, ⟨fun h => Bool.noConfusion (show false = true from h), fun h => T.noConfusion h⟩⟩
    · exact ⟨_, _, rfl, rfl, ⟨fun h => Bool.noConfusion (show false = true from h), fun h => T.noConfusion h⟩⟩
    · exact ⟨_, _, rfl, rfl, ⟨fun h => Bool.noConfusion (show false = true from h), fun h => T.noConfusion h⟩⟩
    · exact ⟨_, _, rfl, rfl, ⟨fun h => by have : (x == y) = true := h; rw [eq_of_beq this], fun h => by cases h; show (x == x) = true; exact beq_self_eq_true x⟩⟩
  · rcases ht with rfl | ⟨i, rfl⟩ | ⟨x, rfl, hx⟩
    · exact ⟨.none, rfl, rfl, rfl, fun ds => ⟨rfl, rfl, rfl, rfl⟩, fun xs => ⟨fun h => T.noConfusion h, fun h => T.noConfusion h⟩⟩
    · exact ⟨.int i, rfl, rfl, rfl, fun ds => ⟨rfl, rfl, rfl, rfl⟩, fun xs => ⟨fun h => T.noConfusion h, fun h => T.noConfusion h⟩⟩
    · exact ⟨.str x, rfl, hx, rfl, fun ds => ⟨rfl, rfl, rfl, rfl⟩, fun xs => ⟨fun h => T.noConfusion h, fun h => T.noConfusion h⟩⟩
/-- a plain tree over leaves, of some depth -/
def Pt (L : T → Prop) : Nat → T → Prop
  | 0, t => L t
  | n + 1, t => L t ∨ (∃ ts, t = .tup ts ∧ ∀ x ∈ ts, Pt L n x) ∨ ∃ ts, t = .lst ts ∧ ∀ x ∈ ts, Pt L n x
theorem Pt.leaf {L : T → Prop} {t : T} (h : L t) : ∀ n, Pt L n t
  | 0 => h
  | _ + 1 => .inl h
theorem Pt.tup {L : T → Prop} {n : Nat} {ts : List T} (h : ∀ x ∈ ts, Pt L n x) : Pt L (n + 1) (.tup ts) := .inr (.inl ⟨ts, rfl, h⟩)
theorem Pt.lst {L : T → Prop} {n : Nat} {ts : List T} (h : ∀ x ∈ ts, Pt L n x) : Pt L (n + 1) (.lst ts) := .inr (.inr ⟨ts, rfl, h⟩)
structure Dt (n : Nat) (t : T) (d : PyData) : Prop where
  py : pyT t = some d
  lay : d.canLay0 = true
  dep : d.depth ≤ n
theorem dts {L : T → Prop} {n : Nat} (h : ∀ t, Pt L n t → ∃ d, Dt n t d) : ∀ {ts : List T}, (∀ x ∈ ts, Pt L n x) → ∃ ds, pyTs ts = some ds ∧ PyData.canLayAll0 ds = true ∧ PyData.depthAll ds ≤ n
  | [], _ => ⟨[], rfl, rfl, Nat.zero_le _⟩
  | t :: ts, hh => by
    obtain ⟨d, e⟩ := h t (hh t (List.mem_cons_self ..))
    obtain ⟨ds, f1, f2, f3⟩ := dts h fun x m => hh x (List.mem_cons_of_mem _ m)
    refine ⟨d :: ds, ?_, ?_, ?_⟩
    · show (pyT t).bind (fun d => (pyTs ts).map (d :: ·)) = _
      rw [e.py, f1]; rfl
    · show (d.canLay0 && PyData.canLayAll0 ds) = true
      rw [e.lay, f2]; rfl
    · have := e.dep
      show max d.depth (PyData.depthAll ds) ≤ n
      omega
theorem dt_of {L : T → Prop} (ok : LeafOk L) : ∀ {n : Nat} {t : T}, Pt L n t → ∃ d, Dt n t d
  | 0, t, h => by
    obtain ⟨d, h1, h2, h3, _⟩ := ok.one t h
    exact ⟨d, h1, h2, by omega⟩
  | n + 1, t, h => by
    rcases h with h | ⟨ts, rfl, h⟩ | ⟨ts, rfl, h⟩
    · obtain ⟨d, h1, h2, h3, _⟩ := ok.one t h
      exact ⟨d, h1, h2, by omega⟩
    · obtain ⟨ds, f1, f2, f3⟩ := dts (fun t ht => dt_of ok ht) h
      refine ⟨.tuple ds, ?_, f2, ?_⟩
      · show (pyTs ts).map PyData.tuple = _
        rw [f1]; rfl
      · show PyData.depthAll ds + 1 ≤ n + 1
        omega
    · obtain ⟨ds, f1, f2, f3⟩ := dts (fun t ht => dt_of ok ht) h
      refine ⟨.list ds, ?_, f2, ?_⟩
      · show (pyTs ts).map PyData.list = _
        rw [f1]; rfl
      · show PyData.depthAll ds + 1 ≤ n + 1
        omega
theorem eqvs {L : T → Prop} {n : Nat} (h : ∀ t u d e, Pt L n t → Pt L n u → pyT t = some d → pyT u = some e → (PyData.eqv d e = true ↔ t = u)) : ∀ {ts us : List T} {ds es : List PyData}, (∀ x ∈ ts, Pt L n x) → (∀ x ∈ us, Pt L n x) → pyTs ts = some ds → pyTs us = some es → (PyData.eqvAll ds es = true ↔ ts = us)
  | [], [], ds, es, _, _, e1, e2 => by cases e1; cases e2; exact ⟨fun _ => rfl, fun _ => rfl⟩
  | [], u :: us, ds, es, _, _, e1, e2 => by
    cases e1
    obtain ⟨d, _, e2⟩ := Option.bind_eq_some_iff.mp (show (pyT u).bind (fun d => (pyTs us).map (d :: ·)) = some es from e2)
    obtain ⟨l, _, rfl⟩ := Option.map_eq_some_iff.mp e2
    exact ⟨fun q => Bool.noConfusion (show false = true from q), fun q => nomatch q⟩
  | t :: ts, [], ds, es, _, _, e1, e2 => by
    cases e2
    obtain ⟨d, _, e1⟩ := Option.bind_eq_some_iff.mp (show (pyT t).bind (fun d => (pyTs ts).map (d :: ·)) = some ds from e1)
    obtain ⟨l, _, rfl⟩ := Option.map_eq_some_iff.mp e1
    exact ⟨fun q => Bool.noConfusion (show false = true from q), fun q => nomatch q⟩
  | t :: ts, u :: us, ds, es, ht, hu, e1, e2 => by
    obtain ⟨d, k1, e1⟩ := Option.bind_eq_some_iff.mp (show (pyT t).bind (fun d => (pyTs ts).map (d :: ·)) = some ds from e1)
    obtain ⟨l, k2, rfl⟩ := Option.map_eq_some_iff.mp e1
    obtain ⟨e, k3, e2⟩ := Option.bind_eq_some_iff.mp (show (pyT u).bind (fun d => (pyTs us).map (d :: ·)) = some es from e2)
    obtain ⟨m, k4, rfl⟩ := Option.map_eq_some_iff.mp e2
    have a := h t u d e (ht t (List.mem_cons_self ..)) (hu u (List.mem_cons_self ..)) k1 k3
    have b := eqvs h (fun x q => ht x (List.mem_cons_of_mem _ q)) (fun x q => hu x (List.mem_cons_of_mem _ q)) k2 k4
    show (PyData.eqv d e && PyData.eqvAll l m) = true ↔ _
    rw [Bool.and_eq_true, a, b]
    exact ⟨fun ⟨x, y⟩ => by rw [x, y], fun q => by cases q; exact ⟨rfl, rfl⟩⟩
theorem eqv_of {L : T → Prop} (ok : LeafOk L) : ∀ {n : Nat} (t u : T) (d e : PyData), Pt L n t → Pt L n u → pyT t = some d → pyT u = some e → (PyData.eqv d e = true ↔ t = u)
  | 0, t, u, d, e, h, h', e1, e2 => by
    obtain ⟨d', e', k1, k2, k3⟩ := ok.two t u h h'
    rw [e1] at k1; rw [e2] at k2
    cases k1; cases k2
    exact k3
  | n + 1, t, u, d, e, h, h', e1, e2 => by
    rcases h with h | ⟨ts, rfl, h⟩ | ⟨ts, rfl, h⟩
    · obtain ⟨d1, k1, _, _, k4, k5⟩ := ok.one t h
      rw [e1] at k1
      cases k1
      rcases h' with h' | ⟨us, rfl, h'⟩ | ⟨us, rfl, h'⟩
      · obtain ⟨d', e', j1, j2, j3⟩ := ok.two t u h h'
        rw [e1] at j1; rw [e2] at j2
        cases j1; cases j2
        exact j3
      · obtain ⟨l, _, rfl⟩ := Option.map_eq_some_iff.mp (show (pyTs us).map PyData.tuple = some e from e2)
        exact ⟨fun q => (by rw [(k4 l).1] at q; cases q), fun q => absurd q (k5 us).1⟩
      · obtain ⟨l, _, rfl⟩ := Option.map_eq_some_iff.mp (show (pyTs us).map PyData.list = some e from e2)
        exact ⟨fun q => (by rw [(k4 l).2.2.1] at q; cases q), fun q => absurd q (k5 us).2⟩
    · obtain ⟨m, m1, rfl⟩ := Option.map_eq_some_iff.mp (show (pyTs ts).map PyData.tuple = some d from e1)
      rcases h' with h' | ⟨us, rfl, h'⟩ | ⟨us, rfl, h'⟩
      · obtain ⟨d1, k1, _, _, k4, k5⟩ := ok.one u h'
        rw [e2] at k1
        cases k1
        exact ⟨fun q => (by rw [(k4 m).2.1] at q; cases q), fun q => absurd q.symm (k5 ts).1⟩
      · obtain ⟨l, l1, rfl⟩ := Option.map_eq_some_iff.mp (show (pyTs us).map PyData.tuple = some e from e2)
        have := eqvs (fun t u d e => eqv_of ok t u d e) h h' m1 l1
        show PyData.eqvAll m l = true ↔ _
        rw [this]
        exact ⟨fun q => by rw [q], fun q => by cases q; rfl⟩
      · obtain ⟨l, _, rfl⟩ := Option.map_eq_some_iff.mp (show (pyTs us).map PyData.list = some e from e2)
        exact ⟨fun q => Bool.noConfusion (show false = true from q), fun q => T.noConfusion q⟩
    · obtain ⟨m, m1, rfl⟩ := Option.map_eq_some_iff.mp (show (pyTs ts).map PyData.list = some d from e1)
      rcases h' with h' | ⟨us, rfl, h'⟩ | ⟨us, rfl, h'⟩
      · obtain ⟨d1, k1, _, _, k4, k5⟩ := ok.one u h'
        rw [e2] at k1
        cases k1
        exact ⟨fun q => (by rw [(k4 m).2.2.2] at q; cases q), fun q => absurd q.symm (k5 ts).2⟩
      · obtain ⟨l, _, rfl⟩ := Option.map_eq_some_iff.mp (show (pyTs us).map PyData.tuple = some e from e2)
        exact ⟨fun q => Bool.noConfusion (show false = true from q), fun q => T.noConfusion q⟩
      · obtain ⟨l, l1, rfl⟩ := Option.map_eq_some_iff.mp (show (pyTs us).map PyData.list = some e from e2)
        have := eqvs (fun t u d e => eqv_of ok t u d e) h h' m1 l1
        show PyData.eqvAll m l = true ↔ _
        rw [this]
        exact ⟨fun q => by rw [q], fun q => by cases q; rfl⟩
/-- == of plain trees tells whether they are the same -/
theorem eq_pt {L : T → Prop} (ok : LeafOk L) {n : Nat} {t u : T} (h : Pt L n t) (h' : Pt L n u) (l : n ≤ 64) {b : Bool} (hb : b = true ↔ t = u) : eqT t u = some b := by
  obtain ⟨d, a1, a2, a3⟩ := dt_of ok h
  obtain ⟨e, b1, b2, b3⟩ := dt_of ok h'
  have q := eqv_of ok t u d e h h' a1 b1
  unfold eqT
  rw [a1, b1]
  show (if (SeqAt.shaped d && SeqAt.shaped e) = true then some (PyData.eqv d e) else none) = _
  have x1 : SeqAt.shaped d = true := by unfold SeqAt.shaped; rw [a2, decide_eq_true (by omega)]; rfl
  have x2 : SeqAt.shaped e = true := by unfold SeqAt.shaped; rw [b2, decide_eq_true (by omega)]; rfl
  rw [x1, x2]
  show some (PyData.eqv d e) = some b
  rw [show PyData.eqv d e = b from by rw [Bool.eq_iff_iff, q, hb]]
theorem ne_pt {L : T → Prop} (ok : LeafOk L) {n : Nat} {t u : T} (h : Pt L n t) (h' : Pt L n u) (l : n ≤ 64) {b : Bool} (hb : b = true ↔ t = u) : neT t u = some (!b) := by
  unfold neT
  rw [eq_pt ok h h' l hb]; rfl
end Ep
/-! steps for a def's own list: its last item, that exchanged, a loop that keeps it. -/
namespace Ep
open PySem PySem.Spec L2
section
variable {env : Env} {r r1 r2 : RS} {i : Nat} {f g : Env → M T} {t : T} {xs : List T}
theorem y_bor (h : env[i]? = some (.own xs)) : fBor i env r = .ok (.lst xs) r := by unfold fBor; rw [h]; rfl
theorem y_lastIx (h : env[i]? = some (.own (xs ++ [t]))) : fIx (fBor i) (fUn negT (fC (.int 1))) env r = .ok t r := e_ix (y_bor h) (e_un (x := .int 1) (r1 := r) rfl rfl) (show atI (xs ++ [t]) (-1) = some t from atI_last xs t)
theorem y_setLast {u : T} (h : env[i]? = some (.own (xs ++ [t]))) (hf : f env r = .ok u r) : qSetIx i f (fUn negT (fC (.int 1))) env r = .nx (env.set i (.own (xs ++ [u]))) r := by
  have e1 : isMut env i = true := by unfold isMut; rw [h]
  have e2 : mutGet env i r = some (xs ++ [t]) := by unfold mutGet; rw [h]
  have e3 : mutSet env i r (xs ++ [u]) = .nx (env.set i (.own (xs ++ [u]))) r := by unfold mutSet; rw [h]
  unfold qSetIx
  rw [if_pos e1, hf]
  show (match mutGet env i r, T.int (-1) with
    | some xs, .int k => match ixN xs.length k with
      | some j => mutSet env i r (xs.set j u)
      | none => .bad
    | _, _ => .bad) = _
  rw [e2]
  have en : ixN (xs ++ [t]).length (-1) = some xs.length := by
    unfold ixN
    rw [if_neg (by decide), if_pos (by rw [List.length_append, List.length_singleton]; omega)]
    congr 1
    rw [List.length_append, List.length_singleton]
    omega
  show (match ixN (xs ++ [t]).length (-1) with
      | some j => mutSet env i r ((xs ++ [t]).set j u)
      | none => .bad) = _
  rw [en]
  show mutSet env i r ((xs ++ [t]).set xs.length u) = _
  rw [List.set_append_right _ _ (Nat.le_refl _), Nat.sub_self]
  exact e3
/-- a loop over rows of any kind: the state is an invariant of what is left -/
theorem y_loop {α : Type} {h : T → Env → Option Env} {s : Sm} (u : α → T) (P : List α → Env → Prop) (st : ∀ a L env, P (a :: L) env → ∃ e1 e2, h (u a) env = some e1 ∧ s e1 r = .nx e2 r ∧ P L e2) : ∀ (L : List α) (env : Env), P L env → ∃ e2, loopF h s (L.map u) env r = .nx e2 r ∧ P [] e2
  | [], env, p => ⟨env, rfl, p⟩
  | a :: L, env, p => by
    obtain ⟨e1, e2, k1, k2, p2⟩ := st a L env p
    obtain ⟨e3, k3, p3⟩ := y_loop u P st L e2 p2
    exact ⟨e3, n_loop k1 k2 k3, p3⟩
end
end Ep
/-! drawing from a pool of two numbers. -/
namespace Dr
open PySem Ep L2
theorem ltI (i j : Int) : ltT (.int i) (.int j) = some (decide (i < j)) := rfl
theorem n_setIx {f g : Ep.Env → M T} {env : Ep.Env} {r r1 r2 : RS} {t : T} {i k j : Nat} {x : Int} {xs : List T} (hi : env[i]? = some (.val (.ref k))) (h1 : f env r = .ok t r1) (h2 : g env r1 = .ok (.int x) r2) (hk : r2[k]? = some xs) (hx : L2.ixN xs.length x = some j) : qSetIx i f g env r = .nx env (r2.set k (xs.set j t)) := by
  have e1 : isMut env i = true := by unfold isMut; rw [hi]
  have e2 : mutGet env i r2 = some xs := by unfold mutGet; rw [hi]; exact hk
  have e3 : mutSet env i r2 (xs.set j t) = .nx env (r2.set k (xs.set j t)) := by unfold mutSet; rw [hi]
  unfold qSetIx
  rw [if_pos e1, h1]
  show ofM env (fun u r => match mutGet env i r, u with
    | some xs, .int k => match L2.ixN xs.length k with
      | some j => mutSet env i r (xs.set j t)
      | none => .bad
    | _, _ => .bad) (g env r1) = _
  rw [h2]
  show (match mutGet env i r2, T.int x with
    | some xs, .int k => match L2.ixN xs.length k with
      | some j => mutSet env i r2 (xs.set j t)
      | none => .bad
    | _, _ => .bad) = _
  rw [e2]
  show (match L2.ixN xs.length x with
      | some j => mutSet env i r2 (xs.set j t)
      | none => .bad) = _
  rw [hx]
  exact e3
theorem ix_ref {r : RS} {k : Nat} {xs : List T} {i : Int} {t : T} (hk : r[k]? = some xs) (h : L2.atI xs i = some t) : ixT r (.ref k) (.int i) = some t := by
  show (r[k]?).bind (fun xs => L2.atI xs i) = some t
  rw [hk]
  exact h
theorem gt_ii (i j : Int) : gtT (.int i) (.int j) = some (decide (j < i)) := rfl
theorem fst_ref {r : RS} {k : Nat} {a b : Int} (hk : r[k]? = some [.int a, .int b]) : ixT r (.ref k) (.int 0) = some (.int a) := ix_ref hk rfl
theorem snd_ref {r : RS} {k : Nat} {a b : Int} (hk : r[k]? = some [.int a, .int b]) : ixT r (.ref k) (.int 1) = some (.int b) := ix_ref hk rfl
theorem get_set_ne {r : RS} {i j : Nat} {x : List T} (h : i ≠ j) : (r.set i x)[j]? = r[j]? := List.getElem?_set_ne h
theorem qTry_x {g : Sm} {hs : List HdS} {env e : Ep.Env} {r r' : RS} {c : Nat} {p : T} (h : g env r = .exn c p e r') : qTry g hs env r = pickH hs c p e r' := by
  unfold qTry; rw [h]
theorem comp_st {vs : List Nat} {h : T → Ep.Env → Option Ep.Env} {p : Ep.Env → M Bool} {f : Ep.Env → M T} {env : Ep.Env} {I : RS → Prop} {Q : T → Prop} : ∀ (xs acc : List T) (r : RS), I r → (∀ x ∈ xs, ∀ r, I r → ∃ env1 y r', h x (wipeE env vs) = some env1 ∧ p env1 r = .ok true r ∧ f env1 r = .ok y r' ∧ I r' ∧ Q y) → (∀ y ∈ acc, Q y) → acc.length + xs.length ≤ 100000 → ∃ ys r', compF vs h p f xs acc env r = .ok ys r' ∧ I r' ∧ (∀ y ∈ ys, Q y) ∧ ys.length = acc.length + xs.length
  | [], acc, r, i, _, q, _ => ⟨acc, r, rfl, i, q, rfl⟩
  | x :: xs, acc, r, i, H, q, hl => by
    obtain ⟨env1, y, r', h1, h2, h3, i', qy⟩ := H x List.mem_cons_self r i
    obtain ⟨ys, r2, e, i2, q2, l2⟩ := comp_st (vs := vs) (h := h) (p := p) (f := f) (env := env) (I := I) (Q := Q) xs (acc ++ [y]) r' i' (fun z hz => H z (List.mem_cons_of_mem _ hz)) (fun z hz => by
      rcases List.mem_append.mp hz with hz | hz
      · exact q z hz
      · rw [List.mem_singleton.mp hz]; exact qy) (by rw [List.length_append]; simp at hl ⊢; omega)
    have hz : acc.length < sizeLine := by rw [sizeLine_eq]; simp at hl; omega
    refine ⟨ys, r2, ?_, i2, q2, by rw [l2, List.length_append]; simp; omega⟩
    unfold compF
    rw [h1]
    exact noEx_k h2 (by rw [if_pos rfl]; exact noEx_k h3 (by rw [if_pos hz]; exact e))
theorem rng1s {f : Ep.Env → M T} {env : Ep.Env} {r r1 : RS} {i : Int} (h1 : f env r = .ok (.int i) r1) (h : -(2 ^ 62) ≤ i ∧ i < 2 ^ 62) : fRng1 f env r = .ok (rngL 0 i.toNat) r1 := by
  refine bind_ok (a := [.int i]) (r1 := r1) (e_cons (x := .int i) (r1 := r1) h1 rfl) ?_
  show M.lift (if -(2 ^ 62) ≤ i ∧ i < 2 ^ 62 then some (rngL 0 i.toNat) else none) r1 = _
  rw [if_pos h]; rfl
theorem e_ref {f : Ep.Env → M (List T)} {env : Ep.Env} {r r1 : RS} {xs : List T} (h : f env r = .ok xs r1) : fRef f env r = .ok (.ref r1.length) (r1 ++ [xs]) := by
  unfold fRef; rw [h]
theorem call1 {F : List T → M T} {f : Ep.Env → M T} {env : Ep.Env} {r r1 : RS} {t u : T} (h : f env r = .ok t r) (hF : F [t] r = .ok u r1) : fCall F [] [f] env r = .ok u r1 := x_call (ts := [t]) (r1 := r) (e_cons (x := t) (r1 := r) h rfl) hF
theorem call2 {F : List T → M T} {f g : Ep.Env → M T} {env : Ep.Env} {r r1 : RS} {t u v : T} (h : f env r = .ok t r) (h' : g env r = .ok v r) (hF : F [t, v] r = .ok u r1) : fCall F [] [f, g] env r = .ok u r1 := x_call (ts := [t, v]) (r1 := r) (e_cons (x := t) (r1 := r) h (e_cons (x := v) (r1 := r) h' rfl)) hF
section
variable {s s' : Sm} {env e : Ep.Env} {r r1 r2 : RS} {c : Nat} {p t : T} {f : Ep.Env → M T}
end
def Pool (k : Nat) (r : RS) : Prop := ∃ a b : Int, r[k]? = some [.int a, .int b]
theorem Pool.app {k : Nat} {r : RS} (h : Pool k r) (x : RS) : Pool k (r ++ x) := by
  obtain ⟨a, b, h⟩ := h
  exact ⟨a, b, by rw [List.getElem?_append_left (List.getElem?_eq_some_iff.mp h).1]; exact h⟩
theorem Pool.at_ {k j : Nat} {r : RS} (h : Pool k r) (x : List T) (hj : j ≠ k) : Pool k (r.set j x) := by
  obtain ⟨a, b, h⟩ := h
  exact ⟨a, b, by rw [List.getElem?_set_ne hj]; exact h⟩
def gTake : Sm := (qSeq (qIf (fCmpB gtT (fIx (fVar 0) (fC (.int 0))) (fC (.int 0))) (qSeq (qSet 2 (fBin modT (fB1 intT (fIx (fVar 0) (fC (.int 0)))) (fVar 1)))
    (qSeq (qSetIx 0 (fBin divT (fIx (fVar 0) (fC (.int 0))) (fVar 1)) (fC (.int 0)))
    (qSeq (qRet (fVar 2))
    qNil))) qNil)
    (qSeq (qSetIx 0 (fBin modT (fB1 intT (fBin addT (fBin mulT (fIx (fVar 0) (fC (.int 1))) (fC (.int 39373))) (fC (.int 7)))) (fC (.int 2147483647))) (fC (.int 1)))
    (qSeq (qRet (fBin modT (fB1 intT (fBin divT (fBin modT (fB1 intT (fBin mulT (fIx (fVar 0) (fC (.int 1))) (fIx (fVar 0) (fC (.int 1))))) (fC (.int 2147483629))) (fC (.int 32)))) (fVar 1)))
    qNil)))
def FTake : List T → M T := fnS 1 gTake
def gPool : Sm := (qSeq (qSet 2 (fC (.int 0)))
    (qSeq (qIf (fCmpB ltT (fVar 1) (fB1 lenT (fVar 0))) (qSeq (qSet 2 (fIx (fVar 0) (fVar 1)))
    qNil) qNil)
    (qSeq (qSet 3 (fBin max2T (fB1 intT (fVar 2)) (fB1 intT (fBin subT (fUn negT (fC (.int 1))) (fVar 2)))))
    (qSeq (qSet 4 (fBin modT (fB1 intT (fBin mulT (fBin addT (fBin addT (fBin addT (fBin modT (fB1 intT (fVar 3)) (fC (.int 2147483629))) (fBin mulT (fBin mulT (fC (.int 7919)) (fVar 1)) (fVar 1))) (fBin mulT (fC (.int 31)) (fVar 1))) (fC (.int 17))) (fC (.int 48271)))) (fC (.int 2147483647))))
    (qSeq (qRet (fRef (fAll [(fBin mulT (fVar 3) (fB1 intT (fCmp geT (fVar 3) (fBin powT (fC (.int 10)) (fC (.int 18)))))), (fVar 4)])))
    qNil)))))
def FPool : List T → M T := fnS 3 gPool
theorem mulR {i j : Int} (h1 : -(2 ^ 64) < j) (h2 : j < 2 ^ 64) : mulT (.int i) (.int j) = some (.int (i * j)) := by
  show (if mulOk i j = true then some (T.int (i * j)) else none) = _
  rw [if_pos]
  unfold mulOk
  rw [decide_eq_true h1, decide_eq_true h2]
  simp
theorem mulL {i j : Int} (h1 : -(2 ^ 64) < i) (h2 : i < 2 ^ 64) : mulT (.int i) (.int j) = some (.int (i * j)) := by
  show (if mulOk i j = true then some (T.int (i * j)) else none) = _
  rw [if_pos]
  unfold mulOk
  rw [decide_eq_true h1, decide_eq_true h2]
  simp
theorem modP {i j : Int} (h : 0 < j) : modT (.int i) (.int j) = some (.int (i % j)) := lf_mod h
theorem divB {i j : Int} (h : 0 < j) (h2 : j.natAbs < 2 ^ 1000) : divT (.int i) (.int j) = some (.int (i / j)) := lf_div h h2
theorem take {k : Nat} {n : Int} {r : RS} (h : Pool k r) (hn : 0 < n) (hn2 : n.natAbs < 2 ^ 1000) : ∃ v r', FTake [.ref k, .int n] r = .ok (.int v) r' ∧ Pool k r' ∧ 0 ≤ v ∧ v < n := by
  obtain ⟨a, b, hk⟩ := h
  have hl : k < r.length := (List.getElem?_eq_some_iff.mp hk).1
  by_cases h : 0 < a
  · refine ⟨a % n, r.set k [.int (a / n), .int b], ?_, ⟨_, _, List.getElem?_set_self hl⟩, Int.emod_nonneg _ (by omega), Int.emod_lt_of_pos _ hn⟩
    refine n_fn (n_seqR (n_ifT (r1 := r) (e_cmpB (x := .int a) (y := .int 0) (r1 := r) (r2 := r) (e_ix rfl rfl (fst_ref hk)) rfl ?_) (n_seq (n_set (t := .int (a % n)) (r1 := r) (e_bin (r1 := r) (r2 := r) (x := .int a) (y := .int n) (e_b1 (x := .int a) (e_ix rfl rfl (fst_ref hk)) rfl) rfl (modP hn)))
      (n_seq (n_setIx (k := k) (j := 0) (x := 0) (xs := [.int a, .int b]) (t := .int (a / n)) (r1 := r) (r2 := r) rfl (e_bin (r1 := r) (x := .int a) (y := .int n) (e_ix rfl rfl (fst_ref hk)) rfl (divB hn hn2)) rfl hk rfl) (n_seqR (n_ret (t := .int (a % n)) (r1 := r.set k [.int (a / n), .int b]) rfl))))))
    rw [gt_ii, decide_eq_true h]
  · have m1 : 0 ≤ (b * 39373 + 7) % 2147483647 := Int.emod_nonneg _ (by omega)
    have m2 : (b * 39373 + 7) % 2147483647 < 2147483647 := Int.emod_lt_of_pos _ (by omega)
    generalize e : (b * 39373 + 7) % 2147483647 = c at m1 m2
    have hk2 : (r.set k [.int a, .int c])[k]? = some [.int a, .int c] := List.getElem?_set_self hl
    refine ⟨(c * c) % 2147483629 / 32 % n, r.set k [.int a, .int c], ?_, ⟨_, _, hk2⟩, Int.emod_nonneg _ (by omega), Int.emod_lt_of_pos _ hn⟩
    refine n_fn (n_seq (env' := envOf 1 [.ref k, .int n]) (r1 := r) (n_ifF (r1 := r) (e_cmpB (x := .int a) (y := .int 0) (r1 := r) (r2 := r) (e_ix rfl rfl (fst_ref hk)) rfl ?_) rfl)
      (n_seq (n_setIx (k := k) (j := 1) (x := 1) (xs := [.int a, .int b]) (t := .int c) (r1 := r) (r2 := r) rfl
        (e_bin (x := .int (b * 39373 + 7)) (y := .int 2147483647) (r1 := r) (e_b1 (x := .int (b * 39373 + 7)) (e_bin (x := .int (b * 39373)) (y := .int 7) (r1 := r) (e_bin (x := .int b) (y := .int 39373) (r1 := r) (e_ix rfl rfl (snd_ref hk)) rfl (mulR (by decide) (by decide))) rfl rfl) rfl) rfl ?_) rfl hk rfl)
      (n_seqR (n_ret (t := .int ((c * c) % 2147483629 / 32 % n)) (r1 := r.set k [.int a, .int c])
        (e_bin (x := .int ((c * c) % 2147483629 / 32)) (y := .int n) (r1 := r.set k [.int a, .int c]) (e_b1 (x := .int ((c * c) % 2147483629 / 32)) (r1 := r.set k [.int a, .int c]) (e_bin (x := .int ((c * c) % 2147483629)) (y := .int 32) (r1 := r.set k [.int a, .int c]) (e_bin (x := .int (c * c)) (y := .int 2147483629) (r1 := r.set k [.int a, .int c])
          (e_b1 (x := .int (c * c)) (e_bin (x := .int c) (y := .int c) (r1 := r.set k [.int a, .int c]) (e_ix rfl rfl (snd_ref hk2)) (e_ix rfl rfl (snd_ref hk2)) (mulR (by omega) (by omega))) rfl) rfl (modP (by decide))) rfl (divB (by decide) (by decide))) rfl) rfl (modP hn))))))
    · rw [gt_ii, decide_eq_false h]
    · rw [modP (by decide), e]
theorem pool (ns : List Int) (h : ns.length ≤ 63) (k : Nat) (k1 : k < 64) (r : RS) : ∃ a b, FPool [.kls (ns.map T.int), .int (k : Int)] r = .ok (.ref r.length) (r ++ [[.int a, .int b]]) := by
  obtain ⟨c, hc⟩ : ∃ c : Int, ∀ so, (∀ s3 s4 : Slot, (qSeq (qSet 3 (fBin max2T (fB1 intT (fVar 2)) (fB1 intT (fBin subT (fUn negT (fC (.int 1))) (fVar 2)))))
    (qSeq (qSet 4 (fBin modT (fB1 intT (fBin mulT (fBin addT (fBin addT (fBin addT (fBin modT (fB1 intT (fVar 3)) (fC (.int 2147483629))) (fBin mulT (fBin mulT (fC (.int 7919)) (fVar 1)) (fVar 1))) (fBin mulT (fC (.int 31)) (fVar 1))) (fC (.int 17))) (fC (.int 48271)))) (fC (.int 2147483647))))
    (qSeq (qRet (fRef (fAll [(fBin mulT (fVar 3) (fB1 intT (fCmp geT (fVar 3) (fBin powT (fC (.int 10)) (fC (.int 18)))))), (fVar 4)])))
    qNil))) [.val (.kls (ns.map T.int)), .val (.int (k : Int)), .val (.int c), s3, s4] r = so) → gPool (envOf 3 [.kls (ns.map T.int), .int (k : Int)]) r = so := by
    have ln : lenT r (.kls (ns.map T.int)) = some (.int (ns.length : Int)) := by
      show some (T.int ((ns.map T.int).length : Nat)) = _
      rw [List.length_map]
    by_cases q : k < ns.length
    · refine ⟨ns[k], fun so hso => n_seq (n_set (t := .int 0) (r1 := r) rfl) (n_seq (n_ifT (r1 := r) (e_cmpB (x := .int (k : Int)) (y := .int (ns.length : Int)) (r1 := r) (r2 := r) rfl (e_b1 (x := .kls (ns.map T.int)) (r1 := r) rfl ln) (by rw [ltI, decide_eq_true (by omega)])) (n_seq (n_set (t := .int ns[k]) (r1 := r) (e_ix (x := .kls (ns.map T.int)) (y := .int (k : Int)) (r1 := r) (r2 := r) rfl rfl ?_)) rfl)) (hso _ _))⟩
      exact atI_nat (by rw [List.getElem?_map, List.getElem?_eq_getElem q]; rfl)
    · exact ⟨0, fun so hso => n_seq (n_set (t := .int 0) (r1 := r) rfl) (n_seq (n_ifF (r1 := r) (e_cmpB (x := .int (k : Int)) (y := .int (ns.length : Int)) (r1 := r) (r2 := r) rfl (e_b1 (x := .kls (ns.map T.int)) (r1 := r) rfl ln) (by rw [ltI, decide_eq_false (by omega)])) rfl) (hso _ _))⟩
  obtain ⟨w, ew⟩ : ∃ w, w = (if -1 - c > c then -1 - c else c) := ⟨_, rfl⟩
  have e3 : max2T (.int c) (.int (-1 - c)) = some (.int w) := by rw [ew]; rfl
  obtain ⟨s, es⟩ : ∃ s, s = (w % 2147483629 + 7919 * (k : Int) * k + 31 * k + 17) * 48271 % 2147483647 := ⟨_, rfl⟩
  have m1 : mulT (.int 7919) (.int (k : Int)) = some (.int (7919 * (k : Int))) := mulL (by decide) (by decide)
  have m2 : mulT (.int (7919 * (k : Int))) (.int (k : Int)) = some (.int (7919 * (k : Int) * k)) := mulR (by omega) (by omega)
  have m3 : mulT (.int 31) (.int (k : Int)) = some (.int (31 * (k : Int))) := mulL (by decide) (by decide)
  have m4 : mulT (.int (w % 2147483629 + 7919 * (k : Int) * k + 31 * k + 17)) (.int 48271) = some (.int ((w % 2147483629 + 7919 * (k : Int) * k + 31 * k + 17) * 48271)) := mulR (by decide) (by decide)
  have d1 : modT (.int w) (.int 2147483629) = some (.int (w % 2147483629)) := modP (by decide)
  have d2 : modT (.int ((w % 2147483629 + 7919 * (k : Int) * k + 31 * k + 17) * 48271)) (.int 2147483647) = some (.int s) := by rw [es]; exact modP (by decide)
  have w1 : powT (.int 10) (.int 18) = some (.int (10 ^ 18)) := rfl
  have g1 : geT (.int w) (.int (10 ^ 18)) = some (decide (10 ^ 18 ≤ w)) := rfl
  have i1 : ∀ r, intT r (.bl (decide (10 ^ 18 ≤ w))) = some (.int (if decide (10 ^ 18 ≤ w) then 1 else 0)) := fun r => rfl
  have m5 : mulT (.int w) (.int (if decide (10 ^ 18 ≤ w) then 1 else 0)) = some (.int (w * (if decide (10 ^ 18 ≤ w) then 1 else 0))) := mulR (by split <;> decide) (by split <;> decide)
  refine ⟨w * (if decide (10 ^ 18 ≤ w) then 1 else 0), s, n_fn (hc _ fun s3 s4 => ?_)⟩
  refine n_seq (n_set (e_bin (x := .int c) (y := .int (-1 - c)) (r1 := r) (e_b1 (x := .int c) (r1 := r) rfl rfl) (e_b1 (x := .int (-1 - c)) (r1 := r) (e_bin (x := .int (-1)) (y := .int c) (r1 := r) rfl rfl rfl) rfl) e3)) ?_
  refine n_seq (n_set (e_bin (x := .int ((w % 2147483629 + 7919 * (k : Int) * k + 31 * k + 17) * 48271)) (y := .int 2147483647) (r1 := r) (e_b1 (x := .int ((w % 2147483629 + 7919 * (k : Int) * k + 31 * k + 17) * 48271)) (r1 := r) (e_bin (x := .int (w % 2147483629 + 7919 * (k : Int) * k + 31 * k + 17)) (y := .int 48271) (r1 := r) (e_bin (x := .int (w % 2147483629 + 7919 * (k : Int) * k + 31 * k)) (y := .int 17) (r1 := r) (e_bin (x := .int (w % 2147483629 + 7919 * (k : Int) * k)) (y := .int (31 * (k : Int))) (r1 := r) (e_bin (x := .int (w % 2147483629)) (y := .int (7919 * (k : Int) * k)) (r1 := r) (e_bin (x := .int w) (y := .int 2147483629) (r1 := r) (e_b1 (x := .int w) (r1 := r) rfl rfl) rfl d1) (e_bin (x := .int (7919 * (k : Int))) (y := .int (k : Int)) (r1 := r) (e_bin (x := .int 7919) (y := .int (k : Int)) (r1 := r) rfl rfl m1) rfl m2) rfl) (e_bin (x := .int 31) (y := .int (k : Int)) (r1 := r) rfl rfl m3) rfl) rfl rfl) rfl m4) rfl) rfl d2)) ?_
  obtain ⟨z, ez⟩ : ∃ z, z = w * (if decide (10 ^ 18 ≤ w) then 1 else 0) := ⟨_, rfl⟩
  rw [← ez] at m5 ⊢
  exact n_seqR (n_ret (e_ref (e_cons (x := .int z) (r1 := r) (e_bin (x := .int w) (y := .int (if decide (10 ^ 18 ≤ w) then 1 else 0)) (r1 := r) rfl (e_b1 (x := .bl (decide (10 ^ 18 ≤ w))) (r1 := r) (e_cmp (x := .int w) rfl (e_bin (x := .int 10) (y := .int 18) rfl rfl w1) g1) (i1 r)) m5) (e_cons (x := .int s) (r1 := r) rfl e_nil))))
theorem e_own2 {C : Nat} {F : List T → M T} {us : List T} {u : T} {r r' : RS} {z : T} (h : F [.obj C us, u] r = .ok z r') : own2 C F (.obj C us) u r = .ok z r' := by
  have e : own2 C F (.obj C us) u = noEx (F [.obj C us, u]) := by simp [own2]
  rw [e]
  unfold noEx
  rw [h]
theorem e_own2s {C : Nat} {F : List T → M T} {us vs : List T} {r r' : RS} {z : T} (h : F [.obj C us, .obj C vs] r = .ok z r') : own2s C F (.obj C us) (.obj C vs) r = .ok z r' := by
  have e : own2s C F (.obj C us) (.obj C vs) = own2 C F (.obj C us) (.obj C vs) := by simp [own2s, sameT]
  rw [e]
  exact e_own2 h
theorem e_own2n {C : Nat} {F : List T → M T} {us vs : List T} {r r' : RS} {b : Bool} (h : F [.obj C us, .obj C vs] r = .ok (.bl b) r') : own2n C F (.obj C us) (.obj C vs) r = .ok (.bl !b) r' := bind_ok (e_own2s h) rfl
theorem two_ok {f g : Ep.Env → M T} {h : T → T → M T} {env : Ep.Env} {r r1 r2 : RS} {x y : T} {o : Out T} (h1 : f env r = .ok x r1) (h2 : g env r1 = .ok y r2) (h3 : h x y r2 = o) : (fun env => f env >>= fun x => g env >>= fun y => h x y) env r = o := bind_ok h1 (bind_ok h2 h3)
/-- a walk through a list that nothing changes -/
theorem loop_at {α : Type} {c : Option (Nat × List T)} {h : T → Ep.Env → Option Ep.Env} {s : Sm} {r : RS} (ck : chkR c r) (u : α → T) (P : Ep.Env → Prop) (rest : Nat → List T) (st : ∀ a n env, P env → ∃ e1 e2, h (.tup [.int (n : Nat), u a]) env = some e1 ∧ s e1 r = .nx e2 r ∧ P e2) : ∀ (L : List α) (n : Nat) (more : List T) (env : Ep.Env), P env → ∃ e2, loopG c h s (enumL n (L.map u ++ more)) env r = loopG c h s (enumL (n + L.length) more) e2 r ∧ P e2
  | [], n, more, env, p => ⟨env, rfl, p⟩
  | a :: L, n, more, env, p => by
    obtain ⟨e1, e2, h1, h2, p2⟩ := st a n env p
    obtain ⟨e3, k, p3⟩ := loop_at ck u P rest st L (n + 1) more e2 p2
    refine ⟨e3, ?_, p3⟩
    rw [List.map_cons, List.cons_append]
    show loopG c h s (.tup [.int (n : Nat), u a] :: enumL (n + 1) (L.map u ++ more)) env r = _
    rw [loopG_cons ck, h1]
    show (match s e1 r with
      | .nx e r' => loopG c h s (enumL (n + 1) (L.map u ++ more)) e r'
      | .ct e r' => loopG c h s (enumL (n + 1) (L.map u ++ more)) e r'
      | .bk e r' => .nx e r'
      | .rt t r' => .rt t r'
      | .exn c p e r' => .exn c p e r'
      | .bad => .bad) = _
    rw [h2]
    show loopG c h s (enumL (n + 1) (L.map u ++ more)) e2 r = _
    rw [k, List.length_cons, show n + 1 + L.length = n + (L.length + 1) by omega]
theorem loop_exn {c : Option (Nat × List T)} {h : T → Ep.Env → Option Ep.Env} {s : Sm} {r r' : RS} {env e1 e2 : Ep.Env} {x : T} {xs : List T} {i : Nat} {p : T} (ck : chkR c r) (h1 : h x env = some e1) (h2 : s e1 r = .exn i p e2 r') : loopG c h s (x :: xs) env r = .exn i p e2 r' := by
  rw [loopG_cons ck, h1]
  show (match s e1 r with
      | .nx e r' => loopG c h s xs e r'
      | .ct e r' => loopG c h s xs e r'
      | .bk e r' => .nx e r'
      | .rt t r' => .rt t r'
      | .exn c p e r' => .exn c p e r'
      | .bad => .bad) = _
  rw [h2]
theorem n_forG {fi : Ep.Env → M (List T × Option (Nat × List T))} {h : T → Ep.Env → Option Ep.Env} {s : Sm} {env : Ep.Env} {r r1 : RS} {c : Option (Nat × List T)} {xs : List T} {so : SO} (h1 : fi env r = .ok (xs, c) r1) (h2 : loopG c h s xs env r1 = so) : qForG fi h s env r = so := by
  unfold qForG ofM
  rw [h1]
  exact h2
theorem e_enumG {f : Ep.Env → M T} {env : Ep.Env} {r r1 : RS} {t : T} {xs : List T} {c : Option (Nat × List T)} (h1 : f env r = .ok t r1) (h2 : EnTltR r1 t = some (xs, c)) : fEnumG f env r = .ok (enumL 0 xs, c) r1 := bind_ok h1 (by show M.lift _ r1 = _; rw [h2]; rfl)
theorem cut_take (xs : List T) (k : Nat) : cutT xs none (some (k : Int)) = xs.take k := by
  unfold cutT
  rw [HT.sIx_nat, show HT.sIx xs.length 0 none = 0 from rfl, List.drop_zero, Nat.sub_zero]
  by_cases c : k ≤ xs.length
  · rw [Nat.min_eq_left c]
  · rw [Nat.min_eq_right (by omega), List.take_of_length_le (Nat.le_refl _), List.take_of_length_le (by omega)]
theorem cut_drop (xs : List T) (k : Nat) : cutT xs (some (k : Int)) none = xs.drop k := by
  unfold cutT
  rw [HT.sIx_nat, show HT.sIx xs.length xs.length none = xs.length from rfl, List.take_of_length_le (by rw [List.length_drop]; exact Nat.le_refl _)]
  by_cases c : k ≤ xs.length
  · rw [Nat.min_eq_left c]
  · rw [Nat.min_eq_right (by omega), List.drop_eq_nil_of_le (Nat.le_refl _), List.drop_eq_nil_of_le (by omega)]
theorem sl_take (xs : List T) (k : Nat) (r : RS) : slT r (.lst xs) none (some (k : Int)) = some (.lst (xs.take k)) := by
  show some (T.lst (cutT xs none (some (k : Int)))) = _
  rw [cut_take]
theorem sl_drop (xs : List T) (k : Nat) (r : RS) : slT r (.lst xs) (some (k : Int)) none = some (.lst (xs.drop k)) := by
  show some (T.lst (cutT xs (some (k : Int)) none)) = _
  rw [cut_drop]
theorem n_appR {i k : Nat} {f : Ep.Env → M T} {env : Ep.Env} {r r1 : RS} {xs : List T} {t : T} (he : env[i]? = some (.val (.ref k))) (h : f env r = .ok t r1) (hk : r1[k]? = some xs) (hl : xs.length < 100000) : qApp i f env r = .nx env (r1.set k (xs ++ [t])) := by
  have e1 : isMut env i = true := by unfold isMut; rw [he]
  have e2 : mutGet env i r1 = some xs := by unfold mutGet; rw [he]; exact hk
  have e3 : mutSet env i r1 (xs ++ [t]) = .nx env (r1.set k (xs ++ [t])) := by unfold mutSet; rw [he]
  unfold qApp
  rw [if_pos e1, h]
  show (match mutGet env i r1 with
    | some xs => if xs.length < 100000 then mutSet env i r1 (xs ++ [t]) else .bad
    | none => .bad) = _
  rw [e2]
  show (if xs.length < 100000 then mutSet env i r1 (xs ++ [t]) else .bad) = _
  rw [if_pos hl]
  exact e3
theorem add_lst {xs ys : List T} (h : xs.length + ys.length ≤ 100000) : addT (.lst xs) (.lst ys) = some (.lst (xs ++ ys)) := if_pos h
end Dr
namespace Ep
open PySem PySem.Spec L2
/-! ### a, b, c = e, e', e'' where the middle one is a new list of the def's own -/
section
variable {X : Cx} {G : Gm} {W : WX} {pos : Pos}
end
end Ep
namespace Ep
open PySem PySem.Spec L2
/-! ### two new lists of the def's own at once; a.append(b.pop(e)) -/
section
variable {X : Cx} {G : Gm} {W : WX} {pos : Pos}
end
end Ep
namespace Ep
open PySem PySem.Spec L2
/-! ### ~x by a class's own def -/
def own1 (C : Nat) (F : List T → M T) : T → M T := fun x => match x with
  | .obj D vs => if D = C then noEx (F [.obj D vs]) else M.bad
  | _ => M.bad
def fOwn1 (C : Nat) (F : List T → M T) (f : Env → M T) : Env → M T := fun env => f env >>= own1 C F
section
variable {X : Cx} {G : Gm} {W : WX} {pos : Pos} {a : Expr} {f : Env → M T} {C j k : Nat} {F : List T → M T}
theorem own1_ne (t : T) (r : RS) (c : Nat) (p : T) (r' : RS) : own1 C F t r ≠ .exn c p r' := by
  cases t with
  | obj D vs =>
    show (if D = C then noEx (F [.obj D vs]) else M.bad : M T) r ≠ _
    by_cases q : D = C
    · rw [if_pos q]; exact noEx_ne _ _ _ _ _
    · rw [if_neg q]; simp [M.bad]
  | _ => simp [own1, M.bad]
def r1own (G : Gm) (C : Nat) (F : List T → M T) : V → Hp → VK → Prop := fun x H Q => ∃ w r t, Good G w H r ∧ Den G w x t ∧ OutP G w H (fun _ _ _ => False) (fun z _ w' H' => ∀ v, Den G w' v z → Q v H') (own1 C F t r)
theorem un_own {op : UnaryOp} {nm : Str} (hop : ∀ v : Value, unaryOp op v = holding [v] (do
      match ← callSpecial? v nm with
      | some r => pure r
      | none => raiseError "TypeError" s!"bad operand type for unary {(match op with | .Invert => ("~", ("__invert__" : Str)) | .UAdd => ("+", "__pos__") | .USub => ("-", "__neg__") | .Not => ("not", "")).1}: '{← typeNameOf v}'"))
    (D : MethOk X.prog X.w X.base G k C nm 1 [] F) (hK : X.K = G.K) (hM : X.mg = G.mg) (hr : Room j X.A) (hk : k ≤ j) : UnR X (unaryOp op) (r1own G C F) := by
  intro pins s σ H x v Q I rx h
  obtain ⟨w, r, t, g0, d1, h⟩ := h
  obtain ⟨cA, fn, fd, ps, dvs, dus, c1, c2, c3, h1, h4, h5, h6⟩ := D.ex
  rw [← hK, ← hM] at h1
  cases d1 with
  | @obj p cA' dx C' vs ts c hh l d =>
    by_cases hC : C' = C
    · subst hC
      have h : OutP G w H (fun _ _ _ => False) (fun z _ w' H' => ∀ v, Den G w' v z → Q v H') (noEx (F [.obj C' ts]) r) := by simpa [own1] using h
      rw [c1] at c
      cases c
      obtain rfl : v = Value.ref p := rx
      obtain ⟨mA, J, _⟩ := ins_get I.hok (g0.sub _ _ hh)
      obtain ⟨od, J, _⟩ := J.look
      obtain rfl : dvs = [] := by
        cases dvs with
        | nil => rfl
        | cons v vs => cases h6 w
      cases h5
      have fs := c3.at_
      have ff := c3.fn
      rw [← hK] at fs ff
      have hsp : spF G 1 F [.ref p] H Q (fun _ _ _ => False) := by
        refine ⟨w, r, [.obj C' ts], g0, .cons (.obj c1 hh l d) .nil, rfl, ?_⟩
        unfold noEx at h
        cases o : F [.obj C' ts] r with
        | ok z r' => rw [o] at h; exact h
        | exn c p r' => rw [o] at h; exact h.elim
        | bad => rw [o] at h; exact h.elim
      have hb := h4 s [.ref p] (by rw [← hK]; exact I.kIn) (by simpa using h1.len _ _ _ _ hsp)
      rw [hop]
      refine wpAny_holding (wpAny_bind (m := callSpecial? (.ref p) nm) (PySem.W.special_fn I.kIn J fs (beq_iff_eq.mp ff) (wpAny_call (codeAny_mono (h1.run X.A X.stack s H ⟨[.ref p], []⟩ [.ref p] [.ref p] Q (fun _ _ _ => False) (hr.mono hk) I.env0 (by simpa using hb) (.cons rfl .nil) hsp) fun res s' hq => ?_))))
      cases res with
      | error e => exact passAt (W := fun _ _ _ _ => False) takes0 σ pins H s e s' I hq
      | ok fl =>
        cases fl with
        | ret u => exact wpAny_pure (I.after hq)
        | _ => exact hq.elim
    · have h : OutP G w H (fun _ _ _ => False) (fun z _ w' H' => ∀ v, Den G w' v z → Q v H') ((M.bad : M T) r) := by simpa [own1, hC] using h
      exact h.elim
  | _ => exact h.elim
theorem own1_use {σ : L2.St} {H : Hp} {Q : VK} (hq : tS G W (fOwn1 C F f) σ H Q) : tUn (r1own G C F) (tS G W f) σ H Q := by
  obtain ⟨w, H0, env, r, g0, s, h0⟩ := hq
  refine seqE g0 s h0 fun t r1 w1 H1 x g1 s1 st1 d1 h1 => ?_
  refine ⟨w1, r1, t, g1, d1, ?_⟩
  cases o : own1 C F t r1 with
  | ok z r3 => rw [o] at h1; exact h1
  | exn c p r3 => exact absurd o (own1_ne t r1 c p r3)
  | bad => rw [o] at h1; exact h1
theorem Bd.inv {jj : Nat} (B : Bd X G W jj) (D : MethOk X.prog X.w X.base G k C "__invert__" 1 [] F) (ha : SE X G W a f) (hk : k ≤ jj := by decide) : SE X G W (.UnaryOp .Invert a pos) (fOwn1 C F f) :=
  pe_imp (pe_un (un_own (op := .Invert) (nm := "__invert__") (fun v => rfl) D B.eK B.eM B.rm hk) ha) fun σ H Q hq => own1_use hq
end
end Ep
/-! list(zip(a, b)) of two sources of any kind. -/
namespace Ep
open PySem PySem.Spec PyProof.Rows L2
section
variable {P : Program} {w : World} {A : Around} {E : Value → Shared → Prop} {s : Shared} {z TI TO T i1 i2 : Addr} {fp1 fp2 : List Addr} {n1 n2 i : Nat} {P1 P2 : Nat → Value → Prop} {St1 St2 : Nat → Heap → Prop} {f : Bool} {oT : Obj}
/-- one turn of a zip whose last tuple is out: both are asked, a new tuple is made, or one is at its end -/
theorem zipOut_next {Q : Fin → Shared → Prop} (S : ZipSep2 z TI TO i1 i2 fp1 fp2) (D1 : Draws P w A i1 fp1 n1 P1 St1) (D2 : Draws P w A i2 fp2 n2 P2 St2) (hz : IsZipHeld s.heap z TI TO T f) (hT : s.heap.get? T = some oT) (hTI : IsTupOf2 s.heap TI (.ref i1) (.ref i2)) (s1 : St1 i s.heap) (s2 : St2 i s.heap) (l1 : i ≤ n1) (l2 : i ≤ n2)
    (hI : i < n1 → i < n2 → ∀ x y h' tk, P1 i x → P2 i y → IsZipHeld h' z TI TO T true → St1 (i + 1) h' → St2 (i + 1) h' → IsTupOf2 h' s.heap.objs.size x y → h'.objs.size = s.heap.objs.size + 1 → (∀ c o, c ∉ [z, i1, i2] → s.heap.get? c = some o → h'.get? c = some o) → Q (.done (.ret (.ref s.heap.objs.size))) { s with heap := h', toks := tk })
    (hN : i = n1 ∨ i = n2 → ∀ h' tk e, (∀ c o, c ∉ [z, i1, i2] → s.heap.get? c = some o → h'.get? c = some o) → (∃ o, h'.get? e = some o ∧ o.cls = .type "StopIteration") → E (.ref e) { s with heap := h', toks := tk }) :
    wpAny (model P w) A (Builtin.«zip.__next__» ⟨[.ref z], []⟩) Q E s := by
  obtain ⟨hp, gg, dd, tk0, os⟩ := s
  have out : ∀ {c : Addr}, c ∉ [z, i1, i2] → c ≠ z ∧ c ≠ i1 ∧ c ≠ i2 := fun m => by
    simp only [List.mem_cons, List.not_mem_nil, or_false, not_or] at m
    exact m
  refine wpAny_bind (m := field (.ref z) 2) (wpAny_field hz rfl (x := .bool false) rfl (wpAny_bind (m := field (.ref z) 3) (wpAny_field hz rfl (x := .ref TI) rfl (wpAny_bind (wpAny_seqItems hTI rfl (wpAny_bind (m := Builtin.SmallTypes.ownedTupleIsFree (.ref z)) (wpAny_tupleHeld_zip hz hT fun a hza sa => ?_)))))))
  replace sa : Heap.SameBut z hp a := sa
  rw [if_neg (by decide)]
  refine wpAny_bind ?_
  rw [← Array.forIn_toList]
  simp only [List.forIn_nil, List.forIn_cons]
  have t1 : St1 i a := D1.over s1 sa S.zf1
  have t2 : St2 i a := D2.over s2 sa S.zf2
  by_cases q1 : i < n1
  · refine wpAny_bind (wpAny_bind (wpAny_holding (wpAny_bind (m := Builtin.SmallTypes.nextOf (.ref i1)) (D1.item i ⟨a, gg, dd, tk0, os⟩ _ _ q1 t1 fun x b tk1 px u1 sb => wpAny_pure (wpAny_pure (wpAny_bind (wpAny_bind (wpAny_holding ?_))))))))
    replace sb : Heap.SameBut i1 a b := sb
    have t2 : St2 i b := D2.over t2 sb S.sep1_2
    have zb : IsZipHeld b z TI TO T true := sb.extBut _ _ S.zi1 hza
    by_cases q2 : i < n2
    · refine wpAny_bind (D2.item i ⟨b, gg, dd, tk1, os⟩ _ _ q2 t2 fun y c tk2 py u2 sc => wpAny_pure (wpAny_pure (wpAny_pure ?_)))
      replace sc : Heap.SameBut i2 b c := sc
      have sz : c.objs.size = hp.objs.size := sc.1.trans (sb.1.trans sa.1)
      have zc : IsZipHeld c z TI TO T true := sc.extBut _ _ S.zi2 zb
      refine wpAny_bind (m := newTuple [x, y]) (wpAny_newTuple (wpAny_pure ?_))
      have made : IsTupOf2 (c.push { cls := .type "tuple", data := .seq #[x, y] }) c.objs.size x y := Heap.get?_push_size _ rfl
      have more : (c.push { cls := .type "tuple", data := .seq #[x, y] }).objs.size = c.objs.size + 1 := Heap.size_push ..
      show Q (.done (.ret (.ref c.objs.size))) ⟨_, gg, dd, tk2, os⟩
      rw [sz] at made more ⊢
      exact hI q1 q2 x y _ tk2 px py (Heap.get?_push_of_some _ zc) (D1.frame _ _ _ (D1.over u1 sc S.sep2_1) fun _ _ _ e => Heap.get?_push_of_some _ e) (D2.frame _ _ _ u2 fun _ _ _ e => Heap.get?_push_of_some _ e) made more fun e o m k => Heap.get?_push_of_some _ (sc.extBut _ _ (out m).2.2 (sb.extBut _ _ (out m).2.1 (sa.extBut _ _ (out m).1 k)))
    · have e2 : i = n2 := by omega
      exact wpAny_bind (m := Builtin.SmallTypes.nextOf (.ref i2)) (D2.done ⟨b, gg, dd, tk1, os⟩ _ _ (by rw [← e2]; exact t2) fun c e kc he => hN (.inr e2) c tk1 e (fun j o m k => kc _ _ (out m).2.2 (sb.extBut _ _ (out m).2.1 (sa.extBut _ _ (out m).1 k))) he)
  · have e1 : i = n1 := by omega
    exact wpAny_bind (wpAny_bind (wpAny_holding (wpAny_bind (m := Builtin.SmallTypes.nextOf (.ref i1)) (D1.done ⟨a, gg, dd, tk0, os⟩ _ _ (by rw [← e1]; exact t1) fun c e kc he => hN (.inl e1) c tk0 e (fun j o m k => kc _ _ (out m).2.1 (sa.extBut _ _ (out m).1 k)) he))))
theorem zipOut_pyNext {Q : Option Value → Shared → Prop} (S : ZipSep2 z TI TO i1 i2 fp1 fp2) (D1 : Draws P w A.in1 i1 fp1 n1 P1 St1) (D2 : Draws P w A.in1 i2 fp2 n2 P2 St2) (hz : IsZipHeld s.heap z TI TO T f) (hT : s.heap.get? T = some oT) (hTI : IsTupOf2 s.heap TI (.ref i1) (.ref i2)) (s1 : St1 i s.heap) (s2 : St2 i s.heap) (l1 : i ≤ n1) (l2 : i ≤ n2)
    (hI : i < n1 → i < n2 → ∀ x y h' tk, P1 i x → P2 i y → IsZipHeld h' z TI TO T true → St1 (i + 1) h' → St2 (i + 1) h' → IsTupOf2 h' s.heap.objs.size x y → h'.objs.size = s.heap.objs.size + 1 → (∀ c o, c ∉ [z, i1, i2] → s.heap.get? c = some o → h'.get? c = some o) → Q (some (.ref s.heap.objs.size)) { s with heap := h', toks := tk })
    (hN : i = n1 ∨ i = n2 → ∀ h' tk, (∀ c o, c ∉ [z, i1, i2] → s.heap.get? c = some o → h'.get? c = some o) → Q none { s with heap := h', toks := tk }) : wpAny (model P w) A (pyNext (.ref z)) Q E s := by
  have ty : s.TypeIs (.ref z) "zip" := ⟨_, hz, rfl⟩
  unfold pyNext
  refine wpAny_bind (wpAny_attempt (wpAny_callSpecial?_slot (name := Str.ofString "__next__") ty F.slot_zip_next (wpAny_call_entry F.slot_zip_next ty F.entry_zip_next (zipOut_next S D1 D2 hz hT hTI s1 s2 l1 l2 (fun q1 q2 x y h' tk a1 a2 a3 a4 a5 a6 a7 a8 => ⟨_, rfl, wpAny_pure (hI q1 q2 x y h' tk a1 a2 a3 a4 a5 a6 a7 a8)⟩) fun q h' tk e k he => ?_) (F.args_zip_next_1 _))))
  obtain ⟨oe, ge, ce⟩ := he
  exact wpAny_bind (wpAny_isInstance (T := "StopIteration") (b := true) ⟨oe, ge, ce⟩ isSubtype_stop (wpAny_pure (hN q h' tk k)))
end
/-- two iterators and the zip that walks both, i turns on; S: the list that takes the pairs -/
structure ZV (o p : Src) (z TI TO i1 i2 S : Addr) (i : Nat) (h : Heap) : Prop where
  ti : IsTupOf2 h TI (.ref i1) (.ref i2)
  c1 : o.Cur i1 i h
  c2 : p.Cur i2 i h
  z : (IsZip h z TI TO .none ∧ ∃ a b, IsTupOf2 h TO a b) ∨ ∃ T f oT, IsZipHeld h z TI TO T f ∧ h.get? T = some oT ∧ T ∉ [z, i1, i2, S]
section
variable {o p : Src} {z TI TO i1 i2 S : Addr} {i : Nat} {X : Cx} {pins : List (Addr × Obj)} {σ : L2.St} {H H0 : Hp} {s s0 : Shared} {us vs : List V} {B : Around} {E : Value → Shared → Prop}
theorem ZV.put {h h' : Heap} (w : ZV o p z TI TO i1 i2 S i h) (k : ∀ b u, b ≠ S → h.get? b = some u → h'.get? b = some u) (n : ∀ b ∈ [z, TI, TO, i1, i2], b ≠ S) : ZV o p z TI TO i1 i2 S i h' := by
  refine ⟨k _ _ (n TI (by simp)) w.ti, o.cur_keep w.c1 fun u e => k _ u (n i1 (by simp)) e, p.cur_keep w.c2 fun u e => k _ u (n i2 (by simp)) e, ?_⟩
  rcases w.z with ⟨hz, a, b, hT⟩ | ⟨T, f, oT, hz, hT, r⟩
  · exact .inl ⟨k _ _ (n z (by simp)) hz, a, b, k _ _ (n TO (by simp)) hT⟩
  · exact .inr ⟨T, f, oT, k _ _ (n z (by simp)) hz, k _ _ (fun e => r (by simp [e])) hT, r⟩
theorem ZV.next (F : Five o p z TI TO i1 i2) (st : ZV o p z TI TO i1 i2 S i s.heap) (I : Inv X pins σ H s) (hx : o.At X.K H us) (hy : p.At X.K H vs) (hB : B.handled = none) (hS : S < s.heap.objs.size) (le : i ≤ min us.length vs.length) {Q : Option Value → Shared → Prop}
    (q : ∀ h' tk x y u v, us[i]? = some x → vs[i]? = some y → RelV x u → RelV y v → IsTupOf2 h' s.heap.objs.size u v → ZV o p z TI TO i1 i2 S (i + 1) h' → (∀ c b, c ∉ [z, TO, i1, i2] → s.heap.get? c = some b → h'.get? c = some b) → Q (some (.ref s.heap.objs.size)) { s with heap := h', toks := tk })
    (qN : i = min us.length vs.length → ∀ h' tk, (∀ c b, c ∉ [z, TO, i1, i2] → s.heap.get? c = some b → h'.get? c = some b) → Q none { s with heap := h', toks := tk }) : wpAny (model X.prog X.w) B (pyNext (.ref z)) Q E s := by
  obtain ⟨Pa, Sa, Da, va, oa, na⟩ := Src.draws (A := B.in1) hB I i1 hx F.ne1
  obtain ⟨Pb, Sb, Db, vb, ob, nb⟩ := Src.draws (A := B.in1) hB I i2 hy F.ne2
  have there : ∀ c ∈ [z, i1, i2, S], s.heap.objs.size ∉ [c] := fun c m e => by
    have e : s.heap.objs.size = c := List.mem_singleton.mp e
    have lt : c < s.heap.objs.size := by
      simp only [List.mem_cons, List.not_mem_nil, or_false] at m
      rcases m with rfl | rfl | rfl | rfl
      · rcases st.z with ⟨hz, _⟩ | ⟨_, _, _, hz, _⟩ <;> exact Heap.lt_size hz
      · obtain ⟨_, e, _⟩ := o.cur_ob st.c1; exact Heap.lt_size e
      · obtain ⟨_, e, _⟩ := p.cur_ob st.c2; exact Heap.lt_size e
      · exact hS
    rw [← e] at lt
    exact absurd lt (Nat.lt_irrefl _)
  have new : s.heap.objs.size ∉ [z, i1, i2, S] := fun m => there _ m (List.mem_singleton.mpr rfl)
  have out : ∀ {c : Addr}, c ∉ [z, TO, i1, i2] → c ≠ z ∧ c ≠ TO ∧ c ≠ i1 ∧ c ≠ i2 := fun m => by
    simp only [List.mem_cons, List.not_mem_nil, or_false, not_or] at m
    exact m
  have few : ∀ {c : Addr}, c ∉ [z, TO, i1, i2] → c ∉ [z, i1, i2] := fun m h => m (by
    simp only [List.mem_cons, List.not_mem_nil, or_false] at h ⊢
    rcases h with h | h | h <;> simp [h])
  have la : i ≤ us.length := Nat.le_trans le (Nat.min_le_left _ _)
  have lb : i ≤ vs.length := Nat.le_trans le (Nat.min_le_right _ _)
  have ends : i = us.length ∨ i = vs.length → i = min us.length vs.length := fun h => by omega
  have TIn : TI ∉ [z, TO, i1, i2] := fun m => by
    simp only [List.mem_cons, List.not_mem_nil, or_false] at m
    rcases m with h | h | h | h
    · exact F.sep.TIz h
    · exact F.sep.TITO h
    · exact F.sep.TIi1 h
    · exact F.sep.TIi2 h
  rcases st.z with ⟨hz, a, b, hT⟩ | ⟨T, f, oT, hz, hT, r⟩
  · by_cases lt : i < us.length ∧ i < vs.length
    · refine wpAny_pyNext_zipD2_item (A := B) F.sep Da Db hz st.ti hT (na _ st.c1) (nb _ st.c2) lt.1 lt.2 fun u v h' tk pu pv b1 _ u1 u2 b5 _ k => ?_
      obtain ⟨x, ex, rx⟩ := va i u pu
      obtain ⟨y, ey, ry⟩ := vb i v pv
      have kp : ∀ c b, c ∉ [z, TO, i1, i2] → s.heap.get? c = some b → h'.get? c = some b := fun c b m e => k c b (out m).1 (out m).2.1 (out m).2.2.1 (out m).2.2.2 e
      exact q h' tk x y u v ex ey rx ry b5 ⟨kp _ _ TIn st.ti, oa _ _ u1, ob _ _ u2, .inr ⟨_, false, _, b1, b5, new⟩⟩ kp
    · exact wpAny_pyNext_zipD2_end (A := B) F.sep Da Db hz st.ti hT (na _ st.c1) (nb _ st.c2) la lb (by omega) fun h' tk k => qN (ends (by omega)) h' tk fun c b m e => k c b (out m).1 (out m).2.1 (out m).2.2.1 (out m).2.2.2 e
  · refine zipOut_pyNext (A := B) F.sep Da Db hz hT st.ti (na _ st.c1) (nb _ st.c2) la lb (fun _ _ u v h' tk pu pv b1 u1 u2 b5 _ k => ?_) fun e h' tk k => qN (ends e) h' tk fun c b m g => k c b (few m) g
    obtain ⟨x, ex, rx⟩ := va i u pu
    obtain ⟨y, ey, ry⟩ := vb i v pv
    have rT : T ∉ [z, i1, i2] := fun m => r (by
      simp only [List.mem_cons, List.not_mem_nil, or_false] at m ⊢
      rcases m with h | h | h <;> simp [h])
    exact q h' tk x y u v ex ey rx ry b5 ⟨k _ _ (few TIn) st.ti, oa _ _ u1, ob _ _ u2, .inr ⟨T, true, oT, b1, k _ _ rT hT, r⟩⟩ fun c b m g => k c b (few m) g
/-- the loop amid its turns -/
structure ZQ (X : Cx) (pins : List (Addr × Obj)) (σ : L2.St) (z TI TO i1 i2 S : Addr) (H0 : Hp) (s0 : Shared) (J : Nat → List V → Hp → Prop) (i : Nat) (H : Hp) (s : Shared) (ws : List V) (acc : Array Value) (c : Nat) : Prop where
  e : ZE X pins σ S H0 s0 i H s ws acc c
  fr : ∀ b ∈ [z, TO, i1, i2, S], FpOk X pins H b ∧ s0.heap.objs.size ≤ b ∧ b < s.heap.objs.size
  j : J i ws H
  ne : ∀ b ∈ [z, TI, TO, i1, i2], b ≠ S
variable {J : Nat → List V → Hp → Prop} {ws : List V} {acc : Array Value} {c : Nat}
theorem mem45 {b : Addr} (m : b ∈ [z, TO, i1, i2]) : b ∈ [z, TI, TO, i1, i2] := by
  simp only [List.mem_cons, List.not_mem_nil, or_false] at m ⊢
  rcases m with h | h | h | h <;> simp [h]
theorem ZQ.turned {h' : Heap} {tk : Nat} (L : ZQ X pins σ z TI TO i1 i2 S H0 s0 J i H s ws acc c) (kp : ∀ c b, c ∉ [z, TO, i1, i2] → s.heap.get? c = some b → h'.get? c = some b) : ZE X pins σ S H0 s0 i H { s with heap := h', toks := tk } ws acc c where
  I := L.e.I.turnedL (t' := tk) (ch := [z, TO, i1, i2]) kp fun b hb => (L.fr b (in5 hb)).1
  own := kp S _ (fun m => L.ne S (mem45 m) rfl) L.e.own
  rel := L.e.rel
  len := L.e.len
  free := L.e.free
  gt := L.e.gt
  old := fun b u q => kp b u (fun m => absurd (L.fr b (in5 m)).2.1 (Nat.not_le.mpr (Heap.lt_size q))) (L.e.old b u q)
  hp := L.e.hp
  os := L.e.os
theorem ZQ.same (L : ZQ X pins σ z TI TO i1 i2 S H0 s0 J i H s ws acc c) (I0 : Inv X pins σ H0 s0) : Same H0 H := fun b u e => by
  rcases Nat.lt_or_ge b s0.heap.objs.size with g | g
  · rw [L.e.hp b g]; exact e
  · rw [I0.hok.fresh g] at e; cases e
end
section
variable {X : Cx} {G : Gm} {W : WX} {pos pos2 p np : Pos} {a b : Expr} {f g : Env → M T}
end
end Ep
/-! `in` of plain trees; least, greatest, sum of integers. -/
namespace Ep
open PySem PySem.Spec L2
theorem any_eqv {L : T → Prop} (ok : LeafOk L) {n : Nat} {t : T} {d : PyData} (ht : Pt L n t) (e : pyT t = some d) : ∀ {us : List T} {ds : List PyData}, (∀ x ∈ us, Pt L n x) → pyTs us = some ds → ((ds.any fun z => PyData.eqv z d) = true ↔ t ∈ us)
  | [], ds, _, e1 => by cases e1; exact ⟨fun h => Bool.noConfusion h, fun h => absurd h List.not_mem_nil⟩
  | u :: us, ds, hu, e1 => by
    obtain ⟨d1, k1, e1⟩ := Option.bind_eq_some_iff.mp (show (pyT u).bind (fun d => (pyTs us).map (d :: ·)) = some ds from e1)
    obtain ⟨l, k2, rfl⟩ := Option.map_eq_some_iff.mp e1
    have a := eqv_of ok u t d1 d (hu u List.mem_cons_self) ht k1 e
    have b := any_eqv ok ht e (fun x m => hu x (List.mem_cons_of_mem _ m)) k2
    rw [List.any_cons, Bool.or_eq_true, a, b, List.mem_cons]
    exact ⟨fun h => h.imp Eq.symm id, fun h => h.imp Eq.symm id⟩
theorem in_lst {L : T → Prop} (ok : LeafOk L) {n : Nat} {t : T} {us : List T} (ht : Pt L n t) (hu : ∀ x ∈ us, Pt L n x) (l : n < 64) {b : Bool} (hb : b = true ↔ t ∈ us) : inT t (.lst us) = some b := by
  obtain ⟨d, a1, a2, a3⟩ := dt_of ok ht
  obtain ⟨ds, f1, f2, f3⟩ := dts (fun t ht => dt_of ok ht) hu
  have q := any_eqv ok ht a1 hu f1
  have e2 : pyT (.lst us) = some (.list ds) := by
    show (pyTs us).map PyData.list = _
    rw [f1]; rfl
  have x1 : SeqAt.shaped d = true := by unfold SeqAt.shaped; rw [a2, decide_eq_true (by omega)]; rfl
  have x2 : SeqAt.shaped (.list ds) = true := by
    unfold SeqAt.shaped
    rw [show (PyData.list ds).canLay0 = true from f2, decide_eq_true (show (PyData.list ds).depth ≤ 64 from by show PyData.depthAll ds + 1 ≤ 64; omega)]; rfl
  show (match pyT t, pyT (.lst us) with
    | some d, some (.list ds) => if (SeqAt.shaped d && SeqAt.shaped (.list ds)) = true then some (ds.any fun z => PyData.eqv z d) else none
    | _, _ => none) = _
  rw [a1, e2]
  show (if (SeqAt.shaped d && SeqAt.shaped (.list ds)) = true then some (ds.any fun z => PyData.eqv z d) else none) = _
  rw [x1, x2]
  show some (ds.any fun z => PyData.eqv z d) = some b
  rw [show (ds.any fun z => PyData.eqv z d) = b from by rw [Bool.eq_iff_iff, q, hb]]
theorem nin_lst {L : T → Prop} (ok : LeafOk L) {n : Nat} {t : T} {us : List T} (ht : Pt L n t) (hu : ∀ x ∈ us, Pt L n x) (l : n < 64) {b : Bool} (hb : b = true ↔ t ∈ us) : ninT t (.lst us) = some (!b) := by
  unfold ninT
  rw [in_lst ok ht hu l hb]; rfl
end Ep
/-! a def's own list that others go on to change: from here on one of the changed lists. -/
namespace Ep
open PySem PySem.Spec L2
section
variable {G : Gm} {w w0 : Wd} {H0 H : Hp} {σ : L2.St} {env : Env} {r : RS}
theorem At.handed (a : At G w0 H0 w H σ env r) {i : Nat} {xs : List T} (he : env[i]? = some (.own xs)) : ∃ w', At G w0 H0 w' H σ (env.set i (.val (.ref r.length))) (r ++ [xs]) := by
  obtain ⟨oa, h1, h2⟩ := a.s.ex
  obtain ⟨a1, a2, a3, a4, o, a6, a7⟩ := h1 i _ he
  have hl : i < env.length := (List.getElem?_eq_some_iff.mp he).1
  have L : Later w ⟨w.P, w.R ++ [oa i], w.fx⟩ := ⟨Same.refl _, [oa i], rfl⟩
  have old : ∀ {m : Nat} {x : Slot}, i ≠ m → (env.set i (.val (.ref r.length)))[m]? = some x → env[m]? = some x := fun {m x} him hm => (List.getElem?_set_ne him).symm.trans hm
  have pr : ∀ {m : Nat} {x : Slot}, (env.set i (.val (.ref r.length)))[m]? = some x → x.priv = true → i ≠ m ∧ env[m]? = some x := fun {m x} hm px => by
    by_cases him : i = m
    · subst him
      rw [List.getElem?_set_self hl] at hm
      cases hm
      cases px
    · exact ⟨him, old him hm⟩
  refine ⟨⟨w.P, w.R ++ [oa i], w.fx⟩, ⟨?_, ?_, ?_⟩⟩
  · obtain ⟨m, e, hm⟩ := a.st.refs
    refine ⟨a.st.pub, a.st.fr, a.st.keep, a.st.hid, ⟨m ++ [oa i], ?_, fun x hx => ?_⟩, a.st.me⟩
    · show w.R ++ [oa i] = _
      rw [e, List.append_assoc]
    · rcases List.mem_append.mp hx with h | h
      · exact hm x h
      · rw [List.mem_singleton.mp h]; exact a4
  · refine ⟨a.g.sub, ⟨?_, ?_, fun x hx => ?_, fun k ys hk => ?_⟩, a.g.tabs, a.g.nt⟩
    · refine List.nodup_append.mpr ⟨a.g.refs.nd, (by simp), fun x hx y hy => ?_⟩
      rw [List.mem_singleton.mp hy]
      exact fun q => a3 (q ▸ hx)
    · show (w.R ++ [oa i]).length = _
      rw [List.length_append, List.length_append, a.g.refs.len]; rfl
    · rcases List.mem_append.mp hx with h | h
      · exact a.g.refs.out x h
      · rw [List.mem_singleton.mp h]; exact a2
    · by_cases q : k < r.length
      · rw [List.getElem?_append_left q] at hk
        obtain ⟨b, vs, e1, e2, e3, e4⟩ := a.g.refs.at_ k ys hk
        exact ⟨b, vs, (List.getElem?_append_left (by rw [a.g.refs.len]; exact q)).trans e1, e2, e3.mono L, e4⟩
      · have qk : k = r.length := by
          have := (List.getElem?_eq_some_iff.mp hk).1
          rw [List.length_append, List.length_singleton] at this
          omega
        subst qk
        rw [List.getElem?_append_right (Nat.le_refl _), Nat.sub_self] at hk
        cases hk
        cases a7 with
        | lst z d => exact ⟨oa i, _, by show (w.R ++ [oa i])[r.length]? = _; rw [← a.g.refs.len, List.getElem?_append_right (Nat.le_refl _), Nat.sub_self]; rfl, a6, d.mono L, z⟩
  · refine ⟨by simp [a.s.len], oa, fun j sl hj => ?_, fun j k u u' hj hk pj pk e => h2 j k u u' (pr hj pj).2 (pr hk pk).2 pj pk e⟩
    by_cases hij : i = j
    · subst hij
      rw [List.getElem?_set_self hl] at hj
      cases hj
      exact ⟨_, a1, .ref (by show (w.R ++ [oa i])[r.length]? = _; rw [← a.g.refs.len, List.getElem?_append_right (Nat.le_refl _), Nat.sub_self]; rfl)⟩
    · have q := old hij hj
      have := h1 j sl q
      cases sl with
      | un => trivial
      | fn =>
        obtain ⟨f, c, z, cv, ct, e1, e2, d, n, hc⟩ := this
        refine ⟨f, c, z, cv, ct, e1, e2, d.mono L, fun hm => ?_, hc⟩
        rcases List.mem_append.mp hm with hm | hm
        · exact n hm
        · obtain ⟨_, _, _, _, u, b6, b7⟩ := h1 i _ he
          exact code_ne hc b6 b7.pl (List.mem_singleton.mp hm)
      | val t =>
        obtain ⟨v, e1, d1⟩ := this
        exact ⟨v, e1, d1.mono L⟩
      | pv zs =>
        obtain ⟨b1, b2, b3, b4, u, b6, b7⟩ := this
        refine ⟨b1, b2, fun hm => ?_, b4, u, b6, b7.mono L rfl⟩
        rcases List.mem_append.mp hm with hm | hm
        · exact b3 hm
        · exact hij (h2 i j _ _ he q rfl rfl (List.mem_singleton.mp hm).symm)
end
end Ep
/-! own dicts: d[k] = e; a, b = {}, e. -/
namespace Ep
open PySem PySem.Spec L2
section
variable {X : Cx} {G : Gm} {W : WX} {pos : Pos}
end
end Ep
/-! a plain tree is == to itself, whatever its leaves. -/
namespace Ep
open PySem PySem.Spec L2
structure LeafS (L : T → Prop) : Prop where
  one : ∀ t, L t → ∃ d, pyT t = some d ∧ d.canLay0 = true ∧ d.depth = 0 ∧ PyData.eqv d d = true
end Ep
/-! dict(pairs); slices with a step. -/
namespace Ep
open PySem PySem.Spec L2 PyProof.Rows
/-! ### dict(xs) of a list of pairs -/
section
variable {G : Gm} {w : Wd}
end
/-! ### slices with a step -/
end Ep
/-! enumerate of a source of any kind: a list, a tuple, a text. -/
namespace Ep
namespace EnS
open PySem PySem.Spec L2 PyProof.Rows
/-- enumerate's record and the source's own, i turns done -/
def Stands (o : Src) (e it : Addr) (i : Nat) (h : Heap) : Prop := (∃ old, IsEnum h e it ((i : Nat) : Int) old) ∧ o.Cur it i h
theorem two {o : Src} {e it : Addr} {i : Nat} {h : Heap} (st : Stands o e it i h) {b : Addr} (of_ : b ∈ [e, it]) : ∃ x, h.get? b = some x ∧ ∀ v, x.data ≠ .cell v := by
  obtain ⟨⟨old, at_e⟩, c⟩ := st
  rcases List.mem_cons.mp of_ with rfl | of_
  · exact ⟨_, at_e, fun _ z => nomatch z⟩
  · cases List.mem_singleton.mp of_
    exact o.cur_ob c
end EnS
open PySem PySem.Spec L2
section
variable {X : Cx} {G : Gm} {W : WX} {f : Env → M T} {pos : Pos}
end
end Ep
namespace Ep
open PySem PySem.Spec L2 PyProof.Rows
/-! ### the head by one run of the kernel: what is looked at, the end over it -/
abbrev DicW : Type := Option (List (Option (Str × Int)))
abbrev AlS : Type := He.AlD × Bool × List SupW × List DicW
/-- what a law's end leans on: checks, bound makers, dicts of the top -/
structure EndQ where
  ck : PySem.W.Frag → List Bool
  su : PySem.W.Frag → List SupW
  sv : List SupW
  ds : PySem.W.Frag → List DicW
  dv : Params → List DicW
def EndQ.obs (q : EndQ) (fa : List He.Fa) (fn : List He.DefD) (K : PySem.W.Frag) : AlS := (He.obsD fa fn K, (q.ck K).all id, q.su K, q.ds K)
structure EndQ.says (q : EndQ) (fa : List He.Fa) (fn : List He.DefD) (w : World) (K : PySem.W.Frag) : Prop where
  d : He.SaysD fa fn K
  ck : (q.ck K).all id = true
  su : q.su K = q.sv
  ds : q.ds K = q.dv w.params
/-! what the module's names reach, by a mask of the addresses met -/
/-- what an object names; a code object is not gone into -/
def refsH (o : Obj) : List Addr := match o.data with
  | .fields vs => (match Nat.ble 12 vs.size with
    | true => []
    | false => He.refsD o)
  | _ => He.refsD o
noncomputable def metB (m a : Nat) : Bool := Nat.beq (Nat.land (Nat.shiftRight m a) 1) 1
noncomputable def reachF (g : Addr → Option Obj) (k : Nat) : List Addr → Nat → List (Addr × Obj) → List (Addr × Obj) :=
  @Nat.rec (fun _ => List Addr → Nat → List (Addr × Obj) → List (Addr × Obj)) (fun _ _ acc => acc)
    (fun _ ih todo m acc => @List.casesOn Addr (fun _ => List (Addr × Obj)) todo acc fun a rest =>
      @Bool.casesOn (fun _ => List (Addr × Obj)) (metB m a)
        (@Option.casesOn Obj (fun _ => List (Addr × Obj)) (g a) (ih rest m acc) fun o => ih (refsH o ++ rest) (Nat.lor m (Nat.shiftLeft 1 a)) ((a, o) :: acc))
        (ih rest m acc)) k
theorem reachF_in {g : Addr → Option Obj} : ∀ (k : Nat) (todo : List Addr) (m : Nat) (acc : List (Addr × Obj)), (∀ p ∈ acc, g p.1 = some p.2) → ∀ p ∈ reachF g k todo m acc, g p.1 = some p.2
  | 0, _, _, _, h => h
  | k + 1, [], _, _, h => h
  | k + 1, a :: rest, m, acc, h => by
    show ∀ p ∈ (@Bool.casesOn (fun _ => List (Addr × Obj)) (metB m a)
        (@Option.casesOn Obj (fun _ => List (Addr × Obj)) (g a) (reachF g k rest m acc) fun o => reachF g k (refsH o ++ rest) (Nat.lor m (Nat.shiftLeft 1 a)) ((a, o) :: acc))
        (reachF g k rest m acc)), g p.1 = some p.2
    cases metB m a with
    | true => exact reachF_in k rest m acc h
    | false =>
      cases e : g a with
      | none => exact reachF_in k rest m acc h
      | some o =>
        refine reachF_in k _ _ _ fun p hp => ?_
        rcases List.mem_cons.mp hp with rfl | hp
        · exact e
        · exact h p hp
noncomputable def fragF (g : Addr → Option Obj) (n : Nat) : PySem.W.Frag := (reachF g n [mainGlobals, cStatics] 0 []).reverse
theorem fragF_in {h : Heap} (n : Nat) : (fragF h.get? n).In h := fun _ _ e => reachF_in n _ _ [] (fun _ k => nomatch k) _ (List.mem_reverse.mp (He.lookup_mem e))
noncomputable def obsS (q : EndQ) (n : Nat) (fa : List He.Fa) (fn : List He.DefD) (g : Addr → Option Obj) : AlS := q.obs fa fn (fragF g n)
/-- a Hook that tells the defs and facts, the checks, the bound makers -/
noncomputable def hookS (q : EndQ) (n : Nat) (fa : List He.Fa) (fn : List He.DefD) : PySem.W.Hook where
  α := AlS
  obs := fun s => obsS q n fa fn s.heap.get?
  val := fun w => (He.valD fn, true, q.sv, q.dv w.params)
  says := fun w h => ∃ K : PySem.W.Frag, K.In h ∧ q.says fa fn w K
  of := fun _ _ e => ⟨_, fragF_in n, congrArg (fun z : AlS => z.1) e, congrArg (fun z : AlS => z.2.1) e, congrArg (fun z : AlS => z.2.2.1) e, congrArg (fun z : AlS => z.2.2.2) e⟩
  keeps := fun _ _ _ ⟨K, hK, c⟩ k => ⟨K, PySem.W.Frag.In.keeps hK k, c⟩
theorem obsS_eq {q : EndQ} {n : Nat} {fa : List He.Fa} {fn : List He.DefD} (s : PySem.W.SharedT) : obsS q n fa fn (HandSHeadRun.getT s) = (hookS q n fa fn).obs s.abs := by
  rw [show HandSHeadRun.getT s = s.abs.heap.get? from funext (HandSHeadRun.getT_eq s)]
  rfl
/-! the run, looked at in parts -/
theorem law_endE {l : PySem.W.OpenLaw} {q : Program} {loose : List Str} {XP : (Str → Option Value) → Heap → Prop} {YP : World → Heap → Prop} {d : DefRec} {x : Str} (k : Nat) (xs : List Str) (hn : l.most = some 63) (hdf : d.params.defaults = []) (hr : Room k callerA)
    (hx : ∀ y ∈ xs, ((recsOf q).find? fun e => e.name == y).isSome = true)
    (F : ∀ (w : World) (mg : Str → Option Value) (fa : Addr) (h : Heap), YP w h → h.Ns mainGlobals mg → mg d.name = some (.ref fa) → ∃ K : PySem.W.Frag, K.In h ∧ ∃ (G : Gm) (f : List T → M T) (fd : FuncData) (cs : List (Addr × Addr)), G.K = K ∧ G.mg = mg ∧ (∀ (s : Shared) (u : Value), BindsTo s fd ⟨[u], []⟩ [(x, u)]) ∧
      (∀ p ∈ cs, ∃ y ∈ xs, PySem.W.tabIn K y = some p) ∧ (∀ p ∈ cs, K.lookup p.2 = none) ∧ (∀ t ∈ G.tb, ∃ c, (c, t.1) ∈ cs) ∧
      (∀ ns : List Int, ns.length ≤ 63 → (∀ z ∈ ns, Builtin.Int.intBits z ≤ 1048576) → ∃ r, f [.kls (ns.map T.int)] [] = .ok (.bl true) r) ∧ ∀ base : Heap, K.In base → base.Ns mainGlobals mg → (∀ p ∈ cs, LamX.TabB base mg p.1 p.2) → FnOk l.prog w G.K G.mg base (L2.CX l.prog w) k fa fd [x] (spF G 1 f)) :
    PySem.W.WalkO q loose XP YP l.row.toRowW d []
      (fun f vs => PySem.call f vs) :=
  by
  refine Att.attach_callB hn hdf fun w s₀ s₁ mg mb fa o pm cd doc a vs ns G Y ho hd hcd hmg hobj hints hlen hbits hg => ?_
  obtain ⟨K, KX, G', f, fd, cs, e1, e2, hb, t1, t2, t4, hv, hF⟩ := F w mg fa _ Y G.T.g hmg
  have hT : ∀ p ∈ cs, PySem.W.CodeHd s₁.heap p.1 p.2 ∧ s₁.heap.get? p.2 = some { cls := .none, data := .fields #[] } := fun p hp => by
    obtain ⟨y, hy, ey⟩ := t1 p hp
    cases e : (recsOf q).find? fun e => e.name == y with
    | none => have := hx y hy; rw [e] at this; cases this
    | some dr => exact PySem.W.tab_of G.T KX e ey
  refine LamX.law_callTs (k := k) (x := x) (CX := L2.CX l.prog w) (sp := spF G' 1 f) KX G.T.g G.T.b G.T.builtins G.T.nolimit hg (fun p hp => (hT p hp).2) t2 (fun p hp => (hT p hp).1) G.T.bmain hobj hints (Nat.le_trans hlen (by decide)) hr (fun base KB NB hTB => ?_) hb (fun H hH hS => ?_) fun H e s' ⟨_, _, _, _, _, _, _, _, _, _, _, _, z⟩ => z
  · have := hF base KB NB hTB
    rw [e1, e2] at this
    exact this
  · obtain ⟨r, er⟩ := hv ns hlen hbits
    have dint : ∀ (ns : List Int) (w : Wd), Dens G' w (ns.map V.int) (ns.map T.int) := fun ns w => by
      induction ns with
      | nil => exact .nil
      | cons n ns ih => exact .cons (.int n) ih
    refine ⟨⟨noTb H, [], ⟨0, 0, 0⟩⟩, [], [.kls (ns.map T.int)], ⟨fun b o e => (noTb_of e).1, ⟨List.nodup_nil, rfl, fun a h => (by cases h), fun k xs h => (by cases h)⟩, fun p hp => ?_, fun b o e => (noTb_of e).2⟩, .cons (.kls (by rw [e1]; exact noTb_seq hS) (by rw [List.length_map, sizeLine_eq]; omega) (dint ns _)) .nil, rfl, ?_⟩
    · obtain ⟨c, hc⟩ := t4 p hp
      exact LamX.TabS.nil (hH _ hc)
    · rw [er]
      intro w' H' st g v d
      cases d
      rfl
end Ep
namespace Ep
open PySem PySem.Spec L2
/-! ### d.get(k, x) of a dict of the def's own -/
section
variable {X : Cx} {G : Gm} {W : WX} {j : Nat} {a b c : Expr} {f g k : Env → M T} {pos apos : Pos}
end
/-! ### range(i, j, -1) -/
section
variable {X : Cx} {G : Gm} {W : WX} {f f' f'' : Env → M T} {tg : Expr} {pos : Pos}
end
/-! ### len(x) by a class's own __len__ -/
section
variable {X : Cx} {G : Gm} {W : WX} {p pos : Pos} {a : Expr} {f : Env → M T} {C j k : Nat} {F : List T → M T}
end
/-! ### a or b, of values of any kind -/
section
variable {X : Cx} {G : Gm} {W : WX} {pos : Pos} {a b : Expr} {rest : List Expr} {f g : Env → M T}
end
end Ep
/-! super().__init__(e) of a plain class: a def with the class's cell. -/
namespace Ep
namespace SupM
open PySem PySem.W PySem.Calls PySem.Spec PyProof.Rows L2 NdefX
/-- a statement, run at its place in the code -/
structure PSA (X : Cx) (c : Code) (st : Stmt) (t : TS) : Prop where
  run : ∀ (pins : List (Addr × Obj)) (s : Shared) (σ : L2.St) (H : Hp) (D : Ends), Inv X pins σ H s → t D σ H → _root_.PySem.wpAt (model X.prog X.w) X.A c (exec st X.env) (SP X pins D) X.xe s
structure PSsA (X : Cx) (c : Code) (st : List Stmt) (t : TS) : Prop where
  run : ∀ (pins : List (Addr × Obj)) (s : Shared) (σ : L2.St) (H : Hp) (D : Ends), Inv X pins σ H s → t D σ H → _root_.PySem.wpAt (model X.prog X.w) X.A c (execs st X.env) (SP X pins D) X.xe s
section
variable {X : Cx} {c : Code} {st : Stmt} {sts rest : List Stmt} {t u : TS}
theorem psa_of (h : PS X st t) : PSA X c st t := ⟨fun pins s σ H D I q => wpAt_of_wpAny (h.run pins s σ H D I q)⟩
theorem pssa_of (h : PSs X sts t) : PSsA X c sts t := ⟨fun pins s σ H D I q => wpAt_of_wpAny (h.run pins s σ H D I q)⟩
theorem pssa_cons (h1 : PSA X c st t) (h2 : PSsA X c rest u) : PSsA X c (st :: rest) (tSeq t u) :=
  ⟨fun pins s σ H D I q => ks_wpAt_execs_cons (ks_wpAt_mono (h1.run pins s σ H _ I q) (fun f s' hs => by
    cases f with
    | next =>
      obtain ⟨σ', H', I', q'⟩ := hs
      exact h2.run pins s' σ' H' D I' q'
    | brk => exact hs
    | cont => exact hs
    | ret u => exact hs) fun _ _ z => z)⟩
theorem psa_imp {t' : TS} (h : PSA X c st t) (i : ∀ D σ H, t' D σ H → t D σ H) : PSA X c st t' := ⟨fun pins s σ H D I q => h.run pins s σ H D I (i D σ H q)⟩
theorem pssa_imp {t' : TS} (h : PSsA X c sts t) (i : ∀ D σ H, t' D σ H → t D σ H) : PSsA X c sts t' := ⟨fun pins s σ H D I q => h.run pins s σ H D I (i D σ H q)⟩
end
abbrev nfS (name qual : Str) (params : Arguments) (body : List Stmt) (scope : Scope) (cc cda : Addr) : NF := ⟨name, qual, params, body, scope, [("__class__", cc)], cda⟩
/-- where a call begins all that the head laid still stands -/
theorem stays {P : Program} {w : World} {K : PySem.W.Frag} {mg : Str → Option Value} {base : Heap} {A : Around} {outer : List PySem.Env} {s : Shared} {H : Hp} (e : Env0 P w K mg base A outer s H) : K.In s.heap ∧ s.heap.NoLimit :=
  ⟨e.mod.kin.keeps fun _ _ k => (e.bs _ _ k).1, e.mod.nolimit.keeps fun _ _ k => (e.bs _ _ k).1⟩
/-- what a body that holds the class cell hands back -/
theorem given {CX : CXT} {P : Program} {w : World} {K : PySem.W.Frag} {mg : Str → Option Value} {base : Heap} {N : List Str} {F : NF} {f : Addr} {A : Around} {outer : List PySem.Env} {s s' : Shared} {H H' : Hp} {E : XK} {Q : VK} {σ' : L2.St} {v : V} {u : Value}
    (J : Inv (ncx CX P w K mg base N F f A outer s H E) [] σ' H' s') (rv : L2.RelV v u) (q : Q v H') : CE outer P w H s Q u s' := by
  refine ⟨v, H', ?_, ?_, ?_, ?_, rv, q⟩
  · exact J.os
  · exact J.bare
  · exact J.base
  · exact J.hok
theorem start_eq {N ps : List Str} {sc : Scope} (S : NScope N ps ["__class__"] sc) {vs : List V} (hl : vs.length = ps.length) : startF N vs [none] = L2.start N vs := by
  have q : min (ps.length + 1) N.length = ps.length + 1 := by
    have := (List.length_take (i := ps.length + 1) (l := N)).symm.trans (congrArg List.length S.pre)
    rw [List.length_append, List.length_singleton] at this
    exact this
  unfold startF L2.start
  congr 1
  show none :: List.replicate _ none = _
  rw [← List.replicate_succ]
  congr 1
  show N.length - vs.length - 1 + 1 = N.length - vs.length
  omega
theorem fnx_of {CX : CXT} {P : Program} {w : World} {K : PySem.W.Frag} {mg : Str → Option Value} {base : Heap} {k : Nat} {f : Addr} {name qual : Str} {params : Arguments} {body : List Stmt} {scope : Scope} {dV kV doc pm ct oc : Value} {an od : Option Addr} {cda cc : Addr}
    {osl : Array (Option Value)} {N ps : List Str} {sp : Sp} {v cl : Value} {cld : Option Addr} {csl : Array (Option Value)} (lk : K.lookup f = some ⟨oc, od, .func (ksFn name qual params body scope dV kV doc pm an (.ref cda) ct cc), osl⟩) (hcd : codeIn K (.ref cda) qual = true)
    (hcc : K.lookup cc = some ⟨cl, cld, .cell (some v), csl⟩) (S : NScope N ps ["__class__"] scope) (len : ∀ vs H Q E, sp vs H Q E → vs.length = ps.length)
    (hbody : ∀ (A : Around) (outer : List PySem.Env) (s : Shared) (H : Hp) (vs : List V) (Q : VK) (E : XK), Room k (A.deeper (envF (nfS name qual params body scope cc cda) f s.heap.objs.size)) → sp vs H Q E →
      ∃ t, PSsA (ncx CX P w K mg base N (nfS name qual params body scope cc cda) f A outer s H E) (.func body (envF (nfS name qual params body scope cc cda) f s.heap.objs.size)) body t ∧ t { nx := fun _ H' => Q .non H', rt := Q } (L2.start N vs) H) :
    FnOk P w K mg base CX (k + 1) f (ksFn name qual params body scope dV kV doc pm an (.ref cda) ct cc) ps sp := by
  refine ⟨len, ?_⟩
  intro A outer s H args us vs Q E hr e0 hb r hsp
  have hl := len _ _ _ _ hsp
  obtain ⟨KX, lim⟩ := stays e0
  have C : CellsAt [("__class__", cc)] ["__class__"] [none] s.heap H := by
    have one : ∀ y c, List.lookup y [(("__class__" : Str), cc)] = some c → y = "__class__" ∧ c = cc := fun y c e => by
      have m := PySem.mem_of_lookup e
      rw [List.mem_singleton] at m
      cases m
      exact ⟨rfl, rfl⟩
    refine ⟨rfl, fun y c e => ?_, fun x y c e1 e2 => (one x c e1).1.trans (one y c e2).1.symm, fun i y e => ?_⟩
    · obtain ⟨_, rfl⟩ := one y c e
      exact ⟨(e0.bs _ _ (e0.mod.kin _ _ hcc)).2, some v, _, KX _ _ hcc, rfl⟩
    · cases i with
      | zero =>
        cases e
        exact ⟨cc, rfl, fun v e => by cases e⟩
      | succ i => cases e
  refine ks_codeAny_call_defAt hr.depth (KX _ _ lk) rfl lim (codeRec_of KX hcd) rfl hb S.nocell (fun ⟨n, _⟩ hy => S.par n (List.of_mem_zip hy).1) (fun h₁ hns kp => ?_) S.co S.gen S.kind
  have I : Inv (ncx CX P w K mg base N (nfS name qual params body scope cc cda) f A outer s H E) [] (L2.start N vs) H { s with heap := h₁, toks := s.toks + (ps.zip us).length } := start_eq S hl ▸ inv_startN S hr.hd e0 hl r C hns kp
  match hbody A outer s H vs Q E (hr.deeper _) hsp with
  | ⟨_, ht, hq⟩ =>
    refine ks_wpAt_mono (ht.run [] _ _ H _ I hq) (fun
      | .ret _, _, ⟨_, _, _, J, rv, q⟩ => given J rv q
      | .next, _, ⟨_, _, J, q⟩ => given (v := V.non) (u := Value.none) J rfl q
      | .brk, _, ⟨_, _, _, q⟩ => q.elim
      | .cont, _, ⟨_, _, _, q⟩ => q.elim) fun _ _ z => z
/-- super().__init__(e): the def at f2 runs, the instance ahead -/
def tSup (K : PySem.W.Frag) (D f2 : Addr) (sp : Sp) (E : XK) (i : Nat) (ta : TA) : TS := fun Dn σ H => ∃ p cA dx fs, σ[i]? = some (some (.ref p)) ∧ H p = some (.ins cA dx fs) ∧ mroIn K cA (.ref D) = some true ∧ ks_superIn K cA D "__init__" = some (some (.ref f2)) ∧ (clsIn K cA).isSome = true ∧
  ta σ H fun vs H1 => sp (.ref p :: vs) H1 (fun _ H2 => Dn.nx σ H2) E
theorem psa_super {X : Cx} {CX : CXT} {E : XK} {body : List Stmt} {qn : Str} {sc : Scope} {L fI cda cc D f2 : Addr} {oc ccl cl : Value} {od cdd cld : Option Addr} {osl ccs csl : Array (Option Value)} {fd fd2 : FuncData} {ar : Arg} {vs0 : Array Value} {file : Str} {tf : Tok} {cdD : ClassData} {i k : Nat} {a : Expr} {a1 a2 a3 a5 a6 : Pos} {ps : List Str} {sp : Sp} {ta : TA} {pl : Sem Bool}
    (hX : X.env = ksEnv qn sc L fI (.ref cda) cc) (hf : X.K.lookup fI = some ⟨oc, od, .func fd, osl⟩) (hp : (fd.params.posonlyargs ++ fd.params.args).head? = some ar)
    (hcode : X.K.lookup cda = some ⟨ccl, cdd, .fields vs0, ccs⟩) (hvs : vs0[2]? = some (.str file tf)) (hfile : ((X.prog.main.file : Str) == file) = true)
    (hcell : X.K.lookup cc = some ⟨cl, cld, .cell (some (.ref D)), csl⟩) (hD : clsIn X.K D = some cdD) (hsuper : nsIn X.K mainGlobals "super" = some none)
    (hks : sc.names.lookup ("super" : Str) = some .globalImplicit) (hkc : sc.names.lookup ("__class__" : Str) = some .free) (hka : sc.names.lookup ar.arg = some .local) (hk : sc.kind = .function)
    (htop : (X.prog.main.scope.names.lookup ("super" : Str)).isSome = false) (hi : X.N[i]? = some ar.arg) (opq : nsIn X.K cStatics "thirdparty.any" = some none) (ht : typeIn X.K (.ref f2) = some (.type "function")) (hfn : fnIn X.K f2 = true)
    (F : FnOk X.prog X.w X.K X.mg X.base CX k f2 fd2 ps sp) (hr : Room k X.A) (hb : Binds X.K fd2 ps []) (hx : Passes CX X E) (ha : PA X [a] ta)
    (hev : eval (.Call (.Attribute (.Call (.Name "super" a1) [] [] a2) "__init__" a3) [a] [] a5) X.env = (do
      let ov ← attributeBase (.Call (.Name "super" a1) [] [] a2) "__init__" X.env (eval (.Call (.Name "super" a1) [] [] a2) X.env)
      standAt a3.atName
      let (g, first) ← holding [ov] (getMethod ov "__init__" pl)
      callWith a5 g first (backTo a5 (starEach [a] X.env)) []))
    (hin : interactive X.env = false) (hsw : swapsWith (.Call (.Attribute (.Call (.Name "super" a1) [] [] a2) "__init__" a3) [a] [] a5) none a6.line X.env = pure false)
    (hst : starEach [a] X.env = (false, eval a X.env) :: starEach [] X.env) (hpl : (backTo a5 (starEach [] X.env)).any (·.1) = false) :
    PSA X (.func body X.env) (.Expr (.Call (.Attribute (.Call (.Name "super" a1) [] [] a2) "__init__" a3) [a] [] a5) a6) (tSup X.K D f2 sp E i ta) := by
  refine ⟨fun pins s σ H Dn I ⟨p, cA, dx, fs, es, eH, hmro, hsup, hcA, q⟩ => ?_⟩
  have hkind : X.env.scope.kind = .function := by rw [hX]; exact hk
  have k1 : X.env.kindOf "super" = some .globalImplicit := by rw [hX]; exact hks
  have k2 : X.env.kindOf "__class__" = some .free := by rw [hX]; exact hkc
  have k3 : X.env.kindOf ar.arg = some .local := by rw [hX]; exact hka
  have KX := I.kIn
  obtain ⟨mA, O, _, _, _, _⟩ := ins_get I.hok eH
  obtain ⟨odx, IA, _⟩ := O.look
  have hglo := I.ok.mod.glob.keeps I.bk
  have hsupm : X.mg "super" = none := PySem.W.mg_none_of I.ok.mod.kin I.ok.mod.glob hsuper
  obtain ⟨mb, hb1, hb2⟩ := I.ok.mod.blt
  have hb1 := hb1.keeps I.bk
  have hb2 : mb "super" = some (.type "super") := (hb2 _ (by decide)).trans (by first | rfl | kernel_rfl)
  obtain ⟨ml, hml, hlk⟩ := I.loc
  obtain ⟨u, ru, lk⟩ := hlk i ar.arg (.ref p) hi es (.inl (by rw [hX]; exact hka))
  have ru : u = .ref p := ru
  subst ru
  have lk : ml ar.arg = some (.ref p) := by
    rcases lk with ⟨_, e⟩ | ⟨e, _⟩
    · exact e
    · rw [k3] at e
      rcases e with e | e <;> cases e
  obtain ⟨oD, hD1, hD2⟩ : ∃ oD, s.heap.get? D = some oD ∧ oD.data = .cls cdD := by
    have hD' := hD
    unfold clsIn at hD'
    split at hD'
    · rename_i c d cd' sl ho
      cases hD'
      exact ⟨_, KX _ _ ho, rfl⟩
    · cases hD'
  refine ks_wpAt_Expr_any (ks_wpAt_MethodCall (pl := pl) ?_ hev) hin hsw
  refine ks_wpAt_super_base (env := X.env) k1 k2 (by decide) (by rw [hX]) (KX _ _ hf) rfl hp (by rw [hX]) (KX _ _ hcode) rfl hvs hfile htop ?_
  refine ks_loadName_global hkind k1 (loadGlobal_builtin (env := X.env) (by rw [I.ok.glob]; exact hglo) hsupm (by rw [I.ok.blt]; exact hb1) hb2 ⟨rfl, ?_⟩)
  refine wpAny_loadName_free hkind k2 (by rw [hX]; rfl) ⟨_, KX _ _ hcell, rfl⟩ ?_
  refine wpAny_loadName_local hkind k3 hml lk ?_
  refine ks_wpAny_isType_cls hD1 hD2 ⟨rfl, ?_⟩
  obtain ⟨hp0, g, d, t, os⟩ := s
  refine ks_wpAny_call_super hD1 hD2 IA.at_ IA.cls (fun c e => ?_) (looks_mroIn KX hmro) (fun h1 e1 kp1 => ?_)
  · have := IA.no
    unfold notCls at this
    rw [e] at this
    exact Bool.noConfusion this
  have I1 : Inv X pins σ H ⟨h1, g, d, t, os⟩ := I.kept (t' := t) kp1
  obtain ⟨cd, hcd⟩ := Option.isSome_iff_exists.mp hcA
  have hne : p ≠ cA := ks_ne KX IA hcd
  have hm2 := hsup
  unfold ks_superIn at hm2
  rw [hcd] at hm2
  obtain ⟨of, hof, hofc⟩ : ∃ of, h1.get? f2 = some of ∧ of.cls = .type "function" := by
    have ht' : (X.K.lookup f2).map (·.cls) = some (.type "function") := ht
    cases z : X.K.lookup f2 with
    | none => rw [z] at ht'; cases ht'
    | some of => rw [z] at ht'; exact ⟨of, I1.kIn _ _ z, Option.some.inj ht'⟩
  refine ks_wpAny_getMethod_super e1 (looks_opaque I1.kIn opq) (l₀ := cd.mro) (fun A Q E s k q => wpAny_bind ((looks_clsIn I1.kIn hcd) A _ E s k (wpAny_pure q))) rfl I1.kIn hm2 hof hofc hne (by decide) ?_
  have hm : (h1.push { cls := .type "method", data := .fields #[.ref f2, .ref p] }).get? h1.objs.size = some (methodObj (.ref f2) (.ref p)) := Heap.get?_push_at rfl rfl
  have kp2 : ∀ b o, h1.get? b = some o → (h1.push { cls := .type "method", data := .fields #[.ref f2, .ref p] }).get? b = some o := fun b o e => Heap.get?_push_of_some _ e
  have I2 : Inv X pins σ H ⟨h1.push { cls := .type "method", data := .fields #[.ref f2, .ref p] }, g, d, t + 1, os⟩ := I1.kept (t' := t + 1) kp2
  have hbig : ∀ {b : Addr} {o : Obj}, h1.get? b = some o → b ≠ h1.objs.size := fun e => Nat.ne_of_lt (Heap.lt_size e)
  have I3 : Inv X ((h1.objs.size, methodObj (.ref f2) (.ref p)) :: pins) σ H ⟨h1.push { cls := .type "method", data := .fields #[.ref f2, .ref p] }, g, d, t + 1, os⟩ := I2.pins_of fun q hq => by
    rcases List.mem_cons.mp hq with rfl | hq
    · refine ⟨hm, I1.hok.fresh (Nat.le_refl _), ?_, ?_, fun v e => by cases e⟩
      · obtain ⟨ml1, hml1, _⟩ := I1.loc
        obtain ⟨oL, _, _, eL, _⟩ := hml1
        exact fun z => (hbig eL) z.symm
      · intro hz
        obtain ⟨_, o, ho, _⟩ := I1.ok.funs.mem hz
        exact absurd (Nat.lt_of_lt_of_le (Heap.lt_size ho) I1.sz) (Nat.lt_irrefl _)
    · exact I2.pin q (List.mem_append_right _ hq)
  show wpAny _ _ (callWith _ _ _ (backTo a5 (starEach [a] X.env)) []) _ _ _
  rw [hst]
  refine callWith_of (by show ((false || (backTo a5 (starEach [] X.env)).any (·.1)) || false) = false; rw [hpl]; rfl) (keeps_M (self := .ref p) hfn) (evalArgs_plain ?_)
  have hrun := ha.run a5 _ _ σ H _ I3 q
  rw [hst] at hrun
  refine thn hrun fun us s1 ⟨vs, H1, I4, r, q2⟩ => ?_
  have at_m := (I4.pin (h1.objs.size, methodObj (.ref f2) (.ref p)) (List.mem_append_right _ List.mem_cons_self)).1
  have I5 : Inv X pins σ H1 s1 := I4.pins_of fun z hz => I4.pin z (by
    exact List.mem_append_right _ (List.mem_cons_of_mem _ hz))
  refine ⟨⟨at_m, I4.kIn⟩, ?_⟩
  have r2 : Vals (V.ref p :: vs) (Value.ref p :: us) := .cons rfl r
  have hl : (Value.ref p :: us).length = ps.length := by rw [← r2.length]; exact F.len _ _ _ _ q2
  refine wpAny_call (ks_codeAny_call_bound at_m (codeAny_mono (F.run X.A X.stack s1 H1 ⟨Value.ref p :: us, []⟩ (Value.ref p :: us) (V.ref p :: vs) _ E hr I5.env0 (by have := hb s1 (Value.ref p :: us) I5.kIn (by rw [List.append_nil]; exact hl); rwa [List.append_nil] at this) r2 q2) fun rr s' hq => ?_))
  cases rr with
  | error e => exact hx pins σ H1 s1 e s' I5 hq
  | ok fl =>
    cases fl with
    | ret u =>
      obtain ⟨v, H', I', _, q'⟩ := I5.after hq
      exact ⟨σ, H', I', q'⟩
    | next => exact False.elim hq
    | brk => exact False.elim hq
    | cont => exact False.elim hq
/-- the base's __init__: self.name = x -/
def spSet (K : PySem.W.Frag) (name : Str) : Sp := fun vs H Q E => ∃ p y cA dx fs, vs = [.ref p, y] ∧ H p = some (.ins cA dx fs) ∧ Cls K cA ∧ NoAttr K cA name ∧ fs.length < 1000 ∧ Q .non (upd H p (.ins cA dx (putF name y fs)))
theorem set_run {P : Program} {w : World} {K : PySem.W.Frag} {mg : Str → Option Value} {base : Heap} {qual name x y : Str} {params : Arguments} {scope : Scope} {dv : List V} {kw : List (Str × V)} {f : Addr} {fd : FuncData} {q1 q2 q3 q4 : Pos}
    (F : FunD K "__init__" qual params [.Assign [.Attribute (.Name x q1) name q2] (.Name y q3) q4] scope dv kw f fd) (S : FnScope [x, y] [x, y] scope) (vx : Vis scope x) (vy : Vis scope y) (dx : (x == ("__debug__" : Str)) = false) (cx : (x == ("__classdict__" : Str)) = false) (dy : (y == ("__debug__" : Str)) = false) (cy : (y == ("__classdict__" : Str)) = false)
    (hs : ∀ env : PySem.Env, swapsWith (.Name y q3) (some (.Attribute (.Name x q1) name q2)) q4.line env = pure false) : FnOk P w K mg base CX0 1 f fd [x, y] (spSet K name) :=
  F.ok (CX := CX0) (k := 0) S (fun vs H Q E ⟨p, z, cA, dx, fs, e, _⟩ => by rw [e]; rfl) fun cdv A outer s H vs Q E hr ⟨p, z, cA, ddx, fs, e, eH, c, n, l, q⟩ => by
    refine ⟨_, pss_one (ps_fld (pe_var (i := 0) rfl vx dx cx) (pe_var (i := 1) rfl vy dy cy) (hs _)), ?_⟩
    subst e
    exact ⟨z, rfl, .ref p, rfl, p, cA, ddx, fs, rfl, eH, c, n, l, q⟩
abbrev SSA (X : Cx) (G : Gm) (W : WX) (c : Code) (st : Stmt) (g : Sm) : Prop := ∀ w0 H0, PSA X c st (tSS G W w0 H0 g)
abbrev SSsA (X : Cx) (G : Gm) (W : WX) (c : Code) (st : List Stmt) (g : Sm) : Prop := ∀ w0 H0, PSsA X c st (tSS G W w0 H0 g)
section
variable {X : Cx} {G : Gm} {W : WX} {c : Code} {st : Stmt} {rest : List Stmt} {g g' : Sm}
theorem ssa_of (h : SS X G W st g) : SSA X G W c st g := fun w0 H0 => psa_of (h w0 H0)
theorem sssa_of (h : SSs X G W rest g) : SSsA X G W c rest g := fun w0 H0 => pssa_of (h w0 H0)
theorem ssa_cons (h1 : SSA X G W c st g) (h2 : SSsA X G W c rest g') : SSsA X G W c (st :: rest) (qSeq g g') := fun w0 H0 => pssa_imp (pssa_cons (h1 w0 H0) (h2 w0 H0)) fun D σ H ⟨w, env, r, a, h⟩ => by
  refine ⟨w, env, r, a, ?_⟩
  unfold qSeq at h
  cases q : g env r with
  | nx env' r' =>
    rw [q] at h
    exact fun w' H' σ' st g s => ⟨w', env', r', ⟨st, g, s⟩, h⟩
  | rt t r' => rw [q] at h; exact h
  | bk env' r' => rw [q] at h; exact h
  | ct env' r' => rw [q] at h; exact h
  | exn c p env' r' => rw [q] at h; exact h
  | bad => rw [q] at h; exact h
end
/-- what stands of a plain class's __init__ that calls super().__init__(e), C the class, fI its __init__, f2 the base's -/
structure TxtM (P : Program) (K : PySem.W.Frag) (qn : Str) (st : Stmt) (D fI f2 : Addr) (dv : List V) (fd : FuncData) : Prop where
  cls : mroIn K D (.ref D) = some true ∧ ks_superIn K D D "__init__" = some (some (.ref f2)) ∧ ∃ cdD, clsIn K D = some cdD
  nosup : nsIn K mainGlobals "super" = some none
  opq : nsIn K cStatics "thirdparty.any" = some none
  t2 : typeIn K (.ref f2) = some (.type "function")
  fn2 : fnIn K f2 = true
  fn : ∃ (oc : Value) (od : Option Addr) (dV kV doc pm : Value) (an : Option Addr) (cda : Addr) (ct : Value) (osl : Array (Option Value)) (cc : Addr) (cl : Value) (cld : Option Addr) (csl : Array (Option Value)) (ccl : Value) (cdd : Option Addr) (vs : Array Value) (ccs : Array (Option Value)) (file : Str) (tf : Tok),
    fd = ksFn "__init__" qn (defArgs st) (defBody st) (defScope st) dV kV doc pm an (.ref cda) ct cc ∧ K.lookup fI = some ⟨oc, od, .func fd, osl⟩ ∧ codeIn K (.ref cda) qn = true ∧
    K.lookup cc = some ⟨cl, cld, .cell (some (.ref D)), csl⟩ ∧ K.lookup cda = some ⟨ccl, cdd, .fields vs, ccs⟩ ∧ vs[2]? = some (.str file tf) ∧ ((P.main.file : Str) == file) = true ∧ DflV K dV dv
/-- the context of such an __init__ -/
structure IsX (X : Cx) (P : Program) (K : PySem.W.Frag) (qn : Str) (st : Stmt) (D fI f2 : Addr) : Prop where
  prog : X.prog = P
  frag : X.K = K
  env : ∃ (L cda cc : Addr) (oc : Value) (od : Option Addr) (fd : FuncData) (osl : Array (Option Value)) (cl : Value) (cld : Option Addr) (csl : Array (Option Value)) (ccl : Value) (cdd : Option Addr) (vs : Array Value) (ccs : Array (Option Value)) (file : Str) (tf : Tok),
    X.env = ksEnv qn (defScope st) L fI (.ref cda) cc ∧ fd.params = defArgs st ∧ K.lookup fI = some ⟨oc, od, .func fd, osl⟩ ∧ K.lookup cc = some ⟨cl, cld, .cell (some (.ref D)), csl⟩ ∧ K.lookup cda = some ⟨ccl, cdd, .fields vs, ccs⟩ ∧ vs[2]? = some (.str file tf) ∧ ((P.main.file : Str) == file) = true
section
variable {X : Cx} {P : Program} {G : Gm} {W : WX} {qn name : Str} {st : Stmt} {D fI f2 : Addr} {dv : List V} {fd fd0 : FuncData} {k C n i : Nat} {a : Expr} {a1 a2 a3 a5 a6 : Pos} {f : Env → M T} {ar : Arg} {ps : List Str} {body : List Stmt}
theorem ssa_super (T : TxtM P G.K qn st D fI f2 dv fd0) (Y : IsX X P G.K qn st D fI f2) (hp : ((defArgs st).posonlyargs ++ (defArgs st).args).head? = some ar)
    (hks : (defScope st).names.lookup ("super" : Str) = some .globalImplicit) (hkc : (defScope st).names.lookup ("__class__" : Str) = some .free) (hka : (defScope st).names.lookup ar.arg = some .local) (hk : (defScope st).kind = .function)
    (htop : (P.main.scope.names.lookup ("super" : Str)).isSome = false) (hi : X.N[i]? = some ar.arg) (F : FnOk P X.w G.K X.mg X.base CX0 k f2 fd ps (spSet G.K name)) (hr : Room k X.A) (hb : Binds G.K fd ps [])
    (hC : G.mg (G.cn C) = some (.ref D)) (ok : NthFld G C n name) (he : SE X G W a f)
    (hev : ∃ pl : Sem Bool, eval (.Call (.Attribute (.Call (.Name "super" a1) [] [] a2) "__init__" a3) [a] [] a5) X.env = (do
      let ov ← attributeBase (.Call (.Name "super" a1) [] [] a2) "__init__" X.env (eval (.Call (.Name "super" a1) [] [] a2) X.env)
      standAt a3.atName
      let (g, first) ← holding [ov] (getMethod ov "__init__" pl)
      callWith a5 g first (backTo a5 (starEach [a] X.env)) []))
    (hin : interactive X.env = false) (hsw : swapsWith (.Call (.Attribute (.Call (.Name "super" a1) [] [] a2) "__init__" a3) [a] [] a5) none a6.line X.env = pure false)
    (hst : starEach [a] X.env = (false, eval a X.env) :: starEach [] X.env) (hpl : (backTo a5 (starEach [] X.env)).any (·.1) = false) :
    SSA X G W (.func body X.env) (.Expr (.Call (.Attribute (.Call (.Name "super" a1) [] [] a2) "__init__" a3) [a] [] a5) a6) (qFld i C n f) := by
  intro w0 H0
  obtain ⟨eP, eK, L, cda, cc, oc, od, fd1, osl, cl, cld, csl, ccl, cdd, vs, ccs, file, tf, henv, hpar, hf, hcc, hcd, hvs, hfile⟩ := Y
  obtain ⟨m1, m2, cdD, hD⟩ := T.cls
  obtain ⟨pl, hev⟩ := hev
  subst eP
  have Q := psa_super (X := X) (CX := CX0) (E := E0) (body := body) (i := i) (f2 := f2) (D := D) (a6 := a6) (pl := pl) henv (by rw [eK]; exact hf) (by rw [hpar]; exact hp) (by rw [eK]; exact hcd) hvs hfile (by rw [eK]; exact hcc) (by rw [eK]; exact hD) (by rw [eK]; exact T.nosup)
    hks hkc hka hk htop hi (by rw [eK]; exact T.opq) (by rw [eK]; exact T.t2) (by rw [eK]; exact T.fn2) (fd2 := fd) (ps := ps) (sp := spSet G.K name) (k := k) (by rw [eK]; exact F) hr (by rw [eK]; exact hb) pass0 (pa_cons he pa_nil hst) hev hin hsw hst hpl
  refine psa_imp Q fun Dn σ H ⟨w, env, r, at0, h⟩ => ?_
  unfold qFld at h
  cases q : env[i]? with
  | none => rw [q] at h; exact h.elim
  | some sl =>
    rw [q] at h
    cases sl with
    | pv o =>
      cases o with
      | ins C' ts =>
        have h : FlowP G W w0 H0 Dn (if C' = C ∧ ts.length = n then ofM env (fun t r => .nx (env.set i (.ins C (ts ++ [t]))) r) (f env r) else .bad) := h
        by_cases hCn : C' = C ∧ ts.length = n
        · rw [if_pos hCn] at h
          obtain ⟨hCC, hn⟩ := hCn
          subst hCC
          obtain ⟨p, cA, dx, vs1, e1, c1, e2, l1, l2, go⟩ := at0.ins q
          have eD : cA = D := by
            rw [hC] at c1
            injection c1 with c1
            injection c1 with c1
            exact c1.symm
          subst eD
          refine ⟨p, cA, dx, _, e1, e2, by rw [eK]; exact m1, by rw [eK]; exact m2, by rw [eK, hD]; rfl, ?_⟩
          refine at_e at0 h fun t r1 w1 H1 v a1 d h1 => ?_
          obtain ⟨p', cA', dx', vs', e1', c1', e2', l1', l2', go'⟩ := a1.ins q
          have ep : p' = p := by
            rw [e1] at e1'
            cases e1'
            rfl
          subst ep
          have hl : ts.length < (G.fl C').length := by
            rw [hn]
            exact (List.getElem?_eq_some_iff.mp ok.at_).1
          have a2 := go' v t d hl
          refine ⟨p', v, cA', dx', _, rfl, e2', (ok.cl cA' c1').1, (ok.cl cA' c1').2, ?_, ?_⟩
          · rw [List.length_zip, List.length_take]
            have := ok.few
            omega
          · rw [putF_new (lookup_zip_none (by rw [hn]; exact ok.new)), zip_snoc (by rw [hn]; exact ok.at_) l1']
            have e3 : ts.length + 1 = (ts ++ [t]).length := by simp
            rw [e3]
            exact h1 _ _ _ a2.st a2.g a2.s
        · rw [if_neg hCn] at h; exact h.elim
      | _ => exact h.elim
    | _ => exact h.elim
end
abbrev cxN (P : Program) (wd : World) (G : Gm) (base : Heap) (N : List Str) (qual : Str) (st : Stmt) (cc cda f : Addr) (A : Around) (outer : List PySem.Env) (s : Shared) (H : Hp) (E : XK) : Cx := ncx (L2.CX P wd) P wd G.K G.mg base N (nfS "__init__" qual (defArgs st) (defBody st) (defScope st) cc cda) f A outer s H E
abbrev enN (qual : Str) (st : Stmt) (cc cda f : Addr) (s : Shared) : PySem.Env := envF (nfS "__init__" qual (defArgs st) (defBody st) (defScope st) cc cda) f s.heap.objs.size
section
variable {P : Program} {wd : World} {base : Heap} {G : Gm} {k : Nat} {qual : Str} {st : Stmt} {D f f2 : Addr} {fd : FuncData} {N ps : List Str} {n m : Nat} {g : Sm} {dv : List V}
theorem bd_ofX {cc cda : Addr} {A : Around} {outer : List PySem.Env} {s : Shared} {H : Hp} {E : XK} (S : NScope N ps ["__class__"] (defScope st)) (hr : Room k (A.deeper (enN qual st cc cda f s))) : Bd (cxN P wd G base N qual st cc cda f A outer s H E) G (WD E) k := ⟨rfl, rfl, takes_of rfl rfl rfl rfl, hr, S.nd, rfl⟩
theorem make_runX {C : Nat} (T : TxtM P G.K qual st D f f2 dv fd) (S : NScope N ps ["__class__"] (defScope st)) (hps : ps.length = n + 1) (hm : N.length - (n + 1) = m)
    (hb : ∀ cc cda A outer s H E, IsX (cxN P wd G base N qual st cc cda f A outer s H E) P G.K qual st D f f2 → Room k (A.deeper (enN qual st cc cda f s)) → SSsA (cxN P wd G base N qual st cc cda f A outer s H E) G (WD E) (.func (defBody st) (enN qual st cc cda f s)) (defBody st) g) :
    FnOk P wd G.K G.mg base (L2.CX P wd) (k + 1) f fd ps (spI G C n (fnI G C m g)) := by
  obtain ⟨oc, od, dV, kV, doc, pm, an, cda, ct, osl, cc, cl, cld, csl, ccl, cdd, vs0, ccs, file, tf, rfl, lk, hcode, hcc, hcd, hvs, hfile, _⟩ := T.fn
  refine fnx_of (CX := L2.CX P wd) lk hcode hcc S (spI_len hps) fun A outer s H vs Q E hr ⟨w, r, ts, xx, rest, cA, dx, H1, ev, c, hx, hdx, ne, eH, gd, d, l, h⟩ => ?_
  subst ev
  subst eH
  have hdx' : (upd H1 dx (.own xx)) xx = none := by rw [upd_ne (Ne.symm ne)]; exact hx
  have st1 : Step (w.re xx) H1 (w.re xx) (upd (upd H1 dx (.own xx)) xx (.ins cA dx [])) := ((Step.refl (w.re xx) H1).priv hdx).priv hdx'
  have g1 : Good G (w.re xx) (upd (upd H1 dx (.own xx)) xx (.ins cA dx [])) r := ((gd.re xx).priv (gd.nopub hdx) (gd.noref hdx) (.inl hdx)).priv (gd.nopub hx) (gd.noref hx) (.inl hdx')
  have sl : Slots G (w.re xx) H1 (upd (upd H1 dx (.own xx)) xx (.ins cA dx [])) (L2.start N (.ref xx :: rest)) (.ins C [] :: envOf m ts) := by
    have s0 : Slots G (w.re xx) H1 H1 (rest.map some ++ List.replicate (N.length - (rest.length + 1)) none) (envOf m ts) := by
      have := start_slots (N := N.drop 1) (H := H1) (d.mono (Later.re w xx)) m (by rw [List.length_drop, d.length, l]; omega)
      unfold L2.start at this
      rw [List.length_drop, show N.length - 1 - rest.length = N.length - (rest.length + 1) by omega] at this
      exact this
    obtain ⟨oa, k1, k2⟩ := s0.ex
    have nv : ∀ (j : Nat) (u : Slot), (envOf m ts)[j]? = some u → u.priv = false := fun j u hj => by
      unfold envOf at hj
      rcases List.mem_append.mp (List.mem_of_getElem? hj) with z | z
      · obtain ⟨t, _, rfl⟩ := List.mem_map.mp z; rfl
      · rw [List.eq_of_mem_replicate z]; rfl
    refine ⟨by have := s0.len; simp [L2.start] at this ⊢; omega, fun _ => xx, fun i u hi => ?_, fun i j u u' hi hj pi pj _ => ?_⟩
    · cases i with
      | zero =>
        cases hi
        exact ⟨rfl, gd.nopub hx, gd.noref hx, nvs hx, .ins cA dx [], upd_same, .ins (vs := []) rfl c (Nat.zero_le _) .nil⟩
      | succ i =>
        have hi : (envOf m ts)[i]? = some u := by simpa using hi
        have := k1 i u hi
        have np := nv i u hi
        cases u with
        | un => trivial
        | fn => exact absurd hi (fun z => by
          unfold envOf at z
          rcases List.mem_append.mp (List.mem_of_getElem? z) with q | q
          · obtain ⟨t, _, e⟩ := List.mem_map.mp q; cases e
          · cases List.eq_of_mem_replicate q)
        | val t =>
          obtain ⟨v, e1, d1⟩ := this
          exact ⟨v, by simpa [L2.start] using e1, d1⟩
        | pv q => cases np
    · cases i with
      | zero =>
        cases j with
        | zero => rfl
        | succ j => rw [nv j u' (by simpa using hj)] at pj; cases pj
      | succ i => rw [nv i u (by simpa using hi)] at pi; cases pi
  refine ⟨_, hb cc cda A outer s _ E ⟨rfl, rfl, s.heap.objs.size, cda, cc, oc, od, _, osl, cl, cld, csl, ccl, cdd, vs0, ccs, file, tf, rfl, rfl, lk, hcc, hcd, hvs, hfile⟩ hr (w.re xx) H1, w.re xx, _, r, ⟨st1, g1, sl⟩, ?_⟩
  unfold fnI at h
  cases o : g (.ins C [] :: envOf m ts) r with
  | nx env' r' =>
    rw [o] at h
    intro w' H' σ' st g' s'
    simp only at h
    cases q : env'[0]? with
    | none => rw [q] at h; exact h.elim
    | some u =>
      rw [q] at h
      cases u with
      | un => exact h.elim
      | fn => exact h.elim
      | val _ => exact h.elim
      | pv o =>
        cases o with
        | ins D fs =>
          have h : OutP G w H1 E (fun fs _ w' H' => ∀ us dx', H' xx = some (.ins cA dx' ((G.fl C).zip us)) → us.length = (G.fl C).length → Dens G w' us fs → w'.P xx = none → xx ∉ w'.R → Q .non H') (if D = C ∧ fs.length = (G.fl C).length then .ok fs r' else .bad) := h
          by_cases hC : D = C ∧ fs.length = (G.fl C).length
          · rw [if_pos hC] at h
            obtain ⟨e1, e2⟩ := hC
            subst e1
            have g2 := g'.re w.fx.me
            obtain ⟨oa, k1, k2⟩ := s'.ex
            obtain ⟨b1, b2, b3, b4, o, b5, b6⟩ := k1 0 _ q
            cases b6 with
            | @ins _ cA' dx' vs _ hm c' l' d' =>
              have ea : oa 0 = xx := hm.trans (by rw [st.me]; rfl)
              rw [ea] at b2 b3 b5
              have ez : (G.fl D).take fs.length = G.fl D := by rw [e2, List.take_length]
              rw [ez] at b5
              rw [c] at c'
              cases c'
              exact h (w'.re w.fx.me) H' st.re g2 vs dx' b5 (by rw [d'.length]; exact e2) (d'.mono (Later.re w' w.fx.me)) b2 b3
          · rw [if_neg hC] at h; exact h.elim
        | _ => exact h.elim
  | rt t r' => rw [o] at h; exact h.elim
  | bk e r' => rw [o] at h; exact h.elim
  | ct e r' => rw [o] at h; exact h.elim
  | exn c p e r' => rw [o] at h; exact fun w' H' σ' cls dd st g' _ x => h _ H' cls dd st.re (g'.re _) (x.re _)
  | bad => rw [o] at h; exact h.elim
end
end SupM
end Ep
/-! super().__init__(e) of a plain class: what the head tells, binding, making. -/
namespace Ep
namespace SupM
open PySem PySem.W PySem.Calls PySem.Spec PyProof.Rows L2 NdefX He
/-- the defaults are j times None -/
def dflNB (K : PySem.W.Frag) (j : Nat) : Value → Bool
  | .none => decide (j = 0)
  | .ref T => match K.lookup T with
    | some o => match o.data with
      | .seq its _ => decide (j ≠ 0) && decide (its.toList = List.replicate j Value.none)
      | _ => false
    | none => false
  | _ => false
theorem nons_vals : ∀ j : Nat, Vals (List.replicate j V.non) (List.replicate j Value.none)
  | 0 => .nil
  | j + 1 => by
    rw [List.replicate_succ, List.replicate_succ]
    exact .cons rfl (nons_vals j)
theorem dflN_ok {K : PySem.W.Frag} {j : Nat} {dV : Value} (h : dflNB K j dV = true) : DflV K dV (List.replicate j V.non) := by
  unfold dflNB at h
  split at h
  · have h := of_decide_eq_true h
    subst h
    exact .inl ⟨rfl, rfl⟩
  · rename_i T
    split at h
    · rename_i o ho
      split at h
      · rename_i its n hd
        obtain ⟨h1, h2⟩ := ba h
        have h1 : j ≠ 0 := of_decide_eq_true h1
        have h2 : its.toList = List.replicate j Value.none := of_decide_eq_true h2
        refine .inr ⟨fun e => h1 (by have := congrArg List.length e; rwa [List.length_replicate] at this), T, o, its.toList, n, rfl, ho, by rw [hd], ?_⟩
        rw [h2]
        exact nons_vals j
      · cases h
    · cases h
  · cases h
/-- j defaults of any kind that stands still: None or an object -/
def vOf : Value → Option V
  | .none => some .non
  | .ref a => some (.ref a)
  | _ => none
def vsOf : List Value → Option (List V)
  | [] => some []
  | u :: us => (vOf u).bind fun v => (vsOf us).map (v :: ·)
def dflAB (K : PySem.W.Frag) (j : Nat) : Value → Bool
  | .ref T => match K.lookup T with
    | some o => match o.data with
      | .seq its _ => decide (j ≠ 0) && (decide (its.size = j) && (vsOf its.toList).isSome)
      | _ => false
    | none => false
  | _ => false
def supFnM (P : Program) (K : PySem.W.Frag) (C f : Addr) (qn : Str) (db : Value → Bool) : Bool := match K.lookup f with
  | some ⟨_, _, .func fd, _⟩ => db fd.defaults && (PySem.W.codeIn K fd.code qn && ((match fd.closure with
    | [(x, cc)] => decide (x = "__class__") && (match K.lookup cc with
      | some ⟨_, _, .cell (some (.ref D)), _⟩ => D == C
      | _ => false)
    | _ => false) && (match fd.code with
    | .ref cda => (match K.lookup cda with
      | some ⟨_, _, .fields vs, _⟩ => (match (vs[2]? : Option Value) with
        | some (Value.str file _) => (P.main.file : Str) == file
        | _ => false)
      | _ => false)
    | _ => false)))
  | _ => false
/-- C's __init__ calls B's, its defaults looked at by db -/
def supLG (P : Program) (K : PySem.W.Frag) (C B : Addr) (qn : Str) (db : Value → Bool) : List Bool := [decide (PySem.W.mroIn K C (.ref C) = some true), eqO (PySem.W.ks_superIn K C C "__init__") (some (some (.ref (ma K B "__init__")))), (clsIn K C).isSome, eqO (PySem.W.nsIn K mainGlobals "super") (some none), eqO (PySem.W.nsIn K cStatics "thirdparty.any") (some none),
  decide (PySem.W.typeIn K (.ref (ma K B "__init__")) = some (.type "function")), fnIn K (ma K B "__init__"), supFnM P K C (ma K C "__init__") qn db]
/-- with j defaults None -/
def supLM (P : Program) (K : PySem.W.Frag) (C B : Addr) (qn : Str) (j : Nat) : List Bool := supLG P K C B qn (dflNB K j)
theorem txtG_of {P : Program} {K : PySem.W.Frag} {qn : Str} {C B : Addr} {st : Stmt} {db : Value → Bool} {Q : List V → Prop} (hq : ∀ dV, db dV = true → ∃ dv, Q dv ∧ DflV K dV dv) (e : supW K (ma K C "__init__") = supV qn st) (b : (supLG P K C B qn db).all id = true) : ∃ fd dv, Q dv ∧ TxtM P K qn st C (ma K C "__init__") (ma K B "__init__") dv fd := by
  have rest := all_at b 7 rfl
  have c3 := all_at b 2 rfl
  obtain ⟨cdD, hD⟩ := Option.isSome_iff_exists.mp c3
  unfold supW supV at e
  unfold supFnM at rest
  cases look : K.lookup (ma K C "__init__") with
  | none => rw [look] at e; cases e
  | some o =>
    obtain ⟨oc, od, dat, osl⟩ := o
    rw [look] at e rest
    cases dat with
    | func fd =>
      obtain ⟨nm, qual, par, body, sc, glb, clo, dfl, kwd, doc, pm, an, code, ct, blt⟩ := fd
      have said : (nm, qual, par, body, sc, glb, blt) = (PySem.Str.ofString "__init__", qn, defArgs st, FuncBody.stmts (defBody st), defScope st, mainGlobals, builtinsNs) := Option.some.inj e
      clear e
      cases said
      obtain ⟨dfl_ok, rest⟩ := ba rest
      obtain ⟨code_ok, rest⟩ := ba rest
      obtain ⟨cell_ok, file_ok⟩ := ba rest
      obtain ⟨dv, qv, dfl_ok⟩ := hq _ dfl_ok
      split at cell_ok
      · rename_i x cc ecl
        obtain ⟨isCls, cell_ok⟩ := ba cell_ok
        obtain rfl : x = "__class__" := of_decide_eq_true isCls
        dsimp only at ecl
        subst ecl
        split at cell_ok
        · rename_i u1 u2 D u3 lcc
          obtain rfl : D = C := by simpa using cell_ok
          split at file_ok
          · rename_i cda ecd
            dsimp only at ecd
            subst ecd
            split at file_ok
            · rename_i w1 w2 vs w3 lcd
              split at file_ok
              · rename_i file tf hvs
                exact ⟨_, dv, qv, ⟨of_decide_eq_true (all_at b 0 rfl), eqO_ok (all_at b 1 rfl), cdD, hD⟩, eqO_ok (all_at b 3 rfl), eqO_ok (all_at b 4 rfl), of_decide_eq_true (all_at b 5 rfl), all_at b 6 rfl, oc, od, dfl, kwd, doc, pm, an, cda, ct, osl, cc, _, _, _, _, _, vs, _, file, tf, rfl, look, code_ok, lcc, lcd, hvs, file_ok, dfl_ok⟩
              · cases file_ok
            · cases file_ok
          · cases file_ok
        · cases cell_ok
      · cases cell_ok
    | _ => cases e
theorem txtM_of {P : Program} {K : PySem.W.Frag} {qn : Str} {C B : Addr} {st : Stmt} {j : Nat} (e : supW K (ma K C "__init__") = supV qn st) (b : (supLM P K C B qn j).all id = true) : ∃ fd, TxtM P K qn st C (ma K C "__init__") (ma K B "__init__") (List.replicate j V.non) fd := by
  obtain ⟨fd, dv, rfl, h⟩ := txtG_of (Q := fun dv => dv = List.replicate j V.non) (fun dV h => ⟨_, rfl, dflN_ok h⟩) e b
  exact ⟨fd, h⟩
section
variable {P : Program} {K : PySem.W.Frag} {qn : Str} {st : Stmt} {D fI f2 : Addr} {dv : List V} {fd : FuncData} {ps : List Str}
/-- a tuple that fills up: what it holds behind its first j stands behind the n values of a call -/
theorem fills {T : Addr} {o : Obj} {its : List Value} {m n j : Nat} (lk : K.lookup T = some o) (ho : o.data = .seq its.toArray m) (hn : n + (its.length - j) = ps.length)
    (h : ∀ us : List Value, us.length = n → ∃ k, bindArgs fd ⟨us, []⟩ = seqItems? (.ref T) >>= k ∧ k (some its.toArray) = pure (ps.zip (us ++ its.drop j))) : Binds K fd ps (its.drop j) := by
  intro s us hK hu
  have un : us.length = n := by simp only [List.length_append, List.length_drop] at hu; omega
  rcases h us un with ⟨k, hb, hk⟩
  exact L2.BindsTo.of_looks fun M => by rw [hb]; exact looks_items hK lk ho (PySem.W.Looks.of_pure hk)
theorem TxtM.binds1 (T0 : TxtM P K qn st D fI f2 dv fd) (n j : Nat) (hd : dv ≠ []) (hn : n + (dv.length - j) = ps.length)
    (h : ∀ (T : Addr) (kV doc pm : Value) (an : Option Addr) (cdv ct : Value) (cc : Addr) (us its : List Value), us.length = n → its.length = dv.length →
      ∃ k, bindArgs (ksFn "__init__" qn (defArgs st) (defBody st) (defScope st) (.ref T) kV doc pm an cdv ct cc) ⟨us, []⟩ = seqItems? (.ref T) >>= k ∧ k (some its.toArray) = pure (ps.zip (us ++ its.drop j))) : ∃ ds, Vals (dv.drop j) ds ∧ Binds K fd ps ds := by
  obtain ⟨_, _, _, kV, doc, pm, an, cda, ct, _, cc, _, _, _, _, _, _, _, _, _, e, _, _, _, _, _, _, some'⟩ := T0.fn
  subst e
  match some' with
  | .inl none' => exact (hd none'.1).elim
  | .inr ⟨_, T, o, its, m, e, lk, ho, vals⟩ =>
    subst e
    have many : its.length = dv.length := vals.length.symm
    exact ⟨_, vals.drop j, fills lk ho (by rw [many]; exact hn) fun us un => h T kV doc pm an (.ref cda) ct cc us its un many⟩
/-- nothing fills up -/
theorem TxtM.bindsN (T0 : TxtM P K qn st D fI f2 [] fd) (h : ∀ (kV doc pm : Value) (an : Option Addr) (cdv ct : Value) (cc : Addr) (us : List Value), us.length = ps.length → bindArgs (ksFn "__init__" qn (defArgs st) (defBody st) (defScope st) .none kV doc pm an cdv ct cc) ⟨us, []⟩ = pure (ps.zip us)) : Binds K fd ps [] := by
  obtain ⟨_, _, _, kV, doc, pm, an, cda, ct, _, cc, _, _, _, _, _, _, _, _, _, e, _, _, _, _, _, _, some'⟩ := T0.fn
  subst e
  match some' with
  | .inl none' => have e := none'.2; subst e; exact .all (h kV doc pm an _ ct cc)
  | .inr more => exact (more.1 rfl).elim
end
section
variable {P : Program} {wd : World} {base : Heap} {G : Gm} {k : Nat} {qual : Str} {st : Stmt} {f f2 : Addr} {fd : FuncData} {N ps : List Str} {n m : Nat} {g : Sm} {dv : List V}
theorem make_okX {C : Nat} {cA : Addr} {ds : List T} {dvs : List V} {dus : List Value} (T0 : TxtM P G.K qual st cA f f2 dv fd) (S : NScope N ps ["__class__"] (defScope st)) (hps : ps.length = n + 1) (hm : N.length - (n + 1) = m) (hc : G.mg (G.cn C) = some (.ref cA)) (hM : Mk G.K cA f) (hB : Binds G.K fd ps dus) (hv : Vals dvs dus) (hd : ∀ w, Dens G w dvs ds)
    (hb : ∀ cc cda A outer s H E, IsX (cxN P wd G base N qual st cc cda f A outer s H E) P G.K qual st cA f f2 → Room k (A.deeper (enN qual st cc cda f s)) → SSsA (cxN P wd G base N qual st cc cda f A outer s H E) G (WD E) (.func (defBody st) (enN qual st cc cda f s)) (defBody st) g) : MakeOk P wd base G (k + 1) C n ds (fnI G C m g) :=
  ⟨cA, f, fd, ps, dvs, dus, hc, hM, make_runX T0 S hps hm hb, hB, hv, hd⟩
theorem po_ofX {cc cda : Addr} {A : Around} {outer : List PySem.Env} {s : Shared} {H : Hp} {E : XK} : PassesOwn (model P wd) (cxN P wd G base N qual st cc cda f A outer s H E).A (cxN P wd G base N qual st cc cda f A outer s H E).env (cxN P wd G base N qual st cc cda f A outer s H E).xe :=
  passes_of (X := cxN P wd G base N qual st cc cda f A outer s H E) (K := fun e s'' => L2.CX P wd outer H s E e s'') (E₁ := fun e s'' => L2.CX P wd outer H s E e s'') rfl
end
end SupM
end Ep
/-! range(i, j) of great numbers: the iterator for these, walked. -/
namespace Ep.LR
open PySem PySem.Spec L2
theorem own : Manifest.owners.lookup (String.ofList ['r', 'o', 't', 'a', 'r', 'e', 't', 'i', '_', 'e', 'g', 'n', 'a', 'r', 'g', 'n', 'o', 'l'].reverse) = some Manifest.sig_longrange_iterator := by kernel_rfl
theorem sl_next : PySem.Slot "longrange_iterator" "__next__" "longrange_iterator.__next__" :=
  PySem.Slot.of (owner := "longrange_iterator") (n := "__next__") (by rw [typeLookup_type, builtinLookup_eq_fast]; kernel_rfl) (by decide +kernel) (by decide +kernel) (by decide +kernel) (Or.inl (by decide +kernel)) (by rw [isSubtype_type]; kernel_rfl)
theorem sl_iter : PySem.Slot "longrange_iterator" "__iter__" "longrange_iterator.__iter__" :=
  PySem.Slot.of (owner := "longrange_iterator") (n := "__iter__") (by rw [typeLookup_type, builtinLookup_eq_fast]; kernel_rfl) (by decide +kernel) (by decide +kernel) (by decide +kernel) (Or.inl (by decide +kernel)) (by rw [isSubtype_type]; kernel_rfl)
theorem en_next : entryFor table "longrange_iterator.__next__" = some Builtin.«longrange_iterator.__next__» := entryFor_of_tree (by kernel_rfl)
theorem en_iter : entryFor table "longrange_iterator.__iter__" = some Builtin.«dict_keyiterator.__iter__» :=
  entryFor_alias (id' := "dict_keyiterator.__iter__") (by kernel_rfl) (by decide +kernel) (by decide +kernel) (by kernel_rfl)
theorem sg_next : Manifest.signature? "longrange_iterator.__next__" = some ⟨.exact, "wrapper __next__", "", .self, []⟩ := by
  rw [signature?_of (id := "longrange_iterator.__next__") (n := ['_', '_', 't', 'x', 'e', 'n', '_', '_']) (o := ['r', 'o', 't', 'a', 'r', 'e', 't', 'i', '_', 'e', 'g', 'n', 'a', 'r', 'g', 'n', 'o', 'l']) (by kernel_rfl) own]; kernel_rfl
theorem sg_iter : Manifest.signature? "longrange_iterator.__iter__" = some ⟨.exact, "wrapper __iter__", "", .self, []⟩ := by
  rw [signature?_of (id := "longrange_iterator.__iter__") (n := ['_', '_', 'r', 'e', 't', 'i', '_', '_']) (o := ['r', 'o', 't', 'a', 'r', 'e', 't', 'i', '_', 'e', 'g', 'n', 'a', 'r', 'g', 'n', 'o', 'l']) (by kernel_rfl) own]; kernel_rfl
theorem ar_next (a : Value) : argsOk "longrange_iterator.__next__" ⟨[a], []⟩ := by
  unfold argsOk; rw [sg_next]; kernel_rfl
theorem ar_iter (a : Value) : argsOk "longrange_iterator.__iter__" ⟨[a], []⟩ := by
  unfold argsOk; rw [sg_iter]; kernel_rfl
theorem bd (it : Addr) : bound "longrange_iterator.__next__" ⟨[.ref it], []⟩ = pure #[some (.ref it)] := by
  unfold bound
  rw [sg_next]
  rfl
abbrev IsLong (h : Heap) (it : Addr) (x left : Int) : Prop := h.get? it = some { cls := .type "longrange_iterator", dict := none, data := .fields #[rawInt x, rawInt left, rawInt 1], slots := #[] }
section
variable {prog : Program} {w : World} {A : Around} {E : Value → Shared → Prop} {s : Shared} {it : Addr} {x left : Int}
theorem typ (h : IsLong s.heap it x left) : s.TypeIs (.ref it) "longrange_iterator" := ⟨_, h, rfl⟩
abbrev fld (it : Addr) (i : Nat) : Sem Int := Builtin.Iterators_pickling.intField "longrange_iterator.__next__" (.ref it) i
theorem fld_run {γ : Type} {i : Nat} {v : Int} {k : Int → Sem γ} {Q : γ → Shared → Prop} (h : IsLong s.heap it x left) (hi : #[rawInt x, rawInt left, rawInt 1][i]? = some (rawInt v)) (hk : wpAny (model prog w) A (k v) Q E s) : wpAny (model prog w) A (fld it i >>= k) Q E s := by
  refine wpAny_bind ?_
  show wpAny _ _ (field (.ref it) _ >>= _) _ _ s
  exact wpAny_bind (wpAny_field h rfl hi (wpAny_pure hk))
theorem next_get {Q : Option Value → Shared → Prop} (h : IsLong s.heap it x left)
    (hk : wpAny (model prog w) A.in1 (if left ≤ 0 then (rule (toString "longrange_iterator.__next__" ++ toString ".end") >>= fun _ => newExc (.type "StopIteration") [] >>= fun e => (raiseNew e : Sem PUnit) >>= fun _ => setField (.ref it) 0 (rawInt (x + 1)) >>= fun _ => setField (.ref it) 1 (rawInt (left - 1)) >>= fun _ => retInt x) else (setField (.ref it) 0 (rawInt (x + 1)) >>= fun _ => setField (.ref it) 1 (rawInt (left - 1)) >>= fun _ => retInt x))
      (fun f s1 => ∃ v, f = .done (.ret v) ∧ Q (some v) s1) (fun e s1 => wpAny (model prog w) A (isInstance e (.type "StopIteration") >>= fun b => if b = true then pure none else throw e) Q E s1) s) : wpAny (model prog w) A (pyNext (.ref it)) Q E s := by
  unfold pyNext
  refine wpAny_bind (wpAny_attempt (wpAny_callSpecial?_slot (name := Str.ofString "__next__") (typ h) sl_next (wpAny_call_entry sl_next (typ h) en_next ?_ (ar_next _))))
  show wpAny _ _ (bound "longrange_iterator.__next__" ⟨[.ref it], []⟩ >>= _) _ _ s
  rw [bd it]
  refine wpAny_bind (wpAny_pure ?_)
  show wpAny _ _ (fld it 0 >>= _) _ _ s
  refine fld_run h rfl ?_
  show wpAny _ _ (fld it 1 >>= _) _ _ s
  refine fld_run h rfl ?_
  show wpAny _ _ (fld it 2 >>= _) _ _ s
  refine fld_run h rfl ?_
  refine thn hk fun f s1 ⟨v, e, q⟩ => ?_
  exact ⟨v, e, wpAny_pure q⟩
theorem next_item {Q : Option Value → Shared → Prop} (h : IsLong s.heap it x left) (l : 0 < left)
    (hQ : ∀ h', IsLong h' it (x + 1) (left - 1) → Heap.SameBut it s.heap h' → Q (some (.int x s.toks)) { s with heap := h', toks := s.toks + 1 }) : wpAny (model prog w) A (pyNext (.ref it)) Q E s := by
  refine next_get h ?_
  rw [if_neg (by omega)]
  refine wpAny_bind (wpAny_setField h rfl (show 0 < 3 by decide) ?_)
  refine wpAny_bind (wpAny_setField (Heap.get?_update_self _ h rfl) rfl (show 1 < 3 by decide) ?_)
  refine wpAny_bind (wpAny_mkInt (wpAny_pure ⟨_, rfl, hQ _ ?_ ?_⟩))
  · exact Heap.get?_update_self _ (Heap.get?_update_self _ h rfl) rfl
  · exact (Heap.SameBut.update ..).trans (Heap.SameBut.update ..)
theorem next_end {Q : Option Value → Shared → Prop} (hh : A.handled = none) (h : IsLong s.heap it x left) (l : left ≤ 0)
    (hQ : ∀ h', (∀ b o, s.heap.get? b = some o → h'.get? b = some o) → Q none { s with heap := h' }) : wpAny (model prog w) A (pyNext (.ref it)) Q E s := by
  refine next_get h ?_
  rw [if_pos l]
  refine wpAny_bind (wpAny_rule ?_)
  unfold newExc newTuple
  refine wpAny_bind (wpAny_bind (wpAny_newObj_type ?_ (by size_fits)))
  refine wpAny_bind (wpAny_of_eq (a := Value.none) (by simp only [firstArgMember]; rfl) ?_)
  refine wpAny_newObj_type ?_ (by size_fits)
  refine wpAny_bind (wpAny_raiseNew_none hh ?_)
  refine wpAny_bind (wpAny_isInstance (T := "StopIteration") (b := true) ⟨_, Heap.get?_push_size _ rfl, rfl⟩ isSubtype_stop ?_)
  exact wpAny_pure (hQ _ fun b o e => Heap.get?_push_of_some _ (Heap.get?_push_of_some _ e))
theorem iter_self {Q : Value → Shared → Prop} (h : IsLong s.heap it x left) (q : Q (.ref it) s) : wpAny (model prog w) A (pyIter (.ref it)) Q E s :=
  wpAny_pyIter_slot (typ h) sl_iter (wpAny_call_entry sl_iter (typ h) en_iter (by
    show wpAny _ _ (ret (.ref it)) _ _ s
    exact wpAny_pure ⟨_, rfl, _, _, typ h, sl_next.lookup, q⟩) (ar_iter _))
end
theorem not_small {lo hi : Int} (h : lo < -(2 ^ 63) ∨ 2 ^ 63 ≤ lo) : Builtin.Range.rangeFitsLong lo = false := by
  unfold Builtin.Range.rangeFitsLong
  rcases h with h | h
  · rw [decide_eq_false (by omega), Bool.false_and]
  · rw [decide_eq_false (p := lo < _) (by omega), Bool.and_false]
section
variable {prog : Program} {w : World} {A : Around} {E : Value → Shared → Prop} {s : Shared}
theorem begins {r : Addr} {lo hi : Int} {t u v : Tok} {Q : Value → Shared → Prop} (hr : IsRange s.heap r lo hi 1 t u v) (h : lo < -(2 ^ 63) ∨ 2 ^ 63 ≤ lo)
    (hQ : Q (.ref s.heap.objs.size) { s with heap := s.heap.push { cls := .type "longrange_iterator", data := .fields #[rawInt lo, rawInt (Builtin.Range.rangeSize lo hi 1), rawInt 1] } }) : wpAny (model prog w) A (pyIter (.ref r)) Q E s := by
  have hT : s.TypeIs (.ref r) "range" := ⟨_, hr, rfl⟩
  have n := not_small (hi := hi) h
  refine wpAny_pyIter_slot hT F.slot_range_iter (call_meets F.slot_range_iter hT F.entry_range_iter (F.args_range_iter_1 _) (AutoRange.range___iter___range_0 r lo hi 1 t u v (by rw [n]; rfl)) ⟨hr, ?_⟩)
  rw [n]
  exact ⟨_, _, ⟨_, Heap.get?_push_size _ rfl, rfl⟩, sl_next.lookup, hQ⟩
end
theorem turn {P : Program} {w : World} {K : PySem.W.Frag} {tg : Expr} (it : Addr) (lo : Int) (n : Nat) : Turn P w K tg (Itr lo n) [it] it (fun i h => IsLong h it (lo + (i : Nat)) ((n : Int) - (i : Nat))) where
  mem := List.mem_singleton.mpr rfl
  obj := fun i h st b hb => by
    rw [List.mem_singleton.mp hb]
    exact ⟨_, st, fun v z => nomatch (show Data.fields _ = Data.cell v from z)⟩
  keep := fun i h h' st k => k it (List.mem_singleton.mpr rfl) _ st
  item := fun X hP hw hK hc i pins s σ H E I hf st hg => by
    cases hP; cases hw; cases hK
    obtain ⟨f0, f1, f2, f3, f4, f5⟩ := hf it (List.mem_singleton.mpr rfl)
    have hi : i < n := hg
    refine next_item st (by omega) fun h' st' kk => ?_
    have I1 : Inv X pins σ H { s with heap := h', toks := s.toks + 1 } := I.turned (fun b o hb e => kk.extBut b o hb e) f0 f1 f3 f4 f5
    have st2 : IsLong h' it (lo + ((i + 1 : Nat) : Int)) ((n : Int) - ((i + 1 : Nat) : Int)) := by
      rw [show lo + ((i + 1 : Nat) : Int) = lo + (i : Int) + 1 by omega, show (n : Int) - ((i + 1 : Nat) : Int) = (n : Int) - (i : Int) - 1 by omega]
      exact st'
    exact ⟨_, rfl, go_of (s := { s with heap := h', toks := s.toks + 1 }) (n := "longrange_iterator") st' rfl rfl (by decide) ⟨.int (lo + i), H, I1, ⟨s.toks, rfl⟩, ⟨rfl, rfl⟩, st2, fun b hb => (hf b hb).1⟩⟩
  done := fun X hP hw hK hc i pins s σ H E I hf st hg => by
    cases hP; cases hw; cases hK
    have hi : n ≤ i := hg
    exact next_end (I.ok.hd hc) st (by omega) fun h' k => ⟨rfl, I.kept (t' := s.toks) k⟩
  self := fun A i s Q E st h => iter_self st h
section
variable {X : Cx} {tg : Expr}
theorem walks {pins : List (Addr × Obj)} {σ : St} {H : Hp} {s : Shared} {R : It → Hp → Prop} {E : Value → Shared → Prop} {lo hi : Int} {t u v : Tok} {tk : Nat} (I : Inv X pins σ H s) (h : lo < -(2 ^ 63) ∨ 2 ^ 63 ≤ lo)
    (q : R (Itr lo (hi - lo).toNat) H) : wpAny (model X.prog X.w) X.A (pyIter (.ref s.heap.objs.size)) (PIE X pins σ tg R) E { s with heap := s.heap.push { cls := .type "range", data := .fields #[.int lo t, .int hi u, .int 1 v] }, toks := tk } := by
  refine begins (IsRange.new ..) h ?_
  generalize hh : s.heap.push { cls := .type "range", data := .fields #[.int lo t, .int hi u, .int 1 v] } = h1
  have I1 : Inv X pins σ H { s with heap := h1, toks := tk } := I.kept fun b o e => hh ▸ Heap.get?_push_of_some _ e
  refine ⟨h1.objs.size, [h1.objs.size], _, _, H, rfl, I1.kept (t' := tk) fun b o e => Heap.get?_push_of_some _ e, turn _ lo (hi - lo).toNat, ?_, fun b hb => ?_, q⟩
  · have e2 : (((hi - lo).toNat : Nat) : Int) - ((0 : Nat) : Int) = Builtin.Range.rangeSize lo hi 1 := by rw [rangeSize_one]; split <;> omega
    show IsLong _ _ (lo + ((0 : Nat) : Int)) ((((hi - lo).toNat : Nat) : Int) - ((0 : Nat) : Int))
    rw [e2, show lo + ((0 : Nat) : Int) = lo by omega]
    exact Heap.get?_push_size _ rfl
  · rw [List.mem_singleton.mp hb]
    exact I1.fpOk (Nat.le_refl _) (I1.hok.fresh (Nat.le_refl _))
/-- both ends small, or the first one far out -/
def Far (i j : Int) : Prop := (-(2 ^ 62) ≤ i ∧ i < 2 ^ 62 ∧ -(2 ^ 62) ≤ j ∧ j < 2 ^ 62) ∨ i < -(2 ^ 63) ∨ 2 ^ 63 ≤ i
instance (i j : Int) : Decidable (Far i j) := inferInstanceAs (Decidable (_ ∨ _))
end
end Ep.LR
namespace Ep
open PySem PySem.Spec L2
section
variable {X : Cx} {G : Gm} {W : WX} {f f' : Env → M T} {tg : Expr} {pos : Pos}
end
end Ep
/-! repr of tuples and lists: no repr under way below, carried along by the few defs that lie between the law and repr. -/
namespace Ep
open PySem PySem.Spec L2 PyProof.Rows
/-- no repr of an object under way -/
def Gd (A : Around) : Prop := A.guards = some []
theorem Gd.deeper {A : Around} (h : Gd A) (env : PySem.Env) : Gd (A.deeper env) := h
/-- a def's promise where no repr is under way -/
structure FnOkG (P : Program) (w : World) (K : PySem.W.Frag) (mg : Str → Option Value) (base : Heap) (CX : CXT) (k : Nat) (f : Addr) (fd : FuncData) (ps : List Str) (sp : Sp) : Prop where
  len : ∀ vs H Q E, sp vs H Q E → vs.length = ps.length
  run : ∀ (A : Around), Gd A → Room k A → ∀ (outer : List PySem.Env) (s : Shared) (H : Hp) (args : Args) (us : List Value) (vs : List V) (Q : VK) (E : XK), Env0 P w K mg base A outer s H → BindsTo s fd args (ps.zip us) → Vals vs us → sp vs H Q E →
    codeAny (model P w) A (.call (.ref f) args) (CR CX outer P w H s Q E) s
section
variable {P : Program} {w : World} {K : PySem.W.Frag} {mg : Str → Option Value} {base : Heap} {CX : CXT} {k : Nat} {f : Addr} {fd : FuncData} {ps : List Str} {sp : Sp}
theorem FnOkG.of (F : FnOk P w K mg base CX k f fd ps sp) : FnOkG P w K mg base CX k f fd ps sp := ⟨F.len, fun A _ hr outer s H args us vs Q E => F.run A outer s H args us vs Q E hr⟩
theorem FnOkG.mono {j : Nat} (F : FnOkG P w K mg base CX j f fd ps sp) (h : j ≤ k) : FnOkG P w K mg base CX k f fd ps sp := ⟨F.len, fun A g hr => F.run A g (hr.mono h)⟩
end
/-- what a plain def's body hands back -/
theorem back {CX : CXT} {P : Program} {w : World} {K : PySem.W.Frag} {mg : Str → Option Value} {base : Heap} {N : List Str} {qual : Str} {scope : Scope} {f : Addr} {cdv : Value} {A : Around} {outer : List PySem.Env} {s s' : Shared} {H H' : Hp} {E : XK} {Q : VK} {σ' : L2.St} {v : V} {u : Value}
    (J : Inv (cxOf CX P w K mg base N qual scope f cdv A outer s H E) [] σ' H' s') (rv : L2.RelV v u) (q : Q v H') : CE outer P w H s Q u s' := by
  constructor
  exact ⟨H', J.os, J.bare, J.base, J.hok, rv, q⟩
section
variable {X : Cx} {CX : CXT} {k : Nat} {f : Addr} {fd : FuncData} {ps : List Str} {sp : Sp} {dvs : List V} {ds : List Value} {E : L2.St → XK} {x : Str} {p pos : Pos} {e : Expr} {es : List Expr} {t : TA}
end
/-- a def of the top that may be called where no repr is under way -/
structure DefOkG (P : Program) (wd : World) (base : Heap) (G : Gm) (k : Nat) (x : Str) (n : Nat) (ds : List T) (F : List T → M T) : Prop where
  ex : ∃ f fd ps dvs dus, FnOkG P wd G.K G.mg base (L2.CX P wd) k f fd ps (spF G n F) ∧ G.mg x = some (.ref f) ∧ PySem.W.keepIn G.K (.ref f) = true ∧ Binds G.K fd ps dus ∧ Vals dvs dus ∧ ∀ w, Dens G w dvs ds
section
variable {X : Cx} {G : Gm} {W : WX} {j k n : Nat} {x : Str} {a : Expr} {es : List Expr} {fs : List (Env → M T)} {ds : List T} {p pos : Pos}
end
end Ep
/-! defs, repr and the law's end where no repr is under way. -/
namespace Ep
open PySem PySem.Spec L2 PyProof.Rows
section
variable {P : Program} {wd : World} {base : Heap} {G : Gm} {k : Nat} {x qual : Str} {st : Stmt} {f : Addr} {fd : FuncData} {N ps : List Str} {n m : Nat} {g : Sm} {dv : List V} {kw : List (Str × V)}
end
theorem Bd.un {X : Cx} {G : Gm} {W : WX} {j : Nat} (B : Bd X G W j) : X.A.units + 200 < cLine := by
  have := B.rm.un
  omega
/-! ### repr of what is plain -/
section
variable {X : Cx} {G : Gm} {W : WX} {a : Addr} {cls : Value} {d : Option Addr} {i j : Nat} {pos p : Pos} {e : Expr} {f : Env → M T} {h : HM T}
end
end Ep
/-! the law's call from outside, where no repr is under way. -/
namespace Ep
open PySem PySem.Spec L2 PyProof.Rows
namespace EndG
/-- what is tracked at the law's call: the tables, the script's list if the head has not told it -/
def tr (K : PySem.W.Frag) (ts : List Addr) (a : Addr) (o : Obj) (xs : List V) (b : Addr) : Option HO := if b ∈ ts then some (.tbl #[]) else if b = a ∧ K.lookup a = none then some (.frz o (.lst xs)) else none
section
variable {K : PySem.W.Frag} {ts : List Addr} {a : Addr} {o : Obj} {xs : List V}
end
section
variable {P : Program} {w : World} {K : PySem.W.Frag} {mg mb : Str → Option Value} {CX : CXT} {k : Nat} {fa a : Addr} {cs : List (Addr × Addr)} {fd : FuncData} {x : Str} {sp : Sp} {s₁ : Shared} {vs : List Value} {ns : List Int}
end
end EndG
end Ep
namespace Ep
open PySem PySem.Spec L2 PyProof.Rows
/-! ### an own comparison with an instance of another class -/
/-- y is an instance of D -/
def isObj (D : Nat) : T → Bool
  | .obj E _ => decide (E = D)
  | _ => false
def own2y (C D : Nat) (F : List T → M T) : T → T → M T := fun x y => if isObj D y = true then own2 C F x y else own2x C F x y
theorem own2y_ne {C D : Nat} {F : List T → M T} (t u : T) (r : RS) (c : Nat) (p : T) (r' : RS) : own2y C D F t u r ≠ .exn c p r' := by
  unfold own2y
  split
  · exact own2_ne _ _ _ _ _ _
  · exact own2x_ne _ _ _ _ _ _
/-- D is no class below C -/
structure PyOk (G : Gm) (C D : Nat) : Prop where
  ok : ∀ cA dA, G.mg (G.cn C) = some (.ref cA) → G.mg (G.cn D) = some (.ref dA) → PySem.W.notFirst G.K cA (.ref dA) = true
section
variable {X : Cx} {G : Gm} {W : WX} {pos : Pos} {a b : Expr} {f g : Env → M T} {C D j k : Nat} {F : List T → M T}
theorem op_ownY {op : CmpOp} (hop : ∀ a b, compareOp op a b = richCompare op a b) (py : PyOk G C D) (px : PxOk G C) (M : MethOk X.prog X.w X.base G k C (cmpInfo op).2.1 2 [] F) (hK : X.K = G.K) (hM : X.mg = G.mg) (hr : Room j X.A) (hk : k ≤ j) : OpR X (compareOp op) (r2own G C (own2y C D F)) := by
  intro pins s σ H x y v u Q I rx ry h
  obtain ⟨w, r, t, u', g0, d1, d2, h⟩ := h
  unfold own2y at h
  by_cases hp : isObj D u' = true
  · rw [if_pos hp] at h
    obtain ⟨p, cA, fn, od, rfl, c, J, fi, ff, run⟩ := own_args M hK hM hr hk I rx ry ⟨w, r, t, u', g0, d1, d2, h⟩
    obtain ⟨mm, hF⟩ := I.fr
    rw [hop]
    have fin : ∀ {w' : Value} {s' : Shared}, EP X pins σ Q w' s' → PySem.W.CmpBack (EP X pins σ Q) w' s' := fun {w' s'} z => by
      obtain ⟨z', H', I', rz, qz⟩ := z
      exact SlX.cmpback rz ⟨z', H', I', rz, qz⟩
    cases d2 with
    | @obj q dA dx E vs us hh l ln ds =>
      have e : E = D := of_decide_eq_true hp
      subst e
      have hn := py.ok cA _ c hh
      rw [← hK] at hn
      obtain rfl : u = Value.ref _ := ry
      obtain ⟨mA, J', _⟩ := ins_get I.hok (g0.sub _ _ l)
      obtain ⟨od', J', _⟩ := J'.look
      exact PySem.W.cmp_K (op := op) (tb := .ref _) hr.units0 hF I.ok.mod.kin J J'.type hn fi ff (wpAny_mono (run X.A (hr.mono hk) I.env0) (fun w s' z => fin z) fun _ _ e => e)
    | _ => cases hp
  · rw [if_neg hp] at h
    exact op_ownX hop px M hK hM hr hk pins s σ H x y v u Q I rx ry ⟨w, r, t, u', g0, d1, d2, h⟩
theorem s_ownY {op : CmpOp} (hop : ∀ a b, compareOp op a b = richCompare op a b) (py : PyOk G C D) (px : PxOk G C) (M : MethOk X.prog X.w X.base G k C (cmpInfo op).2.1 2 [] F) (hK : X.K = G.K) (hM : X.mg = G.mg) (hr : Room j X.A) (hk : k ≤ j) (ha : SE X G W a f) (hb : SE X G W b g) (hm : behindInMarks op b = false) :
    SE X G W (.Compare a [op] [b] pos) (fun env => f env >>= fun x => g env >>= fun y => own2y C D F x y) := pe_imp (pe_cmpR (op_ownY hop py px M hK hM hr hk) ha hb hm) fun σ H Q hq => own_use own2y_ne hq
theorem e_own2y {us vs : List T} {r r' : RS} {z : T} (h : F [.obj C us, .obj D vs] r = .ok z r') : own2y C D F (.obj C us) (.obj D vs) r = .ok z r' := by
  unfold own2y
  rw [if_pos (show isObj D (.obj D vs) = true from decide_eq_true rfl)]
  exact Dr.e_own2 h
end
theorem py_of {G : Gm} {C D : Nat} {c d : Addr} (h1 : ∀ cA, G.mg (G.cn C) = some (.ref cA) → cA = c) (h2 : ∀ dA, G.mg (G.cn D) = some (.ref dA) → dA = d) (k : PySem.W.notFirst G.K c (.ref d) = true) : PyOk G C D :=
  ⟨fun cA dA e1 e2 => by obtain rfl := h1 _ e1; obtain rfl := h2 _ e2; exact k⟩
end Ep
namespace Ep
open PySem PySem.Spec L2 PyProof.Rows
/-! ### f(k2 = a, k1 = b): a def of two parameters, both by keyword, the second one first -/
def gSw {α : Type} : List α → List α → List α
  | [], [a, b] => [b, a]
  | _, _ => []
/-- a def of two parameters that takes them by keyword -/
structure DefKw (P : Program) (wd : World) (base : Heap) (G : Gm) (k : Nat) (x : Str) (ks : List Str) (F : List T → M T) : Prop where
  ex : ∃ f fd ps, FnOk P wd G.K G.mg base (L2.CX P wd) k f fd ps (spF G 2 F) ∧ G.mg x = some (.ref f) ∧ PySem.W.keepIn G.K (.ref f) = true ∧ KBinds G.K fd ps ks gSw gSw
section
variable {X : Cx} {G : Gm} {W : WX} {pos p kp1 kp2 : Pos} {a b : Expr} {f g : Env → M T} {j k : Nat} {F : List T → M T} {x : Str} {k1 k2 : Str}
end
end Ep
namespace Ep
open PySem PySem.Spec L2 PyProof.Rows
/-! ### f(..).append(e): a changed list that an expression hands back -/
section
variable {X : Cx} {G : Gm} {W : WX} {pos apos cpos : Pos} {o e : Expr} {f g : Env → M T}
theorem at_eSt {w0 w : Wd} {H0 H : Hp} {σ : L2.St} {env : Env} {r : RS} {D : Ends} {k : T → RS → SO} {Q : VK} (a : At G w0 H0 w H σ env r) (h : FlowP G W w0 H0 D (ofM env k (f env r)))
    (n : ∀ t r1 w1 H1 v, Step w H w1 H1 → At G w0 H0 w1 H1 σ env r1 → Den G w1 v t → FlowP G W w0 H0 D (k t r1) → Q v H1) : tS G W f σ H Q :=
  ⟨w, H0, env, r, a.g, a.s, (FlowP.ofM a h).imp fun t r1 w1 H1 st _ q v d => n t r1 w1 H1 v st q.1 d q.2⟩
def qAppE (g f : Env → M T) : Sm := fun env r => ofM env (fun x r1 => match x with
  | .ref k => ofM env (fun t r2 => match r2[k]? with
    | some xs => if xs.length < 100000 then .nx env (r2.set k (xs ++ [t])) else .bad
    | none => .bad) (f env r1)
  | _ => .bad) (g env r)
theorem ss_appE (hK : X.K = G.K) (ho : SE X G W o g) (he : SE X G W e f) (hbase : attributeBase o "append" X.env (eval o X.env) = eval o X.env := by rfl)
    (hfew : ((backTo cpos (starEach [e] X.env)).all (fun x => !x.1) && (backToKw cpos (keywordEach [] X.env)).all (fun x => x.1.isSome) && decide (([e] : List Expr).length + ([] : List Keyword).length + (if ([] : List Keyword).isEmpty then 0 else 1) < 30)) = true := by rfl)
    (hline : (apos.endLine == cpos.line) = true := by rfl) (hs : starEach [e] X.env = (false, eval e X.env) :: starEach [] X.env := by rfl) (hplain : (backTo cpos (starEach [] X.env)).any (·.1) = false := by rfl) :
    SS X G W (.Expr (.Call (.Attribute o "append" apos) [e] [] cpos) pos) (qAppE g f) := fun w0 H0 =>
  ps_imp (ps_expr (pe_bm PySem.F.plainAttrs_list PySem.F.slot_list_append PySem.F.type_list_append mt_append ho (pa_cons he pa_nil hs) hbase hfew hline hs hplain)) fun D σ H ⟨w, env, r, a, h⟩ => by
    rw [hK]
    unfold qAppE at h
    refine at_eSt a h fun t r1 w1 H1 v st1 a1 d1 h1 => ?_
    cases d1 with
    | @ref k p hp =>
      have hm : p ∈ w1.R := List.mem_of_getElem? hp
      obtain ⟨vs0, hh0⟩ := a1.g.refs.there hm
      refine ⟨.inl ⟨rfl, vs0, SqL.of hh0⟩, ?_⟩
      refine at_eSt a1 h1 fun t2 r2 w2 H2 v2 st2 a2 d2 h2 => ?_
      have hp2 : w2.R[k]? = some p := by
        have := (Den.ref (G := G) hp).mono st2.later
        cases this with
        | ref h => exact h
      cases q : r2[k]? with
      | none => rw [q] at h2; exact h2.elim
      | some xs =>
        rw [q] at h2
        have h2 : FlowP G W w0 H0 D (if xs.length < 100000 then .nx env (r2.set k (xs ++ [t2])) else .bad) := h2
        by_cases hl : xs.length < 100000
        · rw [if_pos hl] at h2
          obtain ⟨p', vs', e1, e2, dd, hz⟩ := a2.g.refs.at_ k xs q
          rw [hp2] at e1
          cases e1
          have a3 := a2.ref (vs := vs' ++ [v2]) (ys := xs ++ [t2]) hp2 q (dd.append (.cons d2 .nil)) (by rw [List.length_append]; exact Nat.le_trans (Nat.succ_le_of_lt hl) (by decide))
          exact ⟨p, vs', v2, rfl, rfl, e2, by rw [dd.length]; exact Nat.lt_of_lt_of_le hl (by decide), h2 _ _ _ a3.st a3.g a3.s⟩
        · rw [if_neg hl] at h2; exact h2.elim
    | _ => exact h1.elim
end
end Ep
namespace Ep
open PySem PySem.Spec L2 PyProof.Rows
/-! ### (a, b) < (c, d), whole numbers -/
section
variable {X : Cx} {G : Gm} {W : WX} {pos : Pos} {a b : Expr} {f g : Env → M T} {j : Nat}
end
end Ep
/-! a call that a telling of a def leaves out (the inner telling of a def that calls itself). -/
namespace Ep
open PySem PySem.Spec L2
end Ep
/-! a list beside one of another length is unlike, whatever stands in it. -/
namespace Ep
open PySem PySem.Spec L2
section
variable {X : Cx} {G : Gm} {W : WX}
end
end Ep
/-! steps for the printed walks: loops by the slots that they change. -/
namespace Ep
open PySem L2
/-- what a loop does to a slot: keeps it, sets it to anything, holds it as told -/
inductive Mk where
  | k : Mk
  | v : Mk
  | s : Slot → Mk
section
variable {f g k : Env → M T} {p q : Env → M Bool} {env env' env2 e : Env} {r r1 r2 r3 : RS} {x y z t u : T} {s s' sa sb : Sm} {so : SO} {b c : Bool} {n C i j : Nat} {F : List T → M T} {ts vs us xs ys : List T} {fs : List (Env → M T)} {Q : SO → Prop}
theorem w_rng1 (h1 : f env r = .ok (.int i) r1) (h : -(2 ^ 62) ≤ (i : Int) ∧ (i : Int) < 2 ^ 62) : fRng1 f env r = .ok (rngL 0 i) r1 := by
  have := Dr.rng1s h1 h
  rwa [Int.toNat_natCast] at this
theorem w_rng2i {i j : Int} (h1 : f env r = .ok (.int i) r1) (h2 : g env r1 = .ok (.int j) r2) (hi : -(2 ^ 62) ≤ i ∧ i < 2 ^ 62) (hj : -(2 ^ 62) ≤ j ∧ j < 2 ^ 62) : fRng2 f g env r = .ok (rngL i (j - i).toNat) r2 := by
  refine x_rng2 h1 h2 ?_
  show (if -(2 ^ 62) ≤ i ∧ i < 2 ^ 62 ∧ -(2 ^ 62) ≤ j ∧ j < 2 ^ 62 then some (rngL i (j - i).toNat) else none) = _
  rw [if_pos ⟨hi.1, hi.2, hj.1, hj.2⟩]
/-- a slot of an env that is told by look-up -/
theorem w_var (h : env[i]? = some (.val t)) : fVar i env r = .ok t r := by unfold fVar; rw [h]; rfl
end
end Ep
/-! a new list by a test: [..] if c else [..]. -/
namespace Ep
open PySem PySem.Spec L2 PyProof.Rows He
section
variable {X : Cx} {G : Gm} {W : WX} {pos : Pos} {a b c : Expr} {p : Env → M Bool} {f g : Env → M (List T)}
end
end Ep
/-! statements that a law never comes to: their computation is bad, and tells nothing. -/
namespace Ep
open PySem PySem.Spec L2
section
variable {X : Cx} {G : Gm} {W : WX}
end
end Ep
/-! x, y = [..], [..] where a comprehension reads x or y later: the pair is made and taken apart. -/
namespace Ep
open PySem PySem.Spec L2 PyProof.Rows He
section
variable {X : Cx} {G : Gm} {W : WX} {pos : Pos}
end
end Ep
/-! dict(pairs) with keys that are tuples, to be walked. -/
namespace L2
open PySem PySem.Spec PyProof.Rows
abbrev RF := Ep.RelF
section
variable {X : Cx} {pins : List (Addr × Obj)} {σ : St} {H : Hp} {s : Shared}
end
end L2
/-! looking up in it: keys of whole numbers -/
namespace L2
open PySem PySem.Spec PyProof.Rows
def intK (k : List Key) : Bool := k.all fun x => match x with
  | .inl _ => true
  | .inr _ => false
theorem hash_int {P P' : Program} {w w' : World} : ∀ k : List Key, intK k = true → k.map (mixKind P w).hash = k.map (mixKind P' w').hash
  | [], _ => rfl
  | .inl i :: k, h => by
    rw [List.map_cons, List.map_cons, hash_int (P' := P') (w' := w') k (by simpa [intK] using h)]
    exact congrArg (· :: _) (show keyH w (.inl i) = keyH w' (.inl i) from rfl)
  | .inr x :: k, h => by simp [intK] at h
theorem tk_hash {P P' : Program} {w w' : World} (k : List Key) (h : intK k = true) : (tupleKind (mixKind P w)).hash k = (tupleKind (mixKind P' w')).hash k :=
  congrArg (fun l => reduceHash (Builtin.Tuple.tupleHashOf l)) (hash_int k h)
theorem entry_int {P P' : Program} {w w' : World} (q : List Key × Addr × Value) (h : intK q.1 = true) : entryOfKey (tupleKind (mixKind P w)) q = entryOfKey (tupleKind (mixKind P' w')) q := by
  unfold entryOfKey
  rw [tk_hash (P' := P') (w' := w') q.1 h]
section
variable {X : Cx} {pins : List (Addr × Obj)} {σ : St} {H : Hp} {s : Shared}
/-- the tuples of all keys stand -/
def KeysAt (K : PySem.W.Frag) (H : Hp) (kvs : List (List Key × Addr × V)) : Prop := ∀ x ∈ kvs, intK x.1 = true ∧ SqT K H x.2.1 (x.1.map kV)
theorem tup_key (I : Inv X pins σ H s) {k : List Key} {b : Addr} (h : SqT X.K H b (k.map kV)) : (tupleKind (mixKind X.prog X.w)).is s.heap k b := by
  obtain ⟨its, rv, ht, _⟩ := I.tuple h
  obtain ⟨o, h1, h2, n, h3⟩ := ht
  exact ⟨o, its.toArray, n, h1, h2, h3, by simpa using items_are rv⟩
end
end L2
/-! looking up in a dict with tuple keys; the trees. -/
namespace L2
open PySem PySem.Spec PyProof.Rows
section
variable {X : Cx} {pins : List (Addr × Obj)} {σ : St} {H : Hp} {s : Shared}
theorem fd_dict (I : Inv X pins σ H s) {d : Addr} {od : Obj} {kvs : List (List Key × Addr × V)} (h : H d = some (.frz od (.ext fun _ => True))) (f : Ep.FdAt od d kvs) (ka : KeysAt X.K H kvs) : ∃ xs, Paired RF kvs xs ∧ (d == sysModules) = false ∧ s.heap.DictOfH (tupleKind (mixKind X.prog X.w)) d xs := by
  obtain ⟨P, w, es, ep, xs, h1, hx, pr, nd, h3, h4, _⟩ := f
  have hgd : s.heap.get? d = some od := (I.hok d _ h).1
  have key : ∀ {kvs : List (List Key × Addr × V)} {xs : List (List Key × Addr × Value)}, Paired RF kvs xs → KeysAt X.K H kvs → xs.map (entryOfKey (tupleKind (mixKind P w))) = xs.map (entryOfKey (tupleKind (mixKind X.prog X.w))) ∧ ∀ x ∈ xs, (tupleKind (mixKind X.prog X.w)).is s.heap x.1 x.2.1 := by
    intro kvs xs pr
    induction pr with
    | nil => exact fun _ => ⟨by rw [List.map_nil, List.map_nil], fun x m => by cases m⟩
    | @cons p q ps qs hq t ih =>
      intro ka
      obtain ⟨i1, i2⟩ := ih fun x m => ka x (List.mem_cons_of_mem _ m)
      obtain ⟨k1, k2⟩ := ka p List.mem_cons_self
      rw [hq.1] at k1 k2
      rw [hq.2.1] at k2
      refine ⟨?_, fun x m => ?_⟩
      · rw [List.map_cons, List.map_cons, i1]
        rw [entry_int (P' := X.prog) (w' := X.w) q k1]
      · rcases List.mem_cons.mp m with rfl | m
        · exact tup_key I k2
        · exact i2 x m
  obtain ⟨e1, e2⟩ := key pr ka
  exact ⟨xs, pr, h4, od, es, ep, hgd, h3, h1, by rw [hx, e1], e2, nd⟩
def getF (kvs : List (List Key × Addr × V)) (k : List Key) : Option V := (kvs.find? fun x => decide (x.1 = k)).map (·.2.2)
theorem rf_get {A : List (List Key × Addr × V)} {B : List (List Key × Addr × Value)} (h : Paired RF A B) (k : List Key) : RelO (getF A k) ((atKey B k).map (·.2)) := by
  induction h with
  | nil => exact True.intro
  | @cons p q ps qs hq t ih =>
    unfold getF atKey at ih ⊢
    rw [List.find?_cons, List.find?_cons, hq.1]
    cases e : decide (q.1 = k) with
    | true => exact hq.2.2
    | false => exact ih
/-- what stands at y in such a dict -/
def FGet (K : PySem.W.Frag) (H : Hp) (a : Addr) (y : V) (o : Option V) : Prop := ∃ od kvs k b, H a = some (.frz od (.ext fun _ => True)) ∧ Ep.FdAt od a kvs ∧ KeysAt K H kvs ∧ y = .ref b ∧ SqT K H b (k.map kV) ∧ getF kvs k = o
end
end L2
namespace Ep
open PySem PySem.Spec L2 PyProof.Rows
section
variable {G : Gm} {w : Wd}
theorem keysT_map : ∀ k : List Key, keysT (k.map keyV) = some k
  | [] => rfl
  | x :: k => by
    rw [List.map_cons]
    unfold keysT
    rw [keysT_map k]
    cases x <;> rfl
/-- the entries are those of the tree -/
structure TR (G : Gm) (w : Wd) (A : List (List Key × Addr × V)) (ks : List (List Key)) (ts : List T) : Prop where
  k : ks = A.map fun x => x.1
  dk : Dens G w (A.map fun x => V.ref x.2.1) (A.map fun x => T.tup (x.1.map keyV))
  dv : Dens G w (A.map fun x => x.2.2) ts
end
/-- what stands at a key; none: no key of its kind -/
def lookF : T → T → Option (Option T)
  | .fdt ks ts, .tup i => (keysT i).bind fun k => if (intK k && ks.all intK) = true then some (gK ks ts k) else none
  | _, _ => none
section
variable {X : Cx} {G : Gm} {W : WX} {tg e a ix : Expr} {f g : Env → M T} {p pos : Pos}
theorem gK_getF : ∀ (kvs : List (List Key × Addr × V)) (k : List Key), gK (kvs.map fun x => x.1) (kvs.map fun x => x.2.2) k = getF kvs k
  | [], _ => rfl
  | x :: kvs, k => by
    rw [List.map_cons, List.map_cons]
    unfold gK getF
    rw [List.find?_cons]
    by_cases e : x.1 = k
    · rw [if_pos e, decide_eq_true e]; rfl
    · rw [if_neg e, decide_eq_false e]
      exact gK_getF kvs k
theorem keys_at {w : Wd} {H : Hp} {r : RS} (g : Good G w H r) {kvs : List (List Key × Addr × V)} (dk : Dens G w (kvs.map fun x => V.ref x.2.1) (kvs.map fun x => T.tup (x.1.map keyV))) (hi : (kvs.map fun x => x.1).all intK = true) : KeysAt G.K H kvs := by
  induction kvs with
  | nil => exact fun x m => by cases m
  | cons q kvs ih =>
    rw [List.map_cons, List.map_cons] at dk
    rw [List.map_cons, List.all_cons, Bool.and_eq_true] at hi
    cases dk with
    | cons d1 d2 =>
      intro x m
      rcases List.mem_cons.mp m with rfl | m
      · refine ⟨hi.1, ?_⟩
        cases d1 with
        | tup h z dd =>
          rw [← keys_of dd (keysT_map _)]
          exact tup_sq g.sub h
      · exact ih d2 hi.2 x m
theorem look_f {w : Wd} {H : Hp} {r : RS} (g : Good G w H r) {d i : T} {v y : V} {o : Option T} (hd : Den G w v d) (hi : Den G w y i) (e : lookF d i = some o) : ∃ a, v = .ref a ∧ ∃ u, FGet G.K H a y u ∧ (∀ t, o = some t → ∃ x, u = some x ∧ Den G w x t) ∧ (o = none → u = none) := by
  cases hd with
  | @fdt a od kvs ts h f dk dv =>
    cases hi with
    | @tup b us k hb z dd =>
      obtain ⟨key, hk, e⟩ := Option.bind_eq_some_iff.mp (show ((keysT k).bind fun k => if (intK k && (kvs.map fun x => x.1).all intK) = true then some (gK (kvs.map fun x => x.1) ts k) else none) = some o from e)
      by_cases q : (intK key && (kvs.map fun x => x.1).all intK) = true
      · rw [if_pos q] at e
        cases e
        rw [Bool.and_eq_true] at q
        refine ⟨a, rfl, getF kvs key, ⟨od, kvs, key, b, g.sub _ _ h, f, keys_at g dk q.2, rfl, ?_, rfl⟩, fun t ht => ?_, fun hn => ?_⟩
        · rw [← keys_of dd hk]; exact tup_sq g.sub hb
        · obtain ⟨x, hx, dx⟩ := dv.gK ht
          exact ⟨x, by rw [← gK_getF]; exact hx, dx⟩
        · rw [← gK_getF]; exact dv.gKn hn
      · rw [if_neg q] at e; cases e
    | _ => cases e
  | _ => cases e
end
end Ep
/-! in, not in, len of a dict with tuple keys. -/
namespace L2
open PySem PySem.Spec PyProof.Rows
section
variable {X : Cx}
def rInF (K : PySem.W.Frag) : V → V → Hp → VK → Prop := fun y x H Q => ∃ a ov, x = .ref a ∧ FGet K H a y ov ∧ Q (.bl ov.isSome) H
theorem op_inF (hu : X.A.units + 1 < cLine) : OpR X (compareOp .In) (rInF X.K) := by
  intro pins s σ H y x iv u Q I ry rx ⟨a, ov, ex, ⟨od, kvs, k, b, g1, g2, g3, ey, g4, g5⟩, q2⟩
  subst ex
  obtain rfl : u = Value.ref a := rx
  subst ey
  obtain rfl : iv = Value.ref b := ry
  obtain ⟨xs, pr, hd, dd⟩ := fd_dict I g1 g2 g3
  refine wpAny_in_heap (tupleKind_room_in1 hu) (tup_key I g4) hd dd ?_
  have z := (rf_get pr k).isSome_eq
  rw [Option.isSome_map] at z
  rw [← z, g5]
  exact ⟨.bl ov.isSome, H, I.tok _, rfl, q2⟩
end
end L2
namespace Ep
open PySem PySem.Spec L2 PyProof.Rows
def inFT (i d : T) : Option Bool := (lookF d i).map (·.isSome)
section
variable {X : Cx} {G : Gm} {W : WX} {j : Nat} {a b : Expr} {f g : Env → M T} {p pos : Pos}
theorem v_inF (hK : X.K = G.K) : CmpV G (rInF X.K) inFT := fun w H r x y t u z Q g d1 d2 e q => by
  obtain ⟨o, ho, e⟩ := Option.map_eq_some_iff.mp (show (lookF u t).map _ = some z from e)
  have d1 : Den G w x t := by
    rcases d1 with d | ⟨_, _, _, _, q1, _⟩
    · exact d
    · subst q1; cases u <;> cases ho
  have d2 : Den G w y u := by
    rcases d2 with d | ⟨_, _, _, _, q1, _⟩
    · exact d
    · subst q1; cases ho
  obtain ⟨a, e1, v, dg, hh, hn⟩ := look_f g d2 d1 ho
  refine ⟨a, v, e1, by rw [hK]; exact dg, ?_⟩
  have ev : v.isSome = z := by
    rw [← e]
    cases o with
    | none => rw [hn rfl]; rfl
    | some t' => obtain ⟨x', ex, _⟩ := hh t' rfl; rw [ex]; rfl
  rw [ev]; exact q
theorem Bd.fin (B : Bd X G W j) (ha : SK X G W a f) (hb : SK X G W b g) (hm : behindInMarks .In b = false := by rfl) : SE X G W (.Compare a [.In] [b] pos) (fCmp inFT f g) := s_cmp (op_inF (by have := B.un; omega)) (v_inF B.eK) ha hb hm
end
end Ep
/-! a dict with tuple keys while it is made: the store. -/
namespace L2
open PySem PySem.Spec PyProof.Rows
section
variable {X : Cx} {pins : List (Addr × Obj)} {σ : St} {H : Hp} {s : Shared}
end
end L2
/-! list(e) of a text: a new list of its signs. -/
namespace L2
open PySem PySem.Spec PyProof.Rows
section
variable {X : Cx}
end
end L2
namespace Ep
open PySem PySem.Spec L2
end Ep
/-! x = e[lo:hi] of a list as a new list that is changed later; what is changed told ahead. -/
namespace Ep
open PySem PySem.Spec L2
section
variable {X : Cx} {G : Gm} {W : WX} {a : Expr} {f : Env → M T} {pos : Pos}
end
section
variable {f g k : Env → M T} {env : Env} {r r1 r2 r3 : RS} {x : T} {ys : List T}
end
end Ep
/-! Functions that a def hears: a call of one, lambdas with parameters handed to a def. -/
namespace Ep
open PySem PySem.Spec L2
open PyProof.Rows (envOfC)
/-! ### the same program, another heard function -/
abbrev Gm.wf (G : Gm) (o : Option (Addr × Addr × Str × List V × List T)) : Gm := { G with fn := o }
section
variable {G : Gm} {w : Wd} {H : Hp} {r : RS} (o : Option (Addr × Addr × Str × List V × List T))
mutual
theorem Den.wf : ∀ {v : V} {t : T}, Den G w v t → Den (G.wf o) w v t
  | _, _, .non => .non
  | _, _, .bl b => .bl b
  | _, _, .int i => .int i
  | _, _, .str x => .str x
  | _, _, .tup h z d => .tup h z (Dens.wf d)
  | _, _, .lst h z d => .lst h z (Dens.wf d)
  | _, _, .kls h z d => .kls h z (Dens.wf d)
  | _, _, .obj c h l d => .obj c h l (Dens.wf d)
  | _, _, .gl h => .gl h
  | _, _, .cl h => .cl h
  | _, _, .ty n => .ty n
  | _, _, .ref h => .ref h
  | _, _, .dct h l d => .dct h l (Dens.wf d)
  | _, _, .dtt h l d => .dtt h l (Dens.wf d)
  | _, _, .fdt h f dk dv => .fdt h f (Dens.wf dk) (Dens.wf dv)
theorem Dens.wf : ∀ {vs : List V} {ts : List T}, Dens G w vs ts → Dens (G.wf o) w vs ts
  | _, _, .nil => .nil
  | _, _, .cons h r => .cons (Den.wf h) (Dens.wf r)
end
theorem Good.wf (g : Good G w H r) : Good (G.wf o) w H r := ⟨g.sub, ⟨g.refs.nd, g.refs.len, g.refs.out, fun k xs hk => by
  obtain ⟨a, vs, h1, h2, h3, h4⟩ := g.refs.at_ k xs hk
  exact ⟨a, vs, h1, h2, h3.wf o, h4⟩⟩, g.tabs, g.nt⟩
theorem ExcIs.wf {c : Nat} {p : T} {cls : Value} {d : Option Addr} (x : ExcIs G w H c p cls d) : ExcIs (G.wf o) w H c p cls d := by
  obtain ⟨cA, dd, v, f, h1, h2, h3, h4, h5, h6⟩ := x.ex
  exact ⟨cA, dd, v, f, h1, h2, h3, h4, h5, h6.wf o⟩
theorem OutP.wf {E : XK} {Q : VK} {m : Out T} (h : OutP G w H E (fun t _ w' H' => ∀ v, Den G w' v t → Q v H') m) : OutP (G.wf o) w H E (fun t _ w' H' => ∀ v, Den (G.wf o) w' v t → Q v H') m := by
  cases m with
  | ok t r' => exact fun w' H' st g v d => h w' H' st (Good.wf (G := G.wf o) G.fn g) v (Den.wf (G := G.wf o) G.fn d)
  | exn c p r' => exact fun w' H' cls d st g x => h w' H' cls d st (Good.wf (G := G.wf o) G.fn g) (ExcIs.wf (G := G.wf o) G.fn x)
  | bad => exact h
end
section
variable {P : Program} {wd : World} {base : Heap} {G : Gm} {k : Nat} {x : Str} {n : Nat} {ds : List T} {F : List T → M T} (o : Option (Addr × Addr × Str × List V × List T))
theorem spF_wf {vs : List V} {H : Hp} {Q : VK} {E : XK} (h : spF (G.wf o) n F vs H Q E) : spF G n F vs H Q E := by
  obtain ⟨w, r, ts, g, d, l, h⟩ := h
  exact ⟨w, r, ts, Good.wf (G := G.wf o) G.fn g, Dens.wf (G := G.wf o) G.fn d, l, OutP.wf (G := G.wf o) G.fn h⟩
theorem DefOk.wf (D : DefOk P wd base G k x n ds F) : DefOk P wd base (G.wf o) k x n ds F := by
  obtain ⟨f, fd, ps, dvs, dus, h1, h2, h3, h4, h5, h6⟩ := D.ex
  exact ⟨f, fd, ps, dvs, dus, h1.imp fun vs H Q E h => spF_wf o h, h2, h3, h4, h5, fun w => (h6 w).wf o⟩
theorem MethOk.wf {C : Nat} {m : Str} (D : MethOk P wd base G k C m n ds F) : MethOk P wd base (G.wf o) k C m n ds F := by
  obtain ⟨cA, f, fd, ps, dvs, dus, c1, c2, c3, h1, h4, h5, h6⟩ := D.ex
  exact ⟨⟨cA, f, fd, ps, dvs, dus, c1, c2, c3, h1.imp fun vs H Q E h => spF_wf o h, h4, h5, fun w => (h6 w).wf o⟩, D.nof⟩
theorem FldOk.wf {name : Str} {C j : Nat} (D : FldOk G name C j) : FldOk (G.wf o) name C j := ⟨D.at_, D.cl⟩
end
/-! ### a call of what was heard -/
/-- the function at f, as its callers see it -/
structure ActOk (P : Program) (wd : World) (K : PySem.W.Frag) (mg : Str → Option Value) (base : Heap) (CX : CXT) (k : Nat) (f : Addr) (sp : Sp) : Prop where
  fn : PySem.W.FnAt f base
  run : ∀ (A : Around) (outer : List PySem.Env) (s : Shared) (H : Hp) (us : List Value) (vs : List V) (Q : VK) (E : XK), Room k A → Env0 P wd K mg base A outer s H → Vals vs us → sp vs H Q E → codeAny (model P wd) A (.call (.ref f) ⟨us, []⟩) (CR CX outer P wd H s Q E) s
theorem ActOk.imp {P : Program} {wd : World} {K : PySem.W.Frag} {mg : Str → Option Value} {base : Heap} {CX : CXT} {k : Nat} {f : Addr} {sp sp' : Sp} (A : ActOk P wd K mg base CX k f sp) (h : ∀ vs H Q E, sp' vs H Q E → sp vs H Q E) : ActOk P wd K mg base CX k f sp' :=
  ⟨A.fn, fun A' outer s H us vs Q E r e v q => A.run A' outer s H us vs Q E r e v (h _ _ _ _ q)⟩
/-- what a function of n values that captured ct computes -/
def spA (G : Gm) (c : Addr) (q : Str) (cv : List V) (ct : List T) (n : Nat) (act : List T → M T) : Sp := fun vs H Q E => ∃ w r ts, Good G w H r ∧ Dens G w vs ts ∧ ts.length = n ∧ Dens G w cv ct ∧ H c = some (LamX.CodeO c q) ∧ OutP G w H E (fun t _ w' H' => ∀ v, Den G w' v t → Q v H') (act ts r)
end Ep
/-! A base that holds more: the captured cells and the function itself. -/
namespace Ep
open PySem PySem.Spec L2
open PyProof.Rows (envOfC)
/-- what stands in the first stands in the second -/
def Grow (b1 b2 : Heap) : Prop := ∀ a o, b1.get? a = some o → b2.get? a = some o
theorem Grow.refl (b : Heap) : Grow b b := fun _ _ h => h
theorem Grow.trans {a b c : Heap} (h : Grow a b) (g : Grow b c) : Grow a c := fun x o e => g x o (h x o e)
def gone0 : Obj := { cls := .none, data := .freed }
/-- of h, what stands at the places S -/
def hold (h : Heap) (S : Addr → Bool) : Heap := { objs := h.objs.mapIdx fun i o => if S i = true then o else gone0 }
/-- the lambda's words -/
abbrev lamF (qual : Str) (params : Arguments) (scope : Scope) (cl : List (Str × Addr)) (c : Addr) : NdefX.NF := ⟨"<lambda>", qual, params, [], scope, cl, c⟩
section
variable {X : Cx} {pins : List (Addr × Obj)} {σ : L2.St} {H : Hp} {s : Shared} {f : Addr} {cl : List (Str × Addr)}
end
section
variable {X : Cx} {G : Gm} {pins : List (Addr × Obj)} {σ : L2.St} {H : Hp} {s : Shared} {base' : Heap} {f c : Addr} {params : Arguments} {body : Expr} {scope : Scope} {pm ctv : Value} {N ps fr : List Str} {js : List Nat} {k n m : Nat} {cv : List V} {ct : List T} {fb : Env → M T}
end
end Ep
/-! Defs that hear a function; a lambda handed to one. -/
namespace Ep
open PySem PySem.Spec L2
open PyProof.Rows (envOfC)
/-- what a def of n values and a function computes -/
def spH (G : Gm) (a c : Addr) (q : Str) (cv : List V) (ct : List T) (n : Nat) (F : List T → M T) : Sp := fun vs H Q E => ∃ w r us ts, vs = us ++ [.ref a] ∧ Good G w H r ∧ Dens G w us ts ∧ ts.length = n ∧ Dens G w cv ct ∧ c ∉ w.R ∧ H c = some (LamX.CodeO c q) ∧ OutP G w H E (fun t _ w' H' => ∀ v, Den G w' v t → Q v H') (F ts r)
/-- a def of the top that hears a function of na values behind its n values -/
structure HearOk (P : Program) (wd : World) (base : Heap) (G : Gm) (ka k : Nat) (x : Str) (n na : Nat) (F : (List T → M T) → List T → M T) : Prop where
  ex : ∃ f fd ps, G.mg x = some (.ref f) ∧ PySem.W.keepIn G.K (.ref f) = true ∧ Binds G.K fd ps [] ∧ ps.length = n + 1 ∧ ∀ base', Grow base base' → ∀ (a c : Addr) (q : Str) (cv : List V) (ct : List T) (act : List T → M T), ActOk P wd G.K G.mg base' (L2.CX P wd) ka a (spA G c q cv ct na act) → FnOk P wd G.K G.mg base' (L2.CX P wd) k f fd ps (spH G a c q cv ct n (F act))
section
variable {P : Program} {wd : World} {base : Heap} {G : Gm} {ka k : Nat} {x qual : Str} {st : Stmt} {f a c : Addr} {q : Str} {cv : List V} {ct : List T} {fd : FuncData} {N ps : List Str} {n m : Nat} {g : Sm} {dv : List V} {kw : List (Str × V)}
end
/-! ### the lambda's side -/
section
variable {X : Cx} {G : Gm} {W : WX} {x : Str} {ka k j n na m : Nat} {F : (List T → M T) → List T → M T} {cd Pt : Addr} {params : Arguments} {body : Expr} {scope : Scope} {lpos : Pos} {N ps fr : List Str} {js : List Nat} {fb : Env → M T}
/-- what a lambda asks of its maker and of its own words -/
structure LamK (X : Cx) (G : Gm) (kl na m : Nat) (params : Arguments) (body : Expr) (scope : Scope) (js : List Nat) (fb : Env → M T) : Prop where
  fn : ∀ y, X.fn y = true
  tb : ∃ cd Pt, LamX.TabB X.base X.mg cd Pt ∧ X.env.code = .ref cd ∧ (Pt, X.env.qual ++ "<lambda>") ∈ G.tb ∧ ∀ p ∈ G.tb, p.1 = Pt → p.2 = X.env.qual ++ "<lambda>"
  dfl : defaultsOf params X.env = ([], [])
  bd : ∃ N ps fr, NdefX.NScope N ps fr scope ∧ NdefX.ndefB X.env.scope scope fr = true ∧ js.map (fun j => X.N[j]?) = fr.map some ∧ ps.length = na ∧ N.length - (na + js.length) = m ∧
    (∀ (q : Str) (cl : List (Str × Addr)) (pm cv ctv : Value) (us : List Value), us.length = ps.length → bindArgs (PySem.W.kla_fn "<lambda>" q params body scope cl pm cv ctv) ⟨us, []⟩ = pure (ps.zip us)) ∧
    ∀ (base' : Heap), Grow X.base base' → ∀ (q : Str) (cl : List (Str × Addr)) (c f : Addr) (A : Around) (outer : List PySem.Env) (s : Shared) (H : Hp) (E : XK), Room kl (A.deeper (NdefX.envF (lamF q params scope cl c) f s.heap.objs.size)) →
      SE (NdefX.ncx (L2.CX X.prog X.w) X.prog X.w G.K G.mg base' N (lamF q params scope cl c) f A outer s H E) G (WD E) body fb
end
section
variable {X : Cx} {G : Gm} {W : WX} {x : Str} {ka k j n na m : Nat} {F : (List T → M T) → List T → M T} {params : Arguments} {body e1 e2 e3 : Expr} {f1 f2 f3 : Env → M T} {scope : Scope} {lpos p pos : Pos} {js : List Nat} {fb : Env → M T}
end
end Ep
/-! For the generator: the facts at another heard function, frames of lambdas, defs that hear and make, tables of methods. -/
namespace Ep
open PySem PySem.Spec L2
open PyProof.Rows (envOfC)
section
variable {P : Program} {wd : World} {base : Heap} {G : Gm} {k : Nat} {x : Str} {n : Nat} {ds : List T} (o : Option (Addr × Addr × Str × List V × List T))
theorem OutP.wfI {C : Nat} {dx x : Addr} {cA : Addr} {H : Hp} {w : Wd} {E : XK} {Q : VK} {m : Out (List T)} (h : OutP G w H E (fun fs _ w' H' => ∀ us dx', H' x = some (.ins cA dx' ((G.fl C).zip us)) → us.length = (G.fl C).length → Dens G w' us fs → w'.P x = none → x ∉ w'.R → Q .non H') m) :
    OutP (G.wf o) w H E (fun fs _ w' H' => ∀ us dx', H' x = some (.ins cA dx' (((G.wf o).fl C).zip us)) → us.length = ((G.wf o).fl C).length → Dens (G.wf o) w' us fs → w'.P x = none → x ∉ w'.R → Q .non H') m := by
  cases m with
  | ok t r' => exact fun w' H' st g us dx' h1 h2 d h3 h4 => h w' H' st (Good.wf (G := G.wf o) G.fn g) us dx' h1 h2 (Dens.wf (G := G.wf o) G.fn d) h3 h4
  | exn c p r' => exact fun w' H' cls d st g x => h w' H' cls d st (Good.wf (G := G.wf o) G.fn g) (ExcIs.wf (G := G.wf o) G.fn x)
  | bad => exact h
theorem spI_wf {C : Nat} {F : List T → M (List T)} {vs : List V} {H : Hp} {Q : VK} {E : XK} (h : spI (G.wf o) C n F vs H Q E) : spI G C n F vs H Q E := by
  obtain ⟨w, r, ts, x, rest, cA, dx, H1, e1, e2, e3, e4, e5, e6, g, d, l, h⟩ := h
  exact ⟨w, r, ts, x, rest, cA, dx, H1, e1, e2, e3, e4, e5, e6, Good.wf (G := G.wf o) G.fn g, Dens.wf (G := G.wf o) G.fn d, l, OutP.wfI (G := G.wf o) (dx := dx) G.fn h⟩
theorem MakeOk.wf {C : Nat} {F : List T → M (List T)} (D : MakeOk P wd base G k C n ds F) : MakeOk P wd base (G.wf o) k C n ds F := by
  obtain ⟨cA, f, fd, ps, dvs, dus, h1, h2, h3, h4, h5, h6⟩ := D.ex
  exact ⟨cA, f, fd, ps, dvs, dus, h1, h2, h3.imp fun vs H Q E h => spI_wf o h, h4, h5, fun w => (h6 w).wf o⟩
theorem HearOk.wf {ka na : Nat} {F : (List T → M T) → List T → M T} (D : HearOk P wd base G ka k x n na F) : HearOk P wd base (G.wf o) ka k x n na F := by
  obtain ⟨f, fd, ps, h1, h2, h3, h4, h5⟩ := D.ex
  refine ⟨f, fd, ps, h1, h2, h3, h4, fun base' gr a c q cv ct act A => (h5 base' gr a c q cv ct act (A.imp fun _ _ _ _ h => ?_)).imp fun vs H Q E h => ?_⟩
  · obtain ⟨w, r, ts, g, d, l, dc, hc, h⟩ := h
    exact ⟨w, r, ts, g.wf o, d.wf o, l, dc.wf o, hc, h.wf o⟩
  · obtain ⟨w, r, us, ts, e, g, d, l, dc, nR, hc, h⟩ := h
    exact ⟨w, r, us, ts, e, Good.wf (G := G.wf o) G.fn g, Dens.wf (G := G.wf o) G.fn d, l, Dens.wf (G := G.wf o) G.fn dc, nR, hc, OutP.wf (G := G.wf o) G.fn h⟩
theorem TabOk.wf {tb : Kd → Cl → Option Bool} (h : TabOk G tb) : TabOk (G.wf o) tb := h
theorem GtOk.wf {xs : List T} (h : GtOk G x xs) : GtOk (G.wf o) x xs := by
  obtain ⟨p, ob, its, n, us, h1, h2, h3, h4, h5, h6, h7, h8⟩ := h.ex
  exact ⟨p, ob, its, n, us, h1, h2, h3, h4, h5, h6, h7, fun w => (h8 w).wf o⟩
theorem GgOk.wf {tb : Str → Option (Option T)} (h : GgOk wd G x tb) : GgOk wd (G.wf o) x tb := by
  obtain ⟨p, es, n, h1, h2, h3, h4, h5⟩ := h.ex
  exact ⟨p, es, n, h1, h2, h3, h4, fun z => ⟨fun t e => let ⟨u, v, a, b, c⟩ := (h5 z).1 t e; ⟨u, v, a, b, fun w => (c w).wf o⟩, (h5 z).2⟩⟩
theorem XcOk.wf {c : Nat} {fld : Str} (h : XcOk P G c fld) : XcOk P (G.wf o) c fld := ⟨h.fl, h.cl, h.ok⟩
theorem NeOk.wf {C : Nat} (h : NeOk G C) : NeOk (G.wf o) C := ⟨h.ok⟩
theorem PxOk.wf {C : Nat} (h : PxOk G C) : PxOk (G.wf o) C := ⟨h.ok⟩
theorem NthFld.wf {C j : Nat} {name : Str} (h : NthFld G C j name) : NthFld (G.wf o) C j name := ⟨h.at_, h.new, h.few, h.cl⟩
end
section
variable {P : Program} {wd : World} {base : Heap} {G : Gm} {ka k : Nat} {x qual : Str} {st : Stmt} {f a c : Addr} {q : Str} {cv : List V} {ct : List T} {fd : FuncData} {N ps : List Str} {n m : Nat} {g : Sm} {dv : List V} {kw : List (Str × V)}
end
end Ep
namespace Ep
open PySem PySem.Spec L2 PyProof.Rows He
/-! ### the tables of methods -/
end Ep
/-! Steps of functions heard, for the plain laws. -/
namespace Ep
open PySem PySem.Spec L2
end Ep
/-! A def's own dict whose keys are tuples: made empty, stored into, read alone from some place on. -/
namespace L2
open PySem PySem.Spec PyProof.Rows
section
variable {X : Cx} {pins : List (Addr × Obj)} {σ : St} {H : Hp} {s : Shared} {pos pos' : Pos} {o i value : Expr} {td ty tv : TE}
end
end L2
namespace Ep
open PySem PySem.Spec L2
section
variable {X : Cx} {G : Gm} {W : WX} {st : Stmt} {pos dpos : Pos} {e ix : Expr} {f g : Env → M T} {w0 w : Wd} {H0 H : Hp} {σ : L2.St} {env : Env} {r : RS}
def dtAt (env : Env) (i : Nat) : Option (List (List Key) × List T) := match env[i]? with
  | some (.pv (.dt ks ts)) => some (ks, ts)
  | _ => none
/-- what d[k] = v makes of the slots, k a tuple of integers -/
def putF (i : Nat) (env : Env) (t k : T) : Option Env := (dtAt env i).bind fun p => match k with
  | .tup ks => (keysT ks).bind fun key => if (decide (p.1.length < sizeLine) && (intK key && p.1.all intK)) = true then some (env.set i (.pv (.dt (putKs p.1 key) (putVs p.1 p.2 key t)))) else none
  | _ => none
/-! ### a value from now on -/
end
end Ep
/-! x, y = e, [..] where a comprehension reads x or y later. -/
namespace Ep
open PySem PySem.Spec L2 PyProof.Rows He
section
variable {X : Cx} {G : Gm} {W : WX} {pos : Pos}
end
end Ep
/-! try in the body of a def; a test of two readings in a clause. -/
namespace Ep
open PySem PySem.Spec L2 PyProof.Rows
section
variable {X : Cx} {G : Gm} {W W' : WX} {j : Nat} {pn : List (Addr × Obj)} {xe : Value → Shared → Prop} {a : Addr} {cls : Value} {d : Option Addr} {i : Nat} {pos : Pos}
theorem Bd.tryS (B : Bd X G W j) {body : List Stmt} {h₀ : ExceptHandler} {hds : List ExceptHandler} {hs : List HdS} {g : Sm}
    (hb : ∀ (W' : WX) (pn : List (Addr × Obj)) (xe : Value → Shared → Prop), Takes (X.tr pn xe) W' → PassesOwn (model X.prog X.w) X.A X.env xe → SSs (X.tr pn xe) G W' body g) (hh : HG X G W (h₀ :: hds) hs)
    (hst : X.stack = X.env :: X.outer := by rfl) (hf : X.env.frame = some X.env.locals := by rfl) :
    SS X G W (.Try body (h₀ :: hds) [] [] pos) (qTry g hs) := ss_try hst hf B.nd B.tk hb hh
end
end Ep
/-! an __init__ of a plain class over another one, its defaults told -/
namespace Ep
open PySem PySem.Spec L2 He
namespace SupM
variable {P : Program} {K : PySem.W.Frag} {qn : Str} {st : Stmt}
def wdZ : Wd := ⟨fun _ => none, [], ⟨0, 0, 0⟩⟩
/-- defaults that are told -/
def dflTB (K : PySem.W.Frag) (ts : List T) : Value → Bool
  | .ref T => match K.lookup T with
    | some o => match o.data with
      | .seq its _ => !its.toList.isEmpty && denB.go K 6 its.toList ts
      | _ => false
    | none => false
  | _ => false
theorem dflT_ok {G : Gm} {K : PySem.W.Frag} (hK : G.K = K) {ts : List T} {dV : Value} (h : dflTB K ts dV = true) : ∃ dv : List V, (∀ w, Dens G w dv ts) ∧ DflV K dV dv := by
  unfold dflTB at h
  split at h
  · rename_i T
    split at h
    · rename_i o ho
      split at h
      · rename_i its n hd
        obtain ⟨h1, h2⟩ := ba h
        obtain ⟨vs, hv, ds⟩ := denB_go hK 6 (denB_ok hK 6) h2
        refine ⟨vs, ds, .inr ⟨fun e => ?_, T, o, its.toList, n, rfl, ho, by rw [hd], hv⟩⟩
        have hl := hv.length
        rw [e] at hl
        rw [List.eq_nil_of_length_eq_zero hl.symm] at h1
        cases h1
      · cases h
    · cases h
  · cases h
def supLT (P : Program) (K : PySem.W.Frag) (C B : Addr) (qn : Str) (ts : List T) : List Bool := supLG P K C B qn (dflTB K ts)
theorem txtT_of {G : Gm} (hK : G.K = K) {C B : Addr} {ts : List T} (e : supW K (ma K C "__init__") = supV qn st) (b : (supLT P K C B qn ts).all id = true) : ∃ fd dv, (∀ w, Dens G w dv ts) ∧ TxtM P K qn st C (ma K C "__init__") (ma K B "__init__") dv fd := txtG_of (fun dV h => dflT_ok hK h) e b
end SupM
end Ep
/-! Defs that hear a function among their values. -/
namespace Ep
open PySem PySem.Spec L2
open PyProof.Rows (envOfC)
/-- what a def of n1 values, a function and n2 values computes -/
def spJ (G : Gm) (a c : Addr) (q : Str) (cv : List V) (ct : List T) (n1 n2 : Nat) (F : List T → M T) : Sp := fun vs H Q E => ∃ w r us1 us2 ts1 ts2, vs = us1 ++ (.ref a :: us2) ∧ Good G w H r ∧ Dens G w us1 ts1 ∧ Dens G w us2 ts2 ∧ ts1.length = n1 ∧ ts2.length = n2 ∧ Dens G w cv ct ∧ c ∉ w.R ∧ H c = some (LamX.CodeO c q) ∧ OutP G w H E (fun t _ w' H' => ∀ v, Den G w' v t → Q v H') (F (ts1 ++ ts2) r)
structure HearJ (P : Program) (wd : World) (base : Heap) (G : Gm) (ka k : Nat) (x : Str) (n1 n2 na : Nat) (F : (List T → M T) → List T → M T) : Prop where
  ex : ∃ f fd ps, G.mg x = some (.ref f) ∧ PySem.W.keepIn G.K (.ref f) = true ∧ Binds G.K fd ps [] ∧ ps.length = n1 + (n2 + 1) ∧ ∀ base', Grow base base' → ∀ (a c : Addr) (q : Str) (cv : List V) (ct : List T) (act : List T → M T), ActOk P wd G.K G.mg base' (L2.CX P wd) ka a (spA G c q cv ct na act) → FnOk P wd G.K G.mg base' (L2.CX P wd) k f fd ps (spJ G a c q cv ct n1 n2 (F act))
theorem HearJ.wf {P : Program} {wd : World} {base : Heap} {G : Gm} {ka k : Nat} {x : Str} {n1 n2 na : Nat} {F : (List T → M T) → List T → M T} (D : HearJ P wd base G ka k x n1 n2 na F) : HearJ P wd base G ka k x n1 n2 na F := D
section
variable {P : Program} {wd : World} {base : Heap} {G : Gm} {ka k : Nat} {x qual : Str} {st : Stmt} {f a c : Addr} {q : Str} {cv : List V} {ct : List T} {fd : FuncData} {N ps : List Str} {n1 n2 m : Nat} {g : Sm} {dv : List V} {kw : List (Str × V)}
end
section
variable {X : Cx} {G : Gm} {W : WX} {x : Str} {ka k j n1 n2 na m : Nat} {F : (List T → M T) → List T → M T} {params : Arguments} {body e1 e2 : Expr} {f1 f2 : Env → M T} {scope : Scope} {lpos p pos : Pos} {js : List Nat} {fb : Env → M T}
end
end Ep
/-! A list that a comprehension makes and others change. -/
namespace Ep
open PySem PySem.Spec L2
open PyProof.Rows (envOfC)
section
variable {G : Gm} {W : WX}
theorem ref_read {f : Env → M (List T)} {σ : L2.St} {H : Hp} {Q : VK} : tS G W (fRef f) σ H Q → tSL G W f σ H Q := fun ⟨w, H0, env, r, g, s, h⟩ => by
  refine ⟨w, H0, env, r, g, s, ?_⟩
  unfold fRef at h
  cases q : f env r with
  | ok xs r1 =>
    rw [q] at h
    intro w1 H1 st g1 p vs hp hP hR hh d z
    have L : Later w1 ⟨w1.P, w1.R ++ [p], w1.fx⟩ := ⟨Same.refl _, [p], rfl⟩
    have st2 : Step w H ⟨w1.P, w1.R ++ [p], w1.fx⟩ H1 := ⟨st.pub, st.fr, st.keep, st.hid, by
      obtain ⟨m, e, hm⟩ := st.refs
      exact ⟨m ++ [p], by show w1.R ++ [p] = _; rw [e, List.append_assoc], fun a ha => by
        rcases List.mem_append.mp ha with z | z
        · exact hm a z
        · rw [List.mem_singleton.mp z]; exact hp⟩, st.me⟩
    have g2 : Good G ⟨w1.P, w1.R ++ [p], w1.fx⟩ H1 (r1 ++ [xs]) := ⟨g1.sub, ⟨List.nodup_append.mpr ⟨g1.refs.nd, by simp, fun a ha b hb e => hR (by rw [← List.mem_singleton.mp hb, ← e]; exact ha)⟩, by simp [g1.refs.len], fun a ha => by
        rcases List.mem_append.mp ha with z | z
        · exact g1.refs.out a z
        · rw [List.mem_singleton.mp z]; exact hP, fun k ys hk => by
        by_cases hl : k < r1.length
        · rw [List.getElem?_append_left hl] at hk
          obtain ⟨a, us, h1, h2, h3, h4⟩ := g1.refs.at_ k ys hk
          exact ⟨a, us, by show (w1.R ++ [p])[k]? = some a; rw [List.getElem?_append_left (by rw [g1.refs.len]; exact hl)]; exact h1, h2, h3.mono L, h4⟩
        · have hk' : k = r1.length := by
            have := (List.getElem?_eq_some_iff.mp hk).1
            rw [List.length_append, List.length_singleton] at this
            omega
          subst hk'
          rw [List.getElem?_append_right (Nat.le_refl _), Nat.sub_self] at hk
          cases hk
          exact ⟨p, vs, by show (w1.R ++ [p])[r1.length]? = some p; rw [List.getElem?_append_right (by rw [g1.refs.len]; exact Nat.le_refl _), g1.refs.len, Nat.sub_self]; rfl, hh, d.mono L, z⟩⟩, g1.tabs, g1.nt⟩
    refine h _ _ st2 g2 _ (.ref ?_)
    show (w1.R ++ [p])[r1.length]? = some p
    rw [List.getElem?_append_right (by rw [g1.refs.len]; exact Nat.le_refl _), g1.refs.len, Nat.sub_self]
    rfl
  | exn c p r1 =>
    rw [q] at h
    exact h
  | bad =>
    rw [q] at h
    exact h
variable {X : Cx} {j : Nat} {pos spos py : Pos} {elt tg iter : Expr} {ifs : List Expr} {scope : Scope} {us : List Nat} {h : T → Env → Option Env} {fi : Env → M (List T)} {f : Env → M T} {p : Env → M Bool} {y : Str}
theorem Bd.setCF (B : Bd X G W j) (i : Nat) (own : List (Str × Nat)) (hi : SI X G W tg iter fi)
    (hg : ∀ (s : Shared) (H : Hp) (C : Addr) (cl : List (Str × Addr)) (fp : List Addr), SG (X.blk s H scope (compEnvC scope cl C X.env) fp) G us tg h) (ht : ∀ (s : Shared) (H : Hp) (C : Addr) (cl : List (Str × Addr)) (fp : List Addr), STs (X.blk s H scope (compEnvC scope cl C X.env) fp) G ifs p)
    (he : ∀ (s : Shared) (H : Hp) (C : Addr) (cl : List (Str × Addr)) (fp : List Addr), SE (X.blk s H scope (compEnvC scope cl C X.env) fp) G W0 elt f) (ok : blkC X.N X.env.scope scope own = true := by kernel_rfl) (hu : ∀ j ∈ us, j ∈ own.map (·.2) := by decide)
    (hy : X.N[i]? = some y := by rfl) (hyl : X.env.scope.names.lookup y = some .local := by rfl) (hsw : swapsWith (.ListComp elt [⟨tg, iter, ifs, 0⟩] scope pos) (some (.Name y py)) spos.line X.env = pure true := by rfl) (hs : ∀ x, foldedSetIterable iter X.env x = pure x := by intro _; rfl) :
    SS X G W (.Assign [.Name y py] (.ListComp elt [⟨tg, iter, ifs, 0⟩] scope pos) spos) (qSet i (fRef (fComp (own.map (·.2)) h p f fi))) := fun w0 H0 =>
  ps_imp (ps_setLc B.calm B.nd hy hyl hsw hi (blkOk_by ok) (fun s H C cl fp => pg_x (hg s H C cl fp)) ht he hs) fun D σ H ⟨w, env, r, a, q⟩ => comp_use hu (ref_read (at_e a q fun t r1 w1 H1 v a1 d h1 => h1 w1 H1 _ a1.st a1.g (a1.s.setVal i d)))
end
/-! own ==, <= beside a list that others change -/
def isRefT : T → Bool
  | .ref _ => true
  | _ => false
def own2r (C : Nat) (F : List T → M T) : T → T → M T := fun x y => if isRefT y = true then own2 C F x y else M.bad
theorem own2r_ne {C : Nat} {F : List T → M T} (t u : T) (r : RS) (c : Nat) (p : T) (r' : RS) : own2r C F t u r ≠ .exn c p r' := by
  unfold own2r
  split
  · exact own2_ne _ _ _ _ _ _
  · exact fun h => nomatch h
section
variable {X : Cx} {G : Gm} {W : WX} {pos : Pos} {a b : Expr} {f g : Env → M T} {C j k : Nat} {F : List T → M T}
theorem op_ownR {op : CmpOp} (hop : ∀ a b, compareOp op a b = richCompare op a b) (px : PxOk G C) (M : MethOk X.prog X.w X.base G k C (cmpInfo op).2.1 2 [] F) (hK : X.K = G.K) (hM : X.mg = G.mg) (hr : Room j X.A) (hk : k ≤ j) : OpR X (compareOp op) (r2own G C (own2r C F)) := by
  intro pins s σ H x y v u Q I rx ry h
  obtain ⟨w, r, t, u', g0, d1, d2, h⟩ := h
  unfold own2r at h
  by_cases hp : isRefT u' = true
  · rw [if_pos hp] at h
    obtain ⟨p, cA, fn, od, rfl, c, J, fi, ff, run⟩ := own_args M hK hM hr hk I rx ry ⟨w, r, t, u', g0, d1, d2, h⟩
    obtain ⟨mm, hF⟩ := I.fr
    obtain ⟨_, _, _, _, hn, _⟩ := px.ok cA c
    rw [← hK] at hn
    rw [hop]
    cases d2 with
    | @ref l qa hq =>
      have hk' : l < r.length := by rw [← g0.refs.len]; exact (List.getElem?_eq_some_iff.mp hq).1
      obtain ⟨qa', qvs, h1, h2, _, _⟩ := g0.refs.at_ l _ (List.getElem?_eq_getElem hk')
      rw [hq] at h1
      cases h1
      obtain ⟨its, _, pl, _⟩ := I.list (SqL.of h2)
      obtain rfl := ry
      obtain ⟨o, n, ho, hc, _, _⟩ := pl
      have LT : PySem.W.Looks (model X.prog X.w) s.heap (typeOf (.ref _)) o.cls := (PySem.W.Looks.ld ho).andThen .now
      rw [hc] at LT
      refine PySem.W.cmp_K (op := op) (tb := .type "list") hr.units0 hF I.ok.mod.kin J LT hn fi ff (wpAny_mono (run X.A (hr.mono hk) I.env0) (fun w s' z => ?_) fun _ _ e => e)
      obtain ⟨z', H', I', rz, qz⟩ := z
      exact SlX.cmpback rz ⟨z', H', I', rz, qz⟩
    | _ => cases hp
  · rw [if_neg hp] at h
    exact h.elim
theorem s_ownR {op : CmpOp} (hop : ∀ a b, compareOp op a b = richCompare op a b) (px : PxOk G C) (M : MethOk X.prog X.w X.base G k C (cmpInfo op).2.1 2 [] F) (hK : X.K = G.K) (hM : X.mg = G.mg) (hr : Room j X.A) (hk : k ≤ j) (ha : SE X G W a f) (hb : SE X G W b g) (hm : behindInMarks op b = false) :
    SE X G W (.Compare a [op] [b] pos) (fun env => f env >>= fun x => g env >>= fun y => own2r C F x y) := pe_imp (pe_cmpR (op_ownR hop px M hK hM hr hk) ha hb hm) fun σ H Q hq => own_use own2r_ne hq
theorem e_own2r {us : List T} {m : Nat} {r r' : RS} {z : T} (h : F [.obj C us, .ref m] r = .ok z r') : own2r C F (.obj C us) (.ref m) r = .ok z r' := by
  show (if true = true then own2 C F (.obj C us) (.ref m) else M.bad) r = _
  exact Dr.e_own2 h
end
end Ep
/-! the top's run cut between its statements: each lot of statements one run of the kernel, from a told state to a told state. -/
noncomputable section
namespace Ep.Hd
open PySem PySem.W PySem.Calls PyProof.Rows HandSHeadRun
abbrev vS (x : String) (n : Nat) : Value := .str (Str.ofString x) n
abbrev vI (x : Int) (n : Nat) : Value := .int x n
abbrev vR (a : Nat) : Value := .ref a
abbrev vT (x : String) : Value := .type x
abbrev vB (x : String) : Value := .builtin x
abbrev oO (c : Value) (d : Option Addr) (x : Data) (s : List (Option Value)) : Obj := ⟨c, d, x, s.toArray⟩
abbrev oF (l : List Value) : Obj := ⟨.none, none, .fields l.toArray, #[]⟩
abbrev oT (l : List Value) : Obj := ⟨.type "tuple", none, .seq l.toArray, #[]⟩
abbrev dE (P : Params) (x : String) (n : Nat) (v : Value) : DictEntry := ⟨PyData.keyHash P (Str.ofString x), .str (Str.ofString x) n, v⟩
abbrev nN (o : Obj) (l r : BT) : BT := .node o l r
abbrev nL : BT := .nil
def stA : Stmt → Arguments
  | .FunctionDef _ a .. => a
  | _ => ⟨[], [], none, [], [], none, []⟩
def stB : Stmt → List Stmt
  | .FunctionDef _ _ b .. => b
  | .ClassDef _ _ _ b .. => b
  | _ => []
def stS : Stmt → Scope
  | .FunctionDef _ _ _ _ _ _ s .. => s
  | .ClassDef _ _ _ _ _ _ s .. => s
  | _ => ⟨.function, [], false, false, []⟩
def atB (l : List Stmt) (i : Nat) : Stmt := l.getD i (.Pass ⟨0, 0, 0, 0⟩)
abbrev fnD (n q : String) (a : Arguments) (b : List Stmt) (sc : Scope) (g : Addr) (cl : List (Str × Addr)) (df kd doc pm : Value) (an : Option Addr) (cd ct : Value) (bi : Addr) : Data := .func ⟨Str.ofString n, Str.ofString q, a, .stmts b, sc, g, cl, df, kd, doc, pm, an, cd, ct, bi⟩
abbrev vN : Value := .none
/-- the record of a def, its function object, its code object -/
abbrev rD (n q : String) (a : Arguments) (x : Stmt) : Obj := oO vN none (fnD n q a (stB x) (stS x) 0 [] vN vN vN vN none vN vN 0) []
abbrev fD (n q : String) (x : Stmt) (cl : List (Str × Addr)) (df kd doc : Value) (m : String) (mk : Nat) (cd : Addr) (ct : Value) : Obj := oO (vT "function") none (fnD n q (stA x) (stB x) (stS x) 3 cl df kd doc (vS m mk) none (vR cd) ct 0) []
abbrev cD (n q : String) (k : Nat) (l a b c d : Int) (r1 : Addr) (o : Bool) (e : Int) (r2 : Addr) (v : List Value) (t : Nat) (l2 : Int) : Obj := oO (vT "code") none (.fields (List.toArray ([vS n k, vS q (k + 1), vS "/claim/cut.py" (k + 2), vI l 0, vI a 0, vI b 0, vI c 0, vI d 0, vR r1, .bool o, vI e 0, vR r2] ++ v ++ [vI t 0, vI l2 0, vS "/claim/cut.py" (t + 1)]))) []
section
variable (st : SharedT → Thread → Option (SharedT × Thread)) (n0 : Nat) (ann : Option Value)
/-- to the end of some statements -/
def segF (b : Nat) : Nat → SharedT → Thread → Option (Flow × SharedT × Code × Pos)
  | 0, _, _ => none
  | n + 1, s, t => match endAt b t with
    | some f => some (f, s, t.code, t.pos)
    | none => match stepOk n0 ann t with
      | false => none
      | true => match st s t with
        | some (s', t') => frS s' fun s' => segF b n s' t'
        | none => none
/-- so many steps of the top -/
def topF : Nat → SharedT → Thread → Option (SharedT × Thread)
  | 0, s, t => some (s, t)
  | n + 1, s, t => match through t with
    | true => none
    | false => match stepOk n0 ann t with
      | false => none
      | true => match st s t with
        | some (s', t') => frS s' fun s' => topF n s' t'
        | none => none
end
section
variable {tb : String → Option Builtin} {p : Program} {w : World} {n0 b : Nat} {ann : Option Value}
theorem segF_ok : ∀ {n : Nat} {s s' : SharedT} {t : Thread} {f : Flow} {c : Code} {q : Pos}, segF (stepT (denote tb) p w) n0 ann b n s t = some (f, s', c, q) → segRun tb p w n0 ann b n s.abs t = some (f, s'.abs, c, q) := by
  intro n
  induction n with
  | zero => intro s s' t f c q h; exact absurd h (by simp [segF])
  | succ n ih =>
    intro s s' t f c q h
    unfold segF at h
    unfold segRun
    cases e1 : endAt b t with
    | some g => simp only [e1] at h ⊢; cases h; rfl
    | none =>
      simp only [e1] at h ⊢
      cases e2 : stepOk n0 ann t with
      | false => simp only [e2] at h; exact nomatch h
      | true =>
        simp only [e2] at h ⊢
        cases e3 : stepT (denote tb) p w s t with
        | none => simp only [e3] at h; exact nomatch h
        | some r =>
          obtain ⟨s2, t2⟩ := r
          simp only [e3, frS_eq] at h
          rw [stepT_spec e3]
          exact ih h
theorem topF_ok : ∀ {n : Nat} {s s' : SharedT} {t t' : Thread}, topF (stepT (denote tb) p w) n0 ann n s t = some (s', t') → topGo tb p w n0 ann n s.abs t = some (s'.abs, t') := by
  intro n
  induction n with
  | zero => intro s s' t t' h; cases h; rfl
  | succ n ih =>
    intro s s' t t' h
    unfold topF at h
    unfold topGo
    cases e1 : through t with
    | true => simp only [e1] at h; exact nomatch h
    | false =>
      simp only [e1] at h ⊢
      cases e2 : stepOk n0 ann t with
      | false => simp only [e2] at h; exact nomatch h
      | true =>
        simp only [e2] at h ⊢
        cases e3 : stepT (denote tb) p w s t with
        | none => simp only [e3] at h; exact nomatch h
        | some r =>
          obtain ⟨s2, t2⟩ := r
          simp only [e3, frS_eq] at h
          rw [stepT_spec e3]
          exact ih h
end
/-! by the library's twins -/
def execsQ : List Stmt → PySem.Env → Sem Flow := PySem.W.Fast.tw12563942051412417395
theorem execsQ_eq : @PySem.execs = execsQ := PySem.W.Fast.te12563942051412417395
def startQ : List Stmt → PySem.Env → Sem Unit := PySem.W.Fast.tw1066825118222455980
theorem startQ_eq : @PySem.blockStart = startQ := PySem.W.Fast.te1066825118222455980
def someQ (l : List Stmt) (env : PySem.Env) (c : Code) (p : Pos) (B : List Frame) : Thread := ⟨(execsQ l env).wrap doneF deadEnd id id, c, p, B⟩
theorem someQ_eq (l : List Stmt) (env : PySem.Env) (c : Code) (p : Pos) (B : List Frame) : someQ l env c p B = piecesOf l env c p B := by
  show (⟨(execsQ l env).wrap doneF deadEnd id id, c, p, B⟩ : Thread) = ⟨(PySem.execs l env).wrap doneF deadEnd id id, c, p, B⟩
  rw [execsQ_eq]
def headQ (l : List Stmt) (env : PySem.Env) (c : Code) (p : Pos) (B : List Frame) : Thread := ⟨(startQ l env).wrap (fun _ => doneF .next) deadEnd id id, c, p, B⟩
theorem headQ_eq (l : List Stmt) (env : PySem.Env) (c : Code) (p : Pos) (B : List Frame) : headQ l env c p B = blockOf l env c p B := by
  show (⟨(startQ l env).wrap (fun _ => doneF .next) deadEnd id id, c, p, B⟩ : Thread) = ⟨(PySem.blockStart l env).wrap (fun _ => doneF .next) deadEnd id id, c, p, B⟩
  rw [startQ_eq]
abbrev stQ (p : Program) (w : World) : SharedT → Thread → Option (SharedT × Thread) := stepQ (denQ tabQ) p w
theorem stQ_eq (p : Program) (w : World) : stepT (denote treeTable) p w = stQ p w := by rw [stepQ_eq, denQ_eq, tabQ_eq]
section
variable {p : Program} {w : World} {n0 : Nat} {ann : Option Value} {env : PySem.Env} {q : Pos}
/-- a lot of statements, then the rest -/
theorem lot {n N : Nat} {s s' : SharedT} {r : Shared} {l rest : List Stmt} {c : Code} {pos p' : Pos} (h : segF (stQ p w) n0 ann 1 n s (someQ l env c pos [topFrame q]) = some (.next, s', c, p'))
    (k : topRun treeTable p w n0 ann N s'.abs (PySem.W.restOf rest env c p' [topFrame q]) = some r) : topRun treeTable p w n0 ann (n + N) s.abs (PySem.W.restOf (l ++ rest) env c pos [topFrame q]) = some r := by
  rw [someQ_eq, ← stQ_eq] at h
  exact piece_app (segF_ok h) k
/-- ahead of the statements -/
theorem ahead {n N M : Nat} {s s1 s2 : SharedT} {r : Shared} {b l : List Stmt} {c : Code} {pos p' : Pos} {t : Thread} (h : topF (stQ p w) n0 ann n s t = some (s1, ⟨denQ tabQ (.body b env), c, pos, [topFrame q]⟩))
    (h2 : segF (stQ p w) n0 ann 1 M s1 (headQ b env c pos [topFrame q]) = some (.next, s2, c, p')) (hb : b = l)
    (k : topRun treeTable p w n0 ann N s2.abs (PySem.W.restOf l env c p' [topFrame q]) = some r) : topRun treeTable p w n0 ann (n + (M + N)) s.abs t = some r := by
  rw [← stQ_eq] at h h2
  rw [headQ_eq] at h2
  rw [← denQ_eq, ← tabQ_eq] at h
  subst hb
  exact go_top (topF_ok h) (piece_block (segF_ok h2) k)
/-- behind them -/
theorem behind {N : Nat} {s r : SharedT} {c : Code} {pos : Pos} (h : goF (stQ p w) n0 ann N s ⟨doneF .next, c, pos, [topFrame q]⟩ = some r) : topRun treeTable p w n0 ann N s.abs (PySem.W.restOf [] env c pos [topFrame q]) = some r.abs := by
  rw [← stQ_eq] at h
  exact piece_nil (goF_ok h)
end
/-- the boot's heap is the tree's -/
theorem boot_abs {w : World} {os : OsState} {t : PySem.W.BT} {n : Nat} (e : putAll (boot_heap w.params).objs.toList .nil 0 = some (t, n)) : (bootT w os (t, n)).abs = ⟨boot_heap w.params, #[], boot_drawn, boot_toks, os⟩ := by
  show (⟨absHeap t n (boot_heap w.params).life, #[], boot_drawn, boot_toks, os⟩ : Shared) = _
  rw [putAll_heap e]
/-- the state behind the top as a Shared over the params -/
structure Fin_ where
  tr : Params → PySem.W.BT
  n : Nat
  life : Life
  gens : Array GenState
  drawn : Drawn
  toks : Nat
abbrev Fin_.at (f : Fin_) (w : World) (os : OsState) : SharedT := ⟨f.tr w.params, f.n, f.life, f.gens, f.drawn, f.toks, os⟩
/-- LeftO of a run told in lots -/
theorem left_lots {p q : Program} {loose : List Str} {Xt : Shared → Bool} {α : Type} {Yf : Shared → α} {Ya : World → α} {M N n0 : Nat} {ann : Option Value} (f : Fin_)
    (e : opening p = plainProg p.main.scope.names) (hN : Nat.ble 600 N = true) (fe : ∀ s, fenceModules? p s = some s) (le : Nat.ble M N = true)
    (size : ∀ w : World, ((boot_heap w.params).isNs mainGlobals && (Array.mk [] : Array GenState).size == 0, (boot_heap w.params).objs.size, (boot_heap w.params).nsMap mainGlobals "__annotations__") = (true, n0, ann))
    (run : ∀ (w : World) (os : OsState), topRun treeTable p w n0 ann M ⟨boot_heap w.params, Array.mk [], boot_drawn, boot_toks, os⟩ (topStub p) = some (f.at w os).abs)
    (l1 : ∀ (w : World) (os : OsState), looksF p (boot_heap w.params) (f.at w os).abs = true) (l2 : ∀ (w : World) (os : OsState), seenQ q loose (importedModules p.main.body) Xt (f.at w os).abs = openGood q loose)
    (l3 : ∀ (w : World) (os : OsState), Yf (f.at w os).abs = Ya w) : LeftO p q loose Xt Yf Ya N true :=
  LeftO.of_pieces (H₁ := fun P => absHeap (f.tr P) f.n f.life) (boot_open e hN fe) size run le fun w => by
    funext os
    have a := l1 w os
    have b := l2 w os
    rw [← seenQ_eq] at b
    exact Prod.ext a (Prod.ext b (l3 w os))
/-- the law over what its top leaves -/
theorem head_lots {r : OpenRow} {q : Program} {Hk : Hook} {N : Nat} {ls : List PySem.Str} {df : DefRec} {kws : List (PySem.Str × PySem.Expr)}
    (left : LeftO r.prog q ls (fun s => xlAt q [] s && recOk r.toRowW.records s) Hk.obs Hk.val N true)
    (a1 : defOf q r.name = some (df, kws)) (a2 : r.prog.theDef r.name = some (df.params, df.body, df.scope)) (a3 : kwWritten? df.params.kwonlyargs df.params.kw_defaults = some kws) (a4 : (!r.writes || r.records.isEmpty) = true)
    (a5 : r.wellSaid = true) (a6 : (chainsOk q && opensWell r.prog && (frees r.toRowW && r.within.isEmpty)) = true) (a7 : r.prog.bare) (a8 : r.toRowW.promised)
    (walk : WalkO q ls (XL q []) Hk.says r.toRowW df kws fun f vs => PySem.call f vs) : r.Holds := by
  have two : ∀ s : Shared, (xlAt q [] s && recOk r.toRowW.records s) = true → xlAt q [] s = true ∧ recOk r.toRowW.records s = true := fun s h => Bool.and_eq_true_iff.mp h
  refine holds_open left Hk.of Hk.keeps (fun s h => ?_) ?_ a1 a2 a3 (fun s h => ?_) a4 a5 a6 a7 a8 walk
  · exact xl_of s (two s h).1
  · exact XL.keeps
  · exact recFacts_of (two s h).2
/-! what is looked at, in parts -/
theorem obs_join {q : EndQ} {n : Nat} {fa : List He.Fa} {fn : List He.DefD} {s : SharedT} {w : World} {K : PySem.W.Frag} (hK : fragF (getT s) n = K) (hf : (fa.all fun f => f.ok K) = true) (hd : (fn.all fun d => d.ok K) = true)
    (he : (fn.map fun d => He.fnW K d.at_) = fn.map He.DefD.val) (hc : ((q.ck K).all id, q.su K, q.ds K) = (true, q.sv, q.dv w.params)) : obsS q n fa fn (getT s) = (hookS q n fa fn).val w := by
  subst hK
  refine Prod.ext (Prod.ext ?_ he) hc
  show ((fa.all fun f => f.ok (fragF (getT s) n)) && fn.all fun d => d.ok (fragF (getT s) n)) = true
  rw [hf, hd]; rfl
theorem all_cut {α : Type} (m : Nat) {l : List α} {p : α → Bool} (h1 : (l.take m).all p = true) (h2 : (l.drop m).all p = true) : l.all p = true := by
  rw [← List.take_append_drop m l, List.all_append, h1, h2]; rfl
/-! the tables of the text, by the library's twin -/
def sumsQ (A : TablesWhole.Alg Bool) (top : Scope) (cx : TablesWhole.Ctx) (sc : Scope) (l : List Stmt) : Bool := PySem.W.Fast.tw16421684217811934046 A top cx sc l
theorem sumsQ_eq (A : TablesWhole.Alg Bool) (top : Scope) (cx : TablesWhole.Ctx) (sc : Scope) (l : List Stmt) : TablesWhole.wSs A top cx sc l = sumsQ A top cx sc l := by
  have := @PySem.W.Fast.te16421684217811934046
  unfold sumsQ
  rw [← this]
def toldQ (A : TablesWhole.Alg (List Str)) (top : Scope) (cx : TablesWhole.Ctx) (sc : Scope) (l : List Stmt) : List Str := PySem.W.Fast.tw16421684217811934046 A top cx sc l
theorem toldQ_eq (A : TablesWhole.Alg (List Str)) (top : Scope) (cx : TablesWhole.Ctx) (sc : Scope) (l : List Stmt) : TablesWhole.wSs A top cx sc l = toldQ A top cx sc l := by
  have := @PySem.W.Fast.te16421684217811934046
  unfold toldQ
  rw [← this]
theorem sums_app (A : TablesWhole.Alg Bool) (hA : ∀ a b, A.both a b = (a && b)) (hu : A.unit = true) (top : Scope) (cx : TablesWhole.Ctx) (sc : Scope) : ∀ l m : List Stmt, TablesWhole.wSs A top cx sc (l ++ m) = (TablesWhole.wSs A top cx sc l && TablesWhole.wSs A top cx sc m)
  | [], m => by
    show TablesWhole.wSs A top cx sc m = _
    rw [TablesWhole.wSs, hu, Bool.true_and]
  | s :: l, m => by
    rw [List.cons_append, TablesWhole.wSs, TablesWhole.wSs, hA, hA, sums_app A hA hu top cx sc l m, Bool.and_assoc]
/-- the statements' tables, lot by lot -/
theorem sums_more {top : Scope} {cx : TablesWhole.Ctx} {sc : Scope} {l m : List Stmt} (h1 : sumsQ TablesWhole.holds top cx sc l = true) (h2 : sumsQ TablesWhole.holds top cx sc m = true) : sumsQ TablesWhole.holds top cx sc (l ++ m) = true := by
  rw [← sumsQ_eq] at h1 h2 ⊢
  rw [sums_app _ (fun _ _ => rfl) rfl, h1, h2]; rfl
theorem sums_is {top : Scope} {cx : TablesWhole.Ctx} {sc : Scope} {l m : List Stmt} (e : l = m) (h : sumsQ TablesWhole.holds top cx sc m = true) : sumsQ TablesWhole.holds top cx sc l = true := e ▸ h
theorem whole_of {p : Program} {told : List Str} (h1 : p.modules = []) (h2 : p.parses = []) (h3 : p.harvested = []) (ht : toldQ TablesWhole.gather p.main.scope ⟨p.main.scope, [], [], [], none⟩ p.main.scope p.main.body = told)
    (hn : TablesWhole.noTwice p.main.scope = true) (h : sumsQ TablesWhole.holds p.main.scope ⟨p.main.scope, [], told, [], none⟩ p.main.scope p.main.body = true) : p.tablesWhole = true := by
  rw [← toldQ_eq] at ht
  rw [← sumsQ_eq, ← ht] at h
  unfold PySem.Program.tablesWhole TablesWhole.wProgram
  rw [h1, h2, h3]
  have e : TablesWhole.wModule TablesWhole.holds p.main = true := by
    show (true && (TablesWhole.noTwice p.main.scope && (TablesWhole.wSs TablesWhole.holds p.main.scope ⟨p.main.scope, [], TablesWhole.wSs TablesWhole.gather p.main.scope ⟨p.main.scope, [], [], [], none⟩ p.main.scope p.main.body, [], none⟩ p.main.scope p.main.body && true))) = true
    rw [hn, h]; rfl
  show (TablesWhole.wModule TablesWhole.holds p.main && (true && (true && (true && true)))) = true
  rw [e]; rfl
end Ep.Hd
end
/-! rows of segments: what a place shows, and one row for each showing. -/
namespace Rg
/-- a segment: from, below, a value; none: no end -/
abbrev Sg (α : Type) := Option Int × Option Int × α
def loB (lo : Option Int) (i : Int) : Bool := match lo with | none => true | some l => decide (l ≤ i)
def hiB (hi : Option Int) (i : Int) : Bool := match hi with | none => true | some h => decide (i < h)
def inb (lo hi : Option Int) (i : Int) : Bool := loB lo i && hiB hi i
def fits (lo hi : Option Int) : Bool := match lo, hi with | some l, some h => decide (l < h) | _, _ => true
theorem inb_ss {l h i : Int} : inb (some l) (some h) i = true ↔ l ≤ i ∧ i < h := by simp [inb, loB, hiB]
theorem inb_sn {l i : Int} : inb (some l) none i = true ↔ l ≤ i := by simp [inb, loB, hiB]
theorem inb_ns {h i : Int} : inb none (some h) i = true ↔ i < h := by simp [inb, loB, hiB]
theorem inb_lo {l : Int} {hi : Option Int} {i : Int} (h : inb (some l) hi i = true) : l ≤ i := by
  cases hi with
  | none => exact inb_sn.mp h
  | some k => exact (inb_ss.mp h).1
theorem inb_hi {lo : Option Int} {k i : Int} (h : inb lo (some k) i = true) : i < k := by
  cases lo with
  | none => exact inb_ns.mp h
  | some l => exact (inb_ss.mp h).2
/-- a segment has a place -/
theorem fits_ex {lo hi : Option Int} (f : fits lo hi = true) : ∃ i, inb lo hi i = true := by
  cases lo with
  | none =>
    cases hi with
    | none => exact ⟨0, rfl⟩
    | some k => exact ⟨k - 1, inb_ns.mpr (by omega)⟩
  | some l =>
    cases hi with
    | none => exact ⟨l, inb_sn.mpr (by omega)⟩
    | some k => exact ⟨l, inb_ss.mpr ⟨by omega, of_decide_eq_true f⟩⟩
section
variable {α : Type} [DecidableEq α]
/-- what a row shows at a place -/
def at_ (d : α) : List (Sg α) → Int → α
  | [], _ => d
  | (lo, hi, v) :: r, i => if inb lo hi i = true then v else at_ d r i
/-- s lies below t, and unlike where they touch -/
def sep (s t : Sg α) : Prop := ∃ h l, s.2.1 = some h ∧ t.1 = some l ∧ (h < l ∨ h = l ∧ s.2.2 ≠ t.2.2)
/-- the one row -/
structure Can (d : α) (xs : List (Sg α)) : Prop where
  ok : ∀ s ∈ xs, s.2.2 ≠ d ∧ fits s.1 s.2.1 = true
  sp : xs.Pairwise sep
theorem Can.nil (d : α) : Can d ([] : List (Sg α)) := ⟨fun _ h => (List.not_mem_nil h).elim, .nil⟩
theorem Can.tail {d : α} {s : Sg α} {xs : List (Sg α)} (c : Can d (s :: xs)) : Can d xs := ⟨fun t h => c.ok t (List.mem_cons_of_mem _ h), (List.pairwise_cons.mp c.sp).2⟩
/-- behind the first segment nothing shows below its end -/
theorem at_low {d : α} {lo hi : Option Int} {v : α} : ∀ {xs : List (Sg α)}, (∀ t ∈ xs, sep (lo, hi, v) t) → ∀ {k i : Int}, hi = some k → i < k → at_ d xs i = d
  | [], _, _, _, _, _ => rfl
  | (a, b, w) :: xs, h, k, i, e, lt => by
    obtain ⟨h1, l1, e1, e2, e3⟩ := h _ (List.mem_cons_self ..)
    have e1 : hi = some h1 := e1
    have e2 : a = some l1 := e2
    rw [e] at e1
    cases e1
    subst e2
    unfold at_
    rw [if_neg]
    · exact at_low (fun t m => h t (List.mem_cons_of_mem _ m)) e lt
    · intro q
      have := inb_lo q
      rcases e3 with e3 | e3 <;> omega
theorem none_last {d : α} {lo : Option Int} {v : α} {xs : List (Sg α)} (c : Can d ((lo, none, v) :: xs)) : xs = [] := by
  cases xs with
  | nil => rfl
  | cons t xs =>
    obtain ⟨h, l, e, _⟩ := (List.pairwise_cons.mp c.sp).1 t (List.mem_cons_self ..)
    cases e
theorem at_in {d : α} {lo hi : Option Int} {v : α} {xs : List (Sg α)} {i : Int} (h : inb lo hi i = true) : at_ d ((lo, hi, v) :: xs) i = v := by unfold at_; rw [if_pos h]
theorem at_off {d : α} {lo hi : Option Int} {v : α} {xs : List (Sg α)} {i : Int} (h : ¬ inb lo hi i = true) : at_ d ((lo, hi, v) :: xs) i = at_ d xs i := by conv => lhs; unfold at_; rw [if_neg h]
/-- the tail shows what the row shows, but in the first segment -/
theorem at_tail {d : α} {lo hi : Option Int} {v : α} {xs : List (Sg α)} (c : Can d ((lo, hi, v) :: xs)) (i : Int) : at_ d xs i = if inb lo hi i = true then d else at_ d ((lo, hi, v) :: xs) i := by
  by_cases h : inb lo hi i = true
  · rw [if_pos h]
    cases hi with
    | none => rw [none_last c]; rfl
    | some k => exact at_low (List.pairwise_cons.mp c.sp).1 rfl (inb_hi h)
  · rw [if_neg h, at_off h]
/-- below the first segment nothing shows -/
theorem at_below {d : α} {l : Int} {hi : Option Int} {v : α} {xs : List (Sg α)} (c : Can d ((some l, hi, v) :: xs)) {i : Int} (h : i < l) : at_ d ((some l, hi, v) :: xs) i = d := by
  rw [at_off (fun q => by have := inb_lo q; omega)]
  cases hi with
  | none => rw [none_last c]; rfl
  | some k =>
    have f := (c.ok _ (List.mem_cons_self ..)).2
    have : l < k := of_decide_eq_true f
    exact at_low (List.pairwise_cons.mp c.sp).1 rfl (by omega)
/-- at the first segment's end something else shows -/
theorem at_end {d : α} {lo : Option Int} {k : Int} {v : α} {xs : List (Sg α)} (c : Can d ((lo, some k, v) :: xs)) : at_ d ((lo, some k, v) :: xs) k ≠ v := by
  rw [at_off (fun q => by have := inb_hi q; omega)]
  have nv := (c.ok _ (List.mem_cons_self ..)).1
  cases xs with
  | nil => exact fun e => nv e.symm
  | cons t xs =>
    obtain ⟨a, b, w⟩ := t
    obtain ⟨h, l, e1, e2, e3⟩ := (List.pairwise_cons.mp c.sp).1 _ (List.mem_cons_self ..)
    cases e1
    have e2 : a = some l := e2
    subst e2
    rcases e3 with e3 | ⟨e3, e4⟩
    · rw [at_below c.tail e3]; exact fun e => nv e.symm
    · subst e3
      rw [at_in]
      · exact fun e => e4 e.symm
      · have f := (c.tail.ok _ (List.mem_cons_self ..)).2
        cases b with
        | none => exact inb_sn.mpr (by omega)
        | some b' => exact inb_ss.mpr ⟨by omega, of_decide_eq_true f⟩
theorem fits_at {l : Int} {hi : Option Int} (f : fits (some l) hi = true) : inb (some l) hi l = true := by
  cases hi with
  | none => exact inb_sn.mpr (by omega)
  | some k => exact inb_ss.mpr ⟨by omega, of_decide_eq_true f⟩
/-- rows that show the same begin the same -/
theorem can_lo {d : α} {lo hi lo' hi' : Option Int} {v v' : α} {xs ys : List (Sg α)} (c : Can d ((lo, hi, v) :: xs)) (c' : Can d ((lo', hi', v') :: ys)) (h : ∀ i, at_ d ((lo, hi, v) :: xs) i = at_ d ((lo', hi', v') :: ys) i) {l : Int} (e : lo = some l) : ∃ l', lo' = some l' ∧ l ≤ l' := by
  subst e
  cases lo' with
  | some l' =>
    refine ⟨l', rfl, ?_⟩
    rcases Int.lt_or_le l' l with q | q
    · have := at_below c q
      rw [h, at_in (fits_at (c'.ok _ (List.mem_cons_self ..)).2)] at this
      exact absurd this (c'.ok _ (List.mem_cons_self ..)).1
    · exact q
  | none =>
    obtain ⟨k, hk, hl⟩ : ∃ k : Int, inb none hi' k = true ∧ k < l := by
      cases hi' with
      | none => exact ⟨l - 1, rfl, by omega⟩
      | some m => exact ⟨min (l - 1) (m - 1), inb_ns.mpr (by omega), by omega⟩
    have := at_below c hl
    rw [h, at_in hk] at this
    exact absurd this (c'.ok _ (List.mem_cons_self ..)).1
theorem can_hi {d : α} {lo hi hi' : Option Int} {v : α} {xs ys : List (Sg α)} (c : Can d ((lo, hi, v) :: xs)) (c' : Can d ((lo, hi', v) :: ys)) (h : ∀ i, at_ d ((lo, hi, v) :: xs) i = at_ d ((lo, hi', v) :: ys) i) {k : Int} (e : hi = some k) : ∃ k', hi' = some k' ∧ k' ≤ k := by
  subst e
  have ne := at_end c
  rw [h] at ne
  have nin : ¬ inb lo hi' k = true := fun q => ne (at_in q)
  have lk : ∀ l, lo = some l → l < k := fun l e => by subst e; exact of_decide_eq_true (c.ok _ (List.mem_cons_self ..)).2
  cases hi' with
  | none =>
    cases lo with
    | none => exact absurd rfl nin
    | some l => exact absurd (inb_sn.mpr (Int.le_of_lt (lk l rfl))) nin
  | some k' =>
    refine ⟨k', rfl, ?_⟩
    rcases Int.lt_or_le k k' with q | q
    · cases lo with
      | none => exact absurd (inb_ns.mpr q) nin
      | some l => exact absurd (inb_ss.mpr ⟨Int.le_of_lt (lk l rfl), q⟩) nin
    · exact q
/-- one row for each showing -/
theorem can_one {d : α} : ∀ {xs ys : List (Sg α)}, Can d xs → Can d ys → (∀ i, at_ d xs i = at_ d ys i) → xs = ys
  | [], [], _, _, _ => rfl
  | [], (lo, hi, v) :: ys, _, c', h => by
    obtain ⟨i, hi⟩ := fits_ex (c'.ok _ (List.mem_cons_self ..)).2
    have := h i
    rw [at_in hi] at this
    exact absurd this.symm (c'.ok _ (List.mem_cons_self ..)).1
  | (lo, hi, v) :: xs, [], c, _, h => by
    obtain ⟨i, hi⟩ := fits_ex (c.ok _ (List.mem_cons_self ..)).2
    have := h i
    rw [at_in hi] at this
    exact absurd this (c.ok _ (List.mem_cons_self ..)).1
  | (lo, hi, v) :: xs, (lo', hi', v') :: ys, c, c', h => by
    have h' : ∀ i, at_ d ((lo', hi', v') :: ys) i = at_ d ((lo, hi, v) :: xs) i := fun i => (h i).symm
    have el : lo = lo' := by
      cases lo with
      | none =>
        cases lo' with
        | none => rfl
        | some l' => obtain ⟨_, e, _⟩ := can_lo c' c h' rfl; cases e
      | some l =>
        obtain ⟨l', e, q⟩ := can_lo c c' h rfl
        subst e
        obtain ⟨l2, e, q'⟩ := can_lo c' c h' rfl
        cases e
        rw [show l = l' by omega]
    subst el
    have ev : v = v' := by
      obtain ⟨i, h1, h2⟩ : ∃ i, inb lo hi i = true ∧ inb lo hi' i = true := by
        have f1 := (c.ok _ (List.mem_cons_self ..)).2
        have f2 := (c'.ok _ (List.mem_cons_self ..)).2
        cases lo with
        | some l => exact ⟨l, fits_at f1, fits_at f2⟩
        | none =>
          cases hi with
          | none => exact (fits_ex f2).elim fun i q => ⟨i, rfl, q⟩
          | some k =>
            cases hi' with
            | none => exact (fits_ex f1).elim fun i q => ⟨i, q, rfl⟩
            | some k' => exact ⟨min (k - 1) (k' - 1), inb_ns.mpr (by omega), inb_ns.mpr (by omega)⟩
      have := h i
      rw [at_in h1, at_in h2] at this
      exact this
    subst ev
    have eh : hi = hi' := by
      cases hi with
      | none =>
        cases hi' with
        | none => rfl
        | some k' => obtain ⟨_, e, _⟩ := can_hi c' c h' rfl; cases e
      | some k =>
        obtain ⟨k', e, q⟩ := can_hi c c' h rfl
        subst e
        obtain ⟨k2, e, q'⟩ := can_hi c' c h' rfl
        cases e
        rw [show k = k' by omega]
    subst eh
    rw [can_one c.tail c'.tail fun i => by rw [at_tail c, at_tail c', h i]]
end
end Rg
/-! rows joined; the lots between cuts. -/
namespace Rg
section
variable {α : Type} [DecidableEq α]
/-- a row goes behind the last one of a row that is told from its end on -/
def jn (d : α) (found : List (Sg α)) (s : Sg α) : List (Sg α) := if s.2.2 = d then found else match found with
  | [] => [s]
  | t :: r => if t.2.1 = s.1 ∧ t.2.2 = s.2.2 then (t.1, s.2.1, s.2.2) :: r else s :: t :: r
def joined (d : α) (rows : List (Sg α)) : List (Sg α) := (rows.foldl (jn d) []).reverse
theorem at_app (d : α) : ∀ (xs ys : List (Sg α)) (i : Int), at_ d (xs ++ ys) i = if xs.any (fun s => inb s.1 s.2.1 i) = true then at_ d xs i else at_ d ys i
  | [], ys, i => rfl
  | (lo, hi, v) :: xs, ys, i => by
    rw [List.cons_append, List.any_cons]
    by_cases h : inb lo hi i = true
    · rw [at_in h, at_in h, h]; rfl
    · rw [at_off h, at_off h, at_app d xs ys i, Bool.eq_false_iff.mpr h, Bool.false_or]
theorem sep_hi {s t u : Sg α} (h : sep s t) (e : u.1 = t.1) (ev : u.2.2 = t.2.2) : sep s u := by
  obtain ⟨h1, l1, e1, e2, e3⟩ := h
  exact ⟨h1, l1, e1, e.trans e2, by rw [ev]; exact e3⟩
/-- s, then m, then t: s lies below t -/
theorem sep_trans {s m t : Sg α} (a : sep s m) (f : fits m.1 m.2.1 = true) (b : sep m t) : sep s t := by
  obtain ⟨h1, l1, e1, e2, e3⟩ := a
  obtain ⟨h2, l2, e4, e5, e6⟩ := b
  rw [e2, e4] at f
  have : l1 < h2 := of_decide_eq_true f
  refine ⟨h1, l2, e1, e5, .inl ?_⟩
  rcases e3 with e3 | e3 <;> rcases e6 with e6 | e6 <;> omega
/-- a segment behind a row -/
theorem Can.snoc {d : α} {xs : List (Sg α)} {t s : Sg α} (c : Can d (xs ++ [t])) (h : sep t s) (ok : s.2.2 ≠ d ∧ fits s.1 s.2.1 = true) : Can d (xs ++ [t] ++ [s]) := by
  refine ⟨fun u m => ?_, ?_⟩
  · rcases List.mem_append.mp m with m | m
    · exact c.ok u m
    · rw [List.mem_singleton.mp m]; exact ok
  · refine List.pairwise_append.mpr ⟨c.sp, List.pairwise_singleton .., fun u m u' m' => ?_⟩
    rw [List.mem_singleton.mp m']
    rcases List.mem_append.mp m with m | m
    · exact sep_trans ((List.pairwise_append.mp c.sp).2.2 u m t (List.mem_singleton.mpr rfl)) (c.ok t (List.mem_append_right _ (List.mem_singleton.mpr rfl))).2 h
    · rw [List.mem_singleton.mp m]; exact h
/-- the last segment goes on -/
theorem Can.longer {d : α} {xs : List (Sg α)} {t : Sg α} (c : Can d (xs ++ [t])) {hi : Option Int} (f : fits t.1 hi = true) : Can d (xs ++ [(t.1, hi, t.2.2)]) := by
  refine ⟨fun u m => ?_, ?_⟩
  · rcases List.mem_append.mp m with m | m
    · exact c.ok u (List.mem_append_left _ m)
    · rw [List.mem_singleton.mp m]; exact ⟨(c.ok t (List.mem_append_right _ (List.mem_singleton.mpr rfl))).1, f⟩
  · obtain ⟨h1, _, h3⟩ := List.pairwise_append.mp c.sp
    refine List.pairwise_append.mpr ⟨h1, List.pairwise_singleton .., fun u m u' m' => ?_⟩
    rw [List.mem_singleton.mp m']
    exact sep_hi (h3 u m t (List.mem_singleton.mpr rfl)) rfl rfl
theorem any_app (xs ys : List (Sg α)) (i : Int) : (xs ++ ys).any (fun s => inb s.1 s.2.1 i) = (xs.any (fun s => inb s.1 s.2.1 i) || ys.any (fun s => inb s.1 s.2.1 i)) := List.any_append
/-- where no segment lies, nothing shows -/
theorem at_none {d : α} : ∀ {xs : List (Sg α)} {i : Int}, xs.any (fun s => inb s.1 s.2.1 i) = false → at_ d xs i = d
  | [], _, _ => rfl
  | (lo, hi, v) :: xs, i, h => by
    rw [List.any_cons, Bool.or_eq_false_iff] at h
    rw [at_off (by rw [h.1]; exact Bool.false_ne_true)]
    exact at_none h.2
/-- all of the row's segments end at or below b -/
def below (xs : List (Sg α)) (b : Option Int) : Prop := ∀ s ∈ xs, ∃ h k, s.2.1 = some h ∧ b = some k ∧ h ≤ k
theorem below_not {xs : List (Sg α)} {lo hi : Option Int} {i : Int} (h : below xs lo) (q : inb lo hi i = true) : xs.any (fun s => inb s.1 s.2.1 i) = false := by
  rw [List.any_eq_false]
  intro s m e
  obtain ⟨a, k, e1, e2, e3⟩ := h s m
  rw [e1] at e
  subst e2
  have := inb_hi e
  have := inb_lo q
  omega
/-- a row joined to a told one: still told, and it shows this row where this row lies -/
theorem jn_ok {d : α} {found : List (Sg α)} {s : Sg α} (c : Can d found.reverse) (b : below found s.1) (f : fits s.1 s.2.1 = true) : Can d (jn d found s).reverse ∧ (∀ i, at_ d (jn d found s).reverse i = if inb s.1 s.2.1 i = true then s.2.2 else at_ d found.reverse i) ∧ (∀ k, s.2.1 = some k → below (jn d found s) (some k)) := by
  obtain ⟨lo, hi, v⟩ := s
  have bn : ∀ i, inb lo hi i = true → found.reverse.any (fun s => inb s.1 s.2.1 i) = false := fun i q => below_not (fun s m => b s (List.mem_reverse.mp m)) q
  have bl : ∀ k, hi = some k → ∀ u ∈ found, ∃ h k', u.2.1 = some h ∧ some k = some k' ∧ h ≤ k' := fun k e u m => by
    obtain ⟨h, k', e1, e2, e3⟩ := b u m
    have e2 : lo = some k' := e2
    subst e e2
    have : k' < k := of_decide_eq_true f
    exact ⟨h, k, e1, rfl, by omega⟩
  unfold jn
  by_cases hv : v = d
  · rw [if_pos hv]
    refine ⟨c, fun i => ?_, fun k e => bl k e⟩
    show at_ d found.reverse i = if inb lo hi i = true then v else at_ d found.reverse i
    by_cases q : inb lo hi i = true
    · rw [if_pos q, hv, at_none (bn i q)]
    · rw [if_neg q]
  · rw [if_neg hv]
    cases found with
    | nil =>
      refine ⟨⟨fun t m => by rw [List.mem_singleton.mp (List.mem_reverse.mp m)]; exact ⟨hv, f⟩, List.pairwise_singleton ..⟩, fun i => rfl, fun k e t m => by rw [List.mem_singleton.mp m]; exact ⟨k, k, e, rfl, Int.le_refl _⟩⟩
    | cons t r =>
      obtain ⟨a, e, w⟩ := t
      rw [List.reverse_cons] at c bn
      obtain ⟨h, k', e1, e2, e3⟩ := b _ (List.mem_cons_self ..)
      have e1 : e = some h := e1
      have e2 : lo = some k' := e2
      subst e1 e2
      have lk : ∀ k, hi = some k → k' < k := fun k e => by subst e; exact of_decide_eq_true f
      have fa : ∀ x, a = some x → x < h := fun x ea => by subst ea; exact of_decide_eq_true (c.ok _ (List.mem_append_right _ (List.mem_singleton.mpr rfl))).2
      by_cases q : some h = some k' ∧ w = v
      · dsimp only
        rw [if_pos q]
        obtain ⟨q1, q2⟩ := q
        cases q1
        subst q2
        have fl : fits a hi = true := by
          cases a with
          | none => cases hi <;> rfl
          | some x =>
            cases hi with
            | none => rfl
            | some k => exact decide_eq_true (Int.lt_trans (fa x rfl) (lk k rfl))
        refine ⟨by rw [List.reverse_cons]; exact c.longer fl, fun i => ?_, fun k ek t m => ?_⟩
        · rw [List.reverse_cons, List.reverse_cons, at_app, at_app]
          by_cases o : inb (some h) hi i = true
          · rw [if_pos o]
            have nb := bn i o
            rw [any_app, Bool.or_eq_false_iff] at nb
            rw [nb.1, if_neg Bool.false_ne_true]
            refine at_in ?_
            have := inb_lo o
            cases a with
            | none =>
              cases hi with
              | none => rfl
              | some k => exact inb_ns.mpr (inb_hi o)
            | some x =>
              have := fa x rfl
              cases hi with
              | none => exact inb_sn.mpr (by omega)
              | some k => exact inb_ss.mpr ⟨by omega, inb_hi o⟩
          · rw [if_neg o]
            by_cases z : r.reverse.any (fun s => inb s.1 s.2.1 i) = true
            · rw [if_pos z, if_pos z]
            · rw [if_neg z, if_neg z]
              have same : inb a hi i = inb a (some h) i := by
                rw [Bool.eq_iff_iff]
                have no : ¬ (h ≤ i ∧ ∀ k, hi = some k → i < k) := fun ⟨o1, o2⟩ => o (by
                  cases hi with
                  | none => exact inb_sn.mpr o1
                  | some k => exact inb_ss.mpr ⟨o1, o2 k rfl⟩)
                cases a with
                | none =>
                  cases hi with
                  | none => rw [inb_ns]; exact ⟨fun _ => by rcases Int.lt_or_le i h with g | g; exact g; exact absurd ⟨g, fun k e => by cases e⟩ no, fun _ => rfl⟩
                  | some k => rw [inb_ns, inb_ns]; have := lk k rfl; exact ⟨fun g => by rcases Int.lt_or_le i h with g' | g'; exact g'; exact absurd ⟨g', fun k e => by cases e; exact g⟩ no, fun g => by omega⟩
                | some x =>
                  cases hi with
                  | none => rw [inb_sn, inb_ss]; exact ⟨fun g => ⟨g, by rcases Int.lt_or_le i h with g' | g'; exact g'; exact absurd ⟨g', fun k e => by cases e⟩ no⟩, fun g => g.1⟩
                  | some k => rw [inb_ss, inb_ss]; have := lk k rfl; exact ⟨fun g => ⟨g.1, by rcases Int.lt_or_le i h with g' | g'; exact g'; exact absurd ⟨g', fun k e => by cases e; exact g.2⟩ no⟩, fun g => ⟨g.1, by omega⟩⟩
              unfold at_
              rw [same]
        · rcases List.mem_cons.mp m with m | m
          · subst m; exact ⟨k, k, ek, rfl, Int.le_refl _⟩
          · exact bl k ek t (List.mem_cons_of_mem _ m)
      · dsimp only
        rw [if_neg q]
        refine ⟨?_, fun i => ?_, fun k ek t m => ?_⟩
        · rw [List.reverse_cons, List.reverse_cons]
          refine c.snoc ⟨h, k', rfl, rfl, ?_⟩ ⟨hv, f⟩
          rcases Int.lt_or_le h k' with g | g
          · exact .inl g
          · have : h = k' := by omega
            subst this
            exact .inr ⟨rfl, fun e => q ⟨rfl, e⟩⟩
        · rw [List.reverse_cons, List.reverse_cons, at_app]
          by_cases o : inb (some k') hi i = true
          · rw [if_pos o, bn i o, if_neg Bool.false_ne_true]
            exact at_in o
          · rw [if_neg o]
            by_cases z : (r.reverse ++ [(a, some h, w)]).any (fun s => inb s.1 s.2.1 i) = true
            · rw [if_pos z]
            · rw [if_neg z, at_off o, at_none (Bool.eq_false_iff.mpr z)]; rfl
        · rcases List.mem_cons.mp m with m | m
          · subst m; exact ⟨k, k, ek, rfl, Int.le_refl _⟩
          · exact bl k ek t m
/-- rows one behind the other, each with places -/
def Chain : Option Int → List (Sg α) → Prop
  | _, [] => True
  | b, s :: r => s.1 = b ∧ fits s.1 s.2.1 = true ∧ (s.2.1 = none → r = []) ∧ Chain s.2.1 r
theorem Chain.after {b : Int} : ∀ {rows : List (Sg α)}, Chain (some b) rows → ∀ {d : α} {i : Int}, i < b → at_ d rows i = d ∧ rows.any (fun s => inb s.1 s.2.1 i) = false
  | [], _, _, _, _ => ⟨rfl, rfl⟩
  | (lo, hi, v) :: r, ⟨e, f, n, c⟩, d, i, lt => by
    have e : lo = some b := e
    subst e
    have no : ¬ inb (some b) hi i = true := fun q => by have := inb_lo q; omega
    rw [at_off no, List.any_cons, Bool.eq_false_iff.mpr no, Bool.false_or]
    cases hi with
    | none => rw [n rfl]; exact ⟨rfl, rfl⟩
    | some k =>
      have : b < k := of_decide_eq_true f
      exact Chain.after c (by omega)
theorem fold_jn {d : α} : ∀ {rows found : List (Sg α)} {b : Option Int}, Can d found.reverse → below found b → Chain b rows → Can d (rows.foldl (jn d) found).reverse ∧ ∀ i, at_ d (rows.foldl (jn d) found).reverse i = if rows.any (fun s => inb s.1 s.2.1 i) = true then at_ d rows i else at_ d found.reverse i
  | [], found, b, c, _, _ => ⟨c, fun i => rfl⟩
  | s :: rows, found, b, c, bl, ⟨e, f, n, ch⟩ => by
    subst e
    obtain ⟨c1, a1, b1⟩ := jn_ok c bl f
    obtain ⟨lo, hi, v⟩ := s
    cases hi with
    | none =>
      obtain rfl := n rfl
      refine ⟨c1, fun i => ?_⟩
      rw [List.foldl_cons, List.foldl_nil, a1]
      simp only [List.any_cons, List.any_nil, Bool.or_false]
      by_cases q : inb lo none i = true
      · rw [if_pos q, if_pos q, at_in q]
      · rw [if_neg q, if_neg q]
    | some k =>
      obtain ⟨c2, a2⟩ := fold_jn c1 (b1 k rfl) ch
      refine ⟨c2, fun i => ?_⟩
      rw [List.foldl_cons, a2, a1, List.any_cons]
      dsimp only
      by_cases q : inb lo (some k) i = true
      · have := Chain.after (d := d) ch (inb_hi q)
        rw [this.2, if_neg Bool.false_ne_true, if_pos q, q, at_in q]; rfl
      · rw [if_neg q, Bool.eq_false_iff.mpr q, Bool.false_or, at_off q]
theorem joined_ok {d : α} {rows : List (Sg α)} {b : Option Int} (ch : Chain b rows) : Can d (joined d rows) ∧ ∀ i, at_ d (joined d rows) i = at_ d rows i := by
  obtain ⟨c, a⟩ := fold_jn (found := []) (Can.nil d) (fun s m => absurd m List.not_mem_nil) ch
  refine ⟨c, fun i => ?_⟩
  show at_ d (rows.foldl (jn d) []).reverse i = _
  rw [a i]
  by_cases q : rows.any (fun s => inb s.1 s.2.1 i) = true
  · rw [if_pos q]
  · rw [if_neg q, at_none (Bool.eq_false_iff.mpr q)]; rfl
end
/-! lots between cuts -/
def lots (b : Option Int) : List Int → List (Option Int × Option Int)
  | [] => [(b, none)]
  | e :: es => (b, some e) :: lots (some e) es
def lotRows {α : Type} (F : Option Int → Option Int → α) (b : Option Int) (es : List Int) : List (Sg α) := (lots b es).map fun p => (p.1, p.2, F p.1 p.2)
theorem lots_chain {α : Type} [DecidableEq α] {F : Option Int → Option Int → α} : ∀ {es : List Int} {b : Option Int}, es.Pairwise (· < ·) → (∀ k, b = some k → ∀ e ∈ es, k < e) → Chain b (lotRows F b es)
  | [], b, _, _ => ⟨rfl, by cases b <;> rfl, fun _ => rfl, trivial⟩
  | e :: es, b, p, h => by
    obtain ⟨p1, p2⟩ := List.pairwise_cons.mp p
    refine ⟨rfl, ?_, (fun q => by cases q), lots_chain p2 fun k ek x m => ?_⟩
    · cases b with
      | none => rfl
      | some k => exact decide_eq_true (h k rfl e (List.mem_cons_self ..))
    · cases ek; exact p1 x m
/-- the lot of a place: no cut parts it -/
theorem lot_of {α : Type} [DecidableEq α] {F : Option Int → Option Int → α} {d : α} : ∀ {es : List Int} {b : Option Int}, es.Pairwise (· < ·) → (∀ k, b = some k → ∀ e ∈ es, k < e) → ∀ i : Int, (∀ k, b = some k → k ≤ i) → ∃ lo hi, inb lo hi i = true ∧ at_ d (lotRows F b es) i = F lo hi ∧ (lo, hi) ∈ lots b es ∧ (∀ e ∈ es, (∃ l, lo = some l ∧ e ≤ l) ∨ ∃ k, hi = some k ∧ k ≤ e)
  | [], b, _, _, i, hb => by
    have q : inb b none i = true := by
      cases b with
      | none => rfl
      | some k => exact inb_sn.mpr (hb k rfl)
    exact ⟨b, none, q, at_in q, List.mem_singleton.mpr rfl, fun e m => (List.not_mem_nil m).elim⟩
  | e :: es, b, p, h, i, hb => by
    obtain ⟨p1, p2⟩ := List.pairwise_cons.mp p
    rcases Int.lt_or_le i e with g | g
    · have q : inb b (some e) i = true := by
        cases b with
        | none => exact inb_ns.mpr g
        | some k => exact inb_ss.mpr ⟨hb k rfl, g⟩
      refine ⟨b, some e, q, at_in q, List.mem_cons_self .., fun x m => .inr ⟨e, rfl, ?_⟩⟩
      rcases List.mem_cons.mp m with m | m
      · omega
      · have := p1 x m; omega
    · obtain ⟨lo, hi, h1, h2, h3, h4⟩ := lot_of (F := F) (d := d) (b := some e) p2 (fun k ek x m => by cases ek; exact p1 x m) i (fun k ek => by cases ek; exact g)
      have no : ¬ inb b (some e) i = true := fun q => by have := inb_hi q; omega
      refine ⟨lo, hi, h1, (at_off no).trans h2, List.mem_cons_of_mem _ h3, fun x m => ?_⟩
      rcases List.mem_cons.mp m with m | m
      · subst m
        -- the lot begins at e or behind
        cases lo with
        | some l =>
          refine .inl ⟨l, rfl, ?_⟩
          have : ∀ {es : List Int} {b : Int}, es.Pairwise (· < ·) → (∀ e ∈ es, b < e) → (some l, hi) ∈ lots (some b) es → b ≤ l := by
            intro es
            induction es with
            | nil => intro b _ _ m; cases List.mem_singleton.mp m; exact Int.le_refl _
            | cons y ys ih =>
              intro b p h m
              rcases List.mem_cons.mp m with m | m
              · cases m; exact Int.le_refl _
              · have := ih (List.pairwise_cons.mp p).2 (List.pairwise_cons.mp p).1 m
                have := h y (List.mem_cons_self ..)
                omega
          exact this p2 p1 h3
        | none =>
          have : ∀ {es : List Int} {b : Int}, (none, hi) ∈ lots (some b) es → False := by
            intro es
            induction es with
            | nil => intro b m; cases List.mem_singleton.mp m
            | cons y ys ih =>
              intro b m
              rcases List.mem_cons.mp m with m | m
              · cases m
              · exact ih m
          exact (this h3).elim
      · exact h4 x m
end Rg
/-! pairs of ends put together; slabs of boxes. -/
namespace Rg
open Ep (sortI sortI_perm sortI_le sort_one)
abbrev Pr := Option Int × Option Int
def pin (i : Int) (p : Pr) : Bool := inb p.1 p.2 i
def pfit (p : Pr) : Bool := fits p.1 p.2
def row (ps : List Pr) : List (Sg Bool) := ps.map fun p => (p.1, p.2, true)
theorem at_row : ∀ (ps : List Pr) (i : Int), at_ false (row ps) i = ps.any (pin i)
  | [], _ => rfl
  | p :: ps, i => by
    show at_ false ((p.1, p.2, true) :: row ps) i = (inb p.1 p.2 i || ps.any (pin i))
    by_cases h : inb p.1 p.2 i = true
    · rw [at_in h, h]; rfl
    · rw [at_off h, at_row ps i, Bool.eq_false_iff.mpr h]; rfl
theorem row_app (a b : List Pr) : row (a ++ b) = row a ++ row b := List.map_append
theorem row_inj {a b : List Pr} (h : row a = row b) : a = b := by
  have e : ∀ ps : List Pr, (row ps).map (fun s => ((s.1, s.2.1) : Pr)) = ps := fun ps => by
    unfold row; rw [List.map_map]; exact List.map_id' ps
  rw [← e a, h, e b]
/-- told rows that have the same integers are the same -/
theorem row_one {a b : List Pr} (ca : Can false (row a)) (cb : Can false (row b)) (h : ∀ i, a.any (pin i) = b.any (pin i)) : a = b := row_inj (can_one ca cb fun i => by rw [at_row, at_row, h i])
def touches (e lo : Option Int) : Bool := match e, lo with | some e, some l => decide (l ≤ e) | _, _ => true
def far (e hi : Option Int) : Option Int := match e, hi with | none, _ => none | some e, some h => if h ≤ e then some e else some h | some _, none => none
def olo (a b : Option Int) : Prop := match a, b with | none, _ => True | some a, some b => a ≤ b | some _, none => False
def uni (found : List Pr) (p : Pr) : List Pr := match found with
  | [] => [p]
  | t :: r => if touches t.2 p.1 = true then (t.1, far t.2 p.2) :: r else p :: t :: r
theorem far_le {e h : Int} (q : h ≤ e) : far (some e) (some h) = some e := if_pos q
theorem far_gt {e h : Int} (q : ¬ h ≤ e) : far (some e) (some h) = some h := if_neg q
theorem far_fit {f e lo hi : Option Int} (o : olo f lo) (h1 : fits f e = true) (h2 : fits lo hi = true) : fits f (far e hi) = true := by
  cases e with
  | none => exact h1
  | some e =>
    cases hi with
    | none => cases f <;> rfl
    | some k =>
      by_cases q : k ≤ e
      · rw [far_le q]; exact h1
      · rw [far_gt q]
        cases f with
        | none => rfl
        | some f => exact decide_eq_true (by have : f < e := of_decide_eq_true h1; omega)
theorem far_in {f e lo hi : Option Int} (o : olo f lo) (t : touches e lo = true) (i : Int) : inb f (far e hi) i = (inb f e i || inb lo hi i) := by
  have up : ∀ l, lo = some l → l ≤ i → ∀ x, f = some x → x ≤ i := fun l e1 h x e2 => by subst e1 e2; have : x ≤ l := o; omega
  have no : lo = none → f = none := fun e => by
    subst e
    cases f with
    | none => rfl
    | some x => exact o.elim
  rw [Bool.eq_iff_iff, Bool.or_eq_true]
  cases e with
  | none =>
    refine ⟨.inl, fun h => h.elim id fun g => ?_⟩
    cases f with
    | none => rfl
    | some x =>
      cases lo with
      | none => cases no rfl
      | some l => exact inb_sn.mpr (up l rfl (inb_lo g) x rfl)
  | some e =>
    have tl : ∀ l, lo = some l → l ≤ e := fun l q => by subst q; exact of_decide_eq_true t
    have mk : ∀ k : Int, i < k → (∀ x, f = some x → x ≤ i) → inb f (some k) i = true := fun k h g => by
      cases f with
      | none => exact inb_ns.mpr h
      | some x => exact inb_ss.mpr ⟨g x rfl, h⟩
    have fx : ∀ {k : Option Int}, inb f k i = true → ∀ x, f = some x → x ≤ i := fun h x q => by subst q; exact inb_lo h
    have lx : inb lo hi i = true → ∀ x, f = some x → x ≤ i := fun h x q => by
      cases lo with
      | none => rw [no rfl] at q; cases q
      | some l => exact up l rfl (inb_lo h) x q
    cases hi with
    | none =>
      show inb f none i = true ↔ _
      refine ⟨fun h => ?_, fun h => ?_⟩
      · rcases Int.lt_or_le i e with g | g
        · exact .inl (mk e g (fx h))
        · refine .inr ?_
          cases lo with
          | none => rfl
          | some l => exact inb_sn.mpr (Int.le_trans (tl l rfl) g)
      · have g : ∀ x, f = some x → x ≤ i := h.elim (fun h => fx h) lx
        cases f with
        | none => rfl
        | some x => exact inb_sn.mpr (g x rfl)
    | some k =>
      have sec : e ≤ i → i < k → inb lo (some k) i = true := fun g1 g2 => by
        cases lo with
        | none => exact inb_ns.mpr g2
        | some l => exact inb_ss.mpr ⟨Int.le_trans (tl l rfl) g1, g2⟩
      by_cases q : k ≤ e
      · rw [far_le q]
        exact ⟨.inl, fun h => h.elim id fun h => mk e (by have := inb_hi h; omega) (lx h)⟩
      · rw [far_gt q]
        refine ⟨fun h => ?_, fun h => h.elim (fun h => mk k (by have := inb_hi h; omega) (fx h)) fun h => mk k (inb_hi h) (lx h)⟩
        rcases Int.lt_or_le i e with g | g
        · exact .inl (mk e g (fx h))
        · exact .inr (sec g (inb_hi h))
theorem uni_ok {found : List Pr} {p : Pr} (c : Can false (row found.reverse)) (f : pfit p = true) (o : ∀ t r, found = t :: r → olo t.1 p.1) : Can false (row (uni found p).reverse) ∧ (∀ i, (uni found p).any (pin i) = (found.any (pin i) || pin i p)) ∧ ∀ t r, uni found p = t :: r → t.1 = p.1 ∨ ∃ t' r', found = t' :: r' ∧ t.1 = t'.1 := by
  cases found with
  | nil => exact ⟨⟨fun s m => by rw [List.mem_singleton.mp m]; exact ⟨Bool.noConfusion, f⟩, List.pairwise_singleton ..⟩, fun i => by simp [uni], fun t r e => by cases e; exact .inl rfl⟩
  | cons t r =>
    have o := o t r rfl
    rw [List.reverse_cons, row_app] at c
    have ft : fits t.1 t.2 = true := (c.ok _ (List.mem_append_right _ (List.mem_singleton.mpr rfl))).2
    unfold uni
    dsimp only
    by_cases q : touches t.2 p.1 = true
    · rw [if_pos q]
      refine ⟨?_, fun i => ?_, fun t' r' e => .inr ⟨t, r, rfl, by cases e; rfl⟩⟩
      · rw [List.reverse_cons, row_app]
        exact c.longer (far_fit o ft f)
      · rw [List.any_cons, List.any_cons]
        show (inb t.1 (far t.2 p.2) i || r.any (pin i)) = (inb t.1 t.2 i || r.any (pin i) || inb p.1 p.2 i)
        rw [far_in o q]
        cases inb t.1 t.2 i <;> cases inb p.1 p.2 i <;> cases r.any (pin i) <;> rfl
    · rw [if_neg q]
      refine ⟨?_, fun i => ?_, fun t' r' e => .inl (by cases e; rfl)⟩
      · rw [List.reverse_cons, List.reverse_cons, row_app, row_app]
        refine c.snoc ?_ ⟨Bool.noConfusion, f⟩
        unfold touches at q
        split at q
        · rename_i e l e1 e2
          exact ⟨e, l, e1, e2, .inl (by simp only [decide_eq_true_eq] at q; omega)⟩
        · exact absurd rfl q
      · rw [List.any_cons]
        cases pin i p <;> cases (t :: r).any (pin i) <;> rfl
theorem fold_uni : ∀ {rest found : List Pr}, Can false (row found.reverse) → rest.Pairwise (fun a b => olo a.1 b.1) → (∀ p ∈ rest, pfit p = true) → (∀ t r, found = t :: r → ∀ p ∈ rest, olo t.1 p.1) → Can false (row (rest.foldl uni found).reverse) ∧ ∀ i, (rest.foldl uni found).any (pin i) = (found.any (pin i) || rest.any (pin i))
  | [], found, c, _, _, _ => ⟨c, fun i => by simp⟩
  | p :: rest, found, c, pw, f, o => by
    obtain ⟨p1, p2⟩ := List.pairwise_cons.mp pw
    obtain ⟨c1, a1, h1⟩ := uni_ok c (f p (List.mem_cons_self ..)) (fun t r e => o t r e p (List.mem_cons_self ..))
    obtain ⟨c2, a2⟩ := fold_uni c1 p2 (fun q m => f q (List.mem_cons_of_mem _ m)) (fun t r e q m => by
      rcases h1 t r e with h | ⟨t', r', e', h⟩
      · rw [h]; exact p1 q m
      · rw [h]; exact o t' r' e' q (List.mem_cons_of_mem _ m))
    exact ⟨c2, fun i => by rw [List.foldl_cons, a2, a1, List.any_cons, Bool.or_assoc]⟩
/-! by their lows -/
def rank (os : List Pr) : List Int := os.zipIdx.map fun q => q.1.1.getD 0 * (os.length : Int) + (q.2 : Int)
def nthP (os : List Pr) (r : Int) : Pr := os.getD (r % (os.length : Int)).toNat (none, none)
def srt (os : List Pr) : List Pr := (sortI (rank os)).map (nthP os)
def byL (ps : List Pr) : List Pr := ps.filter (fun p => p.1.isNone) ++ srt (ps.filter fun p => p.1.isSome)
def united (ps : List Pr) : List Pr := ((byL ps).foldl uni []).reverse
theorem rank_mem {os : List Pr} {r : Int} (h : r ∈ rank os) : ∃ k : Nat, ∃ hk : k < os.length, nthP os r = os[k] ∧ r / (os.length : Int) = os[k].1.getD 0 ∧ r % (os.length : Int) = k := by
  obtain ⟨⟨p, k⟩, m, e⟩ := List.mem_map.mp h
  have m2 := List.mem_zipIdx_iff_getElem?.mp m
  obtain ⟨hk, ek⟩ := List.getElem?_eq_some_iff.mp m2
  dsimp only at e hk ek
  have pos : (0 : Int) < os.length := by omega
  have em : r % (os.length : Int) = k := by
    rw [← e, Int.add_comm, Int.add_mul_emod_self_right]
    exact Int.emod_eq_of_lt (by omega) (by omega)
  refine ⟨k, hk, ?_, ?_, em⟩
  · unfold nthP
    rw [em]
    simp [hk]
  · rw [← e, Int.add_comm, Int.add_mul_ediv_right _ _ (by omega), Int.ediv_eq_zero_of_lt (by omega) (by omega), ek]
    omega
theorem rank_nth (os : List Pr) : (rank os).map (nthP os) = os := by
  unfold rank
  rw [List.map_map]
  refine List.ext_getElem (by simp) fun k h1 h2 => ?_
  simp only [List.getElem_map, Function.comp, List.getElem_zipIdx, Nat.zero_add]
  have em : (os[k].1.getD 0 * (os.length : Int) + (k : Int)) % (os.length : Int) = k := by
    rw [Int.add_comm, Int.add_mul_emod_self_right]
    exact Int.emod_eq_of_lt (by omega) (by omega)
  unfold nthP
  rw [em]
  simp [h2]
theorem srt_perm (os : List Pr) : (srt os).Perm os := by
  have := (sortI_perm (rank os)).map (nthP os)
  rw [rank_nth] at this
  exact this
theorem srt_le (os : List Pr) : (srt os).Pairwise fun a b => a.1.getD 0 ≤ b.1.getD 0 := by
  unfold srt
  rw [List.pairwise_map]
  refine List.Pairwise.imp_of_mem (fun {a b} ha hb h => ?_) (sortI_le (rank os))
  obtain ⟨k, hk, e1, e2, _⟩ := rank_mem ((sortI_perm _).mem_iff.mp ha)
  obtain ⟨k', hk', e3, e4, _⟩ := rank_mem ((sortI_perm _).mem_iff.mp hb)
  rw [e1, e3, ← e2, ← e4]
  exact Int.ediv_le_ediv (by omega) h
theorem byL_perm (ps : List Pr) : (byL ps).Perm ps := by
  have h2 : (ps.filter (fun p => p.1.isNone) ++ ps.filter (fun p => !p.1.isNone)).Perm ps := List.filter_append_perm _ _
  have e : (ps.filter fun p => p.1.isSome) = ps.filter (fun p => !p.1.isNone) := List.filter_congr fun p _ => by cases p.1 <;> rfl
  unfold byL
  rw [e]
  exact ((srt_perm _).append_left _).trans h2
theorem byL_le (ps : List Pr) : (byL ps).Pairwise fun a b => olo a.1 b.1 := by
  refine List.pairwise_append.mpr ⟨?_, ?_, fun a ha b hb => ?_⟩
  · refine List.Pairwise.imp_of_mem (R := fun _ _ => True) (fun {a b} ha hb _ => ?_) (List.pairwise_of_forall (fun _ _ => trivial))
    rw [Option.isNone_iff_eq_none.mp (List.mem_filter.mp ha).2]; trivial
  · refine List.Pairwise.imp_of_mem (fun {a b} ha hb h => ?_) (srt_le _)
    have ha := (List.mem_filter.mp ((srt_perm _).mem_iff.mp ha)).2
    have hb := (List.mem_filter.mp ((srt_perm _).mem_iff.mp hb)).2
    obtain ⟨x, ex⟩ := Option.isSome_iff_exists.mp ha
    obtain ⟨y, ey⟩ := Option.isSome_iff_exists.mp hb
    rw [ex, ey] at h ⊢
    exact h
  · rw [Option.isNone_iff_eq_none.mp (List.mem_filter.mp ha).2]; trivial
theorem united_ok {ps : List Pr} (f : ∀ p ∈ ps, pfit p = true) : Can false (row (united ps)) ∧ ∀ i, (united ps).any (pin i) = ps.any (pin i) := by
  obtain ⟨c, a⟩ := fold_uni (found := []) (Can.nil false) (byL_le ps) (fun p m => f p ((byL_perm ps).mem_iff.mp m)) (fun t r e => nomatch e)
  refine ⟨c, fun i => ?_⟩
  unfold united
  rw [List.any_reverse, a i]
  show (false || (byL ps).any (pin i)) = _
  rw [Bool.false_or, Bool.eq_iff_iff, List.any_eq_true, List.any_eq_true]
  exact ⟨fun ⟨p, m, h⟩ => ⟨p, (byL_perm ps).mem_iff.mp m, h⟩, fun ⟨p, m, h⟩ => ⟨p, (byL_perm ps).mem_iff.mpr m, h⟩⟩
/-! cuts -/
def ddk (ks : List Int) (k : Int) : List Int := if k ∈ ks then ks else ks ++ [k]
def dd (xs : List Int) : List Int := xs.foldl ddk []
theorem ddk_nodup {ks : List Int} {k : Int} (h : ks.Nodup) : (ddk ks k).Nodup := by
  unfold ddk
  split
  · exact h
  · rename_i q
    exact List.nodup_append.mpr ⟨h, List.nodup_cons.mpr ⟨List.not_mem_nil, List.nodup_nil⟩, fun a ha b hb e => q (by rw [List.mem_singleton] at hb; rw [← hb, ← e]; exact ha)⟩
theorem ddk_mem {ks : List Int} {k x : Int} : x ∈ ddk ks k ↔ x ∈ ks ∨ x = k := by
  unfold ddk
  split
  · rename_i q
    exact ⟨.inl, fun h => h.elim id fun e => e ▸ q⟩
  · rw [List.mem_append, List.mem_singleton]
theorem dd_spec : ∀ (xs ks : List Int), ks.Nodup → (xs.foldl ddk ks).Nodup ∧ ∀ x, x ∈ xs.foldl ddk ks ↔ x ∈ ks ∨ x ∈ xs
  | [], ks, h => ⟨h, fun x => by simp⟩
  | k :: xs, ks, h => by
    obtain ⟨h1, h2⟩ := dd_spec xs (ddk ks k) (ddk_nodup h)
    exact ⟨h1, fun x => by rw [List.foldl_cons, h2, ddk_mem, List.mem_cons, or_assoc]⟩
def cuts (xs : List Int) : List Int := sortI (dd xs)
/-! slabs of boxes: a box as its sides in x and in y -/
def loIn (p w : Option Int) : Bool := match w, p with | none, _ => true | some _, none => false | some a, some b => decide (a ≤ b)
def hiIn (p w : Option Int) : Bool := match w, p with | none, _ => true | some _, none => false | some a, some b => decide (b ≤ a)
def isIn (p w : Pr) : Bool := loIn p.1 w.1 && hiIn p.2 w.2
def ofP (p : Pr) : List Int := p.1.toList ++ p.2.toList
def apart (e : Int) (p : Pr) : Prop := (∃ l, p.1 = some l ∧ e ≤ l) ∨ ∃ k, p.2 = some k ∧ k ≤ e
end Rg
/-! pairs, rows, slabs, boxes as trees. -/
namespace Rg
open PySem Ep
def oT : Option Int → T
  | none => .non
  | some i => .int i
def prT (p : Pr) : T := .tup [oT p.1, oT p.2]
theorem is_oT (o : Option Int) : isT (oT o) .non = some o.isNone := by cases o <;> rfl
theorem nis_oT (o : Option Int) : nisT (oT o) .non = some o.isSome := by cases o <;> rfl
theorem pt_o (o : Option Int) : Pt LfI 0 (oT o) := by
  cases o with
  | none => exact .inl rfl
  | some i => exact .inr (.inl ⟨i, rfl⟩)
theorem pt_pr (p : Pr) : Pt LfI 1 (prT p) := Pt.tup fun x m => by
  simp only [List.mem_cons, List.not_mem_nil, or_false] at m
  rcases m with rfl | rfl <;> exact pt_o _
end Rg
/-! what a window of eighteen places shows, when beyond its ends all goes on as at them. -/
namespace Rg
section
variable {β : Type} [DecidableEq β]
structure Win (f : Int → β) : Prop where
  lo : ∀ y, y ≤ -9 → f y = f (-9)
  hi : ∀ y, 8 ≤ y → f y = f 8
/-- the rows by places -/
def urow (f : Int → β) (m : Nat) : Sg β := (if m = 0 then none else some ((m : Int) - 9), if m = 17 then none else some ((m : Int) - 8), f ((m : Int) - 9))
def wf (d : β) (f : Int → β) (m : Nat) : List (Sg β) := ((List.range m).map (urow f)).foldl (jn d) []
/-- what is found, and what is under way -/
def low (m : Nat) (found : List (Sg β)) : Prop := ∀ t ∈ found, ∃ h, t.2.1 = some h ∧ h ≤ (m : Int) - 9
theorem low.mono {m n : Nat} {found : List (Sg β)} (h : low m found) (l : m ≤ n) : low n found := fun t q => by
  obtain ⟨k, e, g⟩ := h t q
  exact ⟨k, e, by omega⟩
theorem low.cons {m : Nat} {found : List (Sg β)} {t : Sg β} {k : Int} (h : low m found) (e : t.2.1 = some k) (g : k ≤ (m : Int) - 9) : low m (t :: found) := fun u q => by
  rcases List.mem_cons.mp q with rfl | q
  · exact ⟨k, e, g⟩
  · exact h u q
end
section
variable {β : Type} [DecidableEq β] {d : β} {f : Int → β} {m s : Nat} {found : List (Sg β)}
end
end Rg
/-! what two told rows share, what lies outside of one; slabs put together. -/
namespace Rg
def mxLo (a b : Option Int) : Option Int := match a, b with
  | none, b => b
  | some a, none => some a
  | some a, some b => if a < b then some b else some a
def mnHi (a b : Option Int) : Option Int := match a, b with
  | none, b => b
  | some a, none => some a
  | some a, some b => if b < a then some b else some a
def common (p q : Pr) : Option Pr := if fits (mxLo p.1 q.1) (mnHi p.2 q.2) = true then some (mxLo p.1 q.1, mnHi p.2 q.2) else none
theorem mxLo_in (a b : Option Int) (i : Int) : loB (mxLo a b) i = (loB a i && loB b i) := by
  cases a with
  | none => cases b <;> simp [mxLo, loB]
  | some a => cases b with
    | none => simp [mxLo, loB]
    | some b =>
      unfold mxLo
      by_cases h : a < b
      · simp only [if_pos h, loB]
        rw [Bool.eq_iff_iff]; simp; omega
      · simp only [if_neg h, loB]
        rw [Bool.eq_iff_iff]; simp; omega
theorem mnHi_in (a b : Option Int) (i : Int) : hiB (mnHi a b) i = (hiB a i && hiB b i) := by
  cases a with
  | none => cases b <;> simp [mnHi, hiB]
  | some a => cases b with
    | none => simp [mnHi, hiB]
    | some b =>
      unfold mnHi
      by_cases h : b < a
      · simp only [if_pos h, hiB]
        rw [Bool.eq_iff_iff]; simp; omega
      · simp only [if_neg h, hiB]
        rw [Bool.eq_iff_iff]; simp; omega
theorem not_fit {lo hi : Option Int} (h : ¬ fits lo hi = true) (i : Int) : inb lo hi i = false := by
  cases lo with
  | none => exact absurd rfl h
  | some l => cases hi with
    | none => exact absurd rfl h
    | some k =>
      have h : ¬ l < k := fun q => h (decide_eq_true q)
      cases q : inb (some l) (some k) i with
      | false => rfl
      | true => have := inb_ss.mp q; omega
theorem common_in (p q : Pr) (i : Int) : (common p q).any (pin i) = (pin i p && pin i q) := by
  have e : inb (mxLo p.1 q.1) (mnHi p.2 q.2) i = (pin i p && pin i q) := by
    unfold inb pin inb
    rw [mxLo_in, mnHi_in]
    cases loB p.1 i <;> cases loB q.1 i <;> cases hiB p.2 i <;> rfl
  unfold common
  by_cases h : fits (mxLo p.1 q.1) (mnHi p.2 q.2) = true
  · rw [if_pos h]; exact e
  · rw [if_neg h, ← e, not_fit h]; rfl
theorem common_fit {p q c : Pr} (h : common p q = some c) : pfit c = true := by
  unfold common at h
  by_cases f : fits (mxLo p.1 q.1) (mnHi p.2 q.2) = true
  · rw [if_pos f] at h; cases h; exact f
  · rw [if_neg f] at h; cases h
/-- apart: p ends below where q begins -/
def bel (p q : Pr) : Prop := ∃ h l, p.2 = some h ∧ q.1 = some l ∧ h < l
theorem common_l {p q p' q' c c' : Pr} (h : common p q = some c) (h' : common p' q' = some c') (b : bel p p' ∨ bel q q') : bel c c' := by
  unfold common at h h'
  by_cases f : fits (mxLo p.1 q.1) (mnHi p.2 q.2) = true
  · rw [if_pos f] at h
    by_cases f' : fits (mxLo p'.1 q'.1) (mnHi p'.2 q'.2) = true
    · rw [if_pos f'] at h'
      cases h; cases h'
      obtain ⟨p1, p2⟩ := p
      obtain ⟨q1, q2⟩ := q
      obtain ⟨a1, a2⟩ := p'
      obtain ⟨b1, b2⟩ := q'
      -- the ends
      have hi : ∀ {x y : Option Int} {h : Int}, x = some h ∨ y = some h → ∃ k, mnHi x y = some k ∧ k ≤ h := fun {x y h} o => by
        rcases o with rfl | rfl
        · cases y with
          | none => exact ⟨h, rfl, Int.le_refl _⟩
          | some k =>
            unfold mnHi
            by_cases g : k < h
            · exact ⟨k, if_pos g, by omega⟩
            · exact ⟨h, if_neg g, Int.le_refl _⟩
        · cases x with
          | none => exact ⟨h, rfl, Int.le_refl _⟩
          | some k =>
            unfold mnHi
            by_cases g : h < k
            · exact ⟨h, if_pos g, Int.le_refl _⟩
            · exact ⟨k, if_neg g, by omega⟩
      have lo : ∀ {x y : Option Int} {h : Int}, x = some h ∨ y = some h → ∃ k, mxLo x y = some k ∧ h ≤ k := fun {x y h} o => by
        rcases o with rfl | rfl
        · cases y with
          | none => exact ⟨h, rfl, Int.le_refl _⟩
          | some k =>
            unfold mxLo
            by_cases g : h < k
            · exact ⟨k, if_pos g, by omega⟩
            · exact ⟨h, if_neg g, Int.le_refl _⟩
        · cases x with
          | none => exact ⟨h, rfl, Int.le_refl _⟩
          | some k =>
            unfold mxLo
            by_cases g : k < h
            · exact ⟨h, if_pos g, Int.le_refl _⟩
            · exact ⟨k, if_neg g, by omega⟩
      rcases b with ⟨h, l, e1, e2, e3⟩ | ⟨h, l, e1, e2, e3⟩
      · obtain ⟨k, k1, k2⟩ := hi (x := p2) (y := q2) (.inl e1)
        obtain ⟨m, m1, m2⟩ := lo (x := a1) (y := b1) (.inl e2)
        exact ⟨k, m, k1, m1, by omega⟩
      · obtain ⟨k, k1, k2⟩ := hi (x := p2) (y := q2) (.inr e1)
        obtain ⟨m, m1, m2⟩ := lo (x := a1) (y := b1) (.inr e2)
        exact ⟨k, m, k1, m1, by omega⟩
    · rw [if_neg f'] at h'; cases h'
  · rw [if_neg f] at h; cases h
/-- a told row, by its pairs -/
theorem can_row {ps : List Pr} : Can false (row ps) ↔ (∀ p ∈ ps, pfit p = true) ∧ ps.Pairwise bel := by
  constructor
  · intro c
    refine ⟨fun p m => (c.ok (p.1, p.2, true) (List.mem_map.mpr ⟨p, m, rfl⟩)).2, ?_⟩
    have := List.pairwise_map.mp (show (List.map (fun p : Pr => ((p.1, p.2, true) : Sg Bool)) ps).Pairwise sep from c.sp)
    refine this.imp fun {a b} ⟨h, l, e1, e2, e3⟩ => ⟨h, l, e1, e2, ?_⟩
    rcases e3 with e3 | ⟨_, e3⟩
    · exact e3
    · exact absurd rfl e3
  · intro ⟨f, w⟩
    refine ⟨fun s m => ?_, List.pairwise_map.mpr (w.imp fun {a b} ⟨h, l, e1, e2, e3⟩ => ⟨h, l, e1, e2, .inl e3⟩)⟩
    obtain ⟨p, mp, rfl⟩ := List.mem_map.mp m
    exact ⟨by simp, f p mp⟩
def shared (ps qs : List Pr) : List Pr := ps.flatMap fun p => qs.filterMap (common p)
theorem shared_in (ps qs : List Pr) (i : Int) : (shared ps qs).any (pin i) = (ps.any (pin i) && qs.any (pin i)) := by
  rw [Bool.eq_iff_iff, Bool.and_eq_true, List.any_eq_true, List.any_eq_true, List.any_eq_true]
  constructor
  · rintro ⟨c, m, h⟩
    obtain ⟨p, mp, m⟩ := List.mem_flatMap.mp m
    obtain ⟨q, mq, e⟩ := List.mem_filterMap.mp m
    have := common_in p q i
    rw [e] at this
    have : pin i c = (pin i p && pin i q) := this
    rw [h] at this
    have := Bool.and_eq_true_iff.mp this.symm
    exact ⟨⟨p, mp, this.1⟩, ⟨q, mq, this.2⟩⟩
  · rintro ⟨⟨p, mp, hp⟩, ⟨q, mq, hq⟩⟩
    have := common_in p q i
    rw [hp, hq] at this
    cases e : common p q with
    | none => rw [e] at this; cases this
    | some c =>
      rw [e] at this
      exact ⟨c, List.mem_flatMap.mpr ⟨p, mp, List.mem_filterMap.mpr ⟨q, mq, e⟩⟩, this⟩
theorem shared_ok {ps qs : List Pr} (cp : Can false (row ps)) (cq : Can false (row qs)) : Can false (row (shared ps qs)) := by
  obtain ⟨fp, wp⟩ := can_row.mp cp
  obtain ⟨fq, wq⟩ := can_row.mp cq
  refine can_row.mpr ⟨fun c m => ?_, ?_⟩
  · obtain ⟨p, mp, m⟩ := List.mem_flatMap.mp m
    obtain ⟨q, mq, e⟩ := List.mem_filterMap.mp m
    exact common_fit e
  · refine List.pairwise_flatMap.mpr ⟨fun p _ => ?_, wp.imp fun {p p'} b c m c' m' => ?_⟩
    · refine List.pairwise_filterMap.mpr (wq.imp fun {q q'} b c e c' e' => common_l e e' (.inr b))
    · obtain ⟨q, _, e⟩ := List.mem_filterMap.mp m
      obtain ⟨q', _, e'⟩ := List.mem_filterMap.mp m'
      exact common_l e e' (.inl b)
/-- the stretches from low on outside of a row -/
def outs (low : Option Int) : List Pr → List Pr
  | [] => [(low, none)]
  | p :: ps => (match p.1 with | none => [] | some b => [(low, some b)]) ++ (match p.2 with | none => [] | some e => outs (some e) ps)
def behind (e : Option Int) (ps : List Pr) : List Pr := match e with
  | none => []
  | some k => outs (some k) ps
def outside (ps : List Pr) : List Pr := outs none ps
theorem outs_none (low e : Option Int) (ps : List Pr) : outs low ((none, e) :: ps) = behind e ps := by cases e <;> rfl
theorem outs_some (low e : Option Int) (b : Int) (ps : List Pr) : outs low ((some b, e) :: ps) = (low, some b) :: behind e ps := by cases e <;> rfl
/-- a low end below a row -/
def lowOf (low : Option Int) (ps : List Pr) : Prop := ∀ l, low = some l → ∀ p ∈ ps, ∃ b, p.1 = some b ∧ l < b
theorem outs_ok : ∀ {ps : List Pr} {low : Option Int}, (∀ p ∈ ps, pfit p = true) → ps.Pairwise bel → lowOf low ps → Can false (row (outs low ps)) ∧ (∀ p ∈ outs low ps, ∀ l, low = some l → ∃ b, p.1 = some b ∧ l ≤ b) ∧ ∀ i, (outs low ps).any (pin i) = (loB low i && !ps.any (pin i))
  | [], low, _, _, _ => by
    refine ⟨can_row.mpr ⟨fun p m => ?_, List.pairwise_singleton ..⟩, fun p m l e => ?_, fun i => ?_⟩
    · rw [List.mem_singleton.mp m]; cases low <;> rfl
    · rw [List.mem_singleton.mp m]; exact ⟨l, e, Int.le_refl _⟩
    · show (pin i (low, none) || false) = _
      unfold pin inb hiB
      simp
  | (b, e) :: ps, low, f, w, o => by
    obtain ⟨w1, w2⟩ := List.pairwise_cons.mp w
    have f0 : fits b e = true := f (b, e) List.mem_cons_self
    -- what comes behind the end
    have rest : Can false (row (behind e ps)) ∧ (∀ p ∈ behind e ps, ∃ k c, e = some k ∧ p.1 = some c ∧ k ≤ c) ∧ ∀ i, (behind e ps).any (pin i) = (!hiB e i && !ps.any (pin i)) := by
      cases e with
      | none => exact ⟨Can.nil _, fun p m => absurd m List.not_mem_nil, fun i => rfl⟩
      | some k =>
        have lw : lowOf (some k) ps := fun l el p m => by
          cases el
          obtain ⟨h, l, e1, e2, e3⟩ := w1 p m
          cases e1
          exact ⟨l, e2, e3⟩
        obtain ⟨c, g, a⟩ := outs_ok (low := some k) (fun p m => f p (List.mem_cons_of_mem _ m)) w2 lw
        refine ⟨c, fun p m => ?_, fun i => ?_⟩
        · obtain ⟨b, e1, e2⟩ := g p m k rfl
          exact ⟨k, b, rfl, e1, e2⟩
        · refine (a i).trans ?_
          show (decide (k ≤ i) && _) = (!decide (i < k) && _)
          congr 1
          rw [Bool.eq_iff_iff]; simp
    obtain ⟨c2, g2, a2⟩ := rest
    cases b with
    | none =>
      cases low with
      | some l =>
        obtain ⟨b, eb, _⟩ := o l rfl _ List.mem_cons_self
        cases eb
      | none =>
        rw [outs_none]
        refine ⟨c2, fun p m l el => (by cases el), fun i => ?_⟩
        refine (a2 i).trans ?_
        rw [List.any_cons]
        show (!hiB e i && !ps.any (pin i)) = (true && !((loB none i && hiB e i) || ps.any (pin i)))
        cases hiB e i <;> cases ps.any (pin i) <;> rfl
    | some b =>
      have lb : fits low (some b) = true := by
        cases low with
        | none => rfl
        | some l =>
          obtain ⟨b', eb, h⟩ := o l rfl _ List.mem_cons_self
          cases eb
          exact decide_eq_true h
      have be : ∀ k, e = some k → b < k := fun k ek => by subst ek; exact of_decide_eq_true f0
      obtain ⟨r1, r2⟩ := can_row.mp c2
      rw [outs_some]
      refine ⟨can_row.mpr ⟨fun p m => ?_, List.pairwise_cons.mpr ⟨fun p m => ?_, r2⟩⟩, fun p m l el => ?_, fun i => ?_⟩
      · rcases List.mem_cons.mp m with rfl | m
        · exact lb
        · exact r1 p m
      · obtain ⟨k, c, e1, e2, e3⟩ := g2 p m
        have := be k e1
        exact ⟨b, c, rfl, e2, by omega⟩
      · rcases List.mem_cons.mp m with rfl | m
        · exact ⟨l, el, Int.le_refl _⟩
        · obtain ⟨k, c, e1, e2, e3⟩ := g2 p m
          have := be k e1
          obtain ⟨b', eb, h⟩ := o l el _ List.mem_cons_self
          cases eb
          exact ⟨c, e2, by omega⟩
      · show (pin i (low, some b) || _) = _
        rw [a2 i, List.any_cons]
        show ((loB low i && decide (i < b)) || (!hiB e i && !ps.any (pin i))) = (loB low i && !((decide (b ≤ i) && hiB e i) || ps.any (pin i)))
        have h1 : decide (b ≤ i) = !decide (i < b) := by
          rw [Bool.eq_iff_iff]; simp
        rw [h1]
        by_cases q : i < b
        · -- ahead of the first: no pair holds it, nor is it behind the end
          have h2 : hiB e i = true := by
            cases e with
            | none => rfl
            | some k => have := be k rfl; exact decide_eq_true (by omega)
          have h3 : ps.any (pin i) = false := by
            rw [List.any_eq_false]
            intro p m h
            obtain ⟨k, l, e1, e2, e3⟩ := w1 p m
            have := be k e1
            obtain ⟨p1, p2⟩ := p
            cases e2
            have := (Bool.and_eq_true_iff.mp h).1
            have := of_decide_eq_true this
            omega
          rw [h2, h3, decide_eq_true q]
          cases loB low i <;> rfl
        · have h4 : loB low i = true := by
            cases low with
            | none => rfl
            | some l =>
              obtain ⟨b', eb, h⟩ := o l rfl _ List.mem_cons_self
              cases eb
              exact decide_eq_true (by omega)
          rw [h4, decide_eq_false q]
          cases hiB e i <;> cases ps.any (pin i) <;> rfl
theorem outside_ok {ps : List Pr} (c : Can false (row ps)) : Can false (row (outside ps)) ∧ ∀ i, (outside ps).any (pin i) = !ps.any (pin i) := by
  obtain ⟨f, w⟩ := can_row.mp c
  obtain ⟨c1, _, a⟩ := outs_ok (low := none) f w (fun l e => by cases e)
  exact ⟨c1, fun i => (a i).trans (Bool.true_and _)⟩
/-! slabs -/
/-- the slabs of a region -/
structure Reg (S : List (Sg (List Pr))) : Prop where
  can : Can [] S
  rows : ∀ y, Can false (row (at_ [] S y))
/-- the stretches of a lot that no end of slabs parts -/
def strt (S : List (Sg (List Pr))) (p : Pr) : List Pr := match S with
  | [] => []
  | s :: r => if isIn p (s.1, s.2.1) = true then s.2.2 else strt r p
def endsS (S : List (Sg (List Pr))) : List Int := S.flatMap fun s => ofP (s.1, s.2.1)
def together (F : List Pr → List Pr → List Pr) (S S' : List (Sg (List Pr))) : List (Sg (List Pr)) := joined [] (lotRows (fun lo hi => F (strt S (lo, hi)) (strt S' (lo, hi))) none (cuts (endsS (S ++ S'))))
end Rg
/-! stretches: first and last members by remainder, how many. -/
namespace Stp
abbrev Pr := Option Int × Option Int
section
variable {l h r m : Int}
/-- the least n ≥ l with n = r modulo m; the greatest below h -/
def lo (l r m : Int) : Int := l + (r - l) % m
def hi (h r m : Int) : Int := h - 1 - (h - 1 - r) % m
/-- the place of what is below x -/
def pl (x r m : Int) : Int := (x - 1 - r) / m
theorem lo_eq (m0 : 0 < m) (l r : Int) : lo l r m = r + m * pl l r m + m := by
  have e := Int.mul_ediv_add_emod (l - 1 - r) m
  have a := Int.emod_nonneg (l - 1 - r) (show m ≠ 0 by omega)
  have b := Int.emod_lt_of_pos (l - 1 - r) m0
  unfold lo pl
  have e2 : r - l = (m - 1 - (l - 1 - r) % m) + m * (-((l - 1 - r) / m) - 1) := by
    rw [Int.mul_sub, Int.mul_neg, Int.mul_one]
    omega
  have e3 : (r - l) % m = m - 1 - (l - 1 - r) % m := by
    rw [e2, Int.add_mul_emod_self_left]
    exact Int.emod_eq_of_lt (by omega) (by omega)
  rw [e3]
  omega
theorem pl_mono (m0 : 0 < m) {x y : Int} (h : x ≤ y) : pl x r m ≤ pl y r m := Int.ediv_le_ediv m0 (by omega)
end
/-- the first member, the last one, how many -/
def fst : Pr → Int → Int → Option Int
  | (none, _), _, _ => none
  | (some l, none), r, m => some (lo l r m)
  | (some l, some h), r, m => if lo l r m < h then some (lo l r m) else none
def fin : Pr → Int → Int → Option Int
  | (_, none), _, _ => none
  | (none, some h), r, m => some (hi h r m)
  | (some l, some h), r, m => if l ≤ hi h r m then some (hi h r m) else none
def cnt : Pr → Int → Int → Option Int
  | (some l, some h), r, m => some (pl h r m - pl l r m)
  | _, _, _ => none
/-- a stretch has a number -/
def Ok (p : Pr) : Prop := ∀ l h, p = (some l, some h) → l < h
def cnts : List Pr → Int → Int → Option Int
  | [], _, _ => some 0
  | p :: ps, r, m => (cnt p r m).bind fun c => (cnts ps r m).map (c + ·)
def go : List Pr → Int → Int → Int → Option Int
  | [], _, _, _ => none
  | p :: ps, n, r, m => match cnt p r m with
    | none => (fst p r m).map (· + n * m)
    | some c => if n < c then (fst p r m).map (· + n * m) else go ps (n - c) r m
/-- what two have in common -/
def mx (a b : Option Int) : Option Int := match a, b with
  | none, b => b
  | a, none => a
  | some x, some y => if y > x then some y else some x
def mn (a b : Option Int) : Option Int := match a, b with
  | none, b => b
  | a, none => a
  | some x, some y => if y < x then some y else some x
def com (p q : Pr) : Option Pr := match mx p.1 q.1, mn p.2 q.2 with
  | some l, some h => if l ≥ h then none else some (some l, some h)
  | a, b => some (a, b)
def shr (ps qs : List Pr) : List Pr := (ps.flatMap fun p => qs.map (com p)).filterMap id
/-! members one by one -/
section
variable {r m : Int}
def many (l r m : Int) (n : Nat) : Nat := (pl (l + n) r m - pl l r m).toNat
theorem many_s (m0 : 0 < m) (l : Int) (n : Nat) : pl l r m ≤ pl (l + n) r m ∧ ((l + n - r) % m = 0 → pl (l + (n + 1 : Nat)) r m = pl (l + n) r m + 1 ∧ l + n = lo l r m + m * (many l r m n : Nat)) ∧ (¬ (l + n - r) % m = 0 → pl (l + (n + 1 : Nat)) r m = pl (l + n) r m) := by
  have a := pl_mono (r := r) m0 (show l ≤ l + n by omega)
  refine ⟨a, fun h => ?_, fun h => ?_⟩
  · have e := Int.mul_ediv_add_emod (l + n - r) m
    rw [h, Int.add_zero] at e
    have e1 : pl (l + (n + 1 : Nat)) r m = (l + n - r) / m := by unfold pl; congr 1; omega
    have e2 : pl (l + n) r m = (l + n - r) / m - 1 := by
      unfold pl
      have : l + n - 1 - r = (m - 1) + m * ((l + n - r) / m - 1) := by rw [Int.mul_sub, Int.mul_one]; omega
      rw [this, Int.add_mul_ediv_left _ _ (by omega), Int.ediv_eq_zero_of_lt (by omega) (by omega)]
      omega
    refine ⟨by omega, ?_⟩
    rw [lo_eq m0]
    have e3 : (many l r m n : Int) = pl (l + n) r m - pl l r m := by unfold many; omega
    rw [e3, Int.mul_sub, e2, Int.mul_sub, Int.mul_one]
    omega
  · have e := Int.mul_ediv_add_emod (l + n - r) m
    have p1 := Int.emod_nonneg (l + n - r) (show m ≠ 0 by omega)
    have p2 := Int.emod_lt_of_pos (l + n - r) m0
    have e1 : l + (n + 1 : Nat) - 1 - r = l + n - r := by omega
    unfold pl
    rw [e1]
    generalize (l + n - r) / m = q at *
    generalize (l + n - r) % m = s at *
    have e2 : l + n - 1 - r = (s - 1) + m * q := by omega
    rw [e2, Int.add_mul_ediv_left _ _ (by omega), Int.ediv_eq_zero_of_lt (by omega) (by omega)]
    omega
theorem members (m0 : 0 < m) (l : Int) : ∀ n : Nat, ((List.range n).filter fun i : Nat => decide ((l + i - r) % m = 0)).map (fun i : Nat => l + i) = (List.range (many l r m n)).map fun i : Nat => lo l r m + m * i
  | 0 => by
    have : many l r m 0 = 0 := by unfold many; simp
    rw [this]; rfl
  | n + 1 => by
    obtain ⟨a, b, c⟩ := many_s (r := r) m0 l n
    rw [List.range_succ, List.filter_append, List.map_append, members m0 l n]
    by_cases h : (l + n - r) % m = 0
    · obtain ⟨b1, b2⟩ := b h
      have e : many l r m (n + 1) = many l r m n + 1 := by unfold many; omega
      rw [e, List.range_succ, List.map_append, List.filter_cons_of_pos (p := fun i : Nat => decide ((l + i - r) % m = 0)) (decide_eq_true h)]
      show _ ++ [l + (n : Int)] = _ ++ [lo l r m + m * _]
      rw [← b2]
    · have e : many l r m (n + 1) = many l r m n := by unfold many; have := c h; omega
      rw [e, List.filter_cons_of_neg (p := fun i : Nat => decide ((l + i - r) % m = 0)) (by rw [decide_eq_true_iff]; exact h)]
      exact List.append_nil _
end
/-! how many of a row -/
def below (ps : List Pr) (x r m : Int) : Option Int := if ps ≠ [] ∧ (ps.head?.map (·.1)).getD none = none then none else cnts (shr ps [(none, some x)]) r m
/-! one stretch alone -/
section
variable {r m : Int}
end
end Stp
/-! the members of a small stretch, one by one. -/
namespace Stp
section
variable {r m : Int}
/-- the members of l, .., l + n - 1 -/
def ml (l r m : Int) (n : Nat) : List Int := (List.range (many l r m n)).map fun i : Nat => lo l r m + m * i
end
end Stp
/-! told rows: what the law tells is what is told. -/
namespace Stp
open Rg (dd ddk ofP pin pfit row lots lotRows joined jn Can united byL uni touches far sep)
open PySem Ep L2
theorem dd_up : ∀ (ys ks : List Int), ks.Pairwise (· < ·) → ys.Pairwise (· ≤ ·) → (∀ k ∈ ks, ∀ y ∈ ys, k ≤ y) → (ys.foldl ddk ks).Pairwise (· < ·)
  | [], ks, h, _, _ => h
  | y :: ys, ks, h, hy, hk => by
    obtain ⟨h1, h2⟩ := List.pairwise_cons.mp hy
    rw [List.foldl_cons]
    have hd : ∀ x, x ∈ ddk ks y → x ≤ y := fun x hx => by
      rcases Rg.ddk_mem.mp hx with hx | rfl
      · exact hk x hx y List.mem_cons_self
      · exact Int.le_refl _
    refine dd_up ys _ ?_ h2 fun x hx z hz => Int.le_trans (hd x hx) (h1 z hz)
    unfold ddk
    split
    · exact h
    · rename_i q
      refine List.pairwise_append.mpr ⟨h, List.pairwise_singleton _ _, fun a ha b hb => ?_⟩
      rw [List.mem_singleton.mp hb]
      have := hk a ha y List.mem_cons_self
      have : a ≠ y := fun e => q (e ▸ ha)
      omega
def marks (ps : List Pr) : List Int := dd (sortI (ps.flatMap ofP))
theorem marks_lt (ps : List Pr) : (marks ps).Pairwise (· < ·) := dd_up _ [] .nil (sortI_le _) (fun k h => (List.not_mem_nil h).elim)
theorem marks_mem {ps : List Pr} {x : Int} : x ∈ marks ps ↔ ∃ p ∈ ps, x ∈ ofP p := by
  unfold marks dd
  rw [(Rg.dd_spec _ [] List.nodup_nil).2, (sortI_perm _).mem_iff, List.mem_flatMap]
  simp
/-- a place in a span -/
def ins (m0 : Int) : Option Int → Int
  | none => m0 - 1
  | some l => l
def js (ps : List Pr) (m0 : Int) (found : List Pr) (q : Pr) : List Pr := if ps.any (pin (ins m0 q.1)) = true then (match found with
  | [] => [q]
  | t :: r => if t.2 = q.1 then (t.1, q.2) :: r else q :: t :: r) else found
def lawRow (ps : List Pr) : List Pr := match marks ps with
  | [] => if ps = [] then [] else [(none, none)]
  | m0 :: ms => ((lots none (m0 :: ms)).foldl (js ps m0) []).reverse
theorem pin_same {p : Pr} {i j : Int} (h : ∀ e ∈ ofP p, (e ≤ i ↔ e ≤ j)) : pin i p = pin j p := by
  obtain ⟨a, b⟩ := p
  have ha : Rg.loB a i = Rg.loB a j := by
    cases a with
    | none => rfl
    | some l =>
      have := h l (by simp [ofP])
      show decide (l ≤ i) = decide (l ≤ j)
      exact decide_eq_decide.mpr this
  have hb : Rg.hiB b i = Rg.hiB b j := by
    cases b with
    | none => rfl
    | some k =>
      have := h k (by simp [ofP])
      show decide (i < k) = decide (j < k)
      exact decide_eq_decide.mpr (by omega)
  show (Rg.loB a i && Rg.hiB b i) = (Rg.loB a j && Rg.hiB b j)
  rw [ha, hb]
theorem js_jn (ps : List Pr) (m0 : Int) (found : List Pr) (q : Pr) : row (js ps m0 found q) = jn false (row found) (q.1, q.2, ps.any (pin (ins m0 q.1))) := by
  unfold js jn
  cases e : ps.any (pin (ins m0 q.1)) with
  | false => rw [if_neg (by decide), if_pos rfl]
  | true =>
    rw [if_pos rfl, if_neg (show ¬ true = false by decide)]
    cases found with
    | nil => rfl
    | cons t r =>
      show row (if t.2 = q.1 then (t.1, q.2) :: r else q :: t :: r) = (if t.2 = q.1 ∧ true = true then (t.1, q.2, true) :: row r else (q.1, q.2, true) :: (t.1, t.2, true) :: row r)
      by_cases c : t.2 = q.1
      · rw [if_pos c, if_pos ⟨c, rfl⟩]; rfl
      · rw [if_neg c, if_neg (fun h => c h.1)]; rfl
theorem fold_js (ps : List Pr) (m0 : Int) : ∀ (L found : List Pr), row (L.foldl (js ps m0) found) = (L.map fun q => (q.1, q.2, ps.any (pin (ins m0 q.1)))).foldl (jn false) (row found)
  | [], _ => rfl
  | q :: L, found => by
    rw [List.foldl_cons, fold_js ps m0 L, js_jn]; rfl
theorem row_rev (L : List Pr) : row L.reverse = (row L).reverse := List.map_reverse
theorem lawRow_eq {ps : List Pr} (f : ∀ p ∈ ps, pfit p = true) : lawRow ps = united ps := by
  obtain ⟨u1, u2⟩ := Rg.united_ok f
  unfold lawRow
  cases em : marks ps with
  | nil =>
    have all : ∀ p ∈ ps, p = (none, none) := fun p hp => by
      have no : ∀ e, e ∉ ofP p := fun e he => by
        have := marks_mem.mpr ⟨p, hp, he⟩
        rw [em] at this
        exact List.not_mem_nil this
      obtain ⟨a, b⟩ := p
      cases a with
      | some l => exact absurd (show l ∈ ofP (some l, b) by simp [ofP]) (no l)
      | none => cases b with
        | some k => exact absurd (show k ∈ ofP (none, some k) by simp [ofP]) (no k)
        | none => rfl
    show (if ps = [] then [] else [(none, none)]) = _
    by_cases e : ps = []
    · subst e
      rw [if_pos rfl]
      refine (Rg.row_one u1 (show Can false (row []) from Can.nil false) fun i => u2 i).symm
    · rw [if_neg e]
      refine Rg.row_one ⟨fun s hs => ?_, List.pairwise_singleton _ _⟩ u1 fun i => ?_
      · rw [List.mem_singleton.mp hs]; exact ⟨by decide, rfl⟩
      · rw [u2]
        cases ps with
        | nil => exact absurd rfl e
        | cons p ps =>
          rw [all p List.mem_cons_self]
          rfl
  | cons m0 ms =>
    have lt : (m0 :: ms).Pairwise (· < ·) := em ▸ marks_lt ps
    have ch := Rg.lots_chain (F := fun lo _ => ps.any (pin (ins m0 lo))) (b := none) lt (fun k e => nomatch e)
    obtain ⟨j1, j2⟩ := Rg.joined_ok (d := false) ch
    have er : row ((lots none (m0 :: ms)).foldl (js ps m0) []).reverse = joined false (lotRows (fun lo _ => ps.any (pin (ins m0 lo))) none (m0 :: ms)) := by
      rw [row_rev, fold_js]; rfl
    show ((lots none (m0 :: ms)).foldl (js ps m0) []).reverse = _
    refine Rg.row_one (er ▸ j1) u1 fun i => ?_
    rw [← Rg.at_row, er, j2, u2]
    obtain ⟨lo, hi, q1, q2, _, q4⟩ := Rg.lot_of (F := fun lo _ => ps.any (pin (ins m0 lo))) (d := false) (b := none) lt (fun k e => nomatch e) i (fun k e => nomatch e)
    rw [q2]
    have low : ∀ e ∈ m0 :: ms, m0 ≤ e := fun e he => by
      rcases List.mem_cons.mp he with rfl | he
      · exact Int.le_refl _
      · exact Int.le_of_lt ((List.pairwise_cons.mp lt).1 e he)
    have same : ∀ p ∈ ps, pin (ins m0 lo) p = pin i p := fun p hp => pin_same fun e he => by
      have hm : e ∈ m0 :: ms := em ▸ marks_mem.mpr ⟨p, hp, he⟩
      have l0 := low e hm
      cases lo with
      | none =>
        have h0 : i < m0 := by
          rcases q4 m0 List.mem_cons_self with ⟨l, e, _⟩ | ⟨k, e, h⟩
          · cases e
          · rw [e] at q1
            have := Rg.inb_hi q1
            omega
        show e ≤ m0 - 1 ↔ e ≤ i
        omega
      | some l =>
        have hl := Rg.inb_lo q1
        show e ≤ l ↔ e ≤ i
        rcases q4 e hm with ⟨l', e', h⟩ | ⟨k, e', h⟩
        · cases e'
          omega
        · rw [e'] at q1
          have := Rg.inb_hi q1
          omega
    rw [Bool.eq_iff_iff, List.any_eq_true, List.any_eq_true]
    exact ⟨fun ⟨p, m, h⟩ => ⟨p, m, (same p m) ▸ h⟩, fun ⟨p, m, h⟩ => ⟨p, m, (same p m).symm ▸ h⟩⟩
/-! a told row -/
theorem fold_len : ∀ (L found : List Pr), (L.foldl uni found).length ≤ found.length + L.length
  | [], _ => Nat.le_refl _
  | q :: L, found => by
    have h := fold_len L (uni found q)
    have : (uni found q).length ≤ found.length + 1 := by
      unfold uni
      split
      · exact Nat.le_refl _
      · split <;> simp
    rw [List.foldl_cons, List.length_cons]
    omega
theorem united_len (ps : List Pr) : (united ps).length ≤ ps.length := by
  unfold united
  rw [List.length_reverse]
  have := fold_len (byL ps) []
  rw [(Rg.byL_perm ps).length_eq, List.length_nil] at this
  omega
theorem pfit_of {p : Pr} (h : Ok p) : pfit p = true := by
  obtain ⟨a, b⟩ := p
  cases a with
  | none => rfl
  | some l => cases b with
    | none => rfl
    | some k => exact decide_eq_true (h l k rfl)
end Stp
/-! the members of a told row, one by one. -/
namespace Stp
section
variable {r m : Int}
/-- a stretch with both ends, by its low and how many -/
abbrev Sp := Int × Nat
end
end Stp
namespace K03
open PySem PySem.Spec L2 He Ep
noncomputable section
/-! ### the text by places -/
def top (i : Nat) : Stmt := PySem.Challenge.pw_endlessplane_k03_spreads_told.main.body.getD i (.Pass ⟨0, 0, 0, 0⟩)
def cn : Nat → Str
  | 0 => "BadPart"
  | 1 => "PlaneError"
  | 2 => "Spread"
  | 3 => "Stretch"
  | 4 => "BadIndex"
  | _ => "BadPart"
def fl : Nat → List Str
  | 0 => ["part"]
  | 2 => ["own_pairs"]
  | 3 => ["own_pairs", "low", "high"]
  | 4 => ["index"]
  | _ => []
abbrev PW : Program := PySem.Challenge.pw_endlessplane_k03_spreads_told
def tb (K : PySem.W.Frag) : List (Addr × Str) := []
abbrev GG (K : PySem.W.Frag) (mg : Str → Option Value) : Gm := ⟨K, mg, cn, fl, tb K, none⟩
abbrev s_BadIndex_init : Stmt := inClass (top 8) 0
theorem supt_BadIndex : SupT "index" s_BadIndex_init := ⟨⟨_, _, rfl⟩, rfl, ⟨_, _, _, _, _, _, _, _, _, _, rfl, fun _ _ _ _ _ => ⟨_, rfl⟩⟩⟩
theorem fok_BadIndex : SupX.FOk PW "index" := ⟨by kernel_rfl, by decide, by decide, by decide, rfl, rfl, rfl, rfl, by decide, by intros; rfl⟩
abbrev s_BadPart_init : Stmt := inClass (top 6) 0
theorem supt_BadPart : SupT "part" s_BadPart_init := ⟨⟨_, _, rfl⟩, rfl, ⟨_, _, _, _, _, _, _, _, _, _, rfl, fun _ _ _ _ _ => ⟨_, rfl⟩⟩⟩
theorem fok_BadPart : SupX.FOk PW "part" := ⟨by kernel_rfl, by decide, by decide, by decide, rfl, rfl, rfl, rfl, by decide, by intros; rfl⟩
def xf_index (c : Nat) : Bool := c == 4
def xf_part (c : Nat) : Bool := c == 0
def xi_BadIndex : Nat → Option Bool
  | 0 => some false
  | 1 => some false
  | 4 => some true
  | _ => none
def xi_BadPart : Nat → Option Bool
  | 0 => some true
  | 1 => some false
  | 4 => some false
  | _ => none
def xr_PlaneError : List (Nat × Bool) := [(0, true), (1, true), (4, true)]
def m_high : Nat → Option Nat
  | 3 => some 2
  | _ => none
def m_low : Nat → Option Nat
  | 3 => some 1
  | _ => none
def m_own_pairs : Nat → Option Nat
  | 2 => some 0
  | 3 => some 0
  | _ => none
def tabR : List (Kd × Cl × Bool) := [(.b "int", .ty "int", true), (.b "int", .ty "bool", false), (.b "bool", .ty "int", true), (.b "bool", .ty "bool", true), (.b "NoneType", .ty "int", false), (.b "str", .ty "int", false), (.b "tuple", .ty "int", false), (.b "list", .ty "int", false), (.b "list", .ty "list", true), (.o 3, .cl 3, true), (.o 2, .cl 2, true), (.b "tuple", .ty "list", false), (.b "tuple", .ty "tuple", true), (.b "NoneType", .ty "list", false), (.b "NoneType", .ty "tuple", false), (.b "int", .ty "list", false), (.b "int", .ty "tuple", false), (.b "str", .ty "list", false), (.b "str", .ty "tuple", false), (.b "dict", .ty "list", false), (.b "dict", .ty "tuple", false), (.b "NoneType", .cl 3, false), (.b "int", .cl 3, false), (.b "tuple", .cl 3, false), (.o 2, .cl 3, false), (.o 3, .cl 2, false), (.b "list", .cl 2, false)]
def tab : Kd → Cl → Option Bool := tabF tabR
abbrev s__law_has : Stmt := (top 28)
abbrev s__law_draw : Stmt := (top 25)
abbrev s_is_list : Stmt := (top 3)
abbrev s_by_lows : Stmt := (top 14)
abbrev s_united : Stmt := (top 15)
abbrev s_Spread_init : Stmt := (inClass (top 22) 0)
abbrev s__law_refused : Stmt := (top 33)
abbrev s_Spread_eq : Stmt := (inClass (top 22) 7)
abbrev s_outside : Stmt := (top 17)
abbrev s_common_pair : Stmt := (top 13)
abbrev s_shared : Stmt := (top 16)
abbrev s_Spread_le : Stmt := (inClass (top 22) 8)
abbrev s_has_in : Stmt := (top 12)
abbrev s_is_integer : Stmt := (top 2)
abbrev s_Spread_holds : Stmt := (inClass (top 20) 1)
abbrev s_Stretch_init : Stmt := (inClass (top 21) 0)
abbrev s_Spread_told : Stmt := (inClass (top 22) 1)
abbrev s__law_odd_right : Stmt := (top 34)
abbrev s__law_points : Stmt := (top 29)
abbrev s__law_number : Stmt := (top 26)
abbrev s__law_ends : Stmt := (top 27)
abbrev s__law_some : Stmt := (top 31)
abbrev s__law_spread : Stmt := (top 32)
abbrev s__law_told : Stmt := (top 30)
abbrev s_Spread_bounds : Stmt := (inClass (top 22) 6)
abbrev s_Spread_is_endless : Stmt := (inClass (top 22) 5)
abbrev s_law : Stmt := (top 35)
abbrev s_Members_init : Stmt := (inClass (top 20) 0)
/-! ### what the head has told -/
structure Tx (base : Heap) (wd : World) (K : PySem.W.Frag) (mg : Str → Option Value) : Prop where
  m_all : mg "all" = none
  m_any : mg "any" = none
  m_bool : mg "bool" = none
  m_enumerate : mg "enumerate" = none
  m_int : mg "int" = none
  m_isinstance : mg "isinstance" = none
  m_len : mg "len" = none
  m_list : mg "list" = none
  m_range : mg "range" = none
  m_sorted : mg "sorted" = none
  m_tuple : mg "tuple" = none
  c_BadIndex : mg "BadIndex" = some (.ref (ga K "BadIndex"))
  c_BadPart : mg "BadPart" = some (.ref (ga K "BadPart"))
  c_PlaneError : mg "PlaneError" = some (.ref (ga K "PlaneError"))
  c_Spread : mg "Spread" = some (.ref (ga K "Spread"))
  c_Stretch : mg "Stretch" = some (.ref (ga K "Stretch"))
  hc : ∀ C cA, mg (cn C) = some (.ref cA) → cA = ga K (cn C)
  tab : TabOk (GG K mg) tab
  f_high : ∀ C j, m_high C = some j → FldOk (GG K mg) "high" C j
  f_low : ∀ C j, m_low C = some j → FldOk (GG K mg) "low" C j
  f_own_pairs : ∀ C j, m_own_pairs C = some j → FldOk (GG K mg) "own_pairs" C j
  n_Spread_own_pairs : NthFld (GG K mg) 2 0 "own_pairs"
  n_Stretch_own_pairs : NthFld (GG K mg) 3 0 "own_pairs"
  n_Stretch_low : NthFld (GG K mg) 3 1 "low"
  n_Stretch_high : NthFld (GG K mg) 3 2 "high"
  k_Spread : Cls K (ga K "Spread")
  k_Stretch : Cls K (ga K "Stretch")
  mk_Spread : Mk K (ga K "Spread") (ma K (ga K "Spread") "__init__")
  mk_Stretch : Mk K (ga K "Stretch") (ma K (ga K "Stretch") "__init__")
  ne_Spread : NeOk (GG K mg) 2
  sf_Spread : ∀ cA, mg (cn 2) = some (.ref cA) → PySem.W.selfFirst K cA = true
  px_Spread : PxOk (GG K mg) 2
  py_Spread_Stretch : PyOk (GG K mg) 2 3
  x_BadIndex : XcOk PW (GG K mg) 4 "index"
  x_BadPart : XcOk PW (GG K mg) 0 "part"
  xm_PlaneError : XmOk K (GG K mg) (.ref (ga K "PlaneError")) (xmF xr_PlaneError)
  xi_BadIndex : ∀ c b, xi_BadIndex c = some b → XiOk (GG K mg) c 4 b
  xi_BadPart : ∀ c b, xi_BadPart c = some b → XiOk (GG K mg) c 0 b
  xg_index : ∀ c, xf_index c = true → XgOk (GG K mg) c "index"
  xg_part : ∀ c, xf_part c = true → XgOk (GG K mg) c "part"
  c__law_has : mg "_law_has" = some (.ref (ga K "_law_has"))
  D__law_has : ∃ fd, FunD K "_law_has" "_law_has" (defArgs s__law_has) (defBody s__law_has) (defScope s__law_has) ([].map (Dv.v K)) [] (fAd K ("_law_has", none)) fd
  c__law_draw : mg "_law_draw" = some (.ref (ga K "_law_draw"))
  D__law_draw : ∃ fd, FunD K "_law_draw" "_law_draw" (defArgs s__law_draw) (defBody s__law_draw) (defScope s__law_draw) ([].map (Dv.v K)) [] (fAd K ("_law_draw", none)) fd
  c_is_list : mg "is_list" = some (.ref (ga K "is_list"))
  D_is_list : ∃ fd, FunD K "is_list" "is_list" (defArgs s_is_list) (defBody s_is_list) (defScope s_is_list) ([].map (Dv.v K)) [] (fAd K ("is_list", none)) fd
  c_by_lows : mg "by_lows" = some (.ref (ga K "by_lows"))
  D_by_lows : ∃ fd, FunD K "by_lows" "by_lows" (defArgs s_by_lows) (defBody s_by_lows) (defScope s_by_lows) ([].map (Dv.v K)) [] (fAd K ("by_lows", none)) fd
  c_united : mg "united" = some (.ref (ga K "united"))
  D_united : ∃ fd, FunD K "united" "united" (defArgs s_united) (defBody s_united) (defScope s_united) ([].map (Dv.v K)) [] (fAd K ("united", none)) fd
  D_Members_init : ∃ fd, FunD K "__init__" "Members.__init__" (defArgs s_Members_init) (defBody s_Members_init) (defScope s_Members_init) ([].map (Dv.v K)) [] (fAd K ("Members", some "__init__")) fd
  U_Spread : ∃ fd dv, (∀ w, Dens (GG K mg) w dv [.tup []]) ∧ SupM.TxtM PW K "Spread.__init__" s_Spread_init (ga K "Spread") (ma K (ga K "Spread") "__init__") (ma K (ga K "Members") "__init__") dv fd
  c__law_refused : mg "_law_refused" = some (.ref (ga K "_law_refused"))
  D__law_refused : ∃ fd, FunD K "_law_refused" "_law_refused" (defArgs s__law_refused) (defBody s__law_refused) (defScope s__law_refused) ([].map (Dv.v K)) [] (fAd K ("_law_refused", none)) fd
  h_Spread_eq : Meth K (ga K "Spread") "__eq__" (ma K (ga K "Spread") "__eq__")
  D_Spread_eq : ∃ fd, FunD K "__eq__" "Spread.__eq__" (defArgs s_Spread_eq) (defBody s_Spread_eq) (defScope s_Spread_eq) ([].map (Dv.v K)) [] (fAd K ("Spread", some "__eq__")) fd
  c_outside : mg "outside" = some (.ref (ga K "outside"))
  D_outside : ∃ fd, FunD K "outside" "outside" (defArgs s_outside) (defBody s_outside) (defScope s_outside) ([].map (Dv.v K)) [] (fAd K ("outside", none)) fd
  c_common_pair : mg "common_pair" = some (.ref (ga K "common_pair"))
  D_common_pair : ∃ fd, FunD K "common_pair" "common_pair" (defArgs s_common_pair) (defBody s_common_pair) (defScope s_common_pair) ([].map (Dv.v K)) [] (fAd K ("common_pair", none)) fd
  c_shared : mg "shared" = some (.ref (ga K "shared"))
  D_shared : ∃ fd, FunD K "shared" "shared" (defArgs s_shared) (defBody s_shared) (defScope s_shared) ([].map (Dv.v K)) [] (fAd K ("shared", none)) fd
  h_Spread_le : Meth K (ga K "Spread") "__le__" (ma K (ga K "Spread") "__le__")
  D_Spread_le : ∃ fd, FunD K "__le__" "Spread.__le__" (defArgs s_Spread_le) (defBody s_Spread_le) (defScope s_Spread_le) ([].map (Dv.v K)) [] (fAd K ("Spread", some "__le__")) fd
  c_has_in : mg "has_in" = some (.ref (ga K "has_in"))
  D_has_in : ∃ fd, FunD K "has_in" "has_in" (defArgs s_has_in) (defBody s_has_in) (defScope s_has_in) ([].map (Dv.v K)) [] (fAd K ("has_in", none)) fd
  c_is_integer : mg "is_integer" = some (.ref (ga K "is_integer"))
  D_is_integer : ∃ fd, FunD K "is_integer" "is_integer" (defArgs s_is_integer) (defBody s_is_integer) (defScope s_is_integer) ([].map (Dv.v K)) [] (fAd K ("is_integer", none)) fd
  h_Spread_holds : Meth K (ga K "Spread") "holds" (ma K (ga K "Spread") "holds")
  D_Spread_holds : ∃ fd, FunD K "holds" "Members.holds" (defArgs s_Spread_holds) (defBody s_Spread_holds) (defScope s_Spread_holds) ([].map (Dv.v K)) [] (fAd K ("Spread", some "holds")) fd
  U_Stretch : ∃ fd, SupM.TxtM PW K "Stretch.__init__" s_Stretch_init (ga K "Stretch") (ma K (ga K "Stretch") "__init__") (ma K (ga K "Members") "__init__") (List.replicate 2 V.non) fd
  h_Spread_told : Meth K (ga K "Spread") "told" (ma K (ga K "Spread") "told")
  D_Spread_told : ∃ fd, FunD K "told" "Spread.told" (defArgs s_Spread_told) (defBody s_Spread_told) (defScope s_Spread_told) ([].map (Dv.v K)) [] (fAd K ("Spread", some "told")) fd
  c__law_odd_right : mg "_law_odd_right" = some (.ref (ga K "_law_odd_right"))
  D__law_odd_right : ∃ fd, FunD K "_law_odd_right" "_law_odd_right" (defArgs s__law_odd_right) (defBody s__law_odd_right) (defScope s__law_odd_right) ([].map (Dv.v K)) [] (fAd K ("_law_odd_right", none)) fd
  c__law_points : mg "_law_points" = some (.ref (ga K "_law_points"))
  D__law_points : ∃ fd, FunD K "_law_points" "_law_points" (defArgs s__law_points) (defBody s__law_points) (defScope s__law_points) ([].map (Dv.v K)) [] (fAd K ("_law_points", none)) fd
  c__law_number : mg "_law_number" = some (.ref (ga K "_law_number"))
  D__law_number : ∃ fd, FunD K "_law_number" "_law_number" (defArgs s__law_number) (defBody s__law_number) (defScope s__law_number) ([].map (Dv.v K)) [] (fAd K ("_law_number", none)) fd
  c__law_ends : mg "_law_ends" = some (.ref (ga K "_law_ends"))
  D__law_ends : ∃ fd, FunD K "_law_ends" "_law_ends" (defArgs s__law_ends) (defBody s__law_ends) (defScope s__law_ends) ([].map (Dv.v K)) [] (fAd K ("_law_ends", none)) fd
  c__law_some : mg "_law_some" = some (.ref (ga K "_law_some"))
  D__law_some : ∃ fd, FunD K "_law_some" "_law_some" (defArgs s__law_some) (defBody s__law_some) (defScope s__law_some) ([].map (Dv.v K)) [] (fAd K ("_law_some", none)) fd
  c__law_spread : mg "_law_spread" = some (.ref (ga K "_law_spread"))
  D__law_spread : ∃ fd, FunD K "_law_spread" "_law_spread" (defArgs s__law_spread) (defBody s__law_spread) (defScope s__law_spread) ([].map (Dv.v K)) [] (fAd K ("_law_spread", none)) fd
  c__law_told : mg "_law_told" = some (.ref (ga K "_law_told"))
  D__law_told : ∃ fd, FunD K "_law_told" "_law_told" (defArgs s__law_told) (defBody s__law_told) (defScope s__law_told) ([].map (Dv.v K)) [] (fAd K ("_law_told", none)) fd
  h_Spread_bounds : Meth K (ga K "Spread") "bounds" (ma K (ga K "Spread") "bounds")
  D_Spread_bounds : ∃ fd, FunD K "bounds" "Spread.bounds" (defArgs s_Spread_bounds) (defBody s_Spread_bounds) (defScope s_Spread_bounds) ([].map (Dv.v K)) [] (fAd K ("Spread", some "bounds")) fd
  h_Spread_is_endless : Meth K (ga K "Spread") "is_endless" (ma K (ga K "Spread") "is_endless")
  D_Spread_is_endless : ∃ fd, FunD K "is_endless" "Spread.is_endless" (defArgs s_Spread_is_endless) (defBody s_Spread_is_endless) (defScope s_Spread_is_endless) ([].map (Dv.v K)) [] (fAd K ("Spread", some "is_endless")) fd
  c_law : mg "law" = some (.ref (ga K "law"))
  D_law : ∃ fd, FunD K "law" "law" (defArgs s_law) (defBody s_law) (defScope s_law) ([].map (Dv.v K)) [] (fAd K ("law", none)) fd
section
variable {wd : World} {base : Heap} {K : PySem.W.Frag} {mg : Str → Option Value}
/-! _law_has -/
def g__law_has : Sm := (qSeq (qFor (fIter (fVar 0)) (hTupL 2 (hCons (hName 2) (hCons (hName 3) hNil))) (qSeq (qIf (fAndB (fOrB (fCmpB isT (fVar 2) (fC .non)) (fCmpB leT (fVar 2) (fVar 1))) (fOrB (fCmpB isT (fVar 3) (fC .non)) (fCmpB ltT (fVar 1) (fVar 3)))) (qSeq (qRet (fC (.bl true)))
    qNil) qNil)
    qNil))
    (qSeq (qRet (fC (.bl false)))
    qNil))
def F__law_has : List T → M T := fnS 2 g__law_has
theorem sc__law_has : FnScope ["_law_pairs", "_law_number_here", "_law_low", "_law_high"] ["_law_pairs", "_law_number_here"] (defScope s__law_has) := ⟨rfl, rfl, rfl, by decide +kernel, rfl, by decide +kernel, by decide +kernel⟩
theorem run__law_has (T : Tx base wd K mg) {f : Addr} {fd : FuncData} {dv : List V} {kw : List (Str × V)} (F : FunD K "_law_has" "_law_has" (defArgs s__law_has) (defBody s__law_has) (defScope s__law_has) dv kw f fd) : FnOk PW wd K mg base (L2.CX PW wd) 1 f fd ["_law_pairs", "_law_number_here"] (spF (GG K mg) 2 (fnS 2 g__law_has)) :=
  fn_run (G := GG K mg) (k := 0) F sc__law_has rfl rfl fun cdv A outer s H E hr => by
    have B := bd_of (P := PW) (wd := wd) (G := GG K mg) (base := base) (cdv := cdv) (outer := outer) (H := H) (E := E) sc__law_has hr
    exact (ss_cons (ss_for po_of B.calm (i_seq B.eK (vr 0)) (B.tl 2 (gs_cons (B.nm 2) (gs_cons (B.nm 3) gs_nil))) (ss_cons (ss_if (w_t (w_and (w_t (w_or (B.isB (k_of (vr 2)) (k_of s_non)) (w_or1 (B.leB (k_of (vr 2)) (k_of (vr 1)))))) (w_and1 (w_t (w_or (B.isB (k_of (vr 3)) (k_of s_non)) (w_or1 (B.ltB (k_of (vr 1)) (k_of (vr 3))))))))) (ss_cons (ss_ret s_bl)
    ss_nil) ss_nil)
    ss_nil))
    (ss_cons (ss_ret s_bl)
    ss_nil))
theorem d__law_has (T : Tx base wd K mg) : DefOk PW wd base (GG K mg) 1 "_law_has" 2 [] F__law_has := by
  obtain ⟨fd, F⟩ := T.D__law_has
  exact ⟨_, fd, ["_law_pairs", "_law_number_here"], [], [], run__law_has T F, T.c__law_has, F.kp, (F.bindsN fun _ _ _ _ _ _ us hl => match us, hl with | [_, _], _ => rfl), .nil, fun _ => .nil⟩
/-! _law_draw -/
def g__law_draw : Sm := (qSeq (qSet 2 (fIx (fVar 0) (fC (.int 0))))
    (qSeq (qIf (fNotB (fTruR (fVar 2))) (qSeq (qRet (fC (.int 0)))
    qNil) qNil)
    (qSeq (qSet 3 (fBin modT (fB1 intT (fIx (fVar 0) (fC (.int 1)))) (fB1 lenT (fVar 2))))
    (qSeq (qSet 4 (fIx (fVar 2) (fVar 3)))
    (qSeq (qSetIx 0 (fBin addT (fIx (fVar 0) (fC (.int 1))) (fC (.int 1))) (fC (.int 1)))
    (qSeq (qIf (fCmpB geT (fVar 4) (fBin powT (fC (.int 10)) (fC (.int 18)))) (qSeq (qSetIx 2 (fBin divT (fVar 4) (fVar 1)) (fVar 3))
    (qSeq (qRet (fBin modT (fB1 intT (fVar 4)) (fVar 1)))
    qNil)) qNil)
    (qSeq (qSet 5 (fBin modT (fB1 intT (fBin addT (fBin addT (fBin mulT (fVar 4) (fC (.int 48271))) (fBin mulT (fIx (fVar 0) (fC (.int 1))) (fC (.int 69621)))) (fC (.int 11)))) (fC (.int 2147483647))))
    (qSeq (qRet (fBin modT (fBin modT (fB1 intT (fBin addT (fBin mulT (fVar 5) (fC (.int 16807))) (fBin mulT (fIx (fVar 0) (fC (.int 1))) (fC (.int 40692))))) (fC (.int 2147483629))) (fVar 1)))
    qNil))))))))
def F__law_draw : List T → M T := fnS 4 g__law_draw
theorem sc__law_draw : FnScope ["_law_state", "_law_limit", "_law_cells", "_law_at", "_law_cell", "_law_mixed"] ["_law_state", "_law_limit"] (defScope s__law_draw) := ⟨rfl, rfl, rfl, by decide +kernel, rfl, by decide +kernel, by decide +kernel⟩
theorem run__law_draw (T : Tx base wd K mg) {f : Addr} {fd : FuncData} {dv : List V} {kw : List (Str × V)} (F : FunD K "_law_draw" "_law_draw" (defArgs s__law_draw) (defBody s__law_draw) (defScope s__law_draw) dv kw f fd) : FnOk PW wd K mg base (L2.CX PW wd) 1 f fd ["_law_state", "_law_limit"] (spF (GG K mg) 2 (fnS 4 g__law_draw)) :=
  fn_run (G := GG K mg) (k := 0) F sc__law_draw rfl rfl fun cdv A outer s H E hr => by
    have B := bd_of (P := PW) (wd := wd) (G := GG K mg) (base := base) (cdv := cdv) (outer := outer) (H := H) (E := E) sc__law_draw hr
    exact (ss_cons (B.set 2 (B.ix (k_of (vr 0)) s_int))
    (ss_cons (ss_if (w_not (s_truR B.eK (vr 2))) (ss_cons (ss_ret s_int)
    ss_nil) ss_nil)
    (ss_cons (B.set 3 (B.mod (B.int T.m_int (k_of (B.ix (k_of (vr 0)) s_int))) (B.len T.m_len (k_of (vr 2)))))
    (ss_cons (B.set 4 (B.ix (k_of (vr 2)) (vr 3)))
    (ss_cons (B.put 0 (B.add (B.ix (k_of (vr 0)) s_int) s_int) s_int)
    (ss_cons (ss_if (B.geB (k_of (vr 4)) (k_of (B.pow s_int s_int))) (ss_cons (B.put 2 (B.div (vr 4) (vr 1)) (vr 3))
    (ss_cons (ss_ret (B.mod (B.int T.m_int (k_of (vr 4))) (vr 1)))
    ss_nil)) ss_nil)
    (ss_cons (B.set 5 (B.mod (B.int T.m_int (k_of (B.add (B.add (B.mul (vr 4) s_int) (B.mul (B.ix (k_of (vr 0)) s_int) s_int)) s_int))) s_int))
    (ss_cons (ss_ret (B.mod (B.mod (B.int T.m_int (k_of (B.add (B.mul (vr 5) s_int) (B.mul (B.ix (k_of (vr 0)) s_int) s_int)))) s_int) (vr 1)))
    ss_nil))))))))
theorem d__law_draw (T : Tx base wd K mg) : DefOk PW wd base (GG K mg) 1 "_law_draw" 2 [] F__law_draw := by
  obtain ⟨fd, F⟩ := T.D__law_draw
  exact ⟨_, fd, ["_law_state", "_law_limit"], [], [], run__law_draw T F, T.c__law_draw, F.kp, (F.bindsN fun _ _ _ _ _ _ us hl => match us, hl with | [_, _], _ => rfl), .nil, fun _ => .nil⟩
/-! is_list -/
def g_is_list : Sm := (qSeq (qRet (fBin (isiT tab) (fVar 0) (fTup [(fC (.ty "list")), (fC (.ty "tuple"))])))
    qNil)
def F_is_list : List T → M T := fnS 0 g_is_list
theorem sc_is_list : FnScope ["value"] ["value"] (defScope s_is_list) := ⟨rfl, rfl, rfl, by decide +kernel, rfl, by decide +kernel, by decide +kernel⟩
theorem run_is_list (T : Tx base wd K mg) {f : Addr} {fd : FuncData} {dv : List V} {kw : List (Str × V)} (F : FunD K "is_list" "is_list" (defArgs s_is_list) (defBody s_is_list) (defScope s_is_list) dv kw f fd) : FnOk PW wd K mg base (L2.CX PW wd) 1 f fd ["value"] (spF (GG K mg) 1 (fnS 0 g_is_list)) :=
  fn_run (G := GG K mg) (k := 0) F sc_is_list rfl rfl fun cdv A outer s H E hr => by
    have B := bd_of (P := PW) (wd := wd) (G := GG K mg) (base := base) (cdv := cdv) (outer := outer) (H := H) (E := E) sc_is_list hr
    exact (ss_cons (ss_ret (B.isi T.tab T.m_isinstance (vr 0) (s_tup (a_cons (B.ty "list" T.m_list) (a_cons (B.ty "tuple" T.m_tuple) a_nil)))))
    ss_nil)
theorem d_is_list (T : Tx base wd K mg) : DefOk PW wd base (GG K mg) 1 "is_list" 1 [] F_is_list := by
  obtain ⟨fd, F⟩ := T.D_is_list
  exact ⟨_, fd, ["value"], [], [], run_is_list T F, T.c_is_list, F.kp, (F.bindsN fun _ _ _ _ _ _ us hl => match us, hl with | [_], _ => rfl), .nil, fun _ => .nil⟩
/-! by_lows -/
def g_by_lows : Sm := (qSeq (qSet 1 (fOwn (fComp [5] (hName 5) (fCmpB nisT (fIx (fVar 5) (fC (.int 0))) (fC .non)) (fIx (fVar 5) (fC (.int 0))) (fIter (fVar 0)))))
    (qSeq (qSet 2 (fB1 lenT (fVar 1)))
    (qSeq (qSet 3 (fB1 sortT (fOwn (fComp [6, 7] (hTupL 2 (hCons (hName 6) (hCons (hName 7) hNil))) fYes (fB1 intT (fBin addT (fBin mulT (fVar 7) (fVar 2)) (fVar 6))) (fEnumA (fVar 1))))))
    (qSeq (qSet 4 (fOwn (fComp [5] (hName 5) (fCmpB nisT (fIx (fVar 5) (fC (.int 0))) (fC .non)) (fVar 5) (fIter (fVar 0)))))
    (qSeq (qRet (fBin addT (fOwn (fComp [5] (hName 5) (fCmpB isT (fIx (fVar 5) (fC (.int 0))) (fC .non)) (fVar 5) (fIter (fVar 0)))) (fOwn (fComp [8] (hName 8) fYes (fIx (fVar 4) (fBin modT (fB1 intT (fVar 8)) (fVar 2))) (fIter (fVar 3))))))
    qNil)))))
def F_by_lows : List T → M T := fnS 8 g_by_lows
theorem sc_by_lows : FnScope ["pairs", "lows", "many", "ranked", "others", "pair", "place", "low", "rank"] ["pairs"] (defScope s_by_lows) := ⟨rfl, rfl, rfl, by decide +kernel, rfl, by decide +kernel, by decide +kernel⟩
theorem run_by_lows (T : Tx base wd K mg) {f : Addr} {fd : FuncData} {dv : List V} {kw : List (Str × V)} (F : FunD K "by_lows" "by_lows" (defArgs s_by_lows) (defBody s_by_lows) (defScope s_by_lows) dv kw f fd) : FnOk PW wd K mg base (L2.CX PW wd) 1 f fd ["pairs"] (spF (GG K mg) 1 (fnS 8 g_by_lows)) :=
  fn_run (G := GG K mg) (k := 0) F sc_by_lows rfl rfl fun cdv A outer s H E hr => by
    have B := bd_of (P := PW) (wd := wd) (G := GG K mg) (base := base) (cdv := cdv) (outer := outer) (H := H) (E := E) sc_by_lows hr
    exact (ss_cons (B.setC 1 [("pair", 5)] (i_seq B.eK (vr 0)) (fun _ _ _ _ _ => ((B.blk _ _ _ _ _).nm 5)) (fun _ _ _ _ _ => (ts_one ((B.blk _ _ _ _ _).nisB (k_of ((B.blk _ _ _ _ _).ix (k_of (vr 5)) s_int)) (k_of s_non)))) (fun _ _ _ _ _ => ((B.blk _ _ _ _ _).ix (k_of (vr 5)) s_int)))
    (ss_cons (B.set 2 (B.len T.m_len (k_of (vr 1))))
    (ss_cons (B.set 3 (B.sorted T.m_sorted (k_of (s_own (B.comp [("place", 6), ("low", 7)] (i_enumA B.eK rfl (by rw [B.eM]; exact T.m_enumerate) (vr 1)) (fun _ _ _ _ _ => ((B.blk _ _ _ _ _).tl 2 (gs_cons ((B.blk _ _ _ _ _).nm 6) (gs_cons ((B.blk _ _ _ _ _).nm 7) gs_nil)))) (fun _ _ _ _ _ => ts_nil) (fun _ _ _ _ _ => ((B.blk _ _ _ _ _).int T.m_int (k_of ((B.blk _ _ _ _ _).add ((B.blk _ _ _ _ _).mul (vr 7) (vr 2)) (vr 6))))))))))
    (ss_cons (B.set 4 (s_own (B.comp [("pair", 5)] (i_seq B.eK (vr 0)) (fun _ _ _ _ _ => ((B.blk _ _ _ _ _).nm 5)) (fun _ _ _ _ _ => (ts_one ((B.blk _ _ _ _ _).nisB (k_of ((B.blk _ _ _ _ _).ix (k_of (vr 5)) s_int)) (k_of s_non)))) (fun _ _ _ _ _ => (vr 5)))))
    (ss_cons (ss_ret (B.add (s_own (B.comp [("pair", 5)] (i_seq B.eK (vr 0)) (fun _ _ _ _ _ => ((B.blk _ _ _ _ _).nm 5)) (fun _ _ _ _ _ => (ts_one ((B.blk _ _ _ _ _).isB (k_of ((B.blk _ _ _ _ _).ix (k_of (vr 5)) s_int)) (k_of s_non)))) (fun _ _ _ _ _ => (vr 5)))) (s_own (B.comp [("rank", 8)] (i_seq B.eK (vr 3)) (fun _ _ _ _ _ => ((B.blk _ _ _ _ _).nm 8)) (fun _ _ _ _ _ => ts_nil) (fun _ _ _ _ _ => ((B.blk _ _ _ _ _).ix (k_of (vr 4)) ((B.blk _ _ _ _ _).mod ((B.blk _ _ _ _ _).int T.m_int (k_of (vr 8))) (vr 2))))))))
    ss_nil)))))
theorem d_by_lows (T : Tx base wd K mg) : DefOk PW wd base (GG K mg) 1 "by_lows" 1 [] F_by_lows := by
  obtain ⟨fd, F⟩ := T.D_by_lows
  exact ⟨_, fd, ["pairs"], [], [], run_by_lows T F, T.c_by_lows, F.kp, (F.bindsN fun _ _ _ _ _ _ us hl => match us, hl with | [_], _ => rfl), .nil, fun _ => .nil⟩
/-! united -/
def g_united : Sm := (qSeq (qOwn 1 (fAll []))
    (qSeq (qFor (fIter (fCall F_by_lows [] [(fVar 0)])) (hTupL 2 (hCons (hName 2) (hCons (hName 3) hNil))) (qSeq (qIf (fAndB (fCmpB neT (fBor 1) (fLst [])) (fOrB (fCmpB isT (fIx (fIx (fBor 1) (fUn negT (fC (.int 1)))) (fC (.int 1))) (fC .non)) (fOrB (fCmpB isT (fVar 2) (fC .non)) (fCmpB leT (fVar 2) (fIx (fIx (fBor 1) (fUn negT (fC (.int 1)))) (fC (.int 1))))))) (qSeq (qAsg (fIx (fBor 1) (fUn negT (fC (.int 1)))) (hTupL 2 (hCons (hName 4) (hCons (hName 5) hNil))))
    (qSeq (qSetIx 1 (fTup [(fVar 4), (fIf (fOrB (fCmpB isT (fVar 5) (fC .non)) (fAndB (fCmpB nisT (fVar 3) (fC .non)) (fCmpB leT (fVar 3) (fVar 5)))) (fVar 5) (fVar 3))]) (fUn negT (fC (.int 1))))
    qNil)) (qSeq (qApp 1 (fTup [(fVar 2), (fVar 3)]))
    qNil))
    qNil))
    (qSeq (qFrz [1] (qRet (fVar 1)))
    qNil)))
def F_united : List T → M T := fnS 5 g_united
theorem sc_united : FnScope ["pairs", "found", "low", "high", "first", "end"] ["pairs"] (defScope s_united) := ⟨rfl, rfl, rfl, by decide +kernel, rfl, by decide +kernel, by decide +kernel⟩
theorem run_united (T : Tx base wd K mg) {f : Addr} {fd : FuncData} {dv : List V} {kw : List (Str × V)} (F : FunD K "united" "united" (defArgs s_united) (defBody s_united) (defScope s_united) dv kw f fd) : FnOk PW wd K mg base (L2.CX PW wd) 2 f fd ["pairs"] (spF (GG K mg) 1 (fnS 5 g_united)) :=
  fn_run (G := GG K mg) (k := 1) F sc_united rfl rfl fun cdv A outer s H E hr => by
    have B := bd_of (P := PW) (wd := wd) (G := GG K mg) (base := base) (cdv := cdv) (outer := outer) (H := H) (E := E) sc_united hr
    exact (ss_cons (B.own 1 (l_lst a_nil))
    (ss_cons (ss_for po_of B.calm (i_seq B.eK (B.call (d_by_lows T) (a_cons (vr 0) a_nil))) (B.tl 2 (gs_cons (B.nm 2) (gs_cons (B.nm 3) gs_nil))) (ss_cons (ss_if (w_t (w_and (B.neB (kv 1) (k_of (s_lst a_nil))) (w_and1 (w_t (w_or (B.isB (k_of (B.ix (k_of (B.ix (kv 1) (B.neg s_int))) s_int)) (k_of s_non)) (w_or (B.isB (k_of (vr 2)) (k_of s_non)) (w_or1 (B.leB (k_of (vr 2)) (k_of (B.ix (k_of (B.ix (kv 1) (B.neg s_int))) s_int)))))))))) (ss_cons (ss_asg (B.ix (kv 1) (B.neg s_int)) (B.tl 2 (gs_cons (B.nm 4) (gs_cons (B.nm 5) gs_nil))))
    (ss_cons (B.put 1 (s_tup (a_cons (vr 4) (a_cons (s_if (w_t (w_or (B.isB (k_of (vr 5)) (k_of s_non)) (w_or1 (w_t (w_and (B.nisB (k_of (vr 3)) (k_of s_non)) (w_and1 (B.leB (k_of (vr 3)) (k_of (vr 5))))))))) (vr 5) (vr 3)) a_nil))) (B.neg s_int))
    ss_nil)) (ss_cons (ss_app B.eK 1 rfl (by first | exact Or.inl rfl | exact Or.inr (Or.inl rfl) | exact Or.inr (Or.inr rfl)) (s_tup (a_cons (vr 2) (a_cons (vr 3) a_nil))))
    ss_nil))
    ss_nil))
    (ss_cons (ss_frzq [1] (ss_ret (vr 1)))
    ss_nil)))
theorem d_united (T : Tx base wd K mg) : DefOk PW wd base (GG K mg) 2 "united" 1 [] F_united := by
  obtain ⟨fd, F⟩ := T.D_united
  exact ⟨_, fd, ["pairs"], [], [], run_united T F, T.c_united, F.kp, (F.bindsN fun _ _ _ _ _ _ us hl => match us, hl with | [_], _ => rfl), .nil, fun _ => .nil⟩
/-! Spread_init -/
def g_Spread_init : Sm := (qSeq (qIf (fNotB (fTru (fCall F_is_list [] [(fVar 1)]))) (qSeq (qRaise 0 (fC (.str "stretches")))
    qNil) qNil)
    (qSeq (qForG (fEnumG (fVar 1)) (hTupL 2 (hCons (hName 3) (hCons (hName 4) hNil))) (qSeq (qIf (fNotB (fTru (fBin (isiT tab) (fVar 4) (fC (.cl 3))))) (qSeq (qRaise 4 (fVar 3))
    qNil) qNil)
    qNil))
    (qSeq (qFld 0 2 0 (fCall F_united [] [(fOwn (fCompG [4] (hName 4) fYes (fTup [(fFld m_low (fVar 4)), (fFld m_high (fVar 4))]) (fIterG (fVar 1))))]))
    qNil)))
def F_Spread_init : List T → M (List T) := fnI (GG [] (fun _ => none)) 2 3 g_Spread_init
theorem sc_Spread_init : NdefX.NScope ["self", "stretches", "__class__", "index", "stretch"] ["self", "stretches"] ["__class__"] (defScope s_Spread_init) := NdefX.nscope_by (by decide +kernel)
theorem sb_Spread (T : Tx base wd K mg) : ∃ fd, FnOk PW wd K mg base C8.CX0 1 (ma K (ga K "Members") "__init__") fd ["self", "pairs"] (SupM.spSet K "own_pairs") ∧ Binds K fd ["self", "pairs"] [] := by
  obtain ⟨fd, F⟩ := T.D_Members_init
  exact ⟨fd, SupM.set_run (qual := "Members.__init__") F ⟨rfl, rfl, rfl, by decide +kernel, rfl, by decide +kernel, by decide +kernel⟩ (.inl rfl) (.inl rfl) (by decide) (by decide) (by decide) (by decide) (fun _ => rfl), F.bindsN fun _ _ _ _ _ _ us hl => match us, hl with | [_, _], _ => rfl⟩
theorem d_Spread_init (T : Tx base wd K mg) : MakeOk PW wd base (GG K mg) 3 2 1 [] F_Spread_init := by
  obtain ⟨fd, dv, hT, U⟩ := T.U_Spread
  have hl : dv.length = 1 := (hT SupM.wdZ).length
  obtain ⟨fb, Fb, hbb⟩ := sb_Spread T
  obtain ⟨ds, hv, hb⟩ := SupM.TxtM.binds1 (ps := ["self", "stretches"]) U 2 1 (fun e => by rw [e] at hl; cases hl) (by rw [hl]; rfl) (fun _ _ _ _ _ _ _ _ us its h1 h2 => match us, its, h1, h2.trans hl with | [_, _], [_], _, _ => ⟨_, rfl, rfl⟩)
  rw [List.drop_eq_nil_of_le (by rw [hl]; decide)] at hv
  exact SupM.make_okX U sc_Spread_init rfl rfl T.c_Spread T.mk_Spread hb hv (fun w => .nil) fun cc cda A outer s H E Y hr => by
    have B := SupM.bd_ofX (P := PW) (wd := wd) (G := GG K mg) (base := base) (outer := outer) (H := H) (E := E) sc_Spread_init hr
    exact (SupM.ssa_cons (SupM.ssa_of (ss_if (w_not (B.tru (B.call (d_is_list T) (a_cons (vr 1) a_nil)))) (ss_cons (ss_raise B.calm B.eK B.eM B.tk B.rm (by decide) T.x_BadPart rfl s_str rfl)
    ss_nil) ss_nil))
    (SupM.ssa_cons (SupM.ssa_of (ss_forG SupM.po_ofX B.calm (i_enumG B.eK rfl (by rw [B.eM]; exact T.m_enumerate) (vr 1)) (B.tl 2 (gs_cons (B.nm 3) (gs_cons (B.nm 4) gs_nil))) (ss_cons (ss_if (w_not (B.tru (B.isi T.tab T.m_isinstance (vr 4) (B.cls 3 T.c_Stretch)))) (ss_cons (ss_raise B.calm B.eK B.eM B.tk B.rm (by decide) T.x_BadIndex rfl (vr 3) rfl)
    ss_nil) ss_nil)
    ss_nil)))
    (SupM.ssa_cons (SupM.ssa_super (i := 0) U Y rfl rfl rfl rfl rfl (by kernel_rfl) rfl (Fb.mono (by decide)) B.rm hbb T.c_Spread T.n_Spread_own_pairs (B.call (d_united T) (a_cons (s_own (B.compR [("stretch", 4)] (i_seqG B.eK (vr 1)) (fun _ _ _ _ _ => ((B.blk _ _ _ _ _).nm 4)) (fun _ _ _ _ _ => ts_nil) (fun _ _ _ _ _ => (s_tup (a_cons ((B.blk _ _ _ _ _).fld m_low T.f_low (vr 4)) (a_cons ((B.blk _ _ _ _ _).fld m_high T.f_high (vr 4)) a_nil)))))) a_nil)) ⟨_, rfl⟩ rfl rfl rfl rfl)
    (SupM.sssa_of ss_nil))))
theorem d_Spread_init_1 (T : Tx base wd K mg) : MakeOk PW wd base (GG K mg) 3 2 1 [.tup []] F_Spread_init := by
  obtain ⟨fd, dv, hT, U⟩ := T.U_Spread
  have hl : dv.length = 1 := (hT SupM.wdZ).length
  obtain ⟨fb, Fb, hbb⟩ := sb_Spread T
  obtain ⟨ds, hv, hb⟩ := SupM.TxtM.binds1 (ps := ["self", "stretches"]) U 1 0 (fun e => by rw [e] at hl; cases hl) (by rw [hl]; rfl) (fun _ _ _ _ _ _ _ _ us its h1 h2 => match us, its, h1, h2.trans hl with | [_], [_], _, _ => ⟨_, rfl, rfl⟩)
  exact SupM.make_okX U sc_Spread_init rfl rfl T.c_Spread T.mk_Spread hb hv (fun w => (hT w)) fun cc cda A outer s H E Y hr => by
    have B := SupM.bd_ofX (P := PW) (wd := wd) (G := GG K mg) (base := base) (outer := outer) (H := H) (E := E) sc_Spread_init hr
    exact (SupM.ssa_cons (SupM.ssa_of (ss_if (w_not (B.tru (B.call (d_is_list T) (a_cons (vr 1) a_nil)))) (ss_cons (ss_raise B.calm B.eK B.eM B.tk B.rm (by decide) T.x_BadPart rfl s_str rfl)
    ss_nil) ss_nil))
    (SupM.ssa_cons (SupM.ssa_of (ss_forG SupM.po_ofX B.calm (i_enumG B.eK rfl (by rw [B.eM]; exact T.m_enumerate) (vr 1)) (B.tl 2 (gs_cons (B.nm 3) (gs_cons (B.nm 4) gs_nil))) (ss_cons (ss_if (w_not (B.tru (B.isi T.tab T.m_isinstance (vr 4) (B.cls 3 T.c_Stretch)))) (ss_cons (ss_raise B.calm B.eK B.eM B.tk B.rm (by decide) T.x_BadIndex rfl (vr 3) rfl)
    ss_nil) ss_nil)
    ss_nil)))
    (SupM.ssa_cons (SupM.ssa_super (i := 0) U Y rfl rfl rfl rfl rfl (by kernel_rfl) rfl (Fb.mono (by decide)) B.rm hbb T.c_Spread T.n_Spread_own_pairs (B.call (d_united T) (a_cons (s_own (B.compR [("stretch", 4)] (i_seqG B.eK (vr 1)) (fun _ _ _ _ _ => ((B.blk _ _ _ _ _).nm 4)) (fun _ _ _ _ _ => ts_nil) (fun _ _ _ _ _ => (s_tup (a_cons ((B.blk _ _ _ _ _).fld m_low T.f_low (vr 4)) (a_cons ((B.blk _ _ _ _ _).fld m_high T.f_high (vr 4)) a_nil)))))) a_nil)) ⟨_, rfl⟩ rfl rfl rfl rfl)
    (SupM.sssa_of ss_nil))))
/-! _law_refused -/
def g__law_refused : Sm := (qSeq (qTry (qSeq (qExpr (fMake 2 F_Spread_init [] [(fVar 0)]))
    qNil) [(xmF xr_PlaneError, 1, (hIfRet (hIsi xi_BadPart) (fun c p => fTup (List.map (fun f : HM T => f c p) [(fun _ _ => (fC (.str "part"))), (hFld xf_part)])) (hIfRet (hIsi xi_BadIndex) (fun c p => fTup (List.map (fun f : HM T => f c p) [(fun _ _ => (fC (.str "index"))), (hFld xf_index)])) (fun _ _ => qNil))))])
    (qSeq (qRet (fC .non))
    qNil))
def F__law_refused : List T → M T := fnS 1 g__law_refused
theorem sc__law_refused : FnScope ["_law_value", "e"] ["_law_value"] (defScope s__law_refused) := ⟨rfl, rfl, rfl, by decide +kernel, rfl, by decide +kernel, by decide +kernel⟩
theorem run__law_refused (T : Tx base wd K mg) {f : Addr} {fd : FuncData} {dv : List V} {kw : List (Str × V)} (F : FunD K "_law_refused" "_law_refused" (defArgs s__law_refused) (defBody s__law_refused) (defScope s__law_refused) dv kw f fd) : FnOk PW wd K mg base (L2.CX PW wd) 5 f fd ["_law_value"] (spF (GG K mg) 1 (fnS 1 g__law_refused)) :=
  fn_run (G := GG K mg) (k := 4) F sc__law_refused rfl rfl fun cdv A outer s H E hr => by
    have B := bd_of (P := PW) (wd := wd) (G := GG K mg) (base := base) (cdv := cdv) (outer := outer) (H := H) (E := E) sc__law_refused hr
    exact (ss_cons (B.tryS (fun _ _ _ tq po => (have B := B.tr tq; (ss_cons (ss_expr (B.make (d_Spread_init T) (a_cons (vr 0) a_nil)))
    ss_nil))) (hg_cons ⟨rfl, by decide, .inl T.c_PlaneError⟩ rfl rfl T.xm_PlaneError (fun _ _ _ _ _ hz hf => (hs_ifret (he_isi rfl rfl hz hf xi_BadPart T.xi_BadPart rfl T.c_BadPart rfl (Or.inl rfl) T.m_isinstance) (he_tup (fs := [(fun _ _ => (fC (.str "part"))), (hFld xf_part)]) (ha_cons (he_of s_str) (ha_cons (he_fld rfl hz hf xf_part T.xg_part rfl (Or.inl rfl)) ha_nil))) (hs_ifret (he_isi rfl rfl hz hf xi_BadIndex T.xi_BadIndex rfl T.c_BadIndex rfl (Or.inl rfl) T.m_isinstance) (he_tup (fs := [(fun _ _ => (fC (.str "index"))), (hFld xf_index)]) (ha_cons (he_of s_str) (ha_cons (he_fld rfl hz hf xf_index T.xg_index rfl (Or.inl rfl)) ha_nil))) hs_nil))) hg_nil))
    (ss_cons (ss_ret s_non)
    ss_nil))
theorem d__law_refused (T : Tx base wd K mg) : DefOk PW wd base (GG K mg) 5 "_law_refused" 1 [] F__law_refused := by
  obtain ⟨fd, F⟩ := T.D__law_refused
  exact ⟨_, fd, ["_law_value"], [], [], run__law_refused T F, T.c__law_refused, F.kp, (F.bindsN fun _ _ _ _ _ _ us hl => match us, hl with | [_], _ => rfl), .nil, fun _ => .nil⟩
/-! Spread_eq -/
def g_Spread_eq : Sm := (qSeq (qRet (fAnd (fBin (isiT tab) (fVar 1) (fC (.cl 2))) (fCmp eqT (fFld m_own_pairs (fVar 0)) (fFld m_own_pairs (fVar 1)))))
    qNil)
def F_Spread_eq : List T → M T := fnS 0 g_Spread_eq
theorem sc_Spread_eq : FnScope ["self", "other"] ["self", "other"] (defScope s_Spread_eq) := ⟨rfl, rfl, rfl, by decide +kernel, rfl, by decide +kernel, by decide +kernel⟩
theorem run_Spread_eq (T : Tx base wd K mg) {f : Addr} {fd : FuncData} {dv : List V} {kw : List (Str × V)} (F : FunD K "__eq__" "Spread.__eq__" (defArgs s_Spread_eq) (defBody s_Spread_eq) (defScope s_Spread_eq) dv kw f fd) : FnOk PW wd K mg base (L2.CX PW wd) 1 f fd ["self", "other"] (spF (GG K mg) 2 (fnS 0 g_Spread_eq)) :=
  fn_run (G := GG K mg) (k := 0) F sc_Spread_eq rfl rfl fun cdv A outer s H E hr => by
    have B := bd_of (P := PW) (wd := wd) (G := GG K mg) (base := base) (cdv := cdv) (outer := outer) (H := H) (E := E) sc_Spread_eq hr
    exact (ss_cons (ss_ret (s_and (B.isi T.tab T.m_isinstance (vr 1) (B.cls 2 T.c_Spread)) (s_one (B.eq (k_of (B.fld m_own_pairs T.f_own_pairs (vr 0))) (k_of (B.fld m_own_pairs T.f_own_pairs (vr 1)))))))
    ss_nil)
theorem d_Spread_eq (T : Tx base wd K mg) : MethOk PW wd base (GG K mg) 1 2 "__eq__" 2 [] F_Spread_eq := by
  obtain ⟨fd, F⟩ := T.D_Spread_eq
  exact ⟨⟨_, _, fd, ["self", "other"], [], [], T.c_Spread, T.k_Spread, T.h_Spread_eq, run_Spread_eq T F, (F.bindsN fun _ _ _ _ _ _ us hl => match us, hl with | [_, _], _ => rfl), .nil, fun _ => .nil⟩, show ("__eq__" : Str) ∉ fl 2 by decide⟩
/-! outside -/
def g_outside : Sm := (qSeq (qOwn 1 (fAll []))
    (qSeq (qSet 2 (fC .non))
    (qSeq (qFor (fIter (fVar 0)) (hTupL 2 (hCons (hName 3) (hCons (hName 4) hNil))) (qSeq (qIf (fCmpB nisT (fVar 3) (fC .non)) (qSeq (qApp 1 (fTup [(fVar 2), (fVar 3)]))
    qNil) qNil)
    (qSeq (qIf (fCmpB isT (fVar 4) (fC .non)) (qSeq (qFrz [1] (qRet (fVar 1)))
    qNil) qNil)
    (qSeq (qSet 2 (fVar 4))
    qNil))))
    (qSeq (qFrz [1] (qRet (fLstX (fStar (fBor 1) (fCons (fTup [(fVar 2), (fC .non)]) (fAll []))))))
    qNil))))
def F_outside : List T → M T := fnS 4 g_outside
theorem sc_outside : FnScope ["pairs", "found", "low", "begin", "end"] ["pairs"] (defScope s_outside) := ⟨rfl, rfl, rfl, by decide +kernel, rfl, by decide +kernel, by decide +kernel⟩
theorem run_outside (T : Tx base wd K mg) {f : Addr} {fd : FuncData} {dv : List V} {kw : List (Str × V)} (F : FunD K "outside" "outside" (defArgs s_outside) (defBody s_outside) (defScope s_outside) dv kw f fd) : FnOk PW wd K mg base (L2.CX PW wd) 1 f fd ["pairs"] (spF (GG K mg) 1 (fnS 4 g_outside)) :=
  fn_run (G := GG K mg) (k := 0) F sc_outside rfl rfl fun cdv A outer s H E hr => by
    have B := bd_of (P := PW) (wd := wd) (G := GG K mg) (base := base) (cdv := cdv) (outer := outer) (H := H) (E := E) sc_outside hr
    exact (ss_cons (B.own 1 (l_lst a_nil))
    (ss_cons (B.set 2 s_non)
    (ss_cons (ss_for po_of B.calm (i_seq B.eK (vr 0)) (B.tl 2 (gs_cons (B.nm 3) (gs_cons (B.nm 4) gs_nil))) (ss_cons (ss_if (B.nisB (k_of (vr 3)) (k_of s_non)) (ss_cons (ss_app B.eK 1 rfl (by first | exact Or.inl rfl | exact Or.inr (Or.inl rfl) | exact Or.inr (Or.inr rfl)) (s_tup (a_cons (vr 2) (a_cons (vr 3) a_nil))))
    ss_nil) ss_nil)
    (ss_cons (ss_if (B.isB (k_of (vr 4)) (k_of s_non)) (ss_cons (ss_frzq [1] (ss_ret (vr 1)))
    ss_nil) ss_nil)
    (ss_cons (B.set 2 (vr 4))
    ss_nil))))
    (ss_cons (ss_frzq [1] (ss_ret (s_lstX (ax_star B.eK (kv 1) (ax_cons (s_tup (a_cons (vr 2) (a_cons s_non a_nil))) (ax_of a_nil))))))
    ss_nil))))
theorem d_outside (T : Tx base wd K mg) : DefOk PW wd base (GG K mg) 1 "outside" 1 [] F_outside := by
  obtain ⟨fd, F⟩ := T.D_outside
  exact ⟨_, fd, ["pairs"], [], [], run_outside T F, T.c_outside, F.kp, (F.bindsN fun _ _ _ _ _ _ us hl => match us, hl with | [_], _ => rfl), .nil, fun _ => .nil⟩
/-! common_pair -/
def g_common_pair : Sm := (qSeq (qSet 2 (fIf (fOrB (fCmpB isT (fIx (fVar 0) (fC (.int 0))) (fC .non)) (fAndB (fCmpB nisT (fIx (fVar 1) (fC (.int 0))) (fC .non)) (fCmpB gtT (fIx (fVar 1) (fC (.int 0))) (fIx (fVar 0) (fC (.int 0)))))) (fIx (fVar 1) (fC (.int 0))) (fIx (fVar 0) (fC (.int 0)))))
    (qSeq (qSet 3 (fIf (fOrB (fCmpB isT (fIx (fVar 0) (fC (.int 1))) (fC .non)) (fAndB (fCmpB nisT (fIx (fVar 1) (fC (.int 1))) (fC .non)) (fCmpB ltT (fIx (fVar 1) (fC (.int 1))) (fIx (fVar 0) (fC (.int 1)))))) (fIx (fVar 1) (fC (.int 1))) (fIx (fVar 0) (fC (.int 1)))))
    (qSeq (qRet (fIf (fAndB (fCmpB nisT (fVar 2) (fC .non)) (fAndB (fCmpB nisT (fVar 3) (fC .non)) (fCmpB geT (fVar 2) (fVar 3)))) (fC .non) (fTup [(fVar 2), (fVar 3)])))
    qNil)))
def F_common_pair : List T → M T := fnS 2 g_common_pair
theorem sc_common_pair : FnScope ["one", "other", "low", "high"] ["one", "other"] (defScope s_common_pair) := ⟨rfl, rfl, rfl, by decide +kernel, rfl, by decide +kernel, by decide +kernel⟩
theorem run_common_pair (T : Tx base wd K mg) {f : Addr} {fd : FuncData} {dv : List V} {kw : List (Str × V)} (F : FunD K "common_pair" "common_pair" (defArgs s_common_pair) (defBody s_common_pair) (defScope s_common_pair) dv kw f fd) : FnOk PW wd K mg base (L2.CX PW wd) 1 f fd ["one", "other"] (spF (GG K mg) 2 (fnS 2 g_common_pair)) :=
  fn_run (G := GG K mg) (k := 0) F sc_common_pair rfl rfl fun cdv A outer s H E hr => by
    have B := bd_of (P := PW) (wd := wd) (G := GG K mg) (base := base) (cdv := cdv) (outer := outer) (H := H) (E := E) sc_common_pair hr
    exact (ss_cons (B.set 2 (s_if (w_t (w_or (B.isB (k_of (B.ix (k_of (vr 0)) s_int)) (k_of s_non)) (w_or1 (w_t (w_and (B.nisB (k_of (B.ix (k_of (vr 1)) s_int)) (k_of s_non)) (w_and1 (B.gtB (k_of (B.ix (k_of (vr 1)) s_int)) (k_of (B.ix (k_of (vr 0)) s_int))))))))) (B.ix (k_of (vr 1)) s_int) (B.ix (k_of (vr 0)) s_int)))
    (ss_cons (B.set 3 (s_if (w_t (w_or (B.isB (k_of (B.ix (k_of (vr 0)) s_int)) (k_of s_non)) (w_or1 (w_t (w_and (B.nisB (k_of (B.ix (k_of (vr 1)) s_int)) (k_of s_non)) (w_and1 (B.ltB (k_of (B.ix (k_of (vr 1)) s_int)) (k_of (B.ix (k_of (vr 0)) s_int))))))))) (B.ix (k_of (vr 1)) s_int) (B.ix (k_of (vr 0)) s_int)))
    (ss_cons (ss_ret (s_if (w_t (w_and (B.nisB (k_of (vr 2)) (k_of s_non)) (w_and (B.nisB (k_of (vr 3)) (k_of s_non)) (w_and1 (B.geB (k_of (vr 2)) (k_of (vr 3))))))) s_non (s_tup (a_cons (vr 2) (a_cons (vr 3) a_nil)))))
    ss_nil)))
theorem d_common_pair (T : Tx base wd K mg) : DefOk PW wd base (GG K mg) 1 "common_pair" 2 [] F_common_pair := by
  obtain ⟨fd, F⟩ := T.D_common_pair
  exact ⟨_, fd, ["one", "other"], [], [], run_common_pair T F, T.c_common_pair, F.kp, (F.bindsN fun _ _ _ _ _ _ us hl => match us, hl with | [_, _], _ => rfl), .nil, fun _ => .nil⟩
/-! shared -/
def g_shared : Sm := (qSeq (qOwn 2 (fAll []))
    (qSeq (qFor (fIter (fVar 0)) (hName 3) (qSeq (qExt 2 (fOwn (fComp [4] (hName 4) fYes (fCall F_common_pair [] [(fVar 3), (fVar 4)]) (fIter (fVar 1)))))
    qNil))
    (qSeq (qFrz [2] (qRet (fOwn (fComp [3] (hName 3) (fCmpB nisT (fVar 3) (fC .non)) (fVar 3) (fIter (fVar 2))))))
    qNil)))
def F_shared : List T → M T := fnS 3 g_shared
theorem sc_shared : FnScope ["pairs", "others", "found", "pair", "other"] ["pairs", "others"] (defScope s_shared) := ⟨rfl, rfl, rfl, by decide +kernel, rfl, by decide +kernel, by decide +kernel⟩
theorem run_shared (T : Tx base wd K mg) {f : Addr} {fd : FuncData} {dv : List V} {kw : List (Str × V)} (F : FunD K "shared" "shared" (defArgs s_shared) (defBody s_shared) (defScope s_shared) dv kw f fd) : FnOk PW wd K mg base (L2.CX PW wd) 2 f fd ["pairs", "others"] (spF (GG K mg) 2 (fnS 3 g_shared)) :=
  fn_run (G := GG K mg) (k := 1) F sc_shared rfl rfl fun cdv A outer s H E hr => by
    have B := bd_of (P := PW) (wd := wd) (G := GG K mg) (base := base) (cdv := cdv) (outer := outer) (H := H) (E := E) sc_shared hr
    exact (ss_cons (B.own 2 (l_lst a_nil))
    (ss_cons (ss_for po_of B.calm (i_seq B.eK (vr 0)) (B.nm 3) (ss_cons (ss_ext B.eK 2 rfl (by first | exact Or.inl rfl | exact Or.inr (Or.inl rfl) | exact Or.inr (Or.inr rfl)) (s_own (B.comp [("other", 4)] (i_seq B.eK (vr 1)) (fun _ _ _ _ _ => ((B.blk _ _ _ _ _).nm 4)) (fun _ _ _ _ _ => ts_nil) (fun _ _ _ _ _ => ((B.blk _ _ _ _ _).call (d_common_pair T) (a_cons (vr 3) (a_cons (vr 4) a_nil)))))))
    ss_nil))
    (ss_cons (ss_frzq [2] (ss_ret (s_own (B.comp [("pair", 3)] (i_seq B.eK (vr 2)) (fun _ _ _ _ _ => ((B.blk _ _ _ _ _).nm 3)) (fun _ _ _ _ _ => (ts_one ((B.blk _ _ _ _ _).nisB (k_of (vr 3)) (k_of s_non)))) (fun _ _ _ _ _ => (vr 3))))))
    ss_nil)))
theorem d_shared (T : Tx base wd K mg) : DefOk PW wd base (GG K mg) 2 "shared" 2 [] F_shared := by
  obtain ⟨fd, F⟩ := T.D_shared
  exact ⟨_, fd, ["pairs", "others"], [], [], run_shared T F, T.c_shared, F.kp, (F.bindsN fun _ _ _ _ _ _ us hl => match us, hl with | [_, _], _ => rfl), .nil, fun _ => .nil⟩
/-! Spread_le -/
def g_Spread_le : Sm := (qSeq (qRet (fAnd (fBin (isiT tab) (fVar 1) (fC (.cl 2))) (fCmp eqT (fCall F_shared [] [(fFld m_own_pairs (fVar 0)), (fCall F_outside [] [(fFld m_own_pairs (fVar 1))])]) (fLst []))))
    qNil)
def F_Spread_le : List T → M T := fnS 0 g_Spread_le
theorem sc_Spread_le : FnScope ["self", "other"] ["self", "other"] (defScope s_Spread_le) := ⟨rfl, rfl, rfl, by decide +kernel, rfl, by decide +kernel, by decide +kernel⟩
theorem run_Spread_le (T : Tx base wd K mg) {f : Addr} {fd : FuncData} {dv : List V} {kw : List (Str × V)} (F : FunD K "__le__" "Spread.__le__" (defArgs s_Spread_le) (defBody s_Spread_le) (defScope s_Spread_le) dv kw f fd) : FnOk PW wd K mg base (L2.CX PW wd) 3 f fd ["self", "other"] (spF (GG K mg) 2 (fnS 0 g_Spread_le)) :=
  fn_run (G := GG K mg) (k := 2) F sc_Spread_le rfl rfl fun cdv A outer s H E hr => by
    have B := bd_of (P := PW) (wd := wd) (G := GG K mg) (base := base) (cdv := cdv) (outer := outer) (H := H) (E := E) sc_Spread_le hr
    exact (ss_cons (ss_ret (s_and (B.isi T.tab T.m_isinstance (vr 1) (B.cls 2 T.c_Spread)) (s_one (B.eq (k_of (B.call (d_shared T) (a_cons (B.fld m_own_pairs T.f_own_pairs (vr 0)) (a_cons (B.call (d_outside T) (a_cons (B.fld m_own_pairs T.f_own_pairs (vr 1)) a_nil)) a_nil)))) (k_of (s_lst a_nil))))))
    ss_nil)
theorem d_Spread_le (T : Tx base wd K mg) : MethOk PW wd base (GG K mg) 3 2 "__le__" 2 [] F_Spread_le := by
  obtain ⟨fd, F⟩ := T.D_Spread_le
  exact ⟨⟨_, _, fd, ["self", "other"], [], [], T.c_Spread, T.k_Spread, T.h_Spread_le, run_Spread_le T F, (F.bindsN fun _ _ _ _ _ _ us hl => match us, hl with | [_, _], _ => rfl), .nil, fun _ => .nil⟩, show ("__le__" : Str) ∉ fl 2 by decide⟩
/-! has_in -/
def g_has_in : Sm := (qSeq (qAsg (fVar 0) (hTupL 2 (hCons (hName 2) (hCons (hName 3) hNil))))
    (qSeq (qRet (fAnd (fOr (fCmp isT (fVar 2) (fC .non)) (fCmp leT (fVar 2) (fVar 1))) (fOr (fCmp isT (fVar 3) (fC .non)) (fCmp ltT (fVar 1) (fVar 3)))))
    qNil))
def F_has_in : List T → M T := fnS 2 g_has_in
theorem sc_has_in : FnScope ["pair", "number", "low", "high"] ["pair", "number"] (defScope s_has_in) := ⟨rfl, rfl, rfl, by decide +kernel, rfl, by decide +kernel, by decide +kernel⟩
theorem run_has_in (T : Tx base wd K mg) {f : Addr} {fd : FuncData} {dv : List V} {kw : List (Str × V)} (F : FunD K "has_in" "has_in" (defArgs s_has_in) (defBody s_has_in) (defScope s_has_in) dv kw f fd) : FnOk PW wd K mg base (L2.CX PW wd) 1 f fd ["pair", "number"] (spF (GG K mg) 2 (fnS 2 g_has_in)) :=
  fn_run (G := GG K mg) (k := 0) F sc_has_in rfl rfl fun cdv A outer s H E hr => by
    have B := bd_of (P := PW) (wd := wd) (G := GG K mg) (base := base) (cdv := cdv) (outer := outer) (H := H) (E := E) sc_has_in hr
    exact (ss_cons (ss_asg (vr 0) (B.tl 2 (gs_cons (B.nm 2) (gs_cons (B.nm 3) gs_nil))))
    (ss_cons (ss_ret (s_and (s_or (B.is_ (k_of (vr 2)) (k_of s_non)) (s_one (B.le (k_of (vr 2)) (k_of (vr 1))))) (s_one (s_or (B.is_ (k_of (vr 3)) (k_of s_non)) (s_one (B.lt (k_of (vr 1)) (k_of (vr 3))))))))
    ss_nil))
theorem d_has_in (T : Tx base wd K mg) : DefOk PW wd base (GG K mg) 1 "has_in" 2 [] F_has_in := by
  obtain ⟨fd, F⟩ := T.D_has_in
  exact ⟨_, fd, ["pair", "number"], [], [], run_has_in T F, T.c_has_in, F.kp, (F.bindsN fun _ _ _ _ _ _ us hl => match us, hl with | [_, _], _ => rfl), .nil, fun _ => .nil⟩
/-! is_integer -/
def g_is_integer : Sm := (qSeq (qRet (fAnd (fBin (isiT tab) (fVar 0) (fC (.ty "int"))) (fNot (fBin (isiT tab) (fVar 0) (fC (.ty "bool"))))))
    qNil)
def F_is_integer : List T → M T := fnS 0 g_is_integer
theorem sc_is_integer : FnScope ["value"] ["value"] (defScope s_is_integer) := ⟨rfl, rfl, rfl, by decide +kernel, rfl, by decide +kernel, by decide +kernel⟩
theorem run_is_integer (T : Tx base wd K mg) {f : Addr} {fd : FuncData} {dv : List V} {kw : List (Str × V)} (F : FunD K "is_integer" "is_integer" (defArgs s_is_integer) (defBody s_is_integer) (defScope s_is_integer) dv kw f fd) : FnOk PW wd K mg base (L2.CX PW wd) 1 f fd ["value"] (spF (GG K mg) 1 (fnS 0 g_is_integer)) :=
  fn_run (G := GG K mg) (k := 0) F sc_is_integer rfl rfl fun cdv A outer s H E hr => by
    have B := bd_of (P := PW) (wd := wd) (G := GG K mg) (base := base) (cdv := cdv) (outer := outer) (H := H) (E := E) sc_is_integer hr
    exact (ss_cons (ss_ret (s_and (B.isi T.tab T.m_isinstance (vr 0) (B.ty "int" T.m_int)) (s_one (s_not (B.isi T.tab T.m_isinstance (vr 0) (B.ty "bool" T.m_bool))))))
    ss_nil)
theorem d_is_integer (T : Tx base wd K mg) : DefOk PW wd base (GG K mg) 1 "is_integer" 1 [] F_is_integer := by
  obtain ⟨fd, F⟩ := T.D_is_integer
  exact ⟨_, fd, ["value"], [], [], run_is_integer T F, T.c_is_integer, F.kp, (F.bindsN fun _ _ _ _ _ _ us hl => match us, hl with | [_], _ => rfl), .nil, fun _ => .nil⟩
/-! Spread_holds -/
def g_Spread_holds : Sm := (qSeq (qRet (fAnd (fCall F_is_integer [] [(fVar 1)]) (fB1 anyT (fOwn (fComp [2] (hName 2) fYes (fCall F_has_in [] [(fVar 2), (fVar 1)]) (fIter (fFld m_own_pairs (fVar 0))))))))
    qNil)
def F_Spread_holds : List T → M T := fnS 1 g_Spread_holds
theorem sc_Spread_holds : FnScope ["self", "number", "pair"] ["self", "number"] (defScope s_Spread_holds) := ⟨rfl, rfl, rfl, by decide +kernel, rfl, by decide +kernel, by decide +kernel⟩
theorem run_Spread_holds (T : Tx base wd K mg) {f : Addr} {fd : FuncData} {dv : List V} {kw : List (Str × V)} (F : FunD K "holds" "Members.holds" (defArgs s_Spread_holds) (defBody s_Spread_holds) (defScope s_Spread_holds) dv kw f fd) : FnOk PW wd K mg base (L2.CX PW wd) 2 f fd ["self", "number"] (spF (GG K mg) 2 (fnS 1 g_Spread_holds)) :=
  fn_run (G := GG K mg) (k := 1) F sc_Spread_holds rfl rfl fun cdv A outer s H E hr => by
    have B := bd_of (P := PW) (wd := wd) (G := GG K mg) (base := base) (cdv := cdv) (outer := outer) (H := H) (E := E) sc_Spread_holds hr
    exact (ss_cons (ss_ret (s_and (B.call (d_is_integer T) (a_cons (vr 1) a_nil)) (s_one (B.any T.m_any (k_of (s_own (B.comp [("pair", 2)] (i_seq B.eK (B.fld m_own_pairs T.f_own_pairs (vr 0))) (fun _ _ _ _ _ => ((B.blk _ _ _ _ _).nm 2)) (fun _ _ _ _ _ => ts_nil) (fun _ _ _ _ _ => ((B.blk _ _ _ _ _).call (d_has_in T) (a_cons (vr 2) (a_cons (vr 1) a_nil)))))))))))
    ss_nil)
theorem d_Spread_holds (T : Tx base wd K mg) : MethOk PW wd base (GG K mg) 2 2 "holds" 2 [] F_Spread_holds := by
  obtain ⟨fd, F⟩ := T.D_Spread_holds
  exact ⟨⟨_, _, fd, ["self", "number"], [], [], T.c_Spread, T.k_Spread, T.h_Spread_holds, run_Spread_holds T F, (F.bindsN fun _ _ _ _ _ _ us hl => match us, hl with | [_, _], _ => rfl), .nil, fun _ => .nil⟩, show ("holds" : Str) ∉ fl 2 by decide⟩
/-! Stretch_init -/
def g_Stretch_init : Sm := (qSeq (qIf (fNotB (fTru (fB1 allT (fOwn (fComp [4] (hName 4) fYes (fOr (fCmp isT (fVar 4) (fC .non)) (fCall F_is_integer [] [(fVar 4)])) (fIter (fTup [(fVar 1), (fVar 2)]))))))) (qSeq (qRaise 0 (fC (.str "stretch")))
    qNil) qNil)
    (qSeq (qIf (fAndB (fCmpB nisT (fVar 1) (fC .non)) (fAndB (fCmpB nisT (fVar 2) (fC .non)) (fCmpB geT (fVar 1) (fVar 2)))) (qSeq (qRaise 0 (fC (.str "stretch")))
    qNil) qNil)
    (qSeq (qFld 0 3 0 (fLst [(fTup [(fVar 1), (fVar 2)])]))
    (qSeq (qFld 0 3 1 (fVar 1))
    (qSeq (qFld 0 3 2 (fVar 2))
    qNil)))))
def F_Stretch_init : List T → M (List T) := fnI (GG [] (fun _ => none)) 3 2 g_Stretch_init
theorem sc_Stretch_init : NdefX.NScope ["self", "low", "high", "__class__", "end"] ["self", "low", "high"] ["__class__"] (defScope s_Stretch_init) := NdefX.nscope_by (by decide +kernel)
theorem sb_Stretch (T : Tx base wd K mg) : ∃ fd, FnOk PW wd K mg base C8.CX0 1 (ma K (ga K "Members") "__init__") fd ["self", "pairs"] (SupM.spSet K "own_pairs") ∧ Binds K fd ["self", "pairs"] [] := by
  obtain ⟨fd, F⟩ := T.D_Members_init
  exact ⟨fd, SupM.set_run (qual := "Members.__init__") F ⟨rfl, rfl, rfl, by decide +kernel, rfl, by decide +kernel, by decide +kernel⟩ (.inl rfl) (.inl rfl) (by decide) (by decide) (by decide) (by decide) (fun _ => rfl), F.bindsN fun _ _ _ _ _ _ us hl => match us, hl with | [_, _], _ => rfl⟩
theorem d_Stretch_init (T : Tx base wd K mg) : MakeOk PW wd base (GG K mg) 3 3 2 [] F_Stretch_init := by
  obtain ⟨fd, U⟩ := T.U_Stretch
  obtain ⟨fb, Fb, hbb⟩ := sb_Stretch T
  obtain ⟨ds, hv, hb⟩ := SupM.TxtM.binds1 (ps := ["self", "low", "high"]) U 3 2 (by decide) (by decide) (fun _ _ _ _ _ _ _ _ us its h1 h2 => match us, its, h1, h2 with | [_, _, _], [_, _], _, _ => ⟨_, rfl, rfl⟩)
  exact SupM.make_okX U sc_Stretch_init rfl rfl T.c_Stretch T.mk_Stretch hb hv (fun w => .nil) fun cc cda A outer s H E Y hr => by
    have B := SupM.bd_ofX (P := PW) (wd := wd) (G := GG K mg) (base := base) (outer := outer) (H := H) (E := E) sc_Stretch_init hr
    exact (SupM.ssa_cons (SupM.ssa_of (ss_if (w_not (B.tru (B.all T.m_all (k_of (s_own (B.comp [("end", 4)] (i_seq B.eK (s_tup (a_cons (vr 1) (a_cons (vr 2) a_nil)))) (fun _ _ _ _ _ => ((B.blk _ _ _ _ _).nm 4)) (fun _ _ _ _ _ => ts_nil) (fun _ _ _ _ _ => (s_or ((B.blk _ _ _ _ _).is_ (k_of (vr 4)) (k_of s_non)) (s_one ((B.blk _ _ _ _ _).call (d_is_integer T) (a_cons (vr 4) a_nil))))))))))) (ss_cons (ss_raise B.calm B.eK B.eM B.tk B.rm (by decide) T.x_BadPart rfl s_str rfl)
    ss_nil) ss_nil))
    (SupM.ssa_cons (SupM.ssa_of (ss_if (w_t (w_and (B.nisB (k_of (vr 1)) (k_of s_non)) (w_and (B.nisB (k_of (vr 2)) (k_of s_non)) (w_and1 (B.geB (k_of (vr 1)) (k_of (vr 2))))))) (ss_cons (ss_raise B.calm B.eK B.eM B.tk B.rm (by decide) T.x_BadPart rfl s_str rfl)
    ss_nil) ss_nil))
    (SupM.ssa_cons (SupM.ssa_super (i := 0) U Y rfl rfl rfl rfl rfl (by kernel_rfl) rfl (Fb.mono (by decide)) B.rm hbb T.c_Stretch T.n_Stretch_own_pairs (s_lst (a_cons (s_tup (a_cons (vr 1) (a_cons (vr 2) a_nil))) a_nil)) ⟨_, rfl⟩ rfl rfl rfl rfl)
    (SupM.sssa_of (ss_cons (ss_fld B.eK 0 rfl (Or.inl rfl) T.n_Stretch_low (vr 1))
    (ss_cons (ss_fld B.eK 0 rfl (Or.inl rfl) T.n_Stretch_high (vr 2))
    ss_nil))))))
theorem d_Stretch_init_2 (T : Tx base wd K mg) : MakeOk PW wd base (GG K mg) 3 3 2 [.non, .non] F_Stretch_init := by
  obtain ⟨fd, U⟩ := T.U_Stretch
  obtain ⟨fb, Fb, hbb⟩ := sb_Stretch T
  obtain ⟨ds, hv, hb⟩ := SupM.TxtM.binds1 (ps := ["self", "low", "high"]) U 1 0 (by decide) (by decide) (fun _ _ _ _ _ _ _ _ us its h1 h2 => match us, its, h1, h2 with | [_], [_, _], _, _ => ⟨_, rfl, rfl⟩)
  exact SupM.make_okX U sc_Stretch_init rfl rfl T.c_Stretch T.mk_Stretch hb hv (fun w => (.cons .non (.cons .non .nil))) fun cc cda A outer s H E Y hr => by
    have B := SupM.bd_ofX (P := PW) (wd := wd) (G := GG K mg) (base := base) (outer := outer) (H := H) (E := E) sc_Stretch_init hr
    exact (SupM.ssa_cons (SupM.ssa_of (ss_if (w_not (B.tru (B.all T.m_all (k_of (s_own (B.comp [("end", 4)] (i_seq B.eK (s_tup (a_cons (vr 1) (a_cons (vr 2) a_nil)))) (fun _ _ _ _ _ => ((B.blk _ _ _ _ _).nm 4)) (fun _ _ _ _ _ => ts_nil) (fun _ _ _ _ _ => (s_or ((B.blk _ _ _ _ _).is_ (k_of (vr 4)) (k_of s_non)) (s_one ((B.blk _ _ _ _ _).call (d_is_integer T) (a_cons (vr 4) a_nil))))))))))) (ss_cons (ss_raise B.calm B.eK B.eM B.tk B.rm (by decide) T.x_BadPart rfl s_str rfl)
    ss_nil) ss_nil))
    (SupM.ssa_cons (SupM.ssa_of (ss_if (w_t (w_and (B.nisB (k_of (vr 1)) (k_of s_non)) (w_and (B.nisB (k_of (vr 2)) (k_of s_non)) (w_and1 (B.geB (k_of (vr 1)) (k_of (vr 2))))))) (ss_cons (ss_raise B.calm B.eK B.eM B.tk B.rm (by decide) T.x_BadPart rfl s_str rfl)
    ss_nil) ss_nil))
    (SupM.ssa_cons (SupM.ssa_super (i := 0) U Y rfl rfl rfl rfl rfl (by kernel_rfl) rfl (Fb.mono (by decide)) B.rm hbb T.c_Stretch T.n_Stretch_own_pairs (s_lst (a_cons (s_tup (a_cons (vr 1) (a_cons (vr 2) a_nil))) a_nil)) ⟨_, rfl⟩ rfl rfl rfl rfl)
    (SupM.sssa_of (ss_cons (ss_fld B.eK 0 rfl (Or.inl rfl) T.n_Stretch_low (vr 1))
    (ss_cons (ss_fld B.eK 0 rfl (Or.inl rfl) T.n_Stretch_high (vr 2))
    ss_nil))))))
/-! Spread_told -/
def g_Spread_told : Sm := (qSeq (qRet (fOwn (fComp [1, 2] (hTupL 2 (hCons (hName 1) (hCons (hName 2) hNil))) fYes (fMake 3 F_Stretch_init [] [(fVar 1), (fVar 2)]) (fIter (fFld m_own_pairs (fVar 0))))))
    qNil)
def F_Spread_told : List T → M T := fnS 2 g_Spread_told
theorem sc_Spread_told : FnScope ["self", "low", "high"] ["self"] (defScope s_Spread_told) := ⟨rfl, rfl, rfl, by decide +kernel, rfl, by decide +kernel, by decide +kernel⟩
theorem run_Spread_told (T : Tx base wd K mg) {f : Addr} {fd : FuncData} {dv : List V} {kw : List (Str × V)} (F : FunD K "told" "Spread.told" (defArgs s_Spread_told) (defBody s_Spread_told) (defScope s_Spread_told) dv kw f fd) : FnOk PW wd K mg base (L2.CX PW wd) 5 f fd ["self"] (spF (GG K mg) 1 (fnS 2 g_Spread_told)) :=
  fn_run (G := GG K mg) (k := 4) F sc_Spread_told rfl rfl fun cdv A outer s H E hr => by
    have B := bd_of (P := PW) (wd := wd) (G := GG K mg) (base := base) (cdv := cdv) (outer := outer) (H := H) (E := E) sc_Spread_told hr
    exact (ss_cons (ss_ret (s_own (B.comp [("low", 1), ("high", 2)] (i_seq B.eK (B.fld m_own_pairs T.f_own_pairs (vr 0))) (fun _ _ _ _ _ => ((B.blk _ _ _ _ _).tl 2 (gs_cons ((B.blk _ _ _ _ _).nm 1) (gs_cons ((B.blk _ _ _ _ _).nm 2) gs_nil)))) (fun _ _ _ _ _ => ts_nil) (fun _ _ _ _ _ => ((B.blk _ _ _ _ _).make (d_Stretch_init T) (a_cons (vr 1) (a_cons (vr 2) a_nil)))))))
    ss_nil)
theorem d_Spread_told (T : Tx base wd K mg) : MethOk PW wd base (GG K mg) 5 2 "told" 1 [] F_Spread_told := by
  obtain ⟨fd, F⟩ := T.D_Spread_told
  exact ⟨⟨_, _, fd, ["self"], [], [], T.c_Spread, T.k_Spread, T.h_Spread_told, run_Spread_told T F, (F.bindsN fun _ _ _ _ _ _ us hl => match us, hl with | [_], _ => rfl), .nil, fun _ => .nil⟩, show ("told" : Str) ∉ fl 2 by decide⟩
def g_Spread_toldR : Sm := (qSeq (qRet (fRef (fComp [1, 2] (hTupL 2 (hCons (hName 1) (hCons (hName 2) hNil))) fYes (fMake 3 F_Stretch_init [] [(fVar 1), (fVar 2)]) (fIter (fFld m_own_pairs (fVar 0))))))
    qNil)
def F_Spread_toldR : List T → M T := fnS 2 g_Spread_toldR
theorem run_Spread_toldR (T : Tx base wd K mg) {f : Addr} {fd : FuncData} {dv : List V} {kw : List (Str × V)} (F : FunD K "told" "Spread.told" (defArgs s_Spread_told) (defBody s_Spread_told) (defScope s_Spread_told) dv kw f fd) : FnOk PW wd K mg base (L2.CX PW wd) 5 f fd ["self"] (spF (GG K mg) 1 (fnS 2 g_Spread_toldR)) :=
  fn_run (G := GG K mg) (k := 4) F sc_Spread_told rfl rfl fun cdv A outer s H E hr => by
    have B := bd_of (P := PW) (wd := wd) (G := GG K mg) (base := base) (cdv := cdv) (outer := outer) (H := H) (E := E) sc_Spread_told hr
    exact (ss_cons (ss_ret (s_ref (B.comp [("low", 1), ("high", 2)] (i_seq B.eK (B.fld m_own_pairs T.f_own_pairs (vr 0))) (fun _ _ _ _ _ => ((B.blk _ _ _ _ _).tl 2 (gs_cons ((B.blk _ _ _ _ _).nm 1) (gs_cons ((B.blk _ _ _ _ _).nm 2) gs_nil)))) (fun _ _ _ _ _ => ts_nil) (fun _ _ _ _ _ => ((B.blk _ _ _ _ _).make (d_Stretch_init T) (a_cons (vr 1) (a_cons (vr 2) a_nil)))))))
    ss_nil)
theorem d_Spread_toldR (T : Tx base wd K mg) : MethOk PW wd base (GG K mg) 5 2 "told" 1 [] F_Spread_toldR := by
  obtain ⟨fd, F⟩ := T.D_Spread_told
  exact ⟨⟨_, _, fd, ["self"], [], [], T.c_Spread, T.k_Spread, T.h_Spread_told, run_Spread_toldR T F, (F.bindsN fun _ _ _ _ _ _ us hl => match us, hl with | [_], _ => rfl), .nil, fun _ => .nil⟩, show ("told" : Str) ∉ fl 2 by decide⟩
/-! _law_odd_right -/
def g__law_odd_right : Sm := (qSeq (qSet 2 (fIx (fTup [(fC .non), (fC (.int 5)), (fC (.str "row")), (fNewD fDisp0), (fTup [(fC (.int 1)), (fC (.int 2))])]) (fCall F__law_draw [] [(fVar 0), (fC (.int 4))])))
    (qSeq (qIf (fCmpB neT (fCall F__law_refused [] [(fVar 2)]) (fTup [(fC (.str "part")), (fC (.str "stretches"))])) (qSeq (qRet (fC (.bl false)))
    qNil) qNil)
    (qSeq (qSet 3 (fRef (fComp [8, 9] (hTupL 2 (hCons (hName 8) (hCons (hName 9) hNil))) fYes (fMake 3 F_Stretch_init [] [(fVar 8), (fVar 9)]) (fIter (fVar 1)))))
    (qSeq (qSet 4 (fCall F__law_draw [] [(fVar 0), (fBin addT (fB1 lenT (fBor 3)) (fC (.int 1)))]))
    (qSeq (qSet 5 (fIx (fTup [(fTup [(fC (.int 0)), (fC (.int 1))]), (fC .non), (fC (.int 3)), (fMake 2 F_Spread_init [.tup []] [])]) (fCall F__law_draw [] [(fVar 0), (fC (.int 4))])))
    (qSeq (qIf (fCmpB neT (fCall F__law_refused [] [(fBin addT (fBin addT (fSl (fBor 3) none (some (fVar 4))) (fLst [(fVar 5), (fC .non)])) (fSl (fBor 3) (some (fVar 4)) none))]) (fTup [(fC (.str "index")), (fVar 4)])) (qSeq (qRet (fC (.bl false)))
    qNil) qNil)
    (qSeq (qSet 6 (fMake 2 F_Spread_init [] [(fVar 3)]))
    (qSeq (qSet 7 (fOwn (fComp [10] (hName 10) fYes (fTup [(fFld m_low (fVar 10)), (fFld m_high (fVar 10))]) (fIter (fMeth 2 F_Spread_told [] (fVar 6) [])))))
    (qSeq (qApp 3 (fMake 3 F_Stretch_init [.non, .non] []))
    (qSeq (qAppE (fMeth 2 F_Spread_toldR [] (fVar 6) []) (fMake 3 F_Stretch_init [.non, .non] []))
    (qSeq (qIf (fCmpB neT (fOwn (fComp [10] (hName 10) fYes (fTup [(fFld m_low (fVar 10)), (fFld m_high (fVar 10))]) (fIter (fMeth 2 F_Spread_told [] (fVar 6) [])))) (fVar 7)) (qSeq (qRet (fC (.bl false)))
    qNil) qNil)
    (qSeq (qFrz [3] (qRet (fAnd (fCmp isT (fun env => (fVar 6) env >>= fun x => (fVar 3) env >>= fun y => own2r 2 F_Spread_eq x y) (fC (.bl false))) (fAnd (fCmp isT (fun env => (fVar 6) env >>= fun x => (fMake 3 F_Stretch_init [.non, .non] []) env >>= fun y => own2y 2 3 F_Spread_le x y) (fC (.bl false))) (fCmp isT (fMeth 2 F_Spread_holds [] (fVar 6) [(fC (.str "0"))]) (fC (.bl false)))))))
    qNil))))))))))))
def F__law_odd_right : List T → M T := fnS 9 g__law_odd_right
theorem sc__law_odd_right : FnScope ["_law_state", "_law_pairs", "_law_odd", "_law_items", "_law_at", "_law_strange", "_law_spread_here", "_law_told_here", "_law_low", "_law_high", "_law_one"] ["_law_state", "_law_pairs"] (defScope s__law_odd_right) := ⟨rfl, rfl, rfl, by decide +kernel, rfl, by decide +kernel, by decide +kernel⟩
theorem run__law_odd_right (T : Tx base wd K mg) {f : Addr} {fd : FuncData} {dv : List V} {kw : List (Str × V)} (F : FunD K "_law_odd_right" "_law_odd_right" (defArgs s__law_odd_right) (defBody s__law_odd_right) (defScope s__law_odd_right) dv kw f fd) : FnOk PW wd K mg base (L2.CX PW wd) 6 f fd ["_law_state", "_law_pairs"] (spF (GG K mg) 2 (fnS 9 g__law_odd_right)) :=
  fn_run (G := GG K mg) (k := 5) F sc__law_odd_right rfl rfl fun cdv A outer s H E hr => by
    have B := bd_of (P := PW) (wd := wd) (G := GG K mg) (base := base) (cdv := cdv) (outer := outer) (H := H) (E := E) sc__law_odd_right hr
    exact (ss_cons (B.set 2 (B.ix (k_of (s_tup (a_cons s_non (a_cons s_int (a_cons s_str (a_cons (s_newD n_disp0) (a_cons (s_tup (a_cons s_int (a_cons s_int a_nil))) a_nil))))))) (B.call (d__law_draw T) (a_cons (vr 0) (a_cons s_int a_nil)))))
    (ss_cons (ss_if (B.neB (k_of (B.call (d__law_refused T) (a_cons (vr 2) a_nil))) (k_of (s_tup (a_cons s_str (a_cons s_str a_nil))))) (ss_cons (ss_ret s_bl)
    ss_nil) ss_nil)
    (ss_cons (B.setCF 3 [("_law_low", 8), ("_law_high", 9)] (i_seq B.eK (vr 1)) (fun _ _ _ _ _ => ((B.blk _ _ _ _ _).tl 2 (gs_cons ((B.blk _ _ _ _ _).nm 8) (gs_cons ((B.blk _ _ _ _ _).nm 9) gs_nil)))) (fun _ _ _ _ _ => ts_nil) (fun _ _ _ _ _ => ((B.blk _ _ _ _ _).make (d_Stretch_init T) (a_cons (vr 8) (a_cons (vr 9) a_nil)))))
    (ss_cons (B.set 4 (B.call (d__law_draw T) (a_cons (vr 0) (a_cons (B.add (B.len T.m_len (kv 3)) s_int) a_nil))))
    (ss_cons (B.set 5 (B.ix (k_of (s_tup (a_cons (s_tup (a_cons s_int (a_cons s_int a_nil))) (a_cons s_non (a_cons s_int (a_cons (s_make0 (d_Spread_init_1 T) rfl B.eK B.eM B.tk B.rm (by decide) rfl) a_nil)))))) (B.call (d__law_draw T) (a_cons (vr 0) (a_cons s_int a_nil)))))
    (ss_cons (ss_if (B.neB (k_of (B.call (d__law_refused T) (a_cons (B.add (B.add (B.sl (kv 3) o_none (o_some (vr 4))) (s_lst (a_cons (vr 5) (a_cons s_non a_nil)))) (B.sl (kv 3) (o_some (vr 4)) o_none)) a_nil))) (k_of (s_tup (a_cons s_str (a_cons (vr 4) a_nil))))) (ss_cons (ss_ret s_bl)
    ss_nil) ss_nil)
    (ss_cons (B.set 6 (B.make (d_Spread_init T) (a_cons (vr 3) a_nil)))
    (ss_cons (B.setC 7 [("_law_one", 10)] (i_seq B.eK (s_meth0 (d_Spread_told T) B.eK B.eM B.tk B.rm (by decide) (vr 6))) (fun _ _ _ _ _ => ((B.blk _ _ _ _ _).nm 10)) (fun _ _ _ _ _ => ts_nil) (fun _ _ _ _ _ => (s_tup (a_cons ((B.blk _ _ _ _ _).fld m_low T.f_low (vr 10)) (a_cons ((B.blk _ _ _ _ _).fld m_high T.f_high (vr 10)) a_nil)))))
    (ss_cons (ss_app B.eK 3 rfl (by first | exact Or.inl rfl | exact Or.inr (Or.inl rfl) | exact Or.inr (Or.inr rfl)) (s_make0 (d_Stretch_init_2 T) rfl B.eK B.eM B.tk B.rm (by decide) rfl))
    (ss_cons (ss_appE B.eK (s_meth0 (d_Spread_toldR T) B.eK B.eM B.tk B.rm (by decide) (vr 6)) (s_make0 (d_Stretch_init_2 T) rfl B.eK B.eM B.tk B.rm (by decide) rfl))
    (ss_cons (ss_if (B.neB (k_of (s_own (B.comp [("_law_one", 10)] (i_seq B.eK (s_meth0 (d_Spread_told T) B.eK B.eM B.tk B.rm (by decide) (vr 6))) (fun _ _ _ _ _ => ((B.blk _ _ _ _ _).nm 10)) (fun _ _ _ _ _ => ts_nil) (fun _ _ _ _ _ => (s_tup (a_cons ((B.blk _ _ _ _ _).fld m_low T.f_low (vr 10)) (a_cons ((B.blk _ _ _ _ _).fld m_high T.f_high (vr 10)) a_nil))))))) (k_of (vr 7))) (ss_cons (ss_ret s_bl)
    ss_nil) ss_nil)
    (ss_cons (ss_frzq [3] (ss_ret (s_and (B.is_ (k_of (s_ownR (fun _ _ => rfl) T.px_Spread (d_Spread_eq T) B.eK B.eM B.rm (by decide) (vr 6) (vr 3) rfl)) (k_of s_bl)) (s_and (B.is_ (k_of (s_ownY (fun _ _ => rfl) T.py_Spread_Stretch T.px_Spread (d_Spread_le T) B.eK B.eM B.rm (by decide) (vr 6) (s_make0 (d_Stretch_init_2 T) rfl B.eK B.eM B.tk B.rm (by decide) rfl) rfl)) (k_of s_bl)) (s_one (B.is_ (k_of (s_meth (d_Spread_holds T) B.eK B.eM B.tk B.rm (by decide) (vr 6) (a_cons s_str a_nil))) (k_of s_bl)))))))
    ss_nil))))))))))))
theorem d__law_odd_right (T : Tx base wd K mg) : DefOk PW wd base (GG K mg) 6 "_law_odd_right" 2 [] F__law_odd_right := by
  obtain ⟨fd, F⟩ := T.D__law_odd_right
  exact ⟨_, fd, ["_law_state", "_law_pairs"], [], [], run__law_odd_right T F, T.c__law_odd_right, F.kp, (F.bindsN fun _ _ _ _ _ _ us hl => match us, hl with | [_, _], _ => rfl), .nil, fun _ => .nil⟩
/-! _law_points -/
def g__law_points : Sm := (qSeq (qSet 1 (fLst [(fUn negT (fBin powT (fC (.int 10)) (fC (.int 40)))), (fUn negT (fC (.int 1))), (fC (.int 0)), (fC (.int 1)), (fBin powT (fC (.int 10)) (fC (.int 40)))]))
    (qSeq (qFor (fIter (fVar 0)) (hTupL 2 (hCons (hName 2) (hCons (hName 3) hNil))) (qSeq (qFor (fIter (fTup [(fVar 2), (fVar 3)])) (hName 4) (qSeq (qIf (fCmpB nisT (fVar 4) (fC .non)) (qSeq (qSet 1 (fBin addT (fVar 1) (fLst [(fBin subT (fVar 4) (fC (.int 2))), (fBin subT (fVar 4) (fC (.int 1))), (fVar 4), (fBin addT (fVar 4) (fC (.int 1))), (fBin addT (fVar 4) (fC (.int 3)))])))
    qNil) qNil)
    qNil))
    qNil))
    (qSeq (qRet (fVar 1))
    qNil)))
def F__law_points : List T → M T := fnS 4 g__law_points
theorem sc__law_points : FnScope ["_law_pairs", "_law_found", "_law_low", "_law_high", "_law_end"] ["_law_pairs"] (defScope s__law_points) := ⟨rfl, rfl, rfl, by decide +kernel, rfl, by decide +kernel, by decide +kernel⟩
theorem run__law_points (T : Tx base wd K mg) {f : Addr} {fd : FuncData} {dv : List V} {kw : List (Str × V)} (F : FunD K "_law_points" "_law_points" (defArgs s__law_points) (defBody s__law_points) (defScope s__law_points) dv kw f fd) : FnOk PW wd K mg base (L2.CX PW wd) 1 f fd ["_law_pairs"] (spF (GG K mg) 1 (fnS 4 g__law_points)) :=
  fn_run (G := GG K mg) (k := 0) F sc__law_points rfl rfl fun cdv A outer s H E hr => by
    have B := bd_of (P := PW) (wd := wd) (G := GG K mg) (base := base) (cdv := cdv) (outer := outer) (H := H) (E := E) sc__law_points hr
    exact (ss_cons (B.set 1 (s_lst (a_cons (B.neg (B.pow s_int s_int)) (a_cons (B.neg s_int) (a_cons s_int (a_cons s_int (a_cons (B.pow s_int s_int) a_nil)))))))
    (ss_cons (ss_for po_of B.calm (i_seq B.eK (vr 0)) (B.tl 2 (gs_cons (B.nm 2) (gs_cons (B.nm 3) gs_nil))) (ss_cons (ss_for po_of B.calm (i_seq B.eK (s_tup (a_cons (vr 2) (a_cons (vr 3) a_nil)))) (B.nm 4) (ss_cons (ss_if (B.nisB (k_of (vr 4)) (k_of s_non)) (ss_cons (B.set 1 (B.add (vr 1) (s_lst (a_cons (B.sub (vr 4) s_int) (a_cons (B.sub (vr 4) s_int) (a_cons (vr 4) (a_cons (B.add (vr 4) s_int) (a_cons (B.add (vr 4) s_int) a_nil))))))))
    ss_nil) ss_nil)
    ss_nil))
    ss_nil))
    (ss_cons (ss_ret (vr 1))
    ss_nil)))
theorem d__law_points (T : Tx base wd K mg) : DefOk PW wd base (GG K mg) 1 "_law_points" 1 [] F__law_points := by
  obtain ⟨fd, F⟩ := T.D__law_points
  exact ⟨_, fd, ["_law_pairs"], [], [], run__law_points T F, T.c__law_points, F.kp, (F.bindsN fun _ _ _ _ _ _ us hl => match us, hl with | [_], _ => rfl), .nil, fun _ => .nil⟩
/-! _law_number -/
def g__law_number : Sm := (qSeq (qIf (fCmpB ltT (fCall F__law_draw [] [(fVar 0), (fC (.int 5))]) (fC (.int 4))) (qSeq (qRet (fBin subT (fCall F__law_draw [] [(fVar 0), (fBin addT (fBin mulT (fC (.int 2)) (fVar 1)) (fC (.int 1)))]) (fVar 1)))
    qNil) qNil)
    (qSeq (qSet 2 (fC (.int 0)))
    (qSeq (qFor (fRng1 (fC (.int 4))) (hName 3) (qSeq (qSet 2 (fBin addT (fBin mulT (fVar 2) (fBin powT (fC (.int 2)) (fC (.int 24)))) (fCall F__law_draw [] [(fVar 0), (fBin powT (fC (.int 2)) (fC (.int 24)))])))
    qNil))
    (qSeq (qRet (fBin mulT (fBin addT (fVar 2) (fBin powT (fC (.int 10)) (fC (.int 29)))) (fBin subT (fC (.int 1)) (fBin mulT (fC (.int 2)) (fCall F__law_draw [] [(fVar 0), (fC (.int 2))])))))
    qNil))))
def F__law_number : List T → M T := fnS 2 g__law_number
theorem sc__law_number : FnScope ["_law_state", "_law_most", "_law_number_here", "_law_turn"] ["_law_state", "_law_most"] (defScope s__law_number) := ⟨rfl, rfl, rfl, by decide +kernel, rfl, by decide +kernel, by decide +kernel⟩
theorem run__law_number (T : Tx base wd K mg) {f : Addr} {fd : FuncData} {dv : List V} {kw : List (Str × V)} (F : FunD K "_law_number" "_law_number" (defArgs s__law_number) (defBody s__law_number) (defScope s__law_number) dv kw f fd) : FnOk PW wd K mg base (L2.CX PW wd) 2 f fd ["_law_state", "_law_most"] (spF (GG K mg) 2 (fnS 2 g__law_number)) :=
  fn_run (G := GG K mg) (k := 1) F sc__law_number rfl rfl fun cdv A outer s H E hr => by
    have B := bd_of (P := PW) (wd := wd) (G := GG K mg) (base := base) (cdv := cdv) (outer := outer) (H := H) (E := E) sc__law_number hr
    exact (ss_cons (ss_if (B.ltB (k_of (B.call (d__law_draw T) (a_cons (vr 0) (a_cons s_int a_nil)))) (k_of s_int)) (ss_cons (ss_ret (B.sub (B.call (d__law_draw T) (a_cons (vr 0) (a_cons (B.add (B.mul s_int (vr 1)) s_int) a_nil))) (vr 1)))
    ss_nil) ss_nil)
    (ss_cons (B.set 2 s_int)
    (ss_cons (ss_for po_of B.calm (i_range1 rfl (by rw [B.eM]; exact T.m_range) s_int) (B.nm 3) (ss_cons (B.set 2 (B.add (B.mul (vr 2) (B.pow s_int s_int)) (B.call (d__law_draw T) (a_cons (vr 0) (a_cons (B.pow s_int s_int) a_nil)))))
    ss_nil))
    (ss_cons (ss_ret (B.mul (B.add (vr 2) (B.pow s_int s_int)) (B.sub s_int (B.mul s_int (B.call (d__law_draw T) (a_cons (vr 0) (a_cons s_int a_nil)))))))
    ss_nil))))
theorem d__law_number (T : Tx base wd K mg) : DefOk PW wd base (GG K mg) 2 "_law_number" 2 [] F__law_number := by
  obtain ⟨fd, F⟩ := T.D__law_number
  exact ⟨_, fd, ["_law_state", "_law_most"], [], [], run__law_number T F, T.c__law_number, F.kp, (F.bindsN fun _ _ _ _ _ _ us hl => match us, hl with | [_, _], _ => rfl), .nil, fun _ => .nil⟩
/-! _law_ends -/
def g__law_ends : Sm := (qSeq (qSet 1 (fCall F__law_number [] [(fVar 0), (fC (.int 9))]))
    (qSeq (qSet 2 (fBin addT (fBin addT (fVar 1) (fC (.int 1))) (fBin mulT (fCall F__law_draw [] [(fVar 0), (fC (.int 9))]) (fBin addT (fC (.int 1)) (fCall F__law_draw [] [(fVar 0), (fC (.int 2))])))))
    (qSeq (qIf (fCmpB eqT (fCall F__law_draw [] [(fVar 0), (fC (.int 8))]) (fC (.int 7))) (qSeq (qSet 2 (fBin addT (fBin addT (fVar 2) (fBin powT (fC (.int 10)) (fC (.int 30)))) (fCall F__law_draw [] [(fVar 0), (fC (.int 99))])))
    qNil) qNil)
    (qSeq (qSet 3 (fCall F__law_draw [] [(fVar 0), (fC (.int 9))]))
    (qSeq (qIf (fCmpB eqT (fVar 3) (fC (.int 7))) (qSeq (qSet 1 (fC .non))
    qNil) qNil)
    (qSeq (qIf (fCmpB eqT (fVar 3) (fC (.int 8))) (qSeq (qSet 2 (fC .non))
    qNil) qNil)
    (qSeq (qIf (fAndB (fCmpB eqT (fVar 3) (fC (.int 6))) (fCmpB eqT (fCall F__law_draw [] [(fVar 0), (fC (.int 2))]) (fC (.int 1)))) (qSeq (qRet (fTup [(fC .non), (fC .non)]))
    qNil) qNil)
    (qSeq (qRet (fTup [(fVar 1), (fVar 2)]))
    qNil))))))))
def F__law_ends : List T → M T := fnS 3 g__law_ends
theorem sc__law_ends : FnScope ["_law_state", "_law_low", "_law_high", "_law_way"] ["_law_state"] (defScope s__law_ends) := ⟨rfl, rfl, rfl, by decide +kernel, rfl, by decide +kernel, by decide +kernel⟩
theorem run__law_ends (T : Tx base wd K mg) {f : Addr} {fd : FuncData} {dv : List V} {kw : List (Str × V)} (F : FunD K "_law_ends" "_law_ends" (defArgs s__law_ends) (defBody s__law_ends) (defScope s__law_ends) dv kw f fd) : FnOk PW wd K mg base (L2.CX PW wd) 3 f fd ["_law_state"] (spF (GG K mg) 1 (fnS 3 g__law_ends)) :=
  fn_run (G := GG K mg) (k := 2) F sc__law_ends rfl rfl fun cdv A outer s H E hr => by
    have B := bd_of (P := PW) (wd := wd) (G := GG K mg) (base := base) (cdv := cdv) (outer := outer) (H := H) (E := E) sc__law_ends hr
    exact (ss_cons (B.set 1 (B.call (d__law_number T) (a_cons (vr 0) (a_cons s_int a_nil))))
    (ss_cons (B.set 2 (B.add (B.add (vr 1) s_int) (B.mul (B.call (d__law_draw T) (a_cons (vr 0) (a_cons s_int a_nil))) (B.add s_int (B.call (d__law_draw T) (a_cons (vr 0) (a_cons s_int a_nil)))))))
    (ss_cons (ss_if (B.eqB (k_of (B.call (d__law_draw T) (a_cons (vr 0) (a_cons s_int a_nil)))) (k_of s_int)) (ss_cons (B.set 2 (B.add (B.add (vr 2) (B.pow s_int s_int)) (B.call (d__law_draw T) (a_cons (vr 0) (a_cons s_int a_nil)))))
    ss_nil) ss_nil)
    (ss_cons (B.set 3 (B.call (d__law_draw T) (a_cons (vr 0) (a_cons s_int a_nil))))
    (ss_cons (ss_if (B.eqB (k_of (vr 3)) (k_of s_int)) (ss_cons (B.set 1 s_non)
    ss_nil) ss_nil)
    (ss_cons (ss_if (B.eqB (k_of (vr 3)) (k_of s_int)) (ss_cons (B.set 2 s_non)
    ss_nil) ss_nil)
    (ss_cons (ss_if (w_t (w_and (B.eqB (k_of (vr 3)) (k_of s_int)) (w_and1 (B.eqB (k_of (B.call (d__law_draw T) (a_cons (vr 0) (a_cons s_int a_nil)))) (k_of s_int))))) (ss_cons (ss_ret (s_tup (a_cons s_non (a_cons s_non a_nil))))
    ss_nil) ss_nil)
    (ss_cons (ss_ret (s_tup (a_cons (vr 1) (a_cons (vr 2) a_nil))))
    ss_nil))))))))
theorem d__law_ends (T : Tx base wd K mg) : DefOk PW wd base (GG K mg) 3 "_law_ends" 1 [] F__law_ends := by
  obtain ⟨fd, F⟩ := T.D__law_ends
  exact ⟨_, fd, ["_law_state"], [], [], run__law_ends T F, T.c__law_ends, F.kp, (F.bindsN fun _ _ _ _ _ _ us hl => match us, hl with | [_], _ => rfl), .nil, fun _ => .nil⟩
/-! _law_some -/
def g__law_some : Sm := (qSeq (qOwn 2 (fComp [5] (hName 5) fYes (fCall F__law_ends [] [(fVar 0)]) (fRng1 (fCall F__law_draw [] [(fVar 0), (fBin addT (fVar 1) (fC (.int 1)))]))))
    (qSeq (qFor (fRng2 (fC (.int 1)) (fB1 lenT (fBor 2))) (hName 3) (qSeq (qIf (fAndB (fCmpB eqT (fCall F__law_draw [] [(fVar 0), (fC (.int 3))]) (fC (.int 2))) (fCmpB nisT (fIx (fIx (fBor 2) (fBin subT (fVar 3) (fC (.int 1)))) (fC (.int 1))) (fC .non))) (qSeq (qSet 4 (fBin addT (fIx (fIx (fBor 2) (fBin subT (fVar 3) (fC (.int 1)))) (fC (.int 1))) (fCall F__law_draw [] [(fVar 0), (fC (.int 2))])))
    (qSeq (qSetIx 2 (fTup [(fVar 4), (fBin addT (fBin addT (fVar 4) (fC (.int 1))) (fCall F__law_draw [] [(fVar 0), (fC (.int 5))]))]) (fVar 3))
    qNil)) qNil)
    qNil))
    (qSeq (qFrz [2] (qRet (fVar 2)))
    qNil)))
def F__law_some : List T → M T := fnS 4 g__law_some
theorem sc__law_some : FnScope ["_law_state", "_law_most", "_law_pairs", "_law_k", "_law_low", "_law_turn"] ["_law_state", "_law_most"] (defScope s__law_some) := ⟨rfl, rfl, rfl, by decide +kernel, rfl, by decide +kernel, by decide +kernel⟩
theorem run__law_some (T : Tx base wd K mg) {f : Addr} {fd : FuncData} {dv : List V} {kw : List (Str × V)} (F : FunD K "_law_some" "_law_some" (defArgs s__law_some) (defBody s__law_some) (defScope s__law_some) dv kw f fd) : FnOk PW wd K mg base (L2.CX PW wd) 4 f fd ["_law_state", "_law_most"] (spF (GG K mg) 2 (fnS 4 g__law_some)) :=
  fn_run (G := GG K mg) (k := 3) F sc__law_some rfl rfl fun cdv A outer s H E hr => by
    have B := bd_of (P := PW) (wd := wd) (G := GG K mg) (base := base) (cdv := cdv) (outer := outer) (H := H) (E := E) sc__law_some hr
    exact (ss_cons (B.ownC 2 [("_law_turn", 5)] (i_range1 rfl (by rw [B.eM]; exact T.m_range) (B.call (d__law_draw T) (a_cons (vr 0) (a_cons (B.add (vr 1) s_int) a_nil)))) (fun _ _ _ _ _ => ((B.blk _ _ _ _ _).nm 5)) (fun _ _ _ _ _ => ts_nil) (fun _ _ _ _ _ => ((B.blk _ _ _ _ _).call (d__law_ends T) (a_cons (vr 0) a_nil))))
    (ss_cons (ss_for po_of B.calm (i_range2 rfl (by rw [B.eM]; exact T.m_range) s_int (B.len T.m_len (kv 2))) (B.nm 3) (ss_cons (ss_if (w_t (w_and (B.eqB (k_of (B.call (d__law_draw T) (a_cons (vr 0) (a_cons s_int a_nil)))) (k_of s_int)) (w_and1 (B.nisB (k_of (B.ix (k_of (B.ix (kv 2) (B.sub (vr 3) s_int))) s_int)) (k_of s_non))))) (ss_cons (B.set 4 (B.add (B.ix (k_of (B.ix (kv 2) (B.sub (vr 3) s_int))) s_int) (B.call (d__law_draw T) (a_cons (vr 0) (a_cons s_int a_nil)))))
    (ss_cons (B.put 2 (s_tup (a_cons (vr 4) (a_cons (B.add (B.add (vr 4) s_int) (B.call (d__law_draw T) (a_cons (vr 0) (a_cons s_int a_nil)))) a_nil))) (vr 3))
    ss_nil)) ss_nil)
    ss_nil))
    (ss_cons (ss_frzq [2] (ss_ret (vr 2)))
    ss_nil)))
theorem d__law_some (T : Tx base wd K mg) : DefOk PW wd base (GG K mg) 4 "_law_some" 2 [] F__law_some := by
  obtain ⟨fd, F⟩ := T.D__law_some
  exact ⟨_, fd, ["_law_state", "_law_most"], [], [], run__law_some T F, T.c__law_some, F.kp, (F.bindsN fun _ _ _ _ _ _ us hl => match us, hl with | [_, _], _ => rfl), .nil, fun _ => .nil⟩
/-! _law_spread -/
def g__law_spread : Sm := (qSeq (qRet (fMake 2 F_Spread_init [] [(fOwn (fComp [1, 2] (hTupL 2 (hCons (hName 1) (hCons (hName 2) hNil))) fYes (fMake 3 F_Stretch_init [] [(fVar 1), (fVar 2)]) (fIter (fVar 0))))]))
    qNil)
def F__law_spread : List T → M T := fnS 2 g__law_spread
theorem sc__law_spread : FnScope ["_law_pairs", "_law_low", "_law_high"] ["_law_pairs"] (defScope s__law_spread) := ⟨rfl, rfl, rfl, by decide +kernel, rfl, by decide +kernel, by decide +kernel⟩
theorem run__law_spread (T : Tx base wd K mg) {f : Addr} {fd : FuncData} {dv : List V} {kw : List (Str × V)} (F : FunD K "_law_spread" "_law_spread" (defArgs s__law_spread) (defBody s__law_spread) (defScope s__law_spread) dv kw f fd) : FnOk PW wd K mg base (L2.CX PW wd) 5 f fd ["_law_pairs"] (spF (GG K mg) 1 (fnS 2 g__law_spread)) :=
  fn_run (G := GG K mg) (k := 4) F sc__law_spread rfl rfl fun cdv A outer s H E hr => by
    have B := bd_of (P := PW) (wd := wd) (G := GG K mg) (base := base) (cdv := cdv) (outer := outer) (H := H) (E := E) sc__law_spread hr
    exact (ss_cons (ss_ret (B.make (d_Spread_init T) (a_cons (s_own (B.comp [("_law_low", 1), ("_law_high", 2)] (i_seq B.eK (vr 0)) (fun _ _ _ _ _ => ((B.blk _ _ _ _ _).tl 2 (gs_cons ((B.blk _ _ _ _ _).nm 1) (gs_cons ((B.blk _ _ _ _ _).nm 2) gs_nil)))) (fun _ _ _ _ _ => ts_nil) (fun _ _ _ _ _ => ((B.blk _ _ _ _ _).make (d_Stretch_init T) (a_cons (vr 1) (a_cons (vr 2) a_nil)))))) a_nil)))
    ss_nil)
theorem d__law_spread (T : Tx base wd K mg) : DefOk PW wd base (GG K mg) 5 "_law_spread" 1 [] F__law_spread := by
  obtain ⟨fd, F⟩ := T.D__law_spread
  exact ⟨_, fd, ["_law_pairs"], [], [], run__law_spread T F, T.c__law_spread, F.kp, (F.bindsN fun _ _ _ _ _ _ us hl => match us, hl with | [_], _ => rfl), .nil, fun _ => .nil⟩
/-! _law_told -/
def g__law_told : Sm := (qSeq (qSet 1 (fLst [(fC .non)]))
    (qSeq (qFor (fIter (fVar 0)) (hTupL 2 (hCons (hName 2) (hCons (hName 3) hNil))) (qSeq (qSet 1 (fBin addT (fVar 1) (fOwn (fComp [10] (hName 10) (fCmpB nisT (fVar 10) (fC .non)) (fVar 10) (fIter (fTup [(fVar 2), (fVar 3)]))))))
    qNil))
    (qSeq (qSet 4 (fB1 sortT (fOwn (fComp [10] (hName 10) fYes (fB1 intT (fVar 10)) (fIter (fSl (fVar 1) (some (fC (.int 1))) none))))))
    (qSeq (qOwn 5 (fAll []))
    (qSeq (qFor (fIter (fVar 4)) (hName 6) (qSeq (qIf (fCmpB ninT (fVar 6) (fBor 5)) (qSeq (qApp 5 (fVar 6))
    qNil) qNil)
    qNil))
    (qSeq (qFrz [5] (qIf (fCmpB eqT (fBor 5) (fLst [])) (qSeq (qRet (fBin mulT (fLst [(fTup [(fC .non), (fC .non)])]) (fB1 intT (fCmp neT (fVar 0) (fLst [])))))
    qNil) qNil))
    (qSeq (qSet 7 (fBin addT (fBin addT (fLst [(fTup [(fC .non), (fIx (fBor 5) (fC (.int 0)))])]) (fOwn (fComp [11] (hName 11) fYes (fTup [(fIx (fBor 5) (fVar 11)), (fIx (fBor 5) (fBin addT (fVar 11) (fC (.int 1))))]) (fRng1 (fBin subT (fB1 lenT (fBor 5)) (fC (.int 1))))))) (fLst [(fTup [(fIx (fBor 5) (fUn negT (fC (.int 1)))), (fC .non)])])))
    (qSeq (qOwn 8 (fAll []))
    (qSeq (qFor (fIter (fVar 7)) (hTupL 2 (hCons (hName 2) (hCons (hName 3) hNil))) (qSeq (qSet 9 (fIf (fCmpB isT (fVar 2) (fC .non)) (fBin subT (fIx (fBor 5) (fC (.int 0))) (fC (.int 1))) (fVar 2)))
    (qSeq (qIf (fTru (fCall F__law_has [] [(fVar 0), (fVar 9)])) (qSeq (qIf (fAndB (fCmpB neT (fBor 8) (fLst [])) (fCmpB eqT (fIx (fIx (fBor 8) (fUn negT (fC (.int 1)))) (fC (.int 1))) (fVar 2))) (qSeq (qSetIx 8 (fTup [(fIx (fIx (fBor 8) (fUn negT (fC (.int 1)))) (fC (.int 0))), (fVar 3)]) (fUn negT (fC (.int 1))))
    qNil) (qSeq (qApp 8 (fTup [(fVar 2), (fVar 3)]))
    qNil))
    qNil) qNil)
    qNil)))
    (qSeq (qFrz [8] (qRet (fVar 8)))
    qNil))))))))))
def F__law_told : List T → M T := fnS 11 g__law_told
theorem sc__law_told : FnScope ["_law_pairs", "_law_ends_here", "_law_low", "_law_high", "_law_cuts", "_law_marks", "_law_cut", "_law_spans", "_law_row", "_law_inside", "_law_end", "_law_k"] ["_law_pairs"] (defScope s__law_told) := ⟨rfl, rfl, rfl, by decide +kernel, rfl, by decide +kernel, by decide +kernel⟩
theorem run__law_told (T : Tx base wd K mg) {f : Addr} {fd : FuncData} {dv : List V} {kw : List (Str × V)} (F : FunD K "_law_told" "_law_told" (defArgs s__law_told) (defBody s__law_told) (defScope s__law_told) dv kw f fd) : FnOk PW wd K mg base (L2.CX PW wd) 2 f fd ["_law_pairs"] (spF (GG K mg) 1 (fnS 11 g__law_told)) :=
  fn_run (G := GG K mg) (k := 1) F sc__law_told rfl rfl fun cdv A outer s H E hr => by
    have B := bd_of (P := PW) (wd := wd) (G := GG K mg) (base := base) (cdv := cdv) (outer := outer) (H := H) (E := E) sc__law_told hr
    exact (ss_cons (B.set 1 (s_lst (a_cons s_non a_nil)))
    (ss_cons (ss_for po_of B.calm (i_seq B.eK (vr 0)) (B.tl 2 (gs_cons (B.nm 2) (gs_cons (B.nm 3) gs_nil))) (ss_cons (B.set 1 (B.add (vr 1) (s_own (B.comp [("_law_end", 10)] (i_seq B.eK (s_tup (a_cons (vr 2) (a_cons (vr 3) a_nil)))) (fun _ _ _ _ _ => ((B.blk _ _ _ _ _).nm 10)) (fun _ _ _ _ _ => (ts_one ((B.blk _ _ _ _ _).nisB (k_of (vr 10)) (k_of s_non)))) (fun _ _ _ _ _ => (vr 10))))))
    ss_nil))
    (ss_cons (B.set 4 (B.sorted T.m_sorted (k_of (s_own (B.comp [("_law_end", 10)] (i_seq B.eK (B.sl (k_of (vr 1)) (o_some s_int) o_none)) (fun _ _ _ _ _ => ((B.blk _ _ _ _ _).nm 10)) (fun _ _ _ _ _ => ts_nil) (fun _ _ _ _ _ => ((B.blk _ _ _ _ _).int T.m_int (k_of (vr 10)))))))))
    (ss_cons (B.own 5 (l_lst a_nil))
    (ss_cons (ss_for po_of B.calm (i_seq B.eK (vr 4)) (B.nm 6) (ss_cons (ss_if (B.ninB (k_of (vr 6)) (kv 5)) (ss_cons (ss_app B.eK 5 rfl (by first | exact Or.inl rfl | exact Or.inr (Or.inl rfl) | exact Or.inr (Or.inr rfl)) (vr 6))
    ss_nil) ss_nil)
    ss_nil))
    (ss_cons (ss_frzq [5] (ss_if (B.eqB (kv 5) (k_of (s_lst a_nil))) (ss_cons (ss_ret (B.mul (s_lst (a_cons (s_tup (a_cons s_non (a_cons s_non a_nil))) a_nil)) (B.int T.m_int (k_of (B.ne (k_of (vr 0)) (k_of (s_lst a_nil)))))))
    ss_nil) ss_nil))
    (ss_cons (B.set 7 (B.add (B.add (s_lst (a_cons (s_tup (a_cons s_non (a_cons (B.ix (kv 5) s_int) a_nil))) a_nil)) (s_own (B.comp [("_law_k", 11)] (i_range1 rfl (by rw [B.eM]; exact T.m_range) (B.sub (B.len T.m_len (kv 5)) s_int)) (fun _ _ _ _ _ => ((B.blk _ _ _ _ _).nm 11)) (fun _ _ _ _ _ => ts_nil) (fun _ _ _ _ _ => (s_tup (a_cons ((B.blk _ _ _ _ _).ix (kv 5) (vr 11)) (a_cons ((B.blk _ _ _ _ _).ix (kv 5) ((B.blk _ _ _ _ _).add (vr 11) s_int)) a_nil))))))) (s_lst (a_cons (s_tup (a_cons (B.ix (kv 5) (B.neg s_int)) (a_cons s_non a_nil))) a_nil))))
    (ss_cons (B.own 8 (l_lst a_nil))
    (ss_cons (ss_for po_of B.calm (i_seq B.eK (vr 7)) (B.tl 2 (gs_cons (B.nm 2) (gs_cons (B.nm 3) gs_nil))) (ss_cons (B.set 9 (s_if (B.isB (k_of (vr 2)) (k_of s_non)) (B.sub (B.ix (kv 5) s_int) s_int) (vr 2)))
    (ss_cons (ss_if (B.tru (B.call (d__law_has T) (a_cons (vr 0) (a_cons (vr 9) a_nil)))) (ss_cons (ss_if (w_t (w_and (B.neB (kv 8) (k_of (s_lst a_nil))) (w_and1 (B.eqB (k_of (B.ix (k_of (B.ix (kv 8) (B.neg s_int))) s_int)) (k_of (vr 2)))))) (ss_cons (B.put 8 (s_tup (a_cons (B.ix (k_of (B.ix (kv 8) (B.neg s_int))) s_int) (a_cons (vr 3) a_nil))) (B.neg s_int))
    ss_nil) (ss_cons (ss_app B.eK 8 rfl (by first | exact Or.inl rfl | exact Or.inr (Or.inl rfl) | exact Or.inr (Or.inr rfl)) (s_tup (a_cons (vr 2) (a_cons (vr 3) a_nil))))
    ss_nil))
    ss_nil) ss_nil)
    ss_nil)))
    (ss_cons (ss_frzq [8] (ss_ret (vr 8)))
    ss_nil))))))))))
theorem d__law_told (T : Tx base wd K mg) : DefOk PW wd base (GG K mg) 2 "_law_told" 1 [] F__law_told := by
  obtain ⟨fd, F⟩ := T.D__law_told
  exact ⟨_, fd, ["_law_pairs"], [], [], run__law_told T F, T.c__law_told, F.kp, (F.bindsN fun _ _ _ _ _ _ us hl => match us, hl with | [_], _ => rfl), .nil, fun _ => .nil⟩
/-! Spread_bounds -/
def g_Spread_bounds : Sm := (qSeq (qRet (fIf (fCmpB neT (fFld m_own_pairs (fVar 0)) (fLst [])) (fTup [(fIx (fIx (fFld m_own_pairs (fVar 0)) (fC (.int 0))) (fC (.int 0))), (fIx (fIx (fFld m_own_pairs (fVar 0)) (fUn negT (fC (.int 1)))) (fC (.int 1)))]) (fTup [(fC .non), (fC .non)])))
    qNil)
def F_Spread_bounds : List T → M T := fnS 0 g_Spread_bounds
theorem sc_Spread_bounds : FnScope ["self"] ["self"] (defScope s_Spread_bounds) := ⟨rfl, rfl, rfl, by decide +kernel, rfl, by decide +kernel, by decide +kernel⟩
theorem run_Spread_bounds (T : Tx base wd K mg) {f : Addr} {fd : FuncData} {dv : List V} {kw : List (Str × V)} (F : FunD K "bounds" "Spread.bounds" (defArgs s_Spread_bounds) (defBody s_Spread_bounds) (defScope s_Spread_bounds) dv kw f fd) : FnOk PW wd K mg base (L2.CX PW wd) 1 f fd ["self"] (spF (GG K mg) 1 (fnS 0 g_Spread_bounds)) :=
  fn_run (G := GG K mg) (k := 0) F sc_Spread_bounds rfl rfl fun cdv A outer s H E hr => by
    have B := bd_of (P := PW) (wd := wd) (G := GG K mg) (base := base) (cdv := cdv) (outer := outer) (H := H) (E := E) sc_Spread_bounds hr
    exact (ss_cons (ss_ret (s_if (B.neB (k_of (B.fld m_own_pairs T.f_own_pairs (vr 0))) (k_of (s_lst a_nil))) (s_tup (a_cons (B.ix (k_of (B.ix (k_of (B.fld m_own_pairs T.f_own_pairs (vr 0))) s_int)) s_int) (a_cons (B.ix (k_of (B.ix (k_of (B.fld m_own_pairs T.f_own_pairs (vr 0))) (B.neg s_int))) s_int) a_nil))) (s_tup (a_cons s_non (a_cons s_non a_nil)))))
    ss_nil)
theorem d_Spread_bounds (T : Tx base wd K mg) : MethOk PW wd base (GG K mg) 1 2 "bounds" 1 [] F_Spread_bounds := by
  obtain ⟨fd, F⟩ := T.D_Spread_bounds
  exact ⟨⟨_, _, fd, ["self"], [], [], T.c_Spread, T.k_Spread, T.h_Spread_bounds, run_Spread_bounds T F, (F.bindsN fun _ _ _ _ _ _ us hl => match us, hl with | [_], _ => rfl), .nil, fun _ => .nil⟩, show ("bounds" : Str) ∉ fl 2 by decide⟩
/-! Spread_is_endless -/
def g_Spread_is_endless : Sm := (qSeq (qRet (fB1 anyT (fOwn (fComp [1] (hName 1) fYes (fCmp inT (fC .non) (fVar 1)) (fIter (fFld m_own_pairs (fVar 0)))))))
    qNil)
def F_Spread_is_endless : List T → M T := fnS 1 g_Spread_is_endless
theorem sc_Spread_is_endless : FnScope ["self", "pair"] ["self"] (defScope s_Spread_is_endless) := ⟨rfl, rfl, rfl, by decide +kernel, rfl, by decide +kernel, by decide +kernel⟩
theorem run_Spread_is_endless (T : Tx base wd K mg) {f : Addr} {fd : FuncData} {dv : List V} {kw : List (Str × V)} (F : FunD K "is_endless" "Spread.is_endless" (defArgs s_Spread_is_endless) (defBody s_Spread_is_endless) (defScope s_Spread_is_endless) dv kw f fd) : FnOk PW wd K mg base (L2.CX PW wd) 1 f fd ["self"] (spF (GG K mg) 1 (fnS 1 g_Spread_is_endless)) :=
  fn_run (G := GG K mg) (k := 0) F sc_Spread_is_endless rfl rfl fun cdv A outer s H E hr => by
    have B := bd_of (P := PW) (wd := wd) (G := GG K mg) (base := base) (cdv := cdv) (outer := outer) (H := H) (E := E) sc_Spread_is_endless hr
    exact (ss_cons (ss_ret (B.any T.m_any (k_of (s_own (B.comp [("pair", 1)] (i_seq B.eK (B.fld m_own_pairs T.f_own_pairs (vr 0))) (fun _ _ _ _ _ => ((B.blk _ _ _ _ _).nm 1)) (fun _ _ _ _ _ => ts_nil) (fun _ _ _ _ _ => ((B.blk _ _ _ _ _).in_ (k_of s_non) (k_of (vr 1)))))))))
    ss_nil)
theorem d_Spread_is_endless (T : Tx base wd K mg) : MethOk PW wd base (GG K mg) 1 2 "is_endless" 1 [] F_Spread_is_endless := by
  obtain ⟨fd, F⟩ := T.D_Spread_is_endless
  exact ⟨⟨_, _, fd, ["self"], [], [], T.c_Spread, T.k_Spread, T.h_Spread_is_endless, run_Spread_is_endless T F, (F.bindsN fun _ _ _ _ _ _ us hl => match us, hl with | [_], _ => rfl), .nil, fun _ => .nil⟩, show ("is_endless" : Str) ∉ fl 2 by decide⟩
/-! law -/
def g_law : Sm := (qSeq (qSet 1 (fRef (fAll [(fRef (fSeqL (fVar 0))), (fC (.int 0))])))
    (qSeq (qPar2 2 3 (fCall F__law_some [] [(fVar 1), (fC (.int 5))]) (fCall F__law_some [] [(fVar 1), (fC (.int 4))]))
    (qSeq (qPar2 4 5 (fCall F__law_told [] [(fVar 2)]) (fCall F__law_told [] [(fVar 3)]))
    (qSeq (qPar2 6 7 (fCall F__law_spread [] [(fVar 2)]) (fCall F__law_spread [] [(fVar 3)]))
    (qSeq (qIf (fOrB (fCmpB neT (fOwn (fComp [11] (hName 11) fYes (fTup [(fFld m_low (fVar 11)), (fFld m_high (fVar 11))]) (fIter (fMeth 2 F_Spread_told [] (fVar 6) [])))) (fVar 4)) (fToB (fun env => (fVar 6) env >>= fun x => (fCall F__law_spread [] [(fVar 4)]) env >>= fun y => own2n 2 F_Spread_eq x y))) (qSeq (qRet (fC (.bl false)))
    qNil) qNil)
    (qSeq (qIf (fOrB (fToB (fun env => (fVar 6) env >>= fun x => (fCall F__law_spread [] [(fBin addT (fRev (fVar 2)) (fSl (fVar 4) none (some (fC (.int 1)))))]) env >>= fun y => own2n 2 F_Spread_eq x y)) (fCmpB neT (fun env => (fVar 6) env >>= fun x => (fVar 7) env >>= fun y => own2s 2 F_Spread_eq x y) (fCmp eqT (fVar 4) (fVar 5)))) (qSeq (qRet (fC (.bl false)))
    qNil) qNil)
    (qSeq (qSet 8 (fCmp neT (fOwn (fComp [10] (hName 10) (fCmpB inT (fC .non) (fVar 10)) (fVar 10) (fIter (fVar 4)))) (fLst [])))
    (qSeq (qIf (fOrB (fCmpB neT (fMeth 2 F_Spread_is_endless [] (fVar 6) []) (fVar 8)) (fNotB (fTru (fBin (isiT tab) (fMeth 2 F_Spread_is_endless [] (fVar 6) []) (fC (.ty "bool")))))) (qSeq (qRet (fC (.bl false)))
    qNil) qNil)
    (qSeq (qIf (fCmpB neT (fMeth 2 F_Spread_bounds [] (fVar 6) []) (fIf (fTru (fVar 4)) (fTup [(fIx (fIx (fVar 4) (fC (.int 0))) (fC (.int 0))), (fIx (fIx (fVar 4) (fUn negT (fC (.int 1)))) (fC (.int 1)))]) (fTup [(fC .non), (fC .non)]))) (qSeq (qRet (fC (.bl false)))
    qNil) qNil)
    (qSeq (qFor (fIter (fCall F__law_points [] [(fVar 2)])) (hName 9) (qSeq (qIf (fCmpB neT (fMeth 2 F_Spread_holds [] (fVar 6) [(fVar 9)]) (fCall F__law_has [] [(fVar 2), (fVar 9)])) (qSeq (qRet (fC (.bl false)))
    qNil) qNil)
    qNil))
    (qSeq (qRet (fCall F__law_odd_right [] [(fVar 1), (fVar 2)]))
    qNil)))))))))))
def F_law : List T → M T := fnS 11 g_law
theorem sc_law : FnScope ["_law_script", "_law_state", "_law_pairs", "_law_others", "_law_due", "_law_far", "_law_spread_here", "_law_other", "_law_endless", "_law_number_here", "_law_pair", "_law_one"] ["_law_script"] (defScope s_law) := ⟨rfl, rfl, rfl, by decide +kernel, rfl, by decide +kernel, by decide +kernel⟩
theorem run_law (T : Tx base wd K mg) {f : Addr} {fd : FuncData} {dv : List V} {kw : List (Str × V)} (F : FunD K "law" "law" (defArgs s_law) (defBody s_law) (defScope s_law) dv kw f fd) : FnOk PW wd K mg base (L2.CX PW wd) 7 f fd ["_law_script"] (spF (GG K mg) 1 (fnS 11 g_law)) :=
  fn_run (G := GG K mg) (k := 6) F sc_law rfl rfl fun cdv A outer s H E hr => by
    have B := bd_of (P := PW) (wd := wd) (G := GG K mg) (base := base) (cdv := cdv) (outer := outer) (H := H) (E := E) sc_law hr
    exact (ss_cons (B.set 1 (s_ref (l_lst (a_cons (s_ref (l_list B.eK (by rw [B.eM]; exact T.m_list) (k_of (vr 0)))) (a_cons s_int a_nil)))))
    (ss_cons (B.par2 2 3 (a_cons (B.call (d__law_some T) (a_cons (vr 1) (a_cons s_int a_nil))) (a_cons (B.call (d__law_some T) (a_cons (vr 1) (a_cons s_int a_nil))) a_nil)))
    (ss_cons (B.par2 4 5 (a_cons (B.call (d__law_told T) (a_cons (vr 2) a_nil)) (a_cons (B.call (d__law_told T) (a_cons (vr 3) a_nil)) a_nil)))
    (ss_cons (B.par2 6 7 (a_cons (B.call (d__law_spread T) (a_cons (vr 2) a_nil)) (a_cons (B.call (d__law_spread T) (a_cons (vr 3) a_nil)) a_nil)))
    (ss_cons (ss_if (w_t (w_or (B.neB (k_of (s_own (B.comp [("_law_one", 11)] (i_seq B.eK (s_meth0 (d_Spread_told T) B.eK B.eM B.tk B.rm (by decide) (vr 6))) (fun _ _ _ _ _ => ((B.blk _ _ _ _ _).nm 11)) (fun _ _ _ _ _ => ts_nil) (fun _ _ _ _ _ => (s_tup (a_cons ((B.blk _ _ _ _ _).fld m_low T.f_low (vr 11)) (a_cons ((B.blk _ _ _ _ _).fld m_high T.f_high (vr 11)) a_nil))))))) (k_of (vr 4))) (w_or1 (b_ownN (d_Spread_eq T) T.ne_Spread B.eK B.eM B.rm (by decide) (vr 6) (B.call (d__law_spread T) (a_cons (vr 4) a_nil)) rfl)))) (ss_cons (ss_ret s_bl)
    ss_nil) ss_nil)
    (ss_cons (ss_if (w_t (w_or (b_ownN (d_Spread_eq T) T.ne_Spread B.eK B.eM B.rm (by decide) (vr 6) (B.call (d__law_spread T) (a_cons (B.add (s_rev B.eK (vr 2)) (B.sl (k_of (vr 4)) o_none (o_some s_int))) a_nil)) rfl) (w_or1 (B.neB (k_of (s_ownC (fun _ _ => rfl) (d_Spread_eq T) B.eK B.eM B.rm (by decide) (vr 6) (vr 7) rfl)) (k_of (B.eq (k_of (vr 4)) (k_of (vr 5)))))))) (ss_cons (ss_ret s_bl)
    ss_nil) ss_nil)
    (ss_cons (B.set 8 (B.ne (k_of (s_own (B.comp [("_law_pair", 10)] (i_seq B.eK (vr 4)) (fun _ _ _ _ _ => ((B.blk _ _ _ _ _).nm 10)) (fun _ _ _ _ _ => (ts_one ((B.blk _ _ _ _ _).inB (k_of s_non) (k_of (vr 10))))) (fun _ _ _ _ _ => (vr 10))))) (k_of (s_lst a_nil))))
    (ss_cons (ss_if (w_t (w_or (B.neB (k_of (s_meth0 (d_Spread_is_endless T) B.eK B.eM B.tk B.rm (by decide) (vr 6))) (k_of (vr 8))) (w_or1 (w_not (B.tru (B.isi T.tab T.m_isinstance (s_meth0 (d_Spread_is_endless T) B.eK B.eM B.tk B.rm (by decide) (vr 6)) (B.ty "bool" T.m_bool))))))) (ss_cons (ss_ret s_bl)
    ss_nil) ss_nil)
    (ss_cons (ss_if (B.neB (k_of (s_meth0 (d_Spread_bounds T) B.eK B.eM B.tk B.rm (by decide) (vr 6))) (k_of (s_if (B.tru (vr 4)) (s_tup (a_cons (B.ix (k_of (B.ix (k_of (vr 4)) s_int)) s_int) (a_cons (B.ix (k_of (B.ix (k_of (vr 4)) (B.neg s_int))) s_int) a_nil))) (s_tup (a_cons s_non (a_cons s_non a_nil)))))) (ss_cons (ss_ret s_bl)
    ss_nil) ss_nil)
    (ss_cons (ss_for po_of B.calm (i_seq B.eK (B.call (d__law_points T) (a_cons (vr 2) a_nil))) (B.nm 9) (ss_cons (ss_if (B.neB (k_of (s_meth (d_Spread_holds T) B.eK B.eM B.tk B.rm (by decide) (vr 6) (a_cons (vr 9) a_nil))) (k_of (B.call (d__law_has T) (a_cons (vr 2) (a_cons (vr 9) a_nil))))) (ss_cons (ss_ret s_bl)
    ss_nil) ss_nil)
    ss_nil))
    (ss_cons (ss_ret (B.call (d__law_odd_right T) (a_cons (vr 1) (a_cons (vr 2) a_nil))))
    ss_nil)))))))))))
end
def fa : List Fa := [
  .free "all",
  .free "any",
  .free "bool",
  .free "enumerate",
  .free "int",
  .free "isinstance",
  .free "len",
  .free "list",
  .free "range",
  .free "sorted",
  .free "tuple",
  .glo "BadIndex",
  .glo "BadPart",
  .glo "PlaneError",
  .glo "Spread",
  .glo "Stretch",
  .cls "Spread",
  .noat "Spread" "own_pairs",
  .cls "Stretch",
  .noat "Stretch" "own_pairs",
  .noat "Stretch" "low",
  .noat "Stretch" "high",
  .mkr "Spread",
  .mkr "Stretch",
  .glo "_law_has",
  .glo "_law_draw",
  .glo "is_list",
  .glo "by_lows",
  .glo "united",
  .glo "_law_refused",
  .meth "Spread" "__eq__",
  .glo "outside",
  .glo "common_pair",
  .glo "shared",
  .meth "Spread" "__le__",
  .glo "has_in",
  .glo "is_integer",
  .meth "Spread" "holds",
  .meth "Spread" "told",
  .glo "_law_odd_right",
  .glo "_law_points",
  .glo "_law_number",
  .glo "_law_ends",
  .glo "_law_some",
  .glo "_law_spread",
  .glo "_law_told",
  .meth "Spread" "bounds",
  .meth "Spread" "is_endless",
  .glo "law"]
def fns : List DefD := [
  { at_ := ("_law_has", none), name := "_law_has", qual := "_law_has", params := defArgs s__law_has, body := defBody s__law_has, scope := defScope s__law_has, dfl := [] },
  { at_ := ("_law_draw", none), name := "_law_draw", qual := "_law_draw", params := defArgs s__law_draw, body := defBody s__law_draw, scope := defScope s__law_draw, dfl := [] },
  { at_ := ("is_list", none), name := "is_list", qual := "is_list", params := defArgs s_is_list, body := defBody s_is_list, scope := defScope s_is_list, dfl := [] },
  { at_ := ("by_lows", none), name := "by_lows", qual := "by_lows", params := defArgs s_by_lows, body := defBody s_by_lows, scope := defScope s_by_lows, dfl := [] },
  { at_ := ("united", none), name := "united", qual := "united", params := defArgs s_united, body := defBody s_united, scope := defScope s_united, dfl := [] },
  { at_ := ("Members", some "__init__"), name := "__init__", qual := "Members.__init__", params := defArgs s_Members_init, body := defBody s_Members_init, scope := defScope s_Members_init, dfl := [] },
  { at_ := ("_law_refused", none), name := "_law_refused", qual := "_law_refused", params := defArgs s__law_refused, body := defBody s__law_refused, scope := defScope s__law_refused, dfl := [] },
  { at_ := ("Spread", some "__eq__"), name := "__eq__", qual := "Spread.__eq__", params := defArgs s_Spread_eq, body := defBody s_Spread_eq, scope := defScope s_Spread_eq, dfl := [] },
  { at_ := ("outside", none), name := "outside", qual := "outside", params := defArgs s_outside, body := defBody s_outside, scope := defScope s_outside, dfl := [] },
  { at_ := ("common_pair", none), name := "common_pair", qual := "common_pair", params := defArgs s_common_pair, body := defBody s_common_pair, scope := defScope s_common_pair, dfl := [] },
  { at_ := ("shared", none), name := "shared", qual := "shared", params := defArgs s_shared, body := defBody s_shared, scope := defScope s_shared, dfl := [] },
  { at_ := ("Spread", some "__le__"), name := "__le__", qual := "Spread.__le__", params := defArgs s_Spread_le, body := defBody s_Spread_le, scope := defScope s_Spread_le, dfl := [] },
  { at_ := ("has_in", none), name := "has_in", qual := "has_in", params := defArgs s_has_in, body := defBody s_has_in, scope := defScope s_has_in, dfl := [] },
  { at_ := ("is_integer", none), name := "is_integer", qual := "is_integer", params := defArgs s_is_integer, body := defBody s_is_integer, scope := defScope s_is_integer, dfl := [] },
  { at_ := ("Spread", some "holds"), name := "holds", qual := "Members.holds", params := defArgs s_Spread_holds, body := defBody s_Spread_holds, scope := defScope s_Spread_holds, dfl := [] },
  { at_ := ("Members", some "__init__"), name := "__init__", qual := "Members.__init__", params := defArgs s_Members_init, body := defBody s_Members_init, scope := defScope s_Members_init, dfl := [] },
  { at_ := ("Spread", some "told"), name := "told", qual := "Spread.told", params := defArgs s_Spread_told, body := defBody s_Spread_told, scope := defScope s_Spread_told, dfl := [] },
  { at_ := ("_law_odd_right", none), name := "_law_odd_right", qual := "_law_odd_right", params := defArgs s__law_odd_right, body := defBody s__law_odd_right, scope := defScope s__law_odd_right, dfl := [] },
  { at_ := ("_law_points", none), name := "_law_points", qual := "_law_points", params := defArgs s__law_points, body := defBody s__law_points, scope := defScope s__law_points, dfl := [] },
  { at_ := ("_law_number", none), name := "_law_number", qual := "_law_number", params := defArgs s__law_number, body := defBody s__law_number, scope := defScope s__law_number, dfl := [] },
  { at_ := ("_law_ends", none), name := "_law_ends", qual := "_law_ends", params := defArgs s__law_ends, body := defBody s__law_ends, scope := defScope s__law_ends, dfl := [] },
  { at_ := ("_law_some", none), name := "_law_some", qual := "_law_some", params := defArgs s__law_some, body := defBody s__law_some, scope := defScope s__law_some, dfl := [] },
  { at_ := ("_law_spread", none), name := "_law_spread", qual := "_law_spread", params := defArgs s__law_spread, body := defBody s__law_spread, scope := defScope s__law_spread, dfl := [] },
  { at_ := ("_law_told", none), name := "_law_told", qual := "_law_told", params := defArgs s__law_told, body := defBody s__law_told, scope := defScope s__law_told, dfl := [] },
  { at_ := ("Spread", some "bounds"), name := "bounds", qual := "Spread.bounds", params := defArgs s_Spread_bounds, body := defBody s_Spread_bounds, scope := defScope s_Spread_bounds, dfl := [] },
  { at_ := ("Spread", some "is_endless"), name := "is_endless", qual := "Spread.is_endless", params := defArgs s_Spread_is_endless, body := defBody s_Spread_is_endless, scope := defScope s_Spread_is_endless, dfl := [] },
  { at_ := ("law", none), name := "law", qual := "law", params := defArgs s_law, body := defBody s_law, scope := defScope s_law, dfl := [] }]
def chk (K : PySem.W.Frag) : List Bool := [
  tabB K cn tabR,
  decide (PySem.W.findIn K (.ref (ga K "Spread")) "__ne__" = some (some (.builtin "object.__ne__"))),
  decide (PySem.W.mroIn K (ga K "Spread") (.type "object") = some true),
  PySem.W.selfFirst K (ga K "Spread"),
  taB K (dflAt ("Spread", some "__init__") 0 K) [],
  PySem.W.notFirst K (ga K "Spread") (.type "str"),
  PySem.W.notFirst K (ga K "Spread") (.type "int"),
  PySem.W.notFirst K (ga K "Spread") (.type "bool"),
  PySem.W.notFirst K (ga K "Spread") (.type "NoneType"),
  PySem.W.notFirst K (ga K "Spread") (.type "list"),
  PySem.W.notFirst K (ga K "Spread") (.type "tuple"),
  PySem.W.notFirst K (ga K "Spread") (.ref (ga K "Stretch")),
  (supL SupX.xVE PW K (ga K "BadIndex") "BadIndex.__init__" "index").all id,
  (supL SupX.xVE PW K (ga K "BadPart") "BadPart.__init__" "part").all id,
  xmB K cn "PlaneError" xr_PlaneError,
  (xiL K (ga K (cn 0)) (ga K (cn 4)) false).all id,
  (xiL K (ga K (cn 1)) (ga K (cn 4)) false).all id,
  (xiL K (ga K (cn 4)) (ga K (cn 4)) true).all id,
  (xiL K (ga K (cn 0)) (ga K (cn 0)) true).all id,
  (xiL K (ga K (cn 1)) (ga K (cn 0)) false).all id,
  (xiL K (ga K (cn 4)) (ga K (cn 0)) false).all id,
  (xgL K (ga K (cn 4)) "index").all id,
  (xgL K (ga K (cn 0)) "part").all id,
  (SupM.supLT PW K (ga K "Spread") (ga K "Members") "Spread.__init__" [.tup []]).all id,
  (SupM.supLM PW K (ga K "Stretch") (ga K "Members") "Stretch.__init__" 2).all id]
theorem chk_at {K : PySem.W.Frag} (h : (chk K).all id = true) (i : Nat) {b : Bool} (e : (chk K)[i]? = some b := by rfl) : b = true := List.all_eq_true.mp h b (List.mem_of_getElem? e)
def cs (K : PySem.W.Frag) : List (Addr × Addr) := []
theorem tx_of {base : Heap} {wd : World} {K : PySem.W.Frag} {h : Heap} {mg : Str → Option Value} (KX : K.In h) (Ns : h.Ns mainGlobals mg) (c : SaysD fa fns K) (ck : (chk K).all id = true)  (e_BadIndex : supW K (ma K (ga K "BadIndex") "__init__") = supV "BadIndex.__init__" s_BadIndex_init) (e_BadPart : supW K (ma K (ga K "BadPart") "__init__") = supV "BadPart.__init__" s_BadPart_init) (e_Spread : supW K (ma K (ga K "Spread") "__init__") = supV "Spread.__init__" s_Spread_init) (e_Stretch : supW K (ma K (ga K "Stretch") "__init__") = supV "Stretch.__init__" s_Stretch_init) : Tx base wd K mg := by
  have c_BadIndex : mg "BadIndex" = some (.ref (ga K "BadIndex")) := glo_ok KX Ns (c.fact 11)
  have c_BadPart : mg "BadPart" = some (.ref (ga K "BadPart")) := glo_ok KX Ns (c.fact 12)
  have c_PlaneError : mg "PlaneError" = some (.ref (ga K "PlaneError")) := glo_ok KX Ns (c.fact 13)
  have c_Spread : mg "Spread" = some (.ref (ga K "Spread")) := glo_ok KX Ns (c.fact 14)
  have c_Stretch : mg "Stretch" = some (.ref (ga K "Stretch")) := glo_ok KX Ns (c.fact 15)
  have hc : ∀ C cA, mg (cn C) = some (.ref cA) → cA = ga K (cn C) := fun C cA h => match C, h with
    | 0, h => (Value.ref.inj (Option.some.inj (h.symm.trans c_BadPart)))
    | 1, h => (Value.ref.inj (Option.some.inj (h.symm.trans c_PlaneError)))
    | 2, h => (Value.ref.inj (Option.some.inj (h.symm.trans c_Spread)))
    | 3, h => (Value.ref.inj (Option.some.inj (h.symm.trans c_Stretch)))
    | 4, h => (Value.ref.inj (Option.some.inj (h.symm.trans c_BadIndex)))
    | _ + 5, h => (Value.ref.inj (Option.some.inj (h.symm.trans c_BadPart)))
  exact {
    m_all := free_ok KX Ns (c.fact 0)
    m_any := free_ok KX Ns (c.fact 1)
    m_bool := free_ok KX Ns (c.fact 2)
    m_enumerate := free_ok KX Ns (c.fact 3)
    m_int := free_ok KX Ns (c.fact 4)
    m_isinstance := free_ok KX Ns (c.fact 5)
    m_len := free_ok KX Ns (c.fact 6)
    m_list := free_ok KX Ns (c.fact 7)
    m_range := free_ok KX Ns (c.fact 8)
    m_sorted := free_ok KX Ns (c.fact 9)
    m_tuple := free_ok KX Ns (c.fact 10)
    c_BadIndex := c_BadIndex
    c_BadPart := c_BadPart
    c_PlaneError := c_PlaneError
    c_Spread := c_Spread
    c_Stretch := c_Stretch
    hc := hc
    tab := tabB_ok (G := GG K mg) rfl hc (chk_at ck 0)
    f_high := by
      intro C j h
      unfold m_high at h
      split at h
      · cases h; exact ⟨(show List.findIdx? (fun y => y == ("high" : Str)) (fl 3) = some 2 by decide), fun cA hA => by have e := hc 3 _ hA; subst e; exact ⟨cls_ok (c.fact 18), noat_ok (c.fact 21)⟩⟩
      · cases h
    f_low := by
      intro C j h
      unfold m_low at h
      split at h
      · cases h; exact ⟨(show List.findIdx? (fun y => y == ("low" : Str)) (fl 3) = some 1 by decide), fun cA hA => by have e := hc 3 _ hA; subst e; exact ⟨cls_ok (c.fact 18), noat_ok (c.fact 20)⟩⟩
      · cases h
    f_own_pairs := by
      intro C j h
      unfold m_own_pairs at h
      split at h
      · cases h; exact ⟨(show List.findIdx? (fun y => y == ("own_pairs" : Str)) (fl 2) = some 0 by decide), fun cA hA => by have e := hc 2 _ hA; subst e; exact ⟨cls_ok (c.fact 16), noat_ok (c.fact 17)⟩⟩
      · cases h; exact ⟨(show List.findIdx? (fun y => y == ("own_pairs" : Str)) (fl 3) = some 0 by decide), fun cA hA => by have e := hc 3 _ hA; subst e; exact ⟨cls_ok (c.fact 18), noat_ok (c.fact 19)⟩⟩
      · cases h
    n_Spread_own_pairs := ⟨by rfl, (show ("own_pairs" : Str) ∉ (fl 2).take 0 by decide), (show (fl 2).length < 1000 by decide), fun cA hA => by have e := hc 2 _ hA; subst e; exact ⟨cls_ok (c.fact 16), noat_ok (c.fact 17)⟩⟩
    n_Stretch_own_pairs := ⟨by rfl, (show ("own_pairs" : Str) ∉ (fl 3).take 0 by decide), (show (fl 3).length < 1000 by decide), fun cA hA => by have e := hc 3 _ hA; subst e; exact ⟨cls_ok (c.fact 18), noat_ok (c.fact 19)⟩⟩
    n_Stretch_low := ⟨by rfl, (show ("low" : Str) ∉ (fl 3).take 1 by decide), (show (fl 3).length < 1000 by decide), fun cA hA => by have e := hc 3 _ hA; subst e; exact ⟨cls_ok (c.fact 18), noat_ok (c.fact 20)⟩⟩
    n_Stretch_high := ⟨by rfl, (show ("high" : Str) ∉ (fl 3).take 2 by decide), (show (fl 3).length < 1000 by decide), fun cA hA => by have e := hc 3 _ hA; subst e; exact ⟨cls_ok (c.fact 18), noat_ok (c.fact 21)⟩⟩
    k_Spread := cls_ok (c.fact 16)
    k_Stretch := cls_ok (c.fact 18)
    mk_Spread := mkr_ok (c.fact 22)
    mk_Stretch := mkr_ok (c.fact 23)
    ne_Spread := ⟨fun cA hA => by have e := hc 2 _ hA; subst e; exact ⟨of_decide_eq_true (chk_at ck 1), of_decide_eq_true (chk_at ck 2)⟩⟩
    sf_Spread := fun cA hA => by have e := hc 2 _ hA; subst e; exact chk_at ck 3
    px_Spread := px_of (c := ga K "Spread") (fun cA hA => hc 2 _ hA) (chk_at ck 5) (chk_at ck 6) (chk_at ck 7) (chk_at ck 8) (chk_at ck 9) (chk_at ck 10)
    py_Spread_Stretch := py_of (c := ga K "Spread") (d := ga K "Stretch") (fun cA hA => hc 2 _ hA) (fun dA hA => hc 3 _ hA) (chk_at ck 11)
    x_BadIndex := xc_of (G := GG K mg) rfl c_BadIndex e_BadIndex SupX.xVE_ok (chk_at ck 12) supt_BadIndex fok_BadIndex
    x_BadPart := xc_of (G := GG K mg) rfl c_BadPart e_BadPart SupX.xVE_ok (chk_at ck 13) supt_BadPart fok_BadPart
    xm_PlaneError := xm_of hc (chk_at ck 14)
    xi_BadIndex := by
      intro c b h
      unfold xi_BadIndex at h
      split at h
      · cases h; exact xi_of (G := GG K mg) rfl (fun cA hA => hc 0 _ hA) c_BadIndex (chk_at ck 15)
      · cases h; exact xi_of (G := GG K mg) rfl (fun cA hA => hc 1 _ hA) c_BadIndex (chk_at ck 16)
      · cases h; exact xi_of (G := GG K mg) rfl (fun cA hA => hc 4 _ hA) c_BadIndex (chk_at ck 17)
      · cases h
    xi_BadPart := by
      intro c b h
      unfold xi_BadPart at h
      split at h
      · cases h; exact xi_of (G := GG K mg) rfl (fun cA hA => hc 0 _ hA) c_BadPart (chk_at ck 18)
      · cases h; exact xi_of (G := GG K mg) rfl (fun cA hA => hc 1 _ hA) c_BadPart (chk_at ck 19)
      · cases h; exact xi_of (G := GG K mg) rfl (fun cA hA => hc 4 _ hA) c_BadPart (chk_at ck 20)
      · cases h
    xg_index := fun c h => (by have e : c = 4 := (by simpa [xf_index] using h); subst e; exact xg_of (G := GG K mg) rfl (fun cA hA => hc 4 _ hA) (chk_at ck 21))
    xg_part := fun c h => (by have e : c = 0 := (by simpa [xf_part] using h); subst e; exact xg_of (G := GG K mg) rfl (fun cA hA => hc 0 _ hA) (chk_at ck 22))
    c__law_has := glo_ok KX Ns (c.fact 24)
    D__law_has := c.def_ 0
    c__law_draw := glo_ok KX Ns (c.fact 25)
    D__law_draw := c.def_ 1
    c_is_list := glo_ok KX Ns (c.fact 26)
    D_is_list := c.def_ 2
    c_by_lows := glo_ok KX Ns (c.fact 27)
    D_by_lows := c.def_ 3
    c_united := glo_ok KX Ns (c.fact 28)
    D_united := c.def_ 4
    D_Members_init := c.def_ 5
    U_Spread := SupM.txtT_of (G := GG K mg) rfl e_Spread (chk_at ck 23)
    c__law_refused := glo_ok KX Ns (c.fact 29)
    D__law_refused := c.def_ 6
    h_Spread_eq := meth_ok (c.fact 30)
    D_Spread_eq := c.def_ 7
    c_outside := glo_ok KX Ns (c.fact 31)
    D_outside := c.def_ 8
    c_common_pair := glo_ok KX Ns (c.fact 32)
    D_common_pair := c.def_ 9
    c_shared := glo_ok KX Ns (c.fact 33)
    D_shared := c.def_ 10
    h_Spread_le := meth_ok (c.fact 34)
    D_Spread_le := c.def_ 11
    c_has_in := glo_ok KX Ns (c.fact 35)
    D_has_in := c.def_ 12
    c_is_integer := glo_ok KX Ns (c.fact 36)
    D_is_integer := c.def_ 13
    h_Spread_holds := meth_ok (c.fact 37)
    D_Spread_holds := c.def_ 14
    U_Stretch := SupM.txtM_of e_Stretch (chk_at ck 24)
    h_Spread_told := meth_ok (c.fact 38)
    D_Spread_told := c.def_ 16
    c__law_odd_right := glo_ok KX Ns (c.fact 39)
    D__law_odd_right := c.def_ 17
    c__law_points := glo_ok KX Ns (c.fact 40)
    D__law_points := c.def_ 18
    c__law_number := glo_ok KX Ns (c.fact 41)
    D__law_number := c.def_ 19
    c__law_ends := glo_ok KX Ns (c.fact 42)
    D__law_ends := c.def_ 20
    c__law_some := glo_ok KX Ns (c.fact 43)
    D__law_some := c.def_ 21
    c__law_spread := glo_ok KX Ns (c.fact 44)
    D__law_spread := c.def_ 22
    c__law_told := glo_ok KX Ns (c.fact 45)
    D__law_told := c.def_ 23
    h_Spread_bounds := meth_ok (c.fact 46)
    D_Spread_bounds := c.def_ 24
    h_Spread_is_endless := meth_ok (c.fact 47)
    D_Spread_is_endless := c.def_ 25
    c_law := glo_ok KX Ns (c.fact 48)
    D_law := c.def_ 26
  }
end
end K03
/-! draws. -/
namespace K03
open PySem Ep L2 Stp Dr
/-- the state: row k holds the script's row and a number -/
def St (k j : Nat) (r : RS) : Prop := ∃ (xs : List Int) (n : Int), r[k]? = some [.ref j, .int n] ∧ r[j]? = some (xs.map T.int) ∧ k ≠ j
theorem drawF {k j : Nat} {m : Int} {r : RS} (h : St k j r) (hm : 0 < m) (hb : m.natAbs < 2 ^ 1000) : ∃ v r', F__law_draw [.ref k, .int m] r = .ok (.int v) r' ∧ St k j r' ∧ 0 ≤ v ∧ v < m ∧ ∀ l, l ≠ k → l ≠ j → r'[l]? = r[l]? := by
  obtain ⟨xs, n, h1, h2, hkj⟩ := h
  have l1 : k < r.length := (List.getElem?_eq_some_iff.mp h1).1
  have l2 : j < r.length := (List.getElem?_eq_some_iff.mp h2).1
  have i0 : ixT r (.ref k) (.int 0) = some (.ref j) := ix_ref h1 rfl
  have i1 : ixT r (.ref k) (.int 1) = some (.int n) := ix_ref h1 rfl
  by_cases hx : xs = []
  · subst hx
    refine ⟨0, r, ?_, ⟨[], n, h1, h2, hkj⟩, Int.le_refl _, hm, fun _ _ _ => rfl⟩
    refine n_fn (n_seq (n_set (t := .ref j) (r1 := r) (e_ix (x := .ref k) (y := .int 0) (r1 := r) (r2 := r) rfl rfl i0)) (n_seqR (n_ifT (r1 := r) (e_notB (b := false) ?_) (n_seqR (n_ret rfl)))))
    refine bind_ok (a := T.ref j) (r1 := r) rfl ?_
    show M.lift ((r[j]?).map fun xs => !xs.isEmpty) r = _
    rw [h2]; rfl
  · have hl : 0 < xs.length := List.length_pos_iff.mpr hx
    obtain ⟨at_, ea⟩ : ∃ a, a = n % (xs.length : Int) := ⟨_, rfl⟩
    have a0 : 0 ≤ at_ := by rw [ea]; exact Int.emod_nonneg _ (by omega)
    have a1 : at_ < xs.length := by rw [ea]; exact Int.emod_lt_of_pos _ (by omega)
    have a2 : at_.toNat < xs.length := by omega
    obtain ⟨cell, ec⟩ : ∃ c, c = xs[at_.toNat] := ⟨_, rfl⟩
    have hN : L2.ixN (xs.map T.int).length at_ = some at_.toNat := by
      unfold L2.ixN
      rw [List.length_map, if_pos a0, if_pos a1]
    have tr : (fNotB (fTruR (fVar 2))) [.val (.ref k), .val (.int m), .val (.ref j), .un, .un, .un] r = .ok false r := e_notB (b := true) (bind_ok (a := T.ref j) (r1 := r) rfl (by
      show M.lift ((r[j]?).map fun xs => !xs.isEmpty) r = _
      rw [h2]
      cases xs with
      | nil => exact absurd rfl hx
      | cons x xs => rfl))
    have d1 : modT (.int n) (.int xs.length) = some (.int at_) := by rw [ea]; exact modP (by omega)
    have ln : lenT r (.ref j) = some (.int xs.length) := by
      show ((r[j]?).map fun ys => T.int (ys.length : Nat)) = _
      rw [h2]
      show some (T.int ((xs.map T.int).length : Nat)) = _
      rw [List.length_map]
    have gc : ixT r (.ref j) (.int at_) = some (.int cell) := ix_ref h2 (by
      unfold L2.atI
      rw [hN]
      show (xs.map T.int)[at_.toNat]? = _
      rw [List.getElem?_map, List.getElem?_eq_getElem a2, ec]; rfl)
    obtain ⟨r1, er1⟩ : ∃ r1, r1 = r.set k [.ref j, .int (n + 1)] := ⟨_, rfl⟩
    have g1 : r1[k]? = some [.ref j, .int (n + 1)] := by rw [er1]; exact List.getElem?_set_self l1
    have g2 : r1[j]? = some (xs.map T.int) := by rw [er1, get_set_ne hkj]; exact h2
    have i2 : ixT r1 (.ref k) (.int 1) = some (.int (n + 1)) := ix_ref g1 rfl
    have w1 : powT (.int 10) (.int 18) = some (.int (10 ^ 18)) := rfl
    have pre : ∀ so, (∀ e, e = [.val (.ref k), .val (.int m), .val (.ref j), .val (.int at_), .val (.int cell), .un] → (qSeq (qIf (fCmpB geT (fVar 4) (fBin powT (fC (.int 10)) (fC (.int 18)))) (qSeq (qSetIx 2 (fBin divT (fVar 4) (fVar 1)) (fVar 3)) (qSeq (qRet (fBin modT (fB1 intT (fVar 4)) (fVar 1))) qNil)) qNil)
      (qSeq (qSet 5 (fBin modT (fB1 intT (fBin addT (fBin addT (fBin mulT (fVar 4) (fC (.int 48271))) (fBin mulT (fIx (fVar 0) (fC (.int 1))) (fC (.int 69621)))) (fC (.int 11)))) (fC (.int 2147483647))))
      (qSeq (qRet (fBin modT (fBin modT (fB1 intT (fBin addT (fBin mulT (fVar 5) (fC (.int 16807))) (fBin mulT (fIx (fVar 0) (fC (.int 1))) (fC (.int 40692))))) (fC (.int 2147483629))) (fVar 1))) qNil))) e r1 = so) → g__law_draw (envOf 4 [.ref k, .int m]) r = so := fun so hso => by
      refine n_seq (n_set (t := .ref j) (r1 := r) (e_ix (x := .ref k) (y := .int 0) (r1 := r) (r2 := r) rfl rfl i0)) (n_seq (n_ifF (r1 := r) tr rfl) ?_)
      refine n_seq (n_set (t := .int at_) (r1 := r) (e_bin (x := .int n) (y := .int xs.length) (r1 := r) (e_b1 (x := .int n) (r1 := r) (e_ix (x := .ref k) (y := .int 1) (r1 := r) (r2 := r) rfl rfl i1) rfl) (e_b1 (x := .ref j) (r1 := r) rfl ln) d1)) ?_
      refine n_seq (n_set (t := .int cell) (r1 := r) (e_ix (x := .ref j) (y := .int at_) (r1 := r) (r2 := r) rfl rfl gc)) ?_
      refine n_seq (n_setIx (k := k) (j := 1) (x := 1) (xs := [.ref j, .int n]) (t := .int (n + 1)) (r1 := r) (r2 := r) rfl (e_bin (x := .int n) (y := .int 1) (r1 := r) (e_ix (x := .ref k) (y := .int 1) (r1 := r) (r2 := r) rfl rfl i1) rfl rfl) rfl h1 rfl) ?_
      have := hso _ rfl
      rw [er1] at this
      exact this
    by_cases hc : 10 ^ 18 ≤ cell
    · have d2 : divT (.int cell) (.int m) = some (.int (cell / m)) := divB hm hb
      have d3 : modT (.int cell) (.int m) = some (.int (cell % m)) := modP hm
      refine ⟨cell % m, r1.set j ((xs.map T.int).set at_.toNat (.int (cell / m))), n_fn (pre _ fun e he => ?_), ⟨xs.set at_.toNat (cell / m), n + 1, ?_, ?_, hkj⟩, Int.emod_nonneg _ (by omega), Int.emod_lt_of_pos _ hm, fun l q1 q2 => ?_⟩
      · subst he
        refine n_seqR (n_ifT (r1 := r1) (e_cmpB (x := .int cell) (y := .int (10 ^ 18)) (r1 := r1) (r2 := r1) rfl (e_bin (x := .int 10) (y := .int 18) (r1 := r1) rfl rfl w1) (by show some (decide (10 ^ 18 ≤ cell)) = _; rw [decide_eq_true hc])) ?_)
        refine n_seq (n_setIx (k := j) (j := at_.toNat) (x := at_) (xs := xs.map T.int) (t := .int (cell / m)) (r1 := r1) (r2 := r1) rfl (e_bin (x := .int cell) (y := .int m) (r1 := r1) rfl rfl d2) rfl g2 hN) ?_
        exact n_seqR (n_ret (e_bin (x := .int cell) (y := .int m) (e_b1 (x := .int cell) rfl rfl) rfl d3))
      · rw [get_set_ne (fun z => hkj z.symm)]; exact g1
      · rw [List.getElem?_set_self (List.getElem?_eq_some_iff.mp g2).1, List.map_set]
      · rw [get_set_ne (fun z => q2 z.symm), er1, get_set_ne (fun z => q1 z.symm)]
    · obtain ⟨mx, emx⟩ : ∃ mx, mx = (cell * 48271 + (n + 1) * 69621 + 11) % 2147483647 := ⟨_, rfl⟩
      have u1 : mulT (.int cell) (.int 48271) = some (.int (cell * 48271)) := mulR (by decide) (by decide)
      have u2 : mulT (.int (n + 1)) (.int 69621) = some (.int ((n + 1) * 69621)) := mulR (by decide) (by decide)
      have u3 : mulT (.int mx) (.int 16807) = some (.int (mx * 16807)) := mulR (by decide) (by decide)
      have u4 : mulT (.int (n + 1)) (.int 40692) = some (.int ((n + 1) * 40692)) := mulR (by decide) (by decide)
      have u5 : modT (.int (cell * 48271 + (n + 1) * 69621 + 11)) (.int 2147483647) = some (.int mx) := by rw [emx]; exact modP (by decide)
      have u6 : modT (.int (mx * 16807 + (n + 1) * 40692)) (.int 2147483629) = some (.int ((mx * 16807 + (n + 1) * 40692) % 2147483629)) := modP (by decide)
      have u7 : modT (.int ((mx * 16807 + (n + 1) * 40692) % 2147483629)) (.int m) = some (.int ((mx * 16807 + (n + 1) * 40692) % 2147483629 % m)) := modP hm
      refine ⟨(mx * 16807 + (n + 1) * 40692) % 2147483629 % m, r1, n_fn (pre _ fun e he => ?_), ⟨xs, n + 1, g1, g2, hkj⟩, Int.emod_nonneg _ (by omega), Int.emod_lt_of_pos _ hm, fun l q1 q2 => by rw [er1, get_set_ne (fun z => q1 z.symm)]⟩
      subst he
      refine n_seq (n_ifF (r1 := r1) (e_cmpB (x := .int cell) (y := .int (10 ^ 18)) (r1 := r1) (r2 := r1) rfl (e_bin (x := .int 10) (y := .int 18) (r1 := r1) rfl rfl w1) (by show some (decide (10 ^ 18 ≤ cell)) = _; rw [decide_eq_false hc])) rfl) ?_
      refine n_seq (n_set (t := .int mx) (r1 := r1) (e_bin (x := .int (cell * 48271 + (n + 1) * 69621 + 11)) (y := .int 2147483647) (r1 := r1) (e_b1 (x := .int (cell * 48271 + (n + 1) * 69621 + 11)) (r1 := r1) (e_bin (x := .int (cell * 48271 + (n + 1) * 69621)) (y := .int 11) (r1 := r1) (e_bin (x := .int (cell * 48271)) (y := .int ((n + 1) * 69621)) (r1 := r1) (e_bin (x := .int cell) (y := .int 48271) (r1 := r1) rfl rfl u1) (e_bin (x := .int (n + 1)) (y := .int 69621) (r1 := r1) (e_ix (x := .ref k) (y := .int 1) (r1 := r1) (r2 := r1) rfl rfl i2) rfl u2) rfl) rfl rfl) rfl) rfl u5)) ?_
      exact n_seqR (n_ret (e_bin (x := .int ((mx * 16807 + (n + 1) * 40692) % 2147483629)) (y := .int m) (r1 := r1) (e_bin (x := .int (mx * 16807 + (n + 1) * 40692)) (y := .int 2147483629) (r1 := r1) (e_b1 (x := .int (mx * 16807 + (n + 1) * 40692)) (r1 := r1) (e_bin (x := .int (mx * 16807)) (y := .int ((n + 1) * 40692)) (r1 := r1) (e_bin (x := .int mx) (y := .int 16807) (r1 := r1) rfl rfl u3) (e_bin (x := .int (n + 1)) (y := .int 40692) (r1 := r1) (e_ix (x := .ref k) (y := .int 1) (r1 := r1) (r2 := r1) rfl rfl i2) rfl u4) rfl) rfl) rfl u6) rfl u7))
theorem draw {k j : Nat} {m : Int} {r : RS} (h : St k j r) (hm : 0 < m) (hb : m.natAbs < 2 ^ 1000) : ∃ v r', F__law_draw [.ref k, .int m] r = .ok (.int v) r' ∧ St k j r' ∧ 0 ≤ v ∧ v < m := by
  obtain ⟨v, r', e, p, a, b, _⟩ := drawF h hm hb
  exact ⟨v, r', e, p, a, b⟩
abbrev nBody : Sm := (qSeq (qSet 2 (fBin addT (fBin mulT (fVar 2) (fBin powT (fC (.int 2)) (fC (.int 24)))) (fCall F__law_draw [] [(fVar 0), (fBin powT (fC (.int 2)) (fC (.int 24)))]))) qNil)
theorem n_step {k j : Nat} {r : RS} (h : St k j r) (s1 s3 : Slot) (v : Int) (v0 : 0 ≤ v) : ∃ v' r', nBody [.val (.ref k), s1, .val (.int v), s3] r = .nx [.val (.ref k), s1, .val (.int v'), s3] r' ∧ St k j r' ∧ 0 ≤ v' ∧ v' < (v + 1) * 2 ^ 24 := by
  obtain ⟨d, r', e, h', d0, d1⟩ := draw (m := 2 ^ 24) h (by decide) (by decide)
  have w : powT (.int 2) (.int 24) = some (.int (2 ^ 24)) := rfl
  have m : mulT (.int v) (.int (2 ^ 24)) = some (.int (v * 2 ^ 24)) := mulR (by decide) (by decide)
  refine ⟨v * 2 ^ 24 + d, r', ?_, h', by omega, by omega⟩
  exact n_seq (n_set (t := .int (v * 2 ^ 24 + d)) (r1 := r') (e_bin (x := .int (v * 2 ^ 24)) (y := .int d) (r1 := r) (e_bin (x := .int v) (y := .int (2 ^ 24)) (r1 := r) rfl (e_bin (x := .int 2) (y := .int 24) (r1 := r) rfl rfl w) m) (e_call (ts := [.ref k, .int (2 ^ 24)]) (r1 := r) (e_cons (x := .ref k) (r1 := r) rfl (e_cons (x := .int (2 ^ 24)) (r1 := r) (e_bin (x := .int 2) (y := .int 24) (r1 := r) rfl rfl w) e_nil)) e) rfl)) rfl
theorem number {k j : Nat} {r : RS} (h : St k j r) {m : Int} (m0 : 0 ≤ m) (m1 : m ≤ 30) : ∃ v r', F__law_number [.ref k, .int m] r = .ok (.int v) r' ∧ St k j r' ∧ v.natAbs < 2 ^ 100 ∧ (v.natAbs ≤ 30 ∨ 10 ^ 28 ≤ v.natAbs) := by
  obtain ⟨d, r1, e1, h1, d0, d1⟩ := draw (m := 5) h (by decide) (by decide)
  by_cases c : d < 4
  · obtain ⟨v, r2, e2, h2, v0, v1⟩ := draw (m := 2 * m + 1) h1 (by omega) (by omega)
    have w : mulT (.int 2) (.int m) = some (.int (2 * m)) := mulL (by decide) (by decide)
    refine ⟨v - m, r2, ?_, h2, by omega, .inl (by omega)⟩
    refine n_fn (n_seqR (n_ifT (r1 := r1) (e_cmpB (x := .int d) (y := .int 4) (e_call (ts := [.ref k, .int 5]) rfl e1) rfl (by rw [ltI, decide_eq_true c])) (n_seqR (n_ret (e_bin (x := .int v) (y := .int m) (e_call (ts := [.ref k, .int (2 * m + 1)]) (r1 := r1) (e_cons (x := .ref k) (r1 := r1) rfl (e_cons (x := .int (2 * m + 1)) (r1 := r1) (e_bin (x := .int (2 * m)) (y := .int 1) (r1 := r1) (e_bin (x := .int 2) (y := .int m) (r1 := r1) rfl rfl w) rfl rfl) e_nil)) e2) rfl rfl)))))
  · obtain ⟨v1, r2, e2, h2, a1, b1⟩ := n_step h1 (.val (.int m)) (.val (.int 0)) 0 (by decide)
    obtain ⟨v2, r3, e3, h3, a2, b2⟩ := n_step h2 (.val (.int m)) (.val (.int 1)) v1 a1
    obtain ⟨v3, r4, e4, h4, a3, b3⟩ := n_step h3 (.val (.int m)) (.val (.int 2)) v2 a2
    obtain ⟨v4, r5, e5, h5, a4, b4⟩ := n_step h4 (.val (.int m)) (.val (.int 3)) v3 a3
    obtain ⟨s, r6, e6, h6, s0, s1⟩ := draw (m := 2) h5 (by decide) (by decide)
    have w1 : powT (.int 10) (.int 29) = some (.int (10 ^ 29)) := rfl
    have w2 : mulT (.int 2) (.int s) = some (.int (2 * s)) := mulL (by decide) (by decide)
    have w3 : mulT (.int (v4 + 10 ^ 29)) (.int (1 - 2 * s)) = some (.int ((v4 + 10 ^ 29) * (1 - 2 * s))) := mulR (by omega) (by omega)
    refine ⟨(v4 + 10 ^ 29) * (1 - 2 * s), r6, ?_, h6, ?_⟩
    · refine n_fn (n_seq (n_ifF (r1 := r1) (e_cmpB (x := .int d) (y := .int 4) (e_call (ts := [.ref k, .int 5]) rfl e1) rfl (by rw [ltI, decide_eq_false c])) rfl) (n_seq (n_set (t := .int 0) (r1 := r1) rfl) (n_seq (n_for (xs := [.int 0, .int 1, .int 2, .int 3]) (r1 := r1) rfl (n_loop rfl e2 (n_loop rfl e3 (n_loop rfl e4 (n_loop rfl e5 n_loopN))))) (n_seqR (n_ret ?_)))))
      exact e_bin (x := .int (v4 + 10 ^ 29)) (y := .int (1 - 2 * s)) (r1 := r5) (e_bin (x := .int v4) (y := .int (10 ^ 29)) (r1 := r5) rfl (e_bin (x := .int 10) (y := .int 29) (r1 := r5) rfl rfl w1) rfl) (e_bin (x := .int 1) (y := .int (2 * s)) (r1 := r5) rfl (e_bin (x := .int 2) (y := .int s) (r1 := r5) rfl (e_call (ts := [.ref k, .int 2]) (r1 := r5) rfl e6) w2) rfl) w3
    · have : s = 0 ∨ s = 1 := by omega
      rcases this with rfl | rfl <;> exact ⟨by omega, .inr (by omega)⟩
end K03
/-! told rows: by lows, united (ported from the law of regions made). -/
namespace K03.R
open PySem Ep L2 Rg
theorem enum_zip {α : Type} (g : α → T) : ∀ (xs : List α) (n : Nat), enumL n (xs.map g) = (xs.zipIdx n).map fun q => .tup [.int (q.2 : Nat), g q.1]
  | [], _ => rfl
  | x :: xs, n => by
    rw [List.map_cons, List.zipIdx_cons, List.map_cons, ← enum_zip g xs (n + 1)]; rfl
theorem int_all (ns : List Int) : intsT (ns.map T.int) = some ns := by
  induction ns with
  | nil => rfl
  | cons n ns ih =>
    show (intsT (ns.map T.int)).map (n :: ·) = _
    rw [ih]; rfl
theorem sort_int (r : RS) (ns : List Int) : sortT r (.lst (ns.map T.int)) = some (.lst ((sortI ns).map T.int)) := by
  show (intsT (ns.map T.int)).map _ = _
  rw [int_all]; rfl
abbrev osOf (ps : List Pr) : List Pr := ps.filter fun p => p.1.isSome
theorem by_lows {t : T} {ps : List Pr} (ht : iterT t = some (ps.map prT)) (hl : ps.length ≤ 40000) (r : RS) : F_by_lows [t] r = .ok (.lst ((byL ps).map prT)) r := by
  have lo : (osOf ps).length ≤ 40000 := Nat.le_trans (List.length_filter_le _ _) hl
  have it : ∀ {env : Ep.Env}, env[0]? = some (.val t) → fIter (fVar 0) env r = .ok (ps.map prT) r := fun {env} h => x_it (t := t) (by unfold fVar; rw [h]; rfl) ht
  refine n_fn (n_seq (n_set (t := .lst ((osOf ps).map fun p => .int (p.1.getD 0))) (r1 := r) (e_own (comp_ok prT (fun p => .int (p.1.getD 0)) (fun p => p.1.isSome) ps (it rfl) (fun p _ => ⟨_, rfl, e_cmpB (x := oT p.1) (y := .non) (r1 := r) (r2 := r) rfl rfl (nis_oT _), fun q => ?_⟩) (by omega)))) ?_)
  · obtain ⟨x, e⟩ := Option.isSome_iff_exists.mp q
    show Out.ok (oT p.1) r = _
    rw [e]; rfl
  refine n_seq (n_set (t := .int ((osOf ps).length : Int)) (r1 := r) (e_b1 (x := .lst ((osOf ps).map fun p => .int (p.1.getD 0))) (r1 := r) rfl (by show some (T.int (((osOf ps).map fun p => T.int (p.1.getD 0)).length : Nat)) = _; rw [List.length_map]))) ?_
  refine n_seq (n_set (t := .lst ((sortI (rank (osOf ps))).map T.int)) (r1 := r) (e_b1 (x := .lst ((rank (osOf ps)).map T.int)) (r1 := r) (e_own ?_) (sort_int r _))) ?_
  · have e0 := comp_all (vs := [6, 7]) (h := hTupL 2 (hCons (hName 6) (hCons (hName 7) hNil))) (f := fB1 intT (fBin addT (fBin mulT (fVar 7) (fVar 2)) (fVar 6))) (fi := fEnumA (fVar 1)) (r := r) (env := (((envOf 8 [t]).set 1 (.val (.lst ((osOf ps).map fun p => .int (p.1.getD 0))))).set 2 (.val (.int ((osOf ps).length : Int)))))
      (fun q : Pr × Nat => .tup [.int (q.2 : Nat), .int (q.1.1.getD 0)]) (fun q => .int (q.1.1.getD 0 * ((osOf ps).length : Int) + (q.2 : Int))) (osOf ps).zipIdx ?_ (fun q _ => ⟨_, rfl, ?_⟩) (by rw [List.length_zipIdx]; omega)
    · rw [e0]
      unfold rank
      rw [List.map_map]; rfl
    · show Out.ok (enumL 0 ((osOf ps).map fun p => T.int (p.1.getD 0))) r = _
      rw [enum_zip]
    · exact e_b1 (x := .int (q.1.1.getD 0 * ((osOf ps).length : Int) + (q.2 : Int))) (r1 := r) (e_bin (x := .int (q.1.1.getD 0 * ((osOf ps).length : Int))) (y := .int (q.2 : Int)) (r1 := r) (r2 := r) (e_bin (x := .int (q.1.1.getD 0)) (y := .int ((osOf ps).length : Int)) (r1 := r) (r2 := r) rfl rfl (lf_mulR (by omega))) rfl rfl) rfl
  refine n_seq (n_set (t := .lst ((osOf ps).map prT)) (r1 := r) (e_own (comp_ok prT prT (fun p => p.1.isSome) ps (it rfl) (fun p _ => ⟨_, rfl, e_cmpB (x := oT p.1) (y := .non) (r1 := r) (r2 := r) rfl rfl (nis_oT _), fun _ => rfl⟩) (by omega)))) ?_
  refine n_seqR (n_ret (t := .lst ((byL ps).map prT)) (r1 := r) (e_bin (x := .lst ((ps.filter fun p => p.1.isNone).map prT)) (y := .lst ((srt (osOf ps)).map prT)) (r1 := r) (r2 := r)
    (e_own (comp_ok prT prT (fun p => p.1.isNone) ps (it rfl) (fun p _ => ⟨_, rfl, e_cmpB (x := oT p.1) (y := .non) (r1 := r) (r2 := r) rfl rfl (is_oT _), fun _ => rfl⟩) (by omega))) (e_own ?_) ?_))
  · have e0 := comp_all (vs := [8]) (h := hName 8) (f := fIx (fVar 4) (fBin modT (fB1 intT (fVar 8)) (fVar 2))) (fi := fIter (fVar 3)) (r := r) (env := (((((envOf 8 [t]).set 1 (.val (.lst ((osOf ps).map fun p => .int (p.1.getD 0))))).set 2 (.val (.int ((osOf ps).length : Int)))).set 3 (.val (.lst ((sortI (rank (osOf ps))).map T.int)))).set 4 (.val (.lst ((osOf ps).map prT)))))
      T.int (fun z => prT (nthP (osOf ps) z)) (sortI (rank (osOf ps))) rfl (fun z m => ⟨_, rfl, ?_⟩) (by rw [(sortI_perm _).length_eq]; unfold rank; rw [List.length_map, List.length_zipIdx]; omega)
    · rw [e0]
      unfold srt
      rw [List.map_map]; rfl
    · obtain ⟨k, hk, e1, _, e3⟩ := rank_mem ((sortI_perm _).mem_iff.mp m)
      refine e_ix (x := .lst ((osOf ps).map prT)) (y := .int (z % ((osOf ps).length : Int))) (r1 := r) (r2 := r) rfl (e_bin (x := .int z) (y := .int ((osOf ps).length : Int)) (r1 := r) (r2 := r) rfl rfl (lf_mod (by omega))) ?_
      rw [e3, e1]
      exact atI_nat (xs := (osOf ps).map prT) (by rw [List.getElem?_map, List.getElem?_eq_getElem hk]; rfl)
  · show (if _ then _ else _) = _
    rw [if_pos]
    · unfold byL
      rw [List.map_append]
    · rw [List.length_map, List.length_map, (srt_perm _).length_eq]
      have := List.length_filter_le (fun p : Pr => p.1.isNone) ps
      omega
section
variable {f g : Ep.Env → M T} {env : Ep.Env} {r : RS} {a b : Option Int}
theorem touch_ok (hf : f env r = .ok (oT a) r) (hg : g env r = .ok (oT b) r) : fOrB (fCmpB isT f (fC .non)) (fOrB (fCmpB isT g (fC .non)) (fCmpB leT g f)) env r = .ok (touches a b) r := by
  have k1 : fCmpB isT f (fC .non) env r = .ok a.isNone r := e_cmpB hf (y := .non) (r2 := r) rfl (is_oT a)
  have k2 : fCmpB isT g (fC .non) env r = .ok b.isNone r := e_cmpB hg (y := .non) (r2 := r) rfl (is_oT b)
  cases a with
  | none => exact e_orBT k1
  | some x =>
    refine e_orBF k1 ?_
    cases b with
    | none => exact e_orBT k2
    | some y => exact e_orBF k2 (e_cmpB hg hf rfl)
theorem far_ok (hf : f env r = .ok (oT a) r) (hg : g env r = .ok (oT b) r) : fIf (fOrB (fCmpB isT f (fC .non)) (fAndB (fCmpB nisT g (fC .non)) (fCmpB leT g f))) f g env r = .ok (oT (far a b)) r := by
  have k1 : fCmpB isT f (fC .non) env r = .ok a.isNone r := e_cmpB hf (y := .non) (r2 := r) rfl (is_oT a)
  have k2 : fCmpB nisT g (fC .non) env r = .ok b.isSome r := e_cmpB hg (y := .non) (r2 := r) rfl (nis_oT b)
  cases a with
  | none => exact e_ifT (e_orBT k1) hf
  | some x =>
    cases b with
    | none => exact e_ifF (e_orBF k1 (e_andBF k2)) hg
    | some y =>
      by_cases q : y ≤ x
      · rw [far_le q]
        exact e_ifT (e_orBF k1 (e_andBT k2 (e_cmpB hg hf (lf_le q)))) hf
      · rw [far_gt q]
        exact e_ifF (e_orBF k1 (e_andBT k2 (e_cmpB hg hf (lf_leF q)))) hg
end
abbrev prs (F : List Pr) : List T := F.reverse.map prT
theorem prs_cons (t : Pr) (F : List Pr) : prs (t :: F) = prs F ++ [prT t] := by unfold prs; rw [List.reverse_cons, List.map_append]; rfl
theorem ne_prs (F : List Pr) : neT (.lst (prs F)) (.lst []) = some (!F.isEmpty) := ne_pt lfI (n := 2) (b := F.isEmpty) (Pt.lst fun x m => by obtain ⟨p, _, rfl⟩ := List.mem_map.mp m; exact pt_pr p) (Pt.lst fun x m => absurd m List.not_mem_nil) (by decide) (by
  rw [List.isEmpty_iff]
  exact ⟨fun h => by rw [h]; rfl, fun h => by injection h with h; cases F with | nil => rfl | cons t F => rw [prs_cons] at h; simp at h⟩)
theorem uni_len (F : List Pr) (p : Pr) : (uni F p).length ≤ F.length + 1 := by
  unfold uni
  split
  · exact Nat.le_refl _
  · split <;> simp
theorem united_ok' {t : T} {ps : List Pr} (ht : iterT t = some (ps.map prT)) (hl : ps.length ≤ 40000) (r : RS) : F_united [t] r = .ok (.lst ((united ps).map prT)) r := by
  have ll : (byL ps).length ≤ 40000 := by rw [(byL_perm ps).length_eq]; exact hl
  refine n_fn (n_seq (x_own (xs := []) (r1 := r) rfl) ?_)
  have key := y_loop (r := r) (h := hTupL 2 (hCons (hName 2) (hCons (hName 3) hNil)))
    (s := qSeq (qIf (fAndB (fCmpB neT (fBor 1) (fLst [])) (fOrB (fCmpB isT (fIx (fIx (fBor 1) (fUn negT (fC (.int 1)))) (fC (.int 1))) (fC .non)) (fOrB (fCmpB isT (fVar 2) (fC .non)) (fCmpB leT (fVar 2) (fIx (fIx (fBor 1) (fUn negT (fC (.int 1)))) (fC (.int 1))))))) (qSeq (qAsg (fIx (fBor 1) (fUn negT (fC (.int 1)))) (hTupL 2 (hCons (hName 4) (hCons (hName 5) hNil))))
    (qSeq (qSetIx 1 (fTup [(fVar 4), (fIf (fOrB (fCmpB isT (fVar 5) (fC .non)) (fAndB (fCmpB nisT (fVar 3) (fC .non)) (fCmpB leT (fVar 3) (fVar 5)))) (fVar 5) (fVar 3))]) (fUn negT (fC (.int 1)))) qNil)) (qSeq (qApp 1 (fTup [(fVar 2), (fVar 3)])) qNil)) qNil)
    prT (fun L env => ∃ F s2 s3 s4 s5, env = [.val t, .own (prs F), s2, s3, s4, s5] ∧ L.foldl uni F = (byL ps).foldl uni [] ∧ F.length + L.length ≤ 40000) ?_ (byL ps) [.val t, .own [], .un, .un, .un, .un] ⟨[], _, _, _, _, rfl, rfl, by simpa using ll⟩
  · obtain ⟨e2, k, ⟨F, s2, s3, s4, s5, ee, hF, _⟩⟩ := key
    have fin := n_seq (s' := qSeq (qFrz [1] (qRet (fVar 1))) qNil) (n_for (fi := fIter (fCall F_by_lows [] [(fVar 0)])) (x_it (t := .lst ((byL ps).map prT)) (x_call (ts := [t]) (r1 := r) rfl (by_lows ht hl r)) rfl) k) rfl
    refine fin.trans ?_
    subst ee
    have hF : F = (byL ps).foldl uni [] := hF
    refine n_seqR (n_frz (n_ret (r1 := r) ?_))
    show Out.ok (T.lst (prs F)) r = _
    rw [hF]; rfl
  · intro p L env ⟨F, s2, s3, s4, s5, ee, hF, hn⟩
    subst ee
    rw [List.length_cons] at hn
    have ul := uni_len F p
    cases F with
    | nil =>
      refine ⟨_, _, rfl, n_seq (n_ifF (r1 := r) (e_andBF (e_cmpB (x := .lst []) (y := .lst []) (r1 := r) (r2 := r) rfl rfl rfl)) (n_seq (x_app (xs := []) (t := prT p) (r1 := r) rfl rfl (by decide)) rfl)) rfl, ⟨[p], .val (oT p.1), .val (oT p.2), s4, s5, rfl, hF, by simp at hn ⊢; omega⟩⟩
    | cons q F =>
      have lst : ∀ {s2 s3 s4 s5 : Slot}, fIx (fBor 1) (fUn negT (fC (.int 1))) [.val t, .own (prs (q :: F)), s2, s3, s4, s5] r = .ok (prT q) r := fun {s2 s3 s4 s5} => y_lastIx (xs := prs F) (by show some (Slot.own (prs (q :: F))) = _; rw [prs_cons])
      have k0 := e_cmpB (h := neT) (f := fBor 1) (g := fLst []) (env := [.val t, .own (prs (q :: F)), .val (oT p.1), .val (oT p.2), s4, s5]) (r := r) (x := .lst (prs (q :: F))) (y := .lst []) (r1 := r) (r2 := r) rfl rfl (ne_prs _)
      have kt := touch_ok (f := fIx (fIx (fBor 1) (fUn negT (fC (.int 1)))) (fC (.int 1))) (g := fVar 2) (env := [.val t, .own (prs (q :: F)), .val (oT p.1), .val (oT p.2), s4, s5]) (r := r) (a := q.2) (b := p.1) (e_ix lst (y := .int 1) (r2 := r) rfl rfl) rfl
      by_cases tc : touches q.2 p.1 = true
      · rw [tc] at kt
        have ku : uni (q :: F) p = (q.1, far q.2 p.2) :: F := if_pos tc
        refine ⟨_, _, rfl, n_seq (n_ifT (r1 := r) (e_andBT k0 kt) (n_seq (n_asg (x := prT q) (r1 := r) lst rfl) (n_seq (y_setLast (xs := prs F) (t := prT q) (u := prT (q.1, far q.2 p.2)) (by show some (Slot.own (prs (q :: F))) = _; rw [prs_cons]) (e_tup (e_cons (x := oT q.1) (r1 := r) rfl (e_cons (far_ok (a := q.2) (b := p.2) rfl rfl) e_nil)))) rfl))) rfl, ⟨(q.1, far q.2 p.2) :: F, .val (oT p.1), .val (oT p.2), .val (oT q.1), .val (oT q.2), ?_, ?_, ?_⟩⟩
        · rw [prs_cons (q.1, far q.2 p.2)]; rfl
        · rw [List.foldl_cons, ku] at hF; exact hF
        · simp at hn ⊢; omega
      · rw [Bool.eq_false_iff.mpr tc] at kt
        have ku : uni (q :: F) p = p :: q :: F := if_neg tc
        refine ⟨_, _, rfl, n_seq (n_ifF (r1 := r) (e_andBT k0 kt) (n_seq (x_app (xs := prs (q :: F)) (t := prT p) (r1 := r) rfl rfl (by unfold prs; rw [List.length_map, List.length_reverse]; simp at hn ⊢; omega)) rfl)) rfl, ⟨p :: q :: F, .val (oT p.1), .val (oT p.2), s4, s5, ?_, ?_, ?_⟩⟩
        · rw [prs_cons p]; rfl
        · rw [List.foldl_cons, ku] at hF; exact hF
        · simp at hn ⊢; omega
end K03.R
/-! stretches' members, walked. -/
namespace K03
open PySem Ep L2 Stp Dr
abbrev oTq : Option Int → T := Rg.oT
abbrev pT (p : Pr) : T := .tup [oTq p.1, oTq p.2]
abbrev psT (ps : List Pr) : List T := ps.map pT
theorem nis_o (a : Option Int) : nisT (oTq a) .non = some (!decide (a = none)) := by cases a <;> rfl
section
variable {r m : Int}
end
end K03
/-! rows of stretches, walked. -/
namespace K03
open PySem Ep L2 Stp Dr
theorem os_pt (L : List (Option Int)) : ∀ x ∈ L.map oTq, Pt LfI 0 x := fun x hx => by
  obtain ⟨a, _, rfl⟩ := List.mem_map.mp hx
  cases a with
  | none => exact Pt.leaf (show LfI .non from Or.inl rfl) 0
  | some i => exact Pt.leaf (show LfI (.int i) from Or.inr (Or.inl ⟨i, rfl⟩)) 0
theorem oT_inj : ∀ {a b : Option Int}, oTq a = oTq b → a = b
  | none, none, _ => rfl
  | some a, some b, h => by injection h with h; rw [h]
  | none, some b, h => by cases h
  | some a, none, h => by cases h
theorem n_own {i : Nat} {f : Ep.Env → M (List T)} {env : Ep.Env} {r r1 : RS} {xs : List T} (h : f env r = .ok xs r1) : qOwn i f env r = .nx (env.set i (.own xs)) r1 := by unfold qOwn ofM; rw [h]
section
variable {r m : Int}
end
end K03
/-! first, last, n-th of a row of stretches. -/
namespace K03
open PySem Ep L2 Stp Dr
theorem ps_pt (ps : List Pr) : Pt LfI 2 (.lst (psT ps)) := Pt.lst fun x hx => by
  obtain ⟨p, _, rfl⟩ := List.mem_map.mp hx
  exact Pt.tup (os_pt [p.1, p.2])
theorem eq_psN (p : Pr) (ps : List Pr) : eqT (.lst (psT (p :: ps))) (.lst []) = some false := eq_pt lfI (ps_pt (p :: ps)) (ps_pt []) (by decide) ⟨fun h => (by cases h), fun h => by cases h⟩
theorem ne_psN (p : Pr) (ps : List Pr) : neT (.lst (psT (p :: ps))) (.lst []) = some true := by unfold neT; rw [eq_psN]; rfl
theorem zs_pt (zs : List Int) : Pt LfI 1 (.lst (zs.map T.int)) := Pt.lst fun x hx => by
  obtain ⟨i, _, rfl⟩ := List.mem_map.mp hx
  exact Pt.leaf (show LfI (.int i) from Or.inr (Or.inl ⟨i, rfl⟩)) 0
theorem os_zs (os : List (Option Int)) : (os.filter fun a => !decide (a = none)).map oTq = (os.filterMap id).map T.int := by
  induction os with
  | nil => rfl
  | cons a os ih =>
    cases a with
    | none => rw [List.filter_cons_of_neg (by decide)]; exact ih
    | some a => rw [List.filter_cons_of_pos (by rfl), List.map_cons, ih]; rfl
section
variable {r m : Int}
end
end K03
/-! methods of stretches; the law's own functions over told rows. -/
namespace K03
open PySem Ep L2 Stp Dr
/-- a spread -/
abbrev sdT (ps : List Pr) : T := .obj 2 [.lst (psT ps)]
/-- a told row -/
structure Row (ps : List Pr) : Prop where
  ok : ∀ p ∈ ps, Ok p
  lows : ∀ p ∈ ps.tail, p.1 ≠ none
  highs : ∀ p ∈ ps.dropLast, p.2 ≠ none
  few : ps.length ≤ 1000
section
variable {r m : Int} {ps : List Pr}
/-! the law's own -/
end
end K03
/-! the law's last and n-th member, what it cuts, its ends. -/
namespace K03
open PySem Ep L2 Stp Dr
section
variable {r m : Int}
/-! what is below a number -/
/-! n-th member -/
end
/-! the ends -/
theorem ends {k j : Nat} {r : RS} (h : St k j r) : ∃ p r', F__law_ends [.ref k] r = .ok (pT p) r' ∧ St k j r' ∧ Ok p ∧ ∀ l, p.1 = some l → l.natAbs ≤ 30 ∨ 10 ^ 28 ≤ l.natAbs := by
  obtain ⟨l, r1, e1, h1, b1, b2⟩ := number (m := 9) h (by decide) (by decide)
  obtain ⟨d, r2, e2, h2, d0, d1⟩ := draw (m := 9) h1 (by decide) (by decide)
  obtain ⟨c, r3, e3, h3, c0, c1⟩ := draw (m := 2) h2 (by decide) (by decide)
  obtain ⟨g, r4, e4, h4, g0, g1⟩ := draw (m := 8) h3 (by decide) (by decide)
  have dc : 0 ≤ d * (1 + c) := Int.mul_nonneg d0 (by omega)
  obtain ⟨w, r5, q5, h5, lw⟩ : ∃ (w : Int) (r5 : RS), (∀ so, (∀ s3 : Slot, (qSeq (qSet 3 (fCall F__law_draw [] [(fVar 0), (fC (.int 9))]))
    (qSeq (qIf (fCmpB eqT (fVar 3) (fC (.int 7))) (qSeq (qSet 1 (fC .non))
    qNil) qNil)
    (qSeq (qIf (fCmpB eqT (fVar 3) (fC (.int 8))) (qSeq (qSet 2 (fC .non))
    qNil) qNil)
    (qSeq (qIf (fAndB (fCmpB eqT (fVar 3) (fC (.int 6))) (fCmpB eqT (fCall F__law_draw [] [(fVar 0), (fC (.int 2))]) (fC (.int 1)))) (qSeq (qRet (fTup [(fC .non), (fC .non)]))
    qNil) qNil)
    (qSeq (qRet (fTup [(fVar 1), (fVar 2)]))
    qNil))))) [.val (.ref k), .val (.int l), .val (.int w), s3] r5 = so) → g__law_ends (envOf 3 [.ref k]) r = so) ∧ St k j r5 ∧ l < w := by
    have pre : (qSet 1 (fCall F__law_number [] [(fVar 0), (fC (.int 9))])) (envOf 3 [.ref k]) r = .nx [.val (.ref k), .val (.int l), .un, .un] r1 := n_set (t := .int l) (r1 := r1) (call2 (t := .ref k) (v := .int 9) rfl rfl e1)
    have pre2 : (qSet 2 (fBin addT (fBin addT (fVar 1) (fC (.int 1))) (fBin mulT (fCall F__law_draw [] [(fVar 0), (fC (.int 9))]) (fBin addT (fC (.int 1)) (fCall F__law_draw [] [(fVar 0), (fC (.int 2))]))))) [.val (.ref k), .val (.int l), .un, .un] r1 = .nx [.val (.ref k), .val (.int l), .val (.int (l + 1 + d * (1 + c))), .un] r3 := n_set (t := .int (l + 1 + d * (1 + c))) (r1 := r3) (e_bin (x := .int (l + 1)) (y := .int (d * (1 + c))) (r1 := r1) (r2 := r3) rfl (e_bin (x := .int d) (y := .int (1 + c)) (r1 := r2) (r2 := r3) (call2 (t := .ref k) (v := .int 9) rfl rfl e2) (e_bin (x := .int 1) (y := .int c) (r1 := r2) (r2 := r3) rfl (call2 (t := .ref k) (v := .int 2) rfl rfl e3) rfl) (lf_mulR (by omega))) rfl)
    by_cases q : g = 7
    · obtain ⟨z, r5, e5, h5, z0, z1⟩ := draw (m := 99) h4 (by decide) (by decide)
      refine ⟨l + 1 + d * (1 + c) + 10 ^ 30 + z, r5, fun so hso => n_seq pre (n_seq pre2 (n_seq (n_ifT (r1 := r4) (e_cmpB (x := .int g) (y := .int 7) (r1 := r4) (r2 := r4) (call2 (t := .ref k) (v := .int 8) rfl rfl e4) rfl (lf_eq q)) (n_seq (n_set (t := .int (l + 1 + d * (1 + c) + 10 ^ 30 + z)) (r1 := r5) ?_) rfl)) (hso _))), h5, by omega⟩
      exact e_bin (x := .int (l + 1 + d * (1 + c) + 10 ^ 30)) (y := .int z) (r1 := r4) (r2 := r5) (e_bin (x := .int (l + 1 + d * (1 + c))) (y := .int (10 ^ 30)) (r1 := r4) (r2 := r4) rfl rfl rfl) (call2 (t := .ref k) (v := .int 99) rfl rfl e5) rfl
    · exact ⟨l + 1 + d * (1 + c), r4, fun so hso => n_seq pre (n_seq pre2 (n_seq (n_ifF (r1 := r4) (e_cmpB (x := .int g) (y := .int 7) (r1 := r4) (r2 := r4) (call2 (t := .ref k) (v := .int 8) rfl rfl e4) rfl (lf_eqF q)) rfl) (hso _))), h4, by omega⟩
  obtain ⟨v, r6, e6, h6, v0, v1⟩ := draw (m := 9) h5 (by decide) (by decide)
  have set3 : ∀ s3, (qSet 3 (fCall F__law_draw [] [(fVar 0), (fC (.int 9))])) [.val (.ref k), .val (.int l), .val (.int w), s3] r5 = .nx [.val (.ref k), .val (.int l), .val (.int w), .val (.int v)] r6 := fun s3 => n_set (t := .int v) (r1 := r6) (call2 (t := .ref k) (v := .int 9) rfl rfl e6)
  by_cases q7 : v = 7
  · refine ⟨(none, some w), r6, n_fn (q5 _ fun s3 => n_seq (set3 s3) ?_), h6, fun a b e => (by cases e), fun _ e => by cases e⟩
    exact n_seq (n_ifT (r1 := r6) (e_cmpB (x := .int v) (y := .int 7) (r1 := r6) (r2 := r6) rfl rfl (lf_eq q7)) (n_seq (n_set (t := .non) (r1 := r6) rfl) rfl)) (n_seq (n_ifF (r1 := r6) (e_cmpB (x := .int v) (y := .int 8) (r1 := r6) (r2 := r6) rfl rfl (lf_eqF (by omega))) rfl) (n_seq (n_ifF (r1 := r6) (e_andBF (r1 := r6) (e_cmpB (x := .int v) (y := .int 6) (r1 := r6) (r2 := r6) rfl rfl (lf_eqF (by omega)))) rfl) (n_seqR (n_ret rfl))))
  · by_cases q8 : v = 8
    · refine ⟨(some l, none), r6, n_fn (q5 _ fun s3 => n_seq (set3 s3) ?_), h6, fun a b e => (by cases e), fun _ e => by cases e; exact b2⟩
      exact n_seq (n_ifF (r1 := r6) (e_cmpB (x := .int v) (y := .int 7) (r1 := r6) (r2 := r6) rfl rfl (lf_eqF q7)) rfl) (n_seq (n_ifT (r1 := r6) (e_cmpB (x := .int v) (y := .int 8) (r1 := r6) (r2 := r6) rfl rfl (lf_eq q8)) (n_seq (n_set (t := .non) (r1 := r6) rfl) rfl)) (n_seq (n_ifF (r1 := r6) (e_andBF (r1 := r6) (e_cmpB (x := .int v) (y := .int 6) (r1 := r6) (r2 := r6) rfl rfl (lf_eqF (by omega)))) rfl) (n_seqR (n_ret rfl))))
    · have s12 : ∀ so, (qSeq (qIf (fAndB (fCmpB eqT (fVar 3) (fC (.int 6))) (fCmpB eqT (fCall F__law_draw [] [(fVar 0), (fC (.int 2))]) (fC (.int 1)))) (qSeq (qRet (fTup [(fC .non), (fC .non)])) qNil) qNil) (qSeq (qRet (fTup [(fVar 1), (fVar 2)])) qNil)) [.val (.ref k), .val (.int l), .val (.int w), .val (.int v)] r6 = so → g__law_ends (envOf 3 [.ref k]) r = so := fun so hso => q5 _ fun s3 => n_seq (set3 s3) (n_seq (n_ifF (r1 := r6) (e_cmpB (x := .int v) (y := .int 7) (r1 := r6) (r2 := r6) rfl rfl (lf_eqF q7)) rfl) (n_seq (n_ifF (r1 := r6) (e_cmpB (x := .int v) (y := .int 8) (r1 := r6) (r2 := r6) rfl rfl (lf_eqF q8)) rfl) hso))
      by_cases q6 : v = 6
      · obtain ⟨z, r7, e7, h7, z0, z1⟩ := draw (m := 2) h6 (by decide) (by decide)
        by_cases qz : z = 1
        · refine ⟨(none, none), r7, n_fn (s12 _ ?_), h7, fun a b e => (by cases e), fun _ e => by cases e⟩
          exact n_seqR (n_ifT (r1 := r7) (e_andBT (r1 := r6) (e_cmpB (x := .int v) (y := .int 6) (r1 := r6) (r2 := r6) rfl rfl (lf_eq q6)) (e_cmpB (x := .int z) (y := .int 1) (r1 := r7) (r2 := r7) (call2 (t := .ref k) (v := .int 2) rfl rfl e7) rfl (lf_eq qz))) (n_seqR (n_ret rfl)))
        · refine ⟨(some l, some w), r7, n_fn (s12 _ ?_), h7, fun a b e => (by cases e; exact lw), fun _ e => by cases e; exact b2⟩
          exact n_seq (n_ifF (r1 := r7) (e_andBT (r1 := r6) (e_cmpB (x := .int v) (y := .int 6) (r1 := r6) (r2 := r6) rfl rfl (lf_eq q6)) (e_cmpB (x := .int z) (y := .int 1) (r1 := r7) (r2 := r7) (call2 (t := .ref k) (v := .int 2) rfl rfl e7) rfl (lf_eqF qz))) rfl) (n_seqR (n_ret rfl))
      · refine ⟨(some l, some w), r6, n_fn (s12 _ ?_), h6, fun a b e => (by cases e; exact lw), fun _ e => by cases e; exact b2⟩
        exact n_seq (n_ifF (r1 := r6) (e_andBF (r1 := r6) (e_cmpB (x := .int v) (y := .int 6) (r1 := r6) (r2 := r6) rfl rfl (lf_eqF q6))) rfl) (n_seqR (n_ret rfl))
end K03
/-! the law's told row. -/
namespace K03
open PySem Ep L2 Stp Dr
section
variable {f g : Ep.Env → M T} {env : Ep.Env} {s : RS} {a : Option Int} {x : Int}
theorem lo_t (hf : f env s = .ok (oTq a) s) (hg : g env s = .ok (.int x) s) : fOrB (fCmpB isT f (fC .non)) (fCmpB leT f g) env s = .ok (Rg.loB a x) s := by
  cases a with
  | none => exact e_orBT (r1 := s) (e_cmpB (x := .non) (y := .non) (r1 := s) (r2 := s) hf rfl rfl)
  | some l => exact e_orBF (r1 := s) (e_cmpB (x := .int l) (y := .non) (r1 := s) (r2 := s) hf rfl rfl) (e_cmpB (x := .int l) (y := .int x) (r1 := s) (r2 := s) hf hg rfl)
theorem hi_t (hf : f env s = .ok (oTq a) s) (hg : g env s = .ok (.int x) s) : fOrB (fCmpB isT f (fC .non)) (fCmpB ltT g f) env s = .ok (Rg.hiB a x) s := by
  cases a with
  | none => exact e_orBT (r1 := s) (e_cmpB (x := .non) (y := .non) (r1 := s) (r2 := s) hf rfl rfl)
  | some l => exact e_orBF (r1 := s) (e_cmpB (x := .int l) (y := .non) (r1 := s) (r2 := s) hf rfl rfl) (e_cmpB (x := .int x) (y := .int l) (r1 := s) (r2 := s) hg hf rfl)
end
abbrev hB : Sm := (qSeq (qIf (fAndB (fOrB (fCmpB isT (fVar 2) (fC .non)) (fCmpB leT (fVar 2) (fVar 1))) (fOrB (fCmpB isT (fVar 3) (fC .non)) (fCmpB ltT (fVar 1) (fVar 3)))) (qSeq (qRet (fC (.bl true)))
    qNil) qNil)
    qNil)
theorem has_loop (t0 : T) (x : Int) (s : RS) : ∀ (L : List Pr) (s2 s3 : Slot), (∃ e, loopF (hTupL 2 (hCons (hName 2) (hCons (hName 3) hNil))) hB (psT L) [.val t0, .val (.int x), s2, s3] s = .nx e s ∧ L.any (Rg.pin x) = false) ∨ (loopF (hTupL 2 (hCons (hName 2) (hCons (hName 3) hNil))) hB (psT L) [.val t0, .val (.int x), s2, s3] s = .rt (.bl true) s ∧ L.any (Rg.pin x) = true)
  | [], s2, s3 => .inl ⟨_, rfl, rfl⟩
  | p :: L, s2, s3 => by
    obtain ⟨a, b⟩ := p
    have hh : (hTupL 2 (hCons (hName 2) (hCons (hName 3) hNil))) (pT (a, b)) [.val t0, .val (.int x), s2, s3] = some [.val t0, .val (.int x), .val (oTq a), .val (oTq b)] := rfl
    have t1 := lo_t (f := fVar 2) (g := fVar 1) (env := [.val t0, .val (.int x), .val (oTq a), .val (oTq b)]) (s := s) (a := a) (x := x) rfl rfl
    have t2 := hi_t (f := fVar 3) (g := fVar 1) (env := [.val t0, .val (.int x), .val (oTq a), .val (oTq b)]) (s := s) (a := b) (x := x) rfl rfl
    have ep : Rg.pin x (a, b) = (Rg.loB a x && Rg.hiB b x) := rfl
    cases e1 : Rg.loB a x with
    | false =>
      rw [e1] at t1
      have body : hB [.val t0, .val (.int x), .val (oTq a), .val (oTq b)] s = .nx [.val t0, .val (.int x), .val (oTq a), .val (oTq b)] s := n_seq (n_ifF (r1 := s) (e_andBF (r1 := s) t1) rfl) rfl
      rcases has_loop t0 x s L (.val (oTq a)) (.val (oTq b)) with ⟨e, k1, k2⟩ | ⟨k1, k2⟩
      · exact .inl ⟨e, n_loop hh body k1, by rw [List.any_cons, ep, e1, k2]; rfl⟩
      · exact .inr ⟨n_loop hh body k1, by rw [List.any_cons, k2, Bool.or_true]⟩
    | true =>
      rw [e1] at t1
      cases e2 : Rg.hiB b x with
      | false =>
        rw [e2] at t2
        have body : hB [.val t0, .val (.int x), .val (oTq a), .val (oTq b)] s = .nx [.val t0, .val (.int x), .val (oTq a), .val (oTq b)] s := n_seq (n_ifF (r1 := s) (e_andBT (r1 := s) t1 t2) rfl) rfl
        rcases has_loop t0 x s L (.val (oTq a)) (.val (oTq b)) with ⟨e, k1, k2⟩ | ⟨k1, k2⟩
        · exact .inl ⟨e, n_loop hh body k1, by rw [List.any_cons, ep, e1, e2, k2]; rfl⟩
        · exact .inr ⟨n_loop hh body k1, by rw [List.any_cons, k2, Bool.or_true]⟩
      | true =>
        rw [e2] at t2
        exact .inr ⟨n_loopR hh (n_seqR (n_ifT (r1 := s) (e_andBT (r1 := s) t1 t2) (n_seqR (n_ret rfl)))), by rw [List.any_cons, ep, e1, e2]; rfl⟩
theorem has_w (ps : List Pr) (x : Int) (s : RS) : F__law_has [.lst (psT ps), .int x] s = .ok (.bl (ps.any (Rg.pin x))) s := by
  rcases has_loop (.lst (psT ps)) x s ps .un .un with ⟨e, k1, k2⟩ | ⟨k1, k2⟩
  · rw [k2]
    exact n_fn (n_seq (n_for (x_it (t := .lst (psT ps)) (r1 := s) rfl rfl) k1) (n_seqR (n_ret rfl)))
  · rw [k2]
    exact n_fn (n_seqR (n_for (x_it (t := .lst (psT ps)) (r1 := s) rfl rfl) k1))
abbrev zsT (zs : List Int) : List T := zs.map T.int
/-! the ends -/
abbrev eB : Sm := (qSeq (qSet 1 (fBin addT (fVar 1) (fOwn (fComp [10] (hName 10) (fCmpB nisT (fVar 10) (fC .non)) (fVar 10) (fIter (fTup [(fVar 2), (fVar 3)]))))))
    qNil)
abbrev mB : Sm := (qSeq (qIf (fCmpB ninT (fVar 6) (fBor 5)) (qSeq (qApp 5 (fVar 6))
    qNil) qNil)
    qNil)
abbrev wB : Sm := (qSeq (qSet 9 (fIf (fCmpB isT (fVar 2) (fC .non)) (fBin subT (fIx (fBor 5) (fC (.int 0))) (fC (.int 1))) (fVar 2)))
    (qSeq (qIf (fTru (fCall F__law_has [] [(fVar 0), (fVar 9)])) (qSeq (qIf (fAndB (fCmpB neT (fBor 8) (fLst [])) (fCmpB eqT (fIx (fIx (fBor 8) (fUn negT (fC (.int 1)))) (fC (.int 1))) (fVar 2))) (qSeq (qSetIx 8 (fTup [(fIx (fIx (fBor 8) (fUn negT (fC (.int 1)))) (fC (.int 0))), (fVar 3)]) (fUn negT (fC (.int 1))))
    qNil) (qSeq (qApp 8 (fTup [(fVar 2), (fVar 3)]))
    qNil))
    qNil) qNil)
    qNil))
theorem e_loop (ps0 : T) (s : RS) (ps : List Pr) (hl : ps.length ≤ 1000) : ∃ s2 s3, loopF (hTupL 2 (hCons (hName 2) (hCons (hName 3) hNil))) eB (psT ps) [.val ps0, .val (.lst [.non]), .un, .un, .un, .un, .un, .un, .un, .un, .un, .un] s = .nx [.val ps0, .val (.lst (.non :: zsT (ps.flatMap Rg.ofP))), s2, s3, .un, .un, .un, .un, .un, .un, .un, .un] s := by
  obtain ⟨e2, k, zs, s2, s3, rfl, h1, _⟩ := y_loop (r := s) (h := hTupL 2 (hCons (hName 2) (hCons (hName 3) hNil))) (s := eB) pT (fun L env => ∃ zs s2 s3, env = [.val ps0, .val (.lst (.non :: zsT zs)), s2, s3, .un, .un, .un, .un, .un, .un, .un, .un] ∧ zs ++ L.flatMap Rg.ofP = ps.flatMap Rg.ofP ∧ zs.length + 2 * L.length ≤ 2000) (fun p L env => by
    rintro ⟨zs, s2, s3, rfl, h1, h2⟩
    obtain ⟨a, b⟩ := p
    rw [List.length_cons] at h2
    have el : (Rg.ofP (a, b)).length ≤ 2 := by cases a <;> cases b <;> simp [Rg.ofP]
    have eo : ([a, b].filterMap id) = Rg.ofP (a, b) := by cases a <;> cases b <;> rfl
    refine ⟨_, _, rfl, n_seq (n_set (t := .lst (.non :: zsT (zs ++ Rg.ofP (a, b)))) (r1 := s) (e_bin (x := .lst (.non :: zsT zs)) (y := .lst (zsT (Rg.ofP (a, b)))) (r1 := s) (r2 := s) rfl ?_ ?_)) rfl, ⟨zs ++ Rg.ofP (a, b), _, _, rfl, by rw [← h1, List.flatMap_cons, List.append_assoc], by rw [List.length_append]; omega⟩⟩
    · exact (e_own (comp_ok oTq oTq (fun o => !decide (o = none)) [a, b] (x_it (t := .tup [oTq a, oTq b]) (r1 := s) rfl rfl) (fun o _ => ⟨_, rfl, e_cmpB (x := oTq o) (y := .non) (r1 := s) (r2 := s) rfl rfl (nis_o o), fun _ => rfl⟩) (by simp))).trans (congrArg (fun z => Out.ok (T.lst z) s) ((os_zs [a, b]).trans (by rw [eo])))
    · rw [show (T.non :: zsT (zs ++ Rg.ofP (a, b))) = (.non :: zsT zs) ++ zsT (Rg.ofP (a, b)) by rw [show zsT (zs ++ Rg.ofP (a, b)) = zsT zs ++ zsT (Rg.ofP (a, b)) from List.map_append]; rfl]
      exact add_lst (by rw [List.length_cons, List.length_map, List.length_map]; omega)) ps _ ⟨[], .un, .un, rfl, rfl, by rw [List.length_nil]; omega⟩
  rw [List.flatMap_nil, List.append_nil] at h1
  rw [h1] at k
  exact ⟨s2, s3, k⟩
theorem nin_zs (x : Int) (ks : List Int) : ninT (.int x) (.lst (zsT ks)) = some (!decide (x ∈ ks)) := by
  refine nin_lst lfI (n := 0) (Pt.leaf (show LfI (.int x) from Or.inr (Or.inl ⟨x, rfl⟩)) 0) (fun y hy => ?_) (by decide) ?_
  · obtain ⟨i, _, rfl⟩ := List.mem_map.mp hy
    exact Pt.leaf (show LfI (.int i) from Or.inr (Or.inl ⟨i, rfl⟩)) 0
  · rw [decide_eq_true_iff, List.mem_map]
    exact ⟨fun h => ⟨x, h, rfl⟩, fun ⟨y, h, e⟩ => by injection e with e; exact e ▸ h⟩
theorem ddk_len (ks : List Int) (k : Int) : (Rg.ddk ks k).length ≤ ks.length + 1 := by
  unfold Rg.ddk
  split
  · omega
  · rw [List.length_append, List.length_singleton]; omega
theorem m_loop (t0 t1 t4 : T) (s2 s3 : Slot) (s : RS) (zs : List Int) (hl : zs.length ≤ 3000) : ∃ s6, loopF (hName 6) mB (zsT zs) [.val t0, .val t1, s2, s3, .val t4, .own [], .un, .un, .un, .un, .un, .un] s = .nx [.val t0, .val t1, s2, s3, .val t4, .own (zsT (Rg.dd zs)), s6, .un, .un, .un, .un, .un] s := by
  obtain ⟨e2, k, ks, s6, rfl, h1, _⟩ := y_loop (r := s) (h := hName 6) (s := mB) T.int (fun L env => ∃ ks s6, env = [.val t0, .val t1, s2, s3, .val t4, .own (zsT ks), s6, .un, .un, .un, .un, .un] ∧ L.foldl Rg.ddk ks = Rg.dd zs ∧ ks.length + L.length ≤ 3000) (fun x L env => by
    rintro ⟨ks, s6, rfl, h1, h2⟩
    rw [List.length_cons] at h2
    have dl := ddk_len ks x
    have ht : (fCmpB ninT (fVar 6) (fBor 5)) [.val t0, .val t1, s2, s3, .val t4, .own (zsT ks), .val (.int x), .un, .un, .un, .un, .un] s = .ok (!decide (x ∈ ks)) s := e_cmpB (x := .int x) (y := .lst (zsT ks)) (r1 := s) (r2 := s) rfl rfl (nin_zs x ks)
    by_cases q : x ∈ ks
    · rw [decide_eq_true q] at ht
      exact ⟨_, _, rfl, n_seq (n_ifF (r1 := s) ht rfl) rfl, ⟨ks, _, rfl, by rw [← h1, List.foldl_cons, show Rg.ddk ks x = ks from if_pos q], by omega⟩⟩
    · rw [decide_eq_false q] at ht
      refine ⟨_, _, rfl, n_seq (n_ifT (r1 := s) ht (n_seq (x_app (t := .int x) (xs := zsT ks) (r1 := s) rfl rfl (by rw [List.length_map]; omega)) rfl)) rfl, ⟨Rg.ddk ks x, .val (.int x), ?_, h1, by omega⟩⟩
      rw [show Rg.ddk ks x = ks ++ [x] from if_neg q, show zsT (ks ++ [x]) = zsT ks ++ [.int x] from List.map_append]
      rfl) zs _ ⟨[], .un, rfl, rfl, by rw [List.length_nil]; omega⟩
  have h1 : ks = Rg.dd zs := h1
  rw [h1] at k
  exact ⟨s6, k⟩
/-! spans -/
theorem lots_tail : ∀ (ms : List Int) (m0 : Int), Rg.lots (some m0) ms = ((List.range ms.length).map fun k => (some ((m0 :: ms).getD k 0), some ((m0 :: ms).getD (k + 1) 0))) ++ [(some ((m0 :: ms).getLast (List.cons_ne_nil _ _)), none)]
  | [], m0 => rfl
  | m :: ms, m0 => by
    show (some m0, some m) :: Rg.lots (some m) ms = _
    rw [lots_tail ms m, List.length_cons, List.range_succ_eq_map, List.map_cons, List.map_map, List.cons_append]
    rfl
theorem eq_o (a b : Option Int) : eqT (oTq a) (oTq b) = some (decide (a = b)) := by
  cases a with
  | none => cases b <;> rfl
  | some x =>
    cases b with
    | none => rfl
    | some y =>
      show some (x == y) = _
      congr 1
      rw [Bool.eq_iff_iff, beq_iff_eq, decide_eq_true_iff]
      exact ⟨fun h => by rw [h], fun h => Option.some.inj h⟩
abbrev rsT (F : List Pr) : List T := psT F.reverse
theorem rs_cons (t : Pr) (F : List Pr) : rsT (t :: F) = rsT F ++ [pT t] := by
  show psT (t :: F).reverse = psT F.reverse ++ [pT t]
  rw [List.reverse_cons]
  exact List.map_append
theorem ne_rs (F : List Pr) : neT (.lst (rsT F)) (.lst []) = some (!F.isEmpty) := by
  cases h : F.reverse with
  | nil =>
    have : F = [] := by rw [← List.reverse_reverse F, h]; rfl
    subst this; rfl
  | cons p ps =>
    show neT (.lst (psT F.reverse)) (.lst []) = _
    rw [h, ne_psN]
    cases F with
    | nil => cases h
    | cons q F => rfl
theorem w_loop {t0 t1 t4 t7 : T} {s2 s3 s6 : Slot} {ps : List Pr} (e0 : t0 = .lst (psT ps)) (m0 : Int) (ms : List Int) (s : RS) (Q : List Pr) (hl : Q.length ≤ 3000) : ∃ e', loopF (hTupL 2 (hCons (hName 2) (hCons (hName 3) hNil))) wB (psT Q) [.val t0, .val t1, s2, s3, .val t4, .val (.lst (zsT (m0 :: ms))), s6, .val t7, .own [], .un, .un, .un] s = .nx e' s ∧ e'[8]? = some (.own (rsT (Q.foldl (js ps m0) []))) := by
  subst e0
  obtain ⟨e2, k, F, s2, s3, s9, rfl, h1, _⟩ := y_loop (r := s) (h := hTupL 2 (hCons (hName 2) (hCons (hName 3) hNil))) (s := wB) pT (fun L env => ∃ F s2 s3 s9, env = [.val (.lst (psT ps)), .val t1, s2, s3, .val t4, .val (.lst (zsT (m0 :: ms))), s6, .val t7, .own (rsT F), s9, .un, .un] ∧ L.foldl (js ps m0) F = Q.foldl (js ps m0) [] ∧ F.length + L.length ≤ 3000) (fun p L env => by
    rintro ⟨F, s2, s3, s9, rfl, h1, h2⟩
    obtain ⟨a, b⟩ := p
    rw [List.length_cons] at h2
    have i0 : (fBin subT (fIx (fBor 5) (fC (.int 0))) (fC (.int 1))) [.val (.lst (psT ps)), .val t1, .val (oTq a), .val (oTq b), .val t4, .val (.lst (zsT (m0 :: ms))), s6, .val t7, .own (rsT F), s9, .un, .un] s = .ok (.int (m0 - 1)) s := e_bin (x := .int m0) (y := .int 1) (r1 := s) (r2 := s) (e_ix (x := .lst (zsT (m0 :: ms))) (y := .int (0 : Nat)) (r1 := s) (r2 := s) rfl rfl (atI_nat (xs := zsT (m0 :: ms)) (j := 0) rfl)) rfl rfl
    have st : (qSet 9 (fIf (fCmpB isT (fVar 2) (fC .non)) (fBin subT (fIx (fBor 5) (fC (.int 0))) (fC (.int 1))) (fVar 2))) [.val (.lst (psT ps)), .val t1, .val (oTq a), .val (oTq b), .val t4, .val (.lst (zsT (m0 :: ms))), s6, .val t7, .own (rsT F), s9, .un, .un] s = .nx [.val (.lst (psT ps)), .val t1, .val (oTq a), .val (oTq b), .val t4, .val (.lst (zsT (m0 :: ms))), s6, .val t7, .own (rsT F), .val (.int (ins m0 a)), .un, .un] s := by
      refine n_set (t := .int (ins m0 a)) (r1 := s) ?_
      cases a with
      | none => exact e_ifT (r1 := s) (e_cmpB (x := .non) (y := .non) (r1 := s) (r2 := s) rfl rfl rfl) i0
      | some l => exact e_ifF (r1 := s) (e_cmpB (x := .int l) (y := .non) (r1 := s) (r2 := s) rfl rfl rfl) rfl
    have ht : (fTru (fCall F__law_has [] [(fVar 0), (fVar 9)])) [.val (.lst (psT ps)), .val t1, .val (oTq a), .val (oTq b), .val t4, .val (.lst (zsT (m0 :: ms))), s6, .val t7, .own (rsT F), .val (.int (ins m0 a)), .un, .un] s = .ok (ps.any (Rg.pin (ins m0 a))) s := e_tru (x := .bl (ps.any (Rg.pin (ins m0 a)))) (r1 := s) (call2 (t := .lst (psT ps)) (v := .int (ins m0 a)) rfl rfl (has_w ps _ s)) rfl
    have jl : ∀ G, js ps m0 F (a, b) = G → G.length ≤ F.length + 1 := fun G hG => by
      rw [← hG]
      unfold js
      split
      · cases F with
        | nil => exact Nat.le_refl _
        | cons t r =>
          show (if t.2 = a then (t.1, b) :: r else (a, b) :: t :: r).length ≤ _
          split <;> simp
      · omega
    cases e : ps.any (Rg.pin (ins m0 a)) with
    | false =>
      rw [e] at ht
      have ej : js ps m0 F (a, b) = F := if_neg (by show ¬ ps.any (Rg.pin (ins m0 a)) = true; rw [e]; decide)
      exact ⟨_, _, rfl, n_seq st (n_seq (n_ifF (r1 := s) ht rfl) rfl), ⟨F, _, _, _, rfl, by rw [← h1, List.foldl_cons, ej], by omega⟩⟩
    | true =>
      rw [e] at ht
      have add : ∀ G, js ps m0 F (a, b) = G → G = (a, b) :: F → (fAndB (fCmpB neT (fBor 8) (fLst [])) (fCmpB eqT (fIx (fIx (fBor 8) (fUn negT (fC (.int 1)))) (fC (.int 1))) (fVar 2))) [.val (.lst (psT ps)), .val t1, .val (oTq a), .val (oTq b), .val t4, .val (.lst (zsT (m0 :: ms))), s6, .val t7, .own (rsT F), .val (.int (ins m0 a)), .un, .un] s = .ok false s → ∃ e1 e2, (hTupL 2 (hCons (hName 2) (hCons (hName 3) hNil))) (pT (a, b)) [.val (.lst (psT ps)), .val t1, s2, s3, .val t4, .val (.lst (zsT (m0 :: ms))), s6, .val t7, .own (rsT F), s9, .un, .un] = some e1 ∧ wB e1 s = .nx e2 s ∧ ∃ F s2 s3 s9, e2 = [.val (.lst (psT ps)), .val t1, s2, s3, .val t4, .val (.lst (zsT (m0 :: ms))), s6, .val t7, .own (rsT F), s9, .un, .un] ∧ L.foldl (js ps m0) F = Q.foldl (js ps m0) [] ∧ F.length + L.length ≤ 3000 := fun G hG eG hc => by
        refine ⟨_, _, rfl, n_seq st (n_seq (n_ifT (r1 := s) ht (n_seq (n_ifF (r1 := s) hc (n_seq (x_app (t := pT (a, b)) (xs := rsT F) (r1 := s) (e_tup (e_cons (x := oTq a) (r1 := s) rfl (e_cons (x := oTq b) (r1 := s) rfl rfl))) rfl (by rw [List.length_map, List.length_reverse]; omega)) rfl)) rfl)) rfl), ⟨G, .val (oTq a), .val (oTq b), .val (.int (ins m0 a)), ?_, by rw [← h1, List.foldl_cons, hG], by have := jl G hG; omega⟩⟩
        rw [eG, rs_cons]
        rfl
      cases F with
      | nil => exact add _ (if_pos e) rfl (e_andBF (r1 := s) (e_cmpB (x := .lst []) (y := .lst []) (r1 := s) (r2 := s) rfl rfl rfl))
      | cons t r =>
        have n1 : ∀ s9, (fCmpB neT (fBor 8) (fLst [])) [.val (.lst (psT ps)), .val t1, .val (oTq a), .val (oTq b), .val t4, .val (.lst (zsT (m0 :: ms))), s6, .val t7, .own (rsT (t :: r)), s9, .un, .un] s = .ok true s := fun s9 => e_cmpB (x := .lst (rsT (t :: r))) (y := .lst []) (r1 := s) (r2 := s) rfl rfl (ne_rs _)
        have li : ∀ s9, fIx (fBor 8) (fUn negT (fC (.int 1))) [.val (.lst (psT ps)), .val t1, .val (oTq a), .val (oTq b), .val t4, .val (.lst (zsT (m0 :: ms))), s6, .val t7, .own (rsT (t :: r)), s9, .un, .un] s = .ok (pT t) s := fun s9 => y_lastIx (xs := rsT r) (by show some (Slot.own (rsT (t :: r))) = _; rw [rs_cons])
        have n2 : ∀ s9, (fCmpB eqT (fIx (fIx (fBor 8) (fUn negT (fC (.int 1)))) (fC (.int 1))) (fVar 2)) [.val (.lst (psT ps)), .val t1, .val (oTq a), .val (oTq b), .val t4, .val (.lst (zsT (m0 :: ms))), s6, .val t7, .own (rsT (t :: r)), s9, .un, .un] s = .ok (decide (t.2 = a)) s := fun s9 => e_cmpB (x := oTq t.2) (y := oTq a) (r1 := s) (r2 := s) (e_ix (x := pT t) (y := .int 1) (r1 := s) (r2 := s) (li s9) rfl rfl) rfl (eq_o _ _)
        by_cases q : t.2 = a
        · have ej : js ps m0 (t :: r) (a, b) = (t.1, b) :: r := (if_pos e).trans (if_pos q)
          have n2' := n2 (.val (.int (ins m0 a)))
          rw [decide_eq_true q] at n2'
          refine ⟨_, _, rfl, n_seq st (n_seq (n_ifT (r1 := s) ht (n_seq (n_ifT (r1 := s) (e_andBT (r1 := s) (n1 _) n2') (n_seq (y_setLast (u := pT (t.1, b)) (xs := rsT r) (t := pT t) (by show some (Slot.own (rsT (t :: r))) = _; rw [rs_cons]) (e_tup (e_cons (x := oTq t.1) (r1 := s) (e_ix (x := pT t) (y := .int 0) (r1 := s) (r2 := s) (li _) rfl rfl) (e_cons (x := oTq b) (r1 := s) rfl rfl)))) rfl)) rfl)) rfl), ⟨(t.1, b) :: r, .val (oTq a), .val (oTq b), .val (.int (ins m0 a)), ?_, by rw [← h1, List.foldl_cons, ej], by rw [List.length_cons] at h2 ⊢; omega⟩⟩
          rw [rs_cons (t.1, b) r]
          rfl
        · have ej : js ps m0 (t :: r) (a, b) = (a, b) :: t :: r := (if_pos e).trans (if_neg q)
          have n2' := n2 (.val (.int (ins m0 a)))
          rw [decide_eq_false q] at n2'
          exact add _ ej rfl (e_andBT (r1 := s) (n1 _) n2')) Q _ ⟨[], s2, s3, .un, rfl, rfl, by rw [List.length_nil]; omega⟩
  have h1 : F = Q.foldl (js ps m0) [] := h1
  rw [h1] at k
  exact ⟨_, k, rfl⟩
end K03
/-! the law's told row, whole. -/
namespace K03
open PySem Ep L2 Stp Dr
theorem frz_var {i : Nat} {env : Ep.Env} {xs : List T} {s : RS} (h : env[i]? = some (.own xs)) : fVar i (frz [i] env) s = .ok (.lst xs) s := by
  have e : frz [i] env = env.set i (.val (.lst xs)) := by
    show frz1 env i = _
    unfold frz1
    rw [h]
    rfl
  rw [e]
  have l := (List.getElem?_eq_some_iff.mp h).1
  unfold fVar
  rw [List.getElem?_set_self l]
  rfl
theorem eq_zsN (m0 : Int) (ms : List Int) : eqT (.lst (zsT (m0 :: ms))) (.lst []) = some false := eq_pt lfI (zs_pt (m0 :: ms)) (zs_pt []) (by decide) ⟨fun h => (by cases h), fun h => by cases h⟩
theorem told_w {ps : List Pr} (ok : ∀ p ∈ ps, Ok p) (hl : ps.length ≤ 1000) (s : RS) : F__law_told [.lst (psT ps)] s = .ok (.lst (psT (Rg.united ps))) s := by
  rw [← lawRow_eq fun p hp => pfit_of (ok p hp)]
  obtain ⟨es, ees⟩ : ∃ es, es = ps.flatMap Rg.ofP := ⟨_, rfl⟩
  have les : es.length ≤ 2 * ps.length := by
    rw [ees]
    clear ees ok hl
    induction ps with
    | nil => exact Nat.le_refl _
    | cons p ps ih =>
      have el : (Rg.ofP p).length ≤ 2 := by obtain ⟨a, b⟩ := p; cases a <;> cases b <;> simp [Rg.ofP]
      rw [List.flatMap_cons, List.length_append, List.length_cons]
      omega
  obtain ⟨s2, s3, l1⟩ := e_loop (.lst (psT ps)) s ps hl
  rw [← ees] at l1
  obtain ⟨s6, l2⟩ := m_loop (.lst (psT ps)) (.lst (.non :: zsT es)) (.lst (zsT (sortI es))) s2 s3 s (sortI es) (by rw [(sortI_perm es).length_eq]; omega)
  have em : Rg.dd (sortI es) = marks ps := by rw [ees]; rfl
  rw [em] at l2
  have q4 : (qSet 4 (fB1 sortT (fOwn (fComp [10] (hName 10) fYes (fB1 intT (fVar 10)) (fIter (fSl (fVar 1) (some (fC (.int 1))) none)))))) [.val (.lst (psT ps)), .val (.lst (.non :: zsT es)), s2, s3, .un, .un, .un, .un, .un, .un, .un, .un] s = .nx [.val (.lst (psT ps)), .val (.lst (.non :: zsT es)), s2, s3, .val (.lst (zsT (sortI es))), .un, .un, .un, .un, .un, .un, .un] s := by
    refine n_set (t := .lst (zsT (sortI es))) (r1 := s) (e_b1 (x := .lst (zsT es)) (r1 := s) (e_own (comp_all T.int T.int es (x_it (t := .lst (zsT es)) (r1 := s) (x_sl1 (x := .lst (.non :: zsT es)) (j := 1) (r1 := s) (r2 := s) rfl rfl ?_) rfl) (fun x _ => ⟨_, rfl, e_b1 (x := .int x) (r1 := s) rfl rfl⟩) (by omega))) (R.sort_int s es))
    exact sl_drop (.non :: zsT es) 1 s
  refine n_fn (n_seq (n_set (t := .lst [.non]) (r1 := s) rfl) (n_seq (n_for (x_it (t := .lst (psT ps)) (r1 := s) rfl rfl) l1) (n_seq q4 (n_seq (n_own (xs := []) (r1 := s) rfl) (n_seq (n_for (x_it (t := .lst (zsT (sortI es))) (r1 := s) rfl rfl) l2) ?_)))))
  unfold lawRow
  cases emk : marks ps with
  | nil =>
    refine n_seqR (n_frz (n_ifT (r1 := s) (e_cmpB (x := .lst []) (y := .lst []) (r1 := s) (r2 := s) rfl rfl rfl) (n_seqR (n_ret ?_))))
    by_cases q : ps = []
    · subst q
      exact e_bin (x := .lst [pT (none, none)]) (y := .int 0) (r1 := s) (r2 := s) rfl (e_b1 (x := .bl false) (r1 := s) (e_cmp (x := .lst []) (y := .lst []) (r1 := s) (r2 := s) rfl rfl rfl) rfl) rfl
    · have ei : (Out.ok (T.lst [pT (none, none)]) s : Out T) = Out.ok (T.lst (psT (if ps = [] then [] else [(none, none)]))) s := by rw [if_neg q]; rfl
      have ne : neT (.lst (psT ps)) (.lst []) = some true := by
        cases ps with
        | nil => exact absurd rfl q
        | cons p ps => exact ne_psN p ps
      exact (e_bin (x := .lst [pT (none, none)]) (y := .int 1) (r1 := s) (r2 := s) rfl (e_b1 (x := .bl true) (r1 := s) (e_cmp (x := .lst (psT ps)) (y := .lst []) (r1 := s) (r2 := s) rfl rfl ne) rfl) rfl).trans ei
  | cons m0 ms =>
    have lm : (m0 :: ms).length ≤ 2000 := by
      rw [← emk, ← em]
      have : ∀ (xs ks : List Int), (xs.foldl Rg.ddk ks).length ≤ ks.length + xs.length := fun xs => by
        induction xs with
        | nil => exact fun ks => Nat.le_refl _
        | cons x xs ih =>
          intro ks
          have := ih (Rg.ddk ks x)
          have := ddk_len ks x
          rw [List.foldl_cons, List.length_cons]
          omega
      have := this (sortI es) []
      rw [(sortI_perm es).length_eq, List.length_nil] at this
      unfold Rg.dd
      omega
    rw [List.length_cons] at lm
    refine n_seq (n_frz (n_ifF (r1 := s) (e_cmpB (x := .lst (zsT (m0 :: ms))) (y := .lst []) (r1 := s) (r2 := s) rfl rfl (eq_zsN m0 ms)) rfl)) ?_
    have at_ : ∀ (k : Nat) (hk : k < (m0 :: ms).length) (r : RS), ixT r (.lst (zsT (m0 :: ms))) (.int (k : Nat)) = some (.int ((m0 :: ms).getD k 0)) := fun k hk r => by
      refine atI_nat (xs := zsT (m0 :: ms)) (j := k) ?_
      rw [List.getElem?_map, List.getElem?_eq_getElem hk, List.getD_eq_getElem?_getD, List.getElem?_eq_getElem hk]
      rfl
    have la : ∀ r : RS, ixT r (.lst (zsT (m0 :: ms))) (.int (-1)) = some (.int ((m0 :: ms).getLast (List.cons_ne_nil _ _))) := fun r => by
      show L2.atI (zsT (m0 :: ms)) (-1) = _
      have e : zsT (m0 :: ms) = zsT (m0 :: ms).dropLast ++ [.int ((m0 :: ms).getLast (List.cons_ne_nil _ _))] := by
        conv => lhs; rw [← List.dropLast_concat_getLast (List.cons_ne_nil m0 ms)]
        exact List.map_append
      rw [e]
      exact atI_last _ _
    have ln : lenT s (.lst (zsT (m0 :: ms))) = some (.int ((ms.length : Nat) + 1)) := by
      show some (T.int ((zsT (m0 :: ms)).length : Nat)) = _
      rw [List.length_map, List.length_cons]
      rfl
    obtain ⟨C, hC⟩ : ∃ C : List Pr, C = (List.range ms.length).map fun k => (some ((m0 :: ms).getD k 0), some ((m0 :: ms).getD (k + 1) 0)) := ⟨_, rfl⟩
    have lC : C.length = ms.length := by rw [hC, List.length_map, List.length_range]
    have eL : Rg.lots none (m0 :: ms) = ((none, some m0) :: C) ++ [(some ((m0 :: ms).getLast (List.cons_ne_nil _ _)), none)] := by
      show (none, some m0) :: Rg.lots (some m0) ms = _
      rw [lots_tail, ← hC]; rfl
    have q7 : (qSet 7 (fBin addT (fBin addT (fLst [(fTup [(fC .non), (fIx (fBor 5) (fC (.int 0)))])]) (fOwn (fComp [11] (hName 11) fYes (fTup [(fIx (fBor 5) (fVar 11)), (fIx (fBor 5) (fBin addT (fVar 11) (fC (.int 1))))]) (fRng1 (fBin subT (fB1 lenT (fBor 5)) (fC (.int 1))))))) (fLst [(fTup [(fIx (fBor 5) (fUn negT (fC (.int 1)))), (fC .non)])]))) [.val (.lst (psT ps)), .val (.lst (.non :: zsT es)), s2, s3, .val (.lst (zsT (sortI es))), .val (.lst (zsT (m0 :: ms))), s6, .un, .un, .un, .un, .un] s = .nx [.val (.lst (psT ps)), .val (.lst (.non :: zsT es)), s2, s3, .val (.lst (zsT (sortI es))), .val (.lst (zsT (m0 :: ms))), s6, .val (.lst (psT (Rg.lots none (m0 :: ms)))), .un, .un, .un, .un] s := by
      have p1 : psT (Rg.lots none (m0 :: ms)) = ([pT (none, some m0)] ++ psT C) ++ [pT (some ((m0 :: ms).getLast (List.cons_ne_nil _ _)), none)] := by
        rw [eL]
        exact List.map_append
      rw [p1]
      refine n_set (t := .lst _) (r1 := s) (e_bin (x := .lst ([pT (none, some m0)] ++ psT C)) (y := .lst [pT (some ((m0 :: ms).getLast (List.cons_ne_nil _ _)), none)]) (r1 := s) (r2 := s) (e_bin (x := .lst [pT (none, some m0)]) (y := .lst (psT C)) (r1 := s) (r2 := s) ?_ ?_ ?_) ?_ ?_)
      · exact e_lst (e_cons (x := pT (none, some m0)) (r1 := s) (e_tup (e_cons (x := .non) (r1 := s) rfl (e_cons (x := .int m0) (r1 := s) (e_ix (x := .lst (zsT (m0 :: ms))) (y := .int (0 : Nat)) (r1 := s) (r2 := s) rfl rfl (at_ 0 (by rw [List.length_cons]; omega) s)) rfl))) rfl)
      · rw [hC, show psT ((List.range ms.length).map fun k => (some ((m0 :: ms).getD k 0), some ((m0 :: ms).getD (k + 1) 0))) = (List.range ms.length).map fun k => pT (some ((m0 :: ms).getD k 0), some ((m0 :: ms).getD (k + 1) 0)) from List.map_map]
        refine e_own (comp_all (fun k : Nat => T.int (0 + (k : Nat))) (fun k => pT (some ((m0 :: ms).getD k 0), some ((m0 :: ms).getD (k + 1) 0))) (List.range ms.length) ?_ (fun k hk => ⟨_, rfl, ?_⟩) (by rw [List.length_range]; omega))
        · have := rng1s (f := fBin subT (fB1 lenT (fBor 5)) (fC (.int 1))) (env := [.val (.lst (psT ps)), .val (.lst (.non :: zsT es)), s2, s3, .val (.lst (zsT (sortI es))), .val (.lst (zsT (m0 :: ms))), s6, .un, .un, .un, .un, .un]) (r := s) (r1 := s) (i := (ms.length : Nat)) (e_bin (x := .int ((ms.length : Nat) + 1)) (y := .int 1) (r1 := s) (r2 := s) (e_b1 (x := .lst (zsT (m0 :: ms))) (r1 := s) rfl ln) rfl (by show some (T.int ((ms.length : Int) + 1 - 1)) = _; rw [Int.add_sub_cancel])) (by omega)
          rw [Int.toNat_natCast] at this
          exact this
        · have hk := List.mem_range.mp hk
          refine e_tup (e_cons (x := .int ((m0 :: ms).getD k 0)) (r1 := s) (e_ix (x := .lst (zsT (m0 :: ms))) (y := .int (k : Nat)) (r1 := s) (r2 := s) rfl (by show Out.ok (T.int (0 + (k : Nat))) s = _; rw [Int.zero_add]) (at_ k (by rw [List.length_cons]; omega) s)) (e_cons (x := .int ((m0 :: ms).getD (k + 1) 0)) (r1 := s) (e_ix (x := .lst (zsT (m0 :: ms))) (y := .int ((k + 1 : Nat) : Int)) (r1 := s) (r2 := s) rfl (e_bin (x := .int (0 + (k : Nat))) (y := .int 1) (r1 := s) (r2 := s) rfl rfl (by show some (T.int (0 + (k : Int) + 1)) = _; congr 2; omega)) (at_ (k + 1) (by rw [List.length_cons]; omega) s)) rfl))
      · exact add_lst (by rw [List.length_map, lC, List.length_singleton]; omega)
      · exact e_lst (e_cons (x := pT (some ((m0 :: ms).getLast (List.cons_ne_nil _ _)), none)) (r1 := s) (e_tup (e_cons (x := .int ((m0 :: ms).getLast (List.cons_ne_nil _ _))) (r1 := s) (e_ix (x := .lst (zsT (m0 :: ms))) (y := .int (-1)) (r1 := s) (r2 := s) rfl rfl (la s)) (e_cons (x := .non) (r1 := s) rfl rfl))) rfl)
      · exact add_lst (by rw [List.length_append, List.length_map, lC, List.length_singleton, List.length_singleton]; omega)
    obtain ⟨e', l3, h8⟩ := w_loop (t0 := .lst (psT ps)) (t1 := .lst (.non :: zsT es)) (t4 := .lst (zsT (sortI es))) (t7 := .lst (psT (Rg.lots none (m0 :: ms)))) (s2 := s2) (s3 := s3) (s6 := s6) (ps := ps) rfl m0 ms s (Rg.lots none (m0 :: ms)) (by rw [eL, List.length_append, List.length_cons, lC, List.length_singleton]; omega)
    refine n_seq q7 ?_
    refine n_seq (n_own (xs := []) (r1 := s) rfl) (n_seq (n_for (x_it (t := .lst (psT (Rg.lots none (m0 :: ms)))) (r1 := s) rfl rfl) l3) (n_seqR (n_frz (n_ret (frz_var h8)))))
end K03
/-! points, odd arguments, small rows. -/
namespace K03
open PySem Ep L2 Stp Dr
abbrev pO : Sm := (qSeq (qFor (fIter (fTup [(fVar 2), (fVar 3)])) (hName 4) (qSeq (qIf (fCmpB nisT (fVar 4) (fC .non)) (qSeq (qSet 1 (fBin addT (fVar 1) (fLst [(fBin subT (fVar 4) (fC (.int 2))), (fBin subT (fVar 4) (fC (.int 1))), (fVar 4), (fBin addT (fVar 4) (fC (.int 1))), (fBin addT (fVar 4) (fC (.int 3)))])))
    qNil) qNil)
    qNil))
    qNil)
abbrev pI : Sm := (qSeq (qIf (fCmpB nisT (fVar 4) (fC .non)) (qSeq (qSet 1 (fBin addT (fVar 1) (fLst [(fBin subT (fVar 4) (fC (.int 2))), (fBin subT (fVar 4) (fC (.int 1))), (fVar 4), (fBin addT (fVar 4) (fC (.int 1))), (fBin addT (fVar 4) (fC (.int 3)))])))
    qNil) qNil)
    qNil)
theorem p_one (t0 : T) (zs : List Int) (s2 s3 : Slot) (o : Option Int) (s : RS) (hz : zs.length ≤ 90000) : ∃ zs' : List Int, pI [.val t0, .val (.lst (zsT zs)), s2, s3, .val (oTq o)] s = .nx [.val t0, .val (.lst (zsT zs')), s2, s3, .val (oTq o)] s ∧ zs'.length ≤ zs.length + 5 := by
  cases o with
  | none => exact ⟨zs, n_seq (n_ifF (r1 := s) (e_cmpB (x := .non) (y := .non) (r1 := s) (r2 := s) rfl rfl rfl) rfl) rfl, by omega⟩
  | some x =>
    refine ⟨zs ++ [x - 2, x - 1, x, x + 1, x + 3], n_seq (n_ifT (r1 := s) (e_cmpB (x := .int x) (y := .non) (r1 := s) (r2 := s) rfl rfl rfl) (n_seq (n_set (t := .lst (zsT (zs ++ [x - 2, x - 1, x, x + 1, x + 3]))) (r1 := s) (e_bin (x := .lst (zsT zs)) (y := .lst (zsT [x - 2, x - 1, x, x + 1, x + 3])) (r1 := s) (r2 := s) rfl rfl ?_)) rfl)) rfl, by rw [List.length_append]; simp⟩
    rw [show zsT (zs ++ [x - 2, x - 1, x, x + 1, x + 3]) = zsT zs ++ zsT [x - 2, x - 1, x, x + 1, x + 3] from List.map_append]
    exact add_lst (by rw [List.length_map]; simp; omega)
theorem points_w {ps : List Pr} (hl : ps.length ≤ 1000) (s : RS) : ∃ zs : List Int, F__law_points [.lst (psT ps)] s = .ok (.lst (zsT zs)) s ∧ zs.length ≤ 50000 := by
  have w : powT (.int 10) (.int 40) = some (.int (10 ^ 40)) := rfl
  have q5 : ([-(10 ^ 40), -1, 0, 1, 10 ^ 40] : List Int).length = 5 := rfl
  obtain ⟨e2, k, zs, s2, s3, s4, rfl, lz⟩ := y_loop (r := s) (h := hTupL 2 (hCons (hName 2) (hCons (hName 3) hNil))) (s := pO) pT (fun L env => ∃ zs s2 s3 s4, env = [.val (.lst (psT ps)), .val (.lst (zsT zs)), s2, s3, s4] ∧ zs.length + 10 * L.length ≤ 50000) (fun p L env => by
    rintro ⟨zs, s2, s3, s4, rfl, h2⟩
    obtain ⟨a, b⟩ := p
    rw [List.length_cons] at h2
    obtain ⟨z1, e1, l1⟩ := p_one (.lst (psT ps)) zs (.val (oTq a)) (.val (oTq b)) a s (by omega)
    obtain ⟨z2, e2, l2⟩ := p_one (.lst (psT ps)) z1 (.val (oTq a)) (.val (oTq b)) b s (by omega)
    exact ⟨[.val (.lst (psT ps)), .val (.lst (zsT zs)), .val (oTq a), .val (oTq b), s4], _, rfl, n_seq (n_for (xs := [oTq a, oTq b]) (r1 := s) (x_it (t := .tup [oTq a, oTq b]) (r1 := s) rfl rfl) (n_loop (x := oTq a) rfl e1 (n_loop (x := oTq b) rfl e2 n_loopN))) rfl, z2, .val (oTq a), .val (oTq b), .val (oTq b), rfl, by omega⟩) ps [.val (.lst (psT ps)), .val (.lst (zsT [-(10 ^ 40), -1, 0, 1, 10 ^ 40])), .un, .un, .un] ⟨_, .un, .un, .un, rfl, by rw [q5]; omega⟩
  exact ⟨zs, n_fn (n_seq (n_set (t := .lst (zsT [-(10 ^ 40), -1, 0, 1, 10 ^ 40])) (r1 := s) (e_lst (e_cons (x := .int (-(10 ^ 40))) (r1 := s) (e_un (x := .int (10 ^ 40)) (r1 := s) (e_bin (x := .int 10) (y := .int 40) (r1 := s) (r2 := s) rfl rfl w) rfl) (e_cons (x := .int (-1)) (r1 := s) rfl (e_cons (x := .int 0) (r1 := s) rfl (e_cons (x := .int 1) (r1 := s) rfl (e_cons (x := .int (10 ^ 40)) (r1 := s) (e_bin (x := .int 10) (y := .int 40) (r1 := s) (r2 := s) rfl rfl w) rfl))))))) (n_seq (n_for (x_it (t := .lst (psT ps)) (r1 := s) rfl rfl) k) (n_seqR (n_ret rfl)))), by rw [List.length_nil] at lz; omega⟩
theorem m2 {F : List T → M T} {ps : List Pr} {f : Ep.Env → M T} {gs : List (Ep.Env → M T)} {ts ds : List T} {env : Ep.Env} {r : RS} {t : T} (h : f env r = .ok (sdT ps) r) (hg : fAll gs env r = .ok ts r) (hF : F (sdT ps :: (ts ++ ds)) r = .ok t r) : fMeth 2 F ds f gs env r = .ok t r := e_meth (C := 2) (vs := [.lst (psT ps)]) (ts := ts) (r1 := r) (r2 := r) h hg hF
/-! odd arguments -/
/-- how it is written -/
def Wr (o : T) (s : Str) : Prop := reprS o = some s ∧ PyData.strOk s = true
theorem Wr.r {o : T} {s : Str} (h : Wr o s) (r : RS) : reprT r o = some (.str s) := by
  show (reprS o).map T.str = _
  rw [h.1]; rfl
section
variable {o w : T} {ps : List Pr}
end
/-! small rows -/
section
variable {r m : Int}
end
end K03
/-! making; the law. -/
namespace K03
open PySem Ep L2 Stp Dr
/-- a stretch -/
abbrev stT (p : Pr) : T := .obj 3 [.lst [pT p], oTq p.1, oTq p.2]
theorem n_fldK {i C n : Nat} {f : Ep.Env → M T} {env : Ep.Env} {r r1 : RS} {t : T} {ts : List T} (he : env[i]? = some (.ins C ts)) (hl : ts.length = n) (h : f env r = .ok t r1) : qFld i C n f env r = .nx (env.set i (.ins C (ts ++ [t]))) r1 := by
  unfold qFld
  rw [he]
  show (if C = C ∧ ts.length = n then _ else _) = _
  rw [if_pos ⟨rfl, hl⟩, h]
  rfl
theorem stretch_w {a b : Option Int} (h : Ok (a, b)) (r : RS) : F_Stretch_init [oTq a, oTq b] r = .ok [.lst [pT (a, b)], oTq a, oTq b] r := by
  have c1 : (fNotB (fTru (fB1 allT (fOwn (fComp [4] (hName 4) fYes (fOr (fCmp isT (fVar 4) (fC .non)) (fCall F_is_integer [] [(fVar 4)])) (fIter (fTup [(fVar 1), (fVar 2)]))))))) [.ins 3 [], .val (oTq a), .val (oTq b), .un, .un] r = .ok false r := by
    cases a <;> cases b <;> rfl
  have c2 : (fAndB (fCmpB nisT (fVar 1) (fC .non)) (fAndB (fCmpB nisT (fVar 2) (fC .non)) (fCmpB geT (fVar 1) (fVar 2)))) [.ins 3 [], .val (oTq a), .val (oTq b), .un, .un] r = .ok false r := by
    cases a with
    | none => exact e_andBF (r1 := r) rfl
    | some x =>
      cases b with
      | none => exact e_andBT (r1 := r) rfl (e_andBF (r1 := r) rfl)
      | some y => exact e_andBT (r1 := r) rfl (e_andBT (r1 := r) rfl (e_cmpB (x := .int x) (y := .int y) (r1 := r) (r2 := r) rfl rfl (lf_geF (by have := h x y rfl; omega))))
  have go : g_Stretch_init (.ins 3 [] :: envOf 2 [oTq a, oTq b]) r = .nx [.ins 3 [.lst [pT (a, b)], oTq a, oTq b], .val (oTq a), .val (oTq b), .un, .un] r :=
    n_seq (n_ifF (r1 := r) c1 rfl) (n_seq (n_ifF (r1 := r) c2 rfl) (n_seq (n_fldK (t := .lst [pT (a, b)]) (ts := []) (r1 := r) rfl rfl rfl) (n_seq (n_fldK (t := oTq a) (ts := [.lst [pT (a, b)]]) (r1 := r) rfl rfl rfl) (n_seq (n_fldK (t := oTq b) (ts := [.lst [pT (a, b)], oTq a]) (r1 := r) rfl rfl rfl) rfl))))
  unfold F_Stretch_init fnI
  rw [go]
  rfl
abbrev iB : Sm := (qSeq (qIf (fNotB (fTru (fBin (isiT tab) (fVar 4) (fC (.cl 3))))) (qSeq (qRaise 4 (fVar 3))
    qNil) qNil)
    qNil)
theorem is_st (q : Pr) {s3 : Slot} {v : T} (s : RS) : iB [.ins 2 [], .val v, .un, s3, .val (stT q)] s = .nx [.ins 2 [], .val v, .un, s3, .val (stT q)] s :=
  n_seq (n_ifF (r1 := s) (e_notB (b := true) (e_tru (x := .bl true) (r1 := s) (e_bin (x := stT q) (y := .cl 3) (r1 := s) (r2 := s) rfl rfl rfl) rfl)) rfl) rfl
theorem sp_loop {v : T} {c : Option (Nat × List T)} {s : RS} (ck : chkR c s) (ps : List Pr) (more : List T) : ∃ s3 s4, loopG c (hTupL 2 (hCons (hName 3) (hCons (hName 4) hNil))) iB (enumL 0 (ps.map stT ++ more)) [.ins 2 [], .val v, .un, .un, .un] s = loopG c (hTupL 2 (hCons (hName 3) (hCons (hName 4) hNil))) iB (enumL ps.length more) [.ins 2 [], .val v, .un, s3, s4] s := by
  obtain ⟨e2, k, s3, s4, rfl⟩ := loop_at (h := hTupL 2 (hCons (hName 3) (hCons (hName 4) hNil))) (s := iB) ck stT (fun env => ∃ s3 s4, env = [.ins 2 [], .val v, .un, s3, s4]) (fun _ => []) (fun q n env => by
    rintro ⟨s3, s4, rfl⟩
    exact ⟨_, _, rfl, is_st q s, _, _, rfl⟩) ps 0 more [.ins 2 [], .val v, .un, .un, .un] ⟨.un, .un, rfl⟩
  rw [Nat.zero_add] at k
  exact ⟨s3, s4, k⟩
theorem spread_g {v : T} {c : Option (Nat × List T)} {ps : List Pr} (hl : ps.length ≤ 1000) {s : RS} (hv : EnTltR s v = some (ps.map stT, c)) (ck : chkR c s) (il : F_is_list [v] s = .ok (.bl true) s) : F_Spread_init [v] s = .ok [.lst (psT (Rg.united ps))] s := by
  obtain ⟨s3, s4, k⟩ := sp_loop (v := v) ck ps []
  rw [List.append_nil] at k
  have k := k.trans (loopG_nil ck)
  have u := R.united_ok' (t := .lst (psT ps)) (ps := ps) rfl (by omega) s
  have fc : fOwn (fCompG [4] (hName 4) fYes (fTup [(fFld m_low (fVar 4)), (fFld m_high (fVar 4))]) (fIterG (fVar 1))) [.ins 2 [], .val v, .un, s3, s4] s = .ok (.lst (psT ps)) s := by
    have hi : fIterG (fVar 1) [.ins 2 [], .val v, .un, s3, s4] s = .ok (ps.map stT, c) s := by
      show M.lift (EnTltR s v) s = _
      rw [hv]; rfl
    refine e_own (bind_ok hi ((compG_ok stT pT (fun _ => true) ck ps [] (fun p _ => ⟨_, rfl, rfl, fun _ => e_tup (e_cons (x := oTq p.1) (r1 := s) (x_fld (C := 3) (vs := [.lst [pT p], oTq p.1, oTq p.2]) (j := 1) (r1 := s) rfl rfl rfl) (e_cons (x := oTq p.2) (r1 := s) (x_fld (C := 3) (vs := [.lst [pT p], oTq p.1, oTq p.2]) (j := 2) (r1 := s) rfl rfl rfl) rfl))⟩) (by rw [List.length_nil]; omega)).trans ?_))
    rw [List.filter_eq_self.mpr fun _ _ => rfl]
    rfl
  have go : g_Spread_init (.ins 2 [] :: envOf 3 [v]) s = .nx [.ins 2 [.lst (psT (Rg.united ps))], .val v, .un, s3, s4] s := by
    refine n_seq (n_ifF (r1 := s) (e_notB (b := true) (e_tru (x := .bl true) (r1 := s) (call1 (t := v) rfl il) rfl)) rfl) ?_
    refine n_seq (n_forG (e_enumG (t := v) (r1 := s) rfl hv) k) (n_seq (n_fldK (t := .lst (psT (Rg.united ps))) (ts := []) (r1 := s) rfl rfl (call1 (t := .lst (psT ps)) fc u)) rfl)
  unfold F_Spread_init fnI
  rw [go]
  rfl
theorem spread_w {ps : List Pr} (hl : ps.length ≤ 1000) (s : RS) : F_Spread_init [.lst (ps.map stT)] s = .ok [.lst (psT (Rg.united ps))] s := spread_g hl (c := none) rfl trivial rfl
/-- a row with something strange in it -/
theorem spread_x {ps : List Pr} {o : T} {more : List T} {s : RS} (ho : isiT tab o (.cl 3) = some (.bl false)) : F_Spread_init [.lst (ps.map stT ++ o :: more)] s = .exn 4 (.int (ps.length : Nat)) s := by
  obtain ⟨s3, s4, k⟩ := sp_loop (v := .lst (ps.map stT ++ o :: more)) (c := none) (s := s) trivial ps (o :: more)
  have x : iB [.ins 2 [], .val (.lst (ps.map stT ++ o :: more)), .un, .val (.int (ps.length : Nat)), .val o] s = .exn 4 (.int (ps.length : Nat)) [.ins 2 [], .val (.lst (ps.map stT ++ o :: more)), .un, .val (.int (ps.length : Nat)), .val o] s :=
    x_seqX ((n_ifT (r1 := s) (e_notB (b := false) (e_tru (x := .bl false) (r1 := s) (e_bin (x := o) (y := .cl 3) (r1 := s) (r2 := s) rfl rfl ho) rfl)) rfl))
  have k := k.trans (loop_exn (c := none) (h := hTupL 2 (hCons (hName 3) (hCons (hName 4) hNil))) (x := .tup [.int (ps.length : Nat), o]) (xs := enumL (ps.length + 1) more) trivial rfl x)
  have go : g_Spread_init (.ins 2 [] :: envOf 3 [.lst (ps.map stT ++ o :: more)]) s = .exn 4 (.int (ps.length : Nat)) [.ins 2 [], .val (.lst (ps.map stT ++ o :: more)), .un, .val (.int (ps.length : Nat)), .val o] s :=
    n_seq (n_ifF (r1 := s) (e_notB (b := true) (e_tru (x := .bl true) (r1 := s) (call1 (t := .lst (ps.map stT ++ o :: more)) rfl rfl) rfl)) rfl) (x_seqX (n_forG (e_enumG (t := .lst (ps.map stT ++ o :: more)) (r1 := s) rfl rfl) k))
  unfold F_Spread_init fnI
  rw [go]
/-! pairs drawn -/
def Low (p : Pr) : Prop := ∀ l, p.1 = some l → l.natAbs ≤ 30 ∨ 10 ^ 28 ≤ l.natAbs
theorem pairs_of : ∀ (ys : List T), (∀ y ∈ ys, ∃ p, y = pT p ∧ Ok p ∧ Low p) → ∃ ps : List Pr, ys = psT ps ∧ (∀ p ∈ ps, Ok p) ∧ ∀ p ∈ ps, Low p
  | [], _ => ⟨[], rfl, fun p h => (by cases h), fun p h => (by cases h)⟩
  | y :: ys, h => by
    obtain ⟨p, rfl, h1, h2⟩ := h y List.mem_cons_self
    obtain ⟨ps, rfl, h3, h4⟩ := pairs_of ys fun z hz => h z (List.mem_cons_of_mem _ hz)
    refine ⟨p :: ps, rfl, fun q hq => ?_, fun q hq => ?_⟩
    · rcases List.mem_cons.mp hq with rfl | hq
      · exact h1
      · exact h3 q hq
    · rcases List.mem_cons.mp hq with rfl | hq
      · exact h2
      · exact h4 q hq
theorem in_p (a b : Option Int) : inT .non (.tup [oTq a, oTq b]) = some (decide (a = none ∨ b = none)) := by cases a <;> cases b <;> rfl
end K03
/-! rows shared, outside. -/
namespace K03.R
open PySem Ep L2 Rg Dr
/-! what two told rows share, what lies outside; slabs put together -/
section
variable {f g : Ep.Env → M T} {env : Ep.Env} {r : RS} {a b : Option Int}
end
def coT : Option Pr → T
  | none => .non
  | some c => prT c
theorem fm_map (p : Pr) : ∀ qs : List Pr, ((qs.map (common p)).filter (·.isSome)).map coT = (qs.filterMap (common p)).map prT
  | [] => rfl
  | q :: qs => by
    rw [List.map_cons, List.filter_cons, List.filterMap_cons]
    cases h : common p q with
    | none => exact fm_map p qs
    | some c =>
      show coT (some c) :: ((qs.map (common p)).filter (·.isSome)).map coT = prT c :: (qs.filterMap (common p)).map prT
      rw [fm_map p qs]; rfl
theorem shared_map (ps qs : List Pr) : ((ps.flatMap fun p => qs.map (common p)).filter (·.isSome)).map coT = (Rg.shared ps qs).map prT := by
  unfold Rg.shared
  rw [List.filter_flatMap, List.map_flatMap, List.map_flatMap]
  exact congrArg (fun f => List.flatMap f ps) (funext fun p => fm_map p qs)
theorem fl_len (ps qs : List Pr) : (ps.flatMap fun p => qs.map (common p)).length = ps.length * qs.length := by
  induction ps with
  | nil => simp
  | cons p ps ih => rw [List.flatMap_cons, List.length_append, ih, List.length_map, List.length_cons, Nat.succ_mul, Nat.add_comm]
theorem shared_len (ps qs : List Pr) : (Rg.shared ps qs).length ≤ ps.length * qs.length := by
  have h := congrArg List.length (shared_map ps qs)
  rw [List.length_map, List.length_map] at h
  have := List.length_filter_le (·.isSome) (ps.flatMap fun p => qs.map (common p))
  rw [fl_len] at this
  omega
theorem outs_len : ∀ (ps : List Pr) (low : Option Int), (outs low ps).length ≤ ps.length + 1
  | [], low => Nat.le_refl _
  | (b, e) :: ps, low => by
    have h : (behind e ps).length ≤ ps.length + 1 := by
      cases e with
      | none => exact Nat.zero_le _
      | some k => exact outs_len ps (some k)
    cases b with
    | none => rw [outs_none, List.length_cons]; omega
    | some b => rw [outs_some, List.length_cons, List.length_cons]; omega
theorem outside_len (ps : List Pr) : (Rg.outside ps).length ≤ ps.length + 1 := outs_len ps none
/-! put together -/
end K03.R
/-! spreads by their integers. -/
namespace K03.R
open PySem Ep L2 Rg
theorem uni_fold_len : ∀ (ps F : List Pr), (ps.foldl uni F).length ≤ F.length + ps.length
  | [], F => Nat.le_refl _
  | p :: ps, F => by
    rw [List.foldl_cons, List.length_cons]
    have := uni_fold_len ps (uni F p)
    have := uni_len F p
    omega
theorem united_len (ps : List Pr) : (united ps).length ≤ ps.length := by
  unfold united
  rw [List.length_reverse]
  have := uni_fold_len (byL ps) []
  rw [(byL_perm ps).length_eq, List.length_nil] at this
  omega
end K03.R
namespace K03
open PySem Ep L2 Stp Dr
theorem hasin_w (p : Pr) (x : Int) (s : RS) : F_has_in [pT p, .int x] s = .ok (.bl (Rg.pin x p)) s := by
  obtain ⟨a, b⟩ := p
  have h1 : ∀ env : Ep.Env, fVar 2 env s = .ok (oTq a) s → fVar 1 env s = .ok (.int x) s → fOr (fCmp isT (fVar 2) (fC .non)) (fCmp leT (fVar 2) (fVar 1)) env s = .ok (.bl (Rg.loB a x)) s := fun env e2 e1 => by
    cases a with
    | none => exact e_orT (e_cmp (x := .non) (y := .non) (r1 := s) (r2 := s) e2 rfl rfl)
    | some l => exact e_orF (e_cmp (x := .int l) (y := .non) (r1 := s) (r2 := s) e2 rfl rfl) (e_cmp (x := .int l) (y := .int x) (r1 := s) (r2 := s) e2 e1 rfl)
  have h2 : ∀ env : Ep.Env, fVar 3 env s = .ok (oTq b) s → fVar 1 env s = .ok (.int x) s → fOr (fCmp isT (fVar 3) (fC .non)) (fCmp ltT (fVar 1) (fVar 3)) env s = .ok (.bl (Rg.hiB b x)) s := fun env e2 e1 => by
    cases b with
    | none => exact e_orT (e_cmp (x := .non) (y := .non) (r1 := s) (r2 := s) e2 rfl rfl)
    | some l => exact e_orF (e_cmp (x := .int l) (y := .non) (r1 := s) (r2 := s) e2 rfl rfl) (e_cmp (x := .int x) (y := .int l) (r1 := s) (r2 := s) e1 e2 rfl)
  have ep : Rg.pin x (a, b) = (Rg.loB a x && Rg.hiB b x) := rfl
  rw [ep]
  refine n_fn (n_seq (n_asg (x := pT (a, b)) (r1 := s) (env' := [.val (pT (a, b)), .val (.int x), .val (oTq a), .val (oTq b)]) rfl rfl) (n_seqR (n_ret ?_)))
  have k1 := h1 [.val (pT (a, b)), .val (.int x), .val (oTq a), .val (oTq b)] rfl rfl
  have k2 := h2 [.val (pT (a, b)), .val (.int x), .val (oTq a), .val (oTq b)] rfl rfl
  cases e : Rg.loB a x with
  | false => rw [e] at k1; exact e_andF k1
  | true => rw [e] at k1; rw [Bool.true_and]; exact e_andT k1 k2
theorem ok_fit {p : Pr} (h : Ok p) : Rg.pfit p = true := by
  obtain ⟨a, b⟩ := p
  cases a with
  | none => cases b <;> rfl
  | some l =>
    cases b with
    | none => rfl
    | some u => exact decide_eq_true (h l u rfl)
theorem fit_ok {p : Pr} (h : Rg.pfit p = true) : Ok p := fun l u e => by
  subst e
  exact of_decide_eq_true h
/-- a told row of some integers -/
structure Sd (ps : List Pr) (f : Int → Bool) (n : Nat) : Prop where
  can : Rg.Can false (Rg.row ps)
  has : ∀ x, ps.any (Rg.pin x) = f x
  len : ps.length ≤ n
theorem Sd.ok {ps : List Pr} {f : Int → Bool} {n : Nat} (h : Sd ps f n) : ∀ p ∈ ps, Ok p := fun p m => fit_ok ((Rg.can_row.mp h.can).1 p m)
theorem Sd.one {ps qs : List Pr} {f g : Int → Bool} {n m : Nat} (h : Sd ps f n) (k : Sd qs g m) (e : ∀ x, f x = g x) : ps = qs := Rg.row_one h.can k.can fun x => by rw [h.has, k.has, e]
theorem Sd.iff {ps qs : List Pr} {f g : Int → Bool} {n m : Nat} (h : Sd ps f n) (k : Sd qs g m) : ps = qs ↔ ∀ x, f x = g x := ⟨fun e x => by rw [← h.has, ← k.has, e], h.one k⟩
theorem sd_nil : Sd [] (fun _ => false) 0 := ⟨Rg.Can.nil _, fun _ => rfl, Nat.le_refl _⟩
theorem sd_of {ps : List Pr} (h : ∀ p ∈ ps, Ok p) : Sd (Rg.united ps) (fun x => ps.any (Rg.pin x)) ps.length := by
  obtain ⟨c, e⟩ := Rg.united_ok fun p m => ok_fit (h p m)
  exact ⟨c, e, R.united_len ps⟩
theorem Sd.uni {ps : List Pr} {f : Int → Bool} {n : Nat} (h : Sd ps f n) : Rg.united ps = ps := (sd_of h.ok).one h h.has
theorem Sd.shared {ps qs : List Pr} {f g : Int → Bool} {n m : Nat} (h : Sd ps f n) (k : Sd qs g m) : Sd (Rg.shared ps qs) (fun x => f x && g x) (n * m) :=
  ⟨Rg.shared_ok h.can k.can, fun x => by rw [Rg.shared_in, h.has, k.has], Nat.le_trans (R.shared_len ps qs) (Nat.mul_le_mul h.len k.len)⟩
theorem Sd.outside {ps : List Pr} {f : Int → Bool} {n : Nat} (h : Sd ps f n) : Sd (Rg.outside ps) (fun x => !f x) (n + 1) := by
  obtain ⟨c, e⟩ := Rg.outside_ok h.can
  exact ⟨c, fun x => by rw [e, h.has], Nat.le_trans (R.outside_len ps) (Nat.succ_le_succ h.len)⟩
theorem Sd.mono {ps : List Pr} {f : Int → Bool} {n m : Nat} (h : Sd ps f n) (l : n ≤ m) : Sd ps f m := ⟨h.can, h.has, Nat.le_trans h.len l⟩
theorem Sd.congr {ps : List Pr} {f g : Int → Bool} {n : Nat} (h : Sd ps f n) (e : ∀ x, f x = g x) : Sd ps g n := ⟨h.can, fun x => by rw [h.has, e], h.len⟩
/-! making -/
theorem make_st {p : Pr} (h : Ok p) {f g : Ep.Env → M T} {env : Ep.Env} {r : RS} (hf : f env r = .ok (oTq p.1) r) (hg : g env r = .ok (oTq p.2) r) : fMake 3 F_Stretch_init [] [f, g] env r = .ok (stT p) r := x_make (ts := [oTq p.1, oTq p.2]) (r1 := r) (e_cons (x := oTq p.1) (r1 := r) hf (e_cons (x := oTq p.2) (r1 := r) hg rfl)) (stretch_w h r)
theorem spread_body {ps : List Pr} (h : ∀ p ∈ ps, Ok p) (hl : ps.length ≤ 1000) (r : RS) : (qSeq (qRet (fMake 2 F_Spread_init [] [(fOwn (fComp [1, 2] (hTupL 2 (hCons (hName 1) (hCons (hName 2) hNil))) fYes (fMake 3 F_Stretch_init [] [(fVar 1), (fVar 2)]) (fIter (fVar 0))))])) qNil) (envOf 2 [.lst (psT ps)]) r = .rt (sdT (Rg.united ps)) r := by
  have c : fOwn (fComp [1, 2] (hTupL 2 (hCons (hName 1) (hCons (hName 2) hNil))) fYes (fMake 3 F_Stretch_init [] [(fVar 1), (fVar 2)]) (fIter (fVar 0))) (envOf 2 [.lst (psT ps)]) r = .ok (.lst (ps.map stT)) r :=
    e_own (comp_all pT stT ps (x_it (t := .lst (psT ps)) (r1 := r) rfl rfl) (fun p m => ⟨_, rfl, make_st (h p m) rfl rfl⟩) (by omega))
  exact n_seqR (n_ret (x_make (ts := [.lst (ps.map stT)]) (r1 := r) (e_cons (x := .lst (ps.map stT)) (r1 := r) c rfl) (spread_w hl r)))
theorem lspread_w {ps : List Pr} (h : ∀ p ∈ ps, Ok p) (hl : ps.length ≤ 1000) (r : RS) : F__law_spread [.lst (psT ps)] r = .ok (sdT (Rg.united ps)) r := n_fn (spread_body h hl r)
/-! the operators -/
section
variable {a b : List Pr} {f g : Int → Bool} {n m : Nat}
theorem pairs_f {i : Nat} {env : Ep.Env} {r : RS} (he : env[i]? = some (.val (sdT a))) : fFld m_own_pairs (fVar i) env r = .ok (.lst (psT a)) r := x_fld (C := 2) (vs := [.lst (psT a)]) (j := 0) (r1 := r) (w_var he) rfl rfl
theorem psT_inj : ∀ {a b : List Pr}, psT a = psT b → a = b
  | [], [], _ => rfl
  | [], _ :: _, h => by cases h
  | _ :: _, [], h => by cases h
  | p :: a, q :: b, h => by
    injection h with h1 h2
    injection h1 with h1
    injection h1 with h3 h4
    injection h4 with h4 _
    rw [psT_inj h2]
    obtain ⟨p1, p2⟩ := p
    obtain ⟨q1, q2⟩ := q
    have e1 : p1 = q1 := oT_inj h3
    have e2 : p2 = q2 := oT_inj h4
    rw [e1, e2]
theorem eq_w (h : Sd a f n) (k : Sd b g m) {β : Bool} (hb : β = true ↔ ∀ x, f x = g x) (r : RS) : F_Spread_eq [sdT a, sdT b] r = .ok (.bl β) r := by
  have e : eqT (.lst (psT a)) (.lst (psT b)) = some β := eq_pt lfI (ps_pt a) (ps_pt b) (by decide) (hb.trans ((h.iff k).symm.trans ⟨fun q => by rw [q], fun q => psT_inj (by injection q)⟩))
  exact n_fn (n_seqR (n_ret (e_andT (r1 := r) (e_bin (x := sdT b) (y := .cl 2) (r1 := r) (r2 := r) rfl rfl rfl) (e_cmp (x := .lst (psT a)) (y := .lst (psT b)) (r1 := r) (r2 := r) (pairs_f rfl) (pairs_f rfl) e))))
end
end K03
/-! spreads moved and turned; what the law asks of one. -/
namespace K03
open PySem Ep L2 Stp Dr
theorem bls_map {α : Type} (f : α → Bool) : ∀ xs : List α, blsT (xs.map fun a => T.bl (f a)) = some (xs.map f)
  | [] => rfl
  | a :: xs => by
    show (blsT (xs.map fun a => T.bl (f a))).map (f a :: ·) = _
    rw [bls_map f xs]; rfl
theorem any_bls {α : Type} (f : α → Bool) (xs : List α) (r : RS) : anyT r (.lst (xs.map fun a => T.bl (f a))) = some (.bl (xs.any f)) := by
  show (blsT (xs.map fun a => T.bl (f a))).map _ = _
  rw [bls_map]
  show some (T.bl ((xs.map f).any _root_.id)) = _
  rw [List.any_map]; rfl
section
variable {a b : List Pr} {f g : Int → Bool} {n m : Nat}
theorem any_app (a b : List Pr) (x : Int) : (a ++ b).any (Rg.pin x) = (a.any (Rg.pin x) || b.any (Rg.pin x)) := List.any_append
/-! moved, turned -/
theorem any_map {g : Pr → Pr} {x y : Int} (h : ∀ p, Rg.pin x (g p) = Rg.pin y p) (ps : List Pr) : (ps.map g).any (Rg.pin x) = ps.any (Rg.pin y) := by
  rw [List.any_map]
  congr 1
  funext p
  exact h p
theorem any_rev (ps : List Pr) (x : Int) : ps.reverse.any (Rg.pin x) = ps.any (Rg.pin x) := List.any_reverse
/-! holds, the told row -/
theorem holds_w (hl : a.length ≤ 1000) (x : Int) (r : RS) : F_Spread_holds [sdT a, .int x] r = .ok (.bl (a.any (Rg.pin x))) r := by
  have c : fOwn (fComp [2] (hName 2) fYes (fCall F_has_in [] [(fVar 2), (fVar 1)]) (fIter (fFld m_own_pairs (fVar 0)))) [.val (sdT a), .val (.int x), .un] r = .ok (.lst (a.map fun p => .bl (Rg.pin x p))) r :=
    e_own (comp_all pT (fun p => .bl (Rg.pin x p)) a (x_it (t := .lst (psT a)) (r1 := r) (pairs_f rfl) rfl) (fun p m => ⟨_, rfl, x_call (ts := [pT p, .int x]) (r1 := r) rfl (hasin_w p x r)⟩) (by omega))
  refine n_fn (n_seqR (n_ret (e_andT (r1 := r) (x_call (ts := [.int x]) (r1 := r) rfl rfl) (e_b1 (x := .lst (a.map fun p => .bl (Rg.pin x p))) (r1 := r) c ?_))))
  exact any_bls _ _ _
end
end K03
/-! draws; the told row; without end; bounds. -/
namespace K03
open PySem Ep L2 Stp Dr
theorem n_setOwn {f g : Ep.Env → M T} {env : Ep.Env} {r r1 r2 : RS} {t : T} {i j : Nat} {x : Int} {xs : List T} (hi : env[i]? = some (.own xs)) (h1 : f env r = .ok t r1) (h2 : g env r1 = .ok (.int x) r2) (hx : L2.ixN xs.length x = some j) : qSetIx i f g env r = .nx (env.set i (.own (xs.set j t))) r2 := by
  have e1 : isMut env i = true := by unfold isMut; rw [hi]
  have e2 : mutGet env i r2 = some xs := by unfold mutGet; rw [hi]
  have e3 : mutSet env i r2 (xs.set j t) = .nx (env.set i (.own (xs.set j t))) r2 := by unfold mutSet; rw [hi]
  unfold qSetIx
  rw [if_pos e1, h1]
  show ofM env (fun u r => match mutGet env i r, u with
    | some xs, .int k => match L2.ixN xs.length k with
      | some j => mutSet env i r (xs.set j t)
      | none => .bad
    | _, _ => .bad) (g env r1) = _
  rw [h2]
  show (match mutGet env i r2, T.int x with
    | some xs, .int k => match L2.ixN xs.length k with
      | some j => mutSet env i r2 (xs.set j t)
      | none => .bad
    | _, _ => .bad) = _
  rw [e2]
  show (match L2.ixN xs.length x with
      | some j => mutSet env i r2 (xs.set j t)
      | none => .bad) = _
  rw [hx]
  exact e3
theorem ixn_nat {n i : Nat} (h : i < n) : L2.ixN n (i : Int) = some i := by
  unfold L2.ixN
  rw [if_pos (by omega), if_pos (by omega)]
  congr 1
theorem ix_ps {ps : List Pr} {i : Nat} (h : i < ps.length) (r : RS) : ixT r (.lst (psT ps)) (.int (i : Int)) = some (pT ps[i]) := by
  show L2.atI (psT ps) (i : Int) = _
  unfold L2.atI
  rw [ixn_nat (by rw [List.length_map]; exact h)]
  show (psT ps)[i]? = _
  rw [List.getElem?_map, List.getElem?_eq_getElem h]
  rfl
abbrev soB : Sm := (qSeq (qIf (fAndB (fCmpB eqT (fCall F__law_draw [] [(fVar 0), (fC (.int 3))]) (fC (.int 2))) (fCmpB nisT (fIx (fIx (fBor 2) (fBin subT (fVar 3) (fC (.int 1)))) (fC (.int 1))) (fC .non))) (qSeq (qSet 4 (fBin addT (fIx (fIx (fBor 2) (fBin subT (fVar 3) (fC (.int 1)))) (fC (.int 1))) (fCall F__law_draw [] [(fVar 0), (fC (.int 2))])))
    (qSeq (qSetIx 2 (fTup [(fVar 4), (fBin addT (fBin addT (fVar 4) (fC (.int 1))) (fCall F__law_draw [] [(fVar 0), (fC (.int 5))]))]) (fVar 3))
    qNil)) qNil)
    qNil)
abbrev soE (k : Nat) (t1 : T) (ps : List Pr) (s3 s4 : Slot) : Ep.Env := [.val (.ref k), .val t1, .own (psT ps), s3, s4, .un]
theorem so_step {k j : Nat} {t1 : T} {ps : List Pr} {i : Nat} {s4 : Slot} {r : RS} (h : St k j r) (ok : ∀ p ∈ ps, Ok p) (i0 : 1 ≤ i) (hi : i < ps.length) :
    ∃ ps' s4' r', soB (soE k t1 ps (.val (.int (i : Int))) s4) r = .nx (soE k t1 ps' (.val (.int (i : Int))) s4') r' ∧ St k j r' ∧ (∀ p ∈ ps', Ok p) ∧ ps'.length = ps.length := by
  obtain ⟨v, r1, e1, p1, v0, v1⟩ := draw (m := 3) h (by decide) (by decide)
  obtain ⟨q, eq⟩ : ∃ q, q = ps[i - 1] := ⟨_, rfl⟩
  have at1 : ∀ (s4 : Slot) (r : RS), fIx (fIx (fBor 2) (fBin subT (fVar 3) (fC (.int 1)))) (fC (.int 1)) (soE k t1 ps (.val (.int (i : Int))) s4) r = .ok (oTq q.2) r := fun s4 r => by
    have z := ix_ps (ps := ps) (i := i - 1) (by omega) r
    rw [← eq, show ((i - 1 : Nat) : Int) = (i : Int) - 1 by omega] at z
    exact e_ix (x := pT q) (y := .int 1) (r1 := r) (r2 := r) (e_ix (x := .lst (psT ps)) (y := .int ((i : Int) - 1)) (r1 := r) (r2 := r) rfl rfl z) rfl rfl
  have t : (fCmpB eqT (fCall F__law_draw [] [(fVar 0), (fC (.int 3))]) (fC (.int 2))) (soE k t1 ps (.val (.int (i : Int))) s4) r = .ok (decide (v = 2)) r1 := e_cmpB (x := .int v) (y := .int 2) (r1 := r1) (r2 := r1) (x_call (ts := [.ref k, .int 3]) (r1 := r) rfl e1) rfl rfl
  by_cases c : v = 2
  · rw [decide_eq_true c] at t
    have u : (fCmpB nisT (fIx (fIx (fBor 2) (fBin subT (fVar 3) (fC (.int 1)))) (fC (.int 1))) (fC .non)) (soE k t1 ps (.val (.int (i : Int))) s4) r1 = .ok (!decide (q.2 = none)) r1 := e_cmpB (x := oTq q.2) (y := .non) (r1 := r1) (r2 := r1) (at1 _ _) rfl (nis_o _)
    cases d : q.2 with
    | none =>
      rw [d] at u
      exact ⟨ps, s4, r1, n_seq (n_ifF (e_andBT t u) rfl) rfl, p1, ok, rfl⟩
    | some l =>
      rw [d] at u
      obtain ⟨w, r2, e2, p2, w0, w1⟩ := draw (m := 2) p1 (by decide) (by decide)
      obtain ⟨z, r3, e3, p3, z0, z1⟩ := draw (m := 5) p2 (by decide) (by decide)
      have at2 := at1 s4 r1
      rw [d] at at2
      refine ⟨ps.set i (some (l + w), some (l + w + 1 + z)), .val (.int (l + w)), r3, n_seq (n_ifT (e_andBT t u) (n_seq (n_set (t := .int (l + w)) (r1 := r2) (e_bin (x := .int l) (y := .int w) (r1 := r1) (r2 := r2) at2 (x_call (ts := [.ref k, .int 2]) (r1 := r1) rfl e2) rfl)) (n_seq (n_setOwn (xs := psT ps) (t := pT (some (l + w), some (l + w + 1 + z))) (x := (i : Int)) (j := i) (r1 := r3) (r2 := r3) rfl (e_tup (e_cons (x := .int (l + w)) (r1 := r2) rfl (e_cons (x := .int (l + w + 1 + z)) (r1 := r3) (e_bin (x := .int (l + w + 1)) (y := .int z) (r1 := r2) (r2 := r3) rfl (x_call (ts := [.ref k, .int 5]) (r1 := r2) rfl e3) rfl) rfl))) rfl (ixn_nat (by rw [List.length_map]; exact hi))) rfl))) ?_, p3, fun p m => ?_, List.length_set ..⟩
      · have e : (psT ps).set i (pT (some (l + w), some (l + w + 1 + z))) = psT (ps.set i (some (l + w), some (l + w + 1 + z))) := List.map_set.symm
        show SO.nx [.val (.ref k), .val t1, .own ((psT ps).set i (pT (some (l + w), some (l + w + 1 + z)))), .val (.int (i : Int)), .val (.int (l + w)), .un] r3 = _
        rw [e]
      · rcases List.mem_or_eq_of_mem_set m with m | rfl
        · exact ok p m
        · intro a b e
          cases e
          omega
  · rw [decide_eq_false c] at t
    exact ⟨ps, s4, r1, n_seq (n_ifF (e_andBF t) rfl) rfl, p1, ok, rfl⟩
theorem so_loop {k j : Nat} {t1 : T} : ∀ (n i : Nat) (ps : List Pr) (s3 s4 : Slot) (r : RS), St k j r → (∀ p ∈ ps, Ok p) → 1 ≤ i → (n ≠ 0 → i + n ≤ ps.length) →
    ∃ ps' s3' s4' r', loopF (hName 3) soB (rngL i n) (soE k t1 ps s3 s4) r = .nx (soE k t1 ps' s3' s4') r' ∧ St k j r' ∧ (∀ p ∈ ps', Ok p) ∧ ps'.length = ps.length
  | 0, i, ps, s3, s4, r, h, ok, _, _ => ⟨ps, s3, s4, r, rfl, h, ok, rfl⟩
  | n + 1, i, ps, s3, s4, r, h, ok, i0, hl => by
    obtain ⟨ps1, s41, r1, e1, p1, ok1, l1⟩ := so_step (t1 := t1) (s4 := s4) h ok i0 (by have := hl (by omega); omega)
    obtain ⟨ps2, s32, s42, r2, e2, p2, ok2, l2⟩ := so_loop (t1 := t1) n (i + 1) ps1 (.val (.int (i : Int))) s41 r1 p1 ok1 (by omega) (fun _ => by have := hl (by omega); omega)
    refine ⟨ps2, s32, s42, r2, ?_, p2, ok2, l2.trans l1⟩
    have c : rngL (i : Int) (n + 1) = .int (i : Int) :: rngL ((i + 1 : Nat) : Int) n := by
      unfold rngL
      rw [List.range_succ_eq_map, List.map_cons, List.map_map]
      refine congr (congrArg List.cons (by simp)) (List.map_congr_left fun x _ => ?_)
      show T.int ((i : Int) + ((x + 1 : Nat) : Int)) = T.int (((i + 1 : Nat) : Int) + (x : Int))
      congr 1
      omega
    rw [c]
    exact n_loop rfl e1 e2
theorem some_w {k j : Nat} {r : RS} (h : St k j r) {m : Nat} (hm : m ≤ 20) : ∃ ps r', F__law_some [.ref k, .int (m : Int)] r = .ok (.lst (psT ps)) r' ∧ St k j r' ∧ (∀ p ∈ ps, Ok p) ∧ ps.length ≤ m := by
  obtain ⟨v, r1, e1, p1, v0, v1⟩ := draw (m := (m : Int) + 1) h (by omega) (by omega)
  obtain ⟨w, rfl⟩ : ∃ w : Nat, v = (w : Int) := ⟨v.toNat, by omega⟩
  obtain ⟨ys, r2, e2, p2, q2, n2⟩ := Dr.comp_st (vs := [5]) (h := hName 5) (p := fYes) (f := fCall F__law_ends [] [(fVar 0)]) (env := [.val (.ref k), .val (.int (m : Int)), .un, .un, .un, .un]) (I := St k j) (Q := fun t => ∃ p, t = pT p ∧ Ok p ∧ Low p) (rngL 0 w) [] r1 p1 (fun x _ r h => by
    obtain ⟨p, r', e, p', ok, lo⟩ := ends h
    exact ⟨_, pT p, r', rfl, rfl, x_call (ts := [.ref k]) (r1 := r) rfl e, p', ⟨p, rfl, ok, lo⟩⟩) (fun y m => by cases m) (by unfold rngL; simp; omega)
  obtain ⟨ps, rfl, ok, _⟩ := pairs_of ys q2
  have lp : ps.length ≤ m := by
    have : (psT ps).length = w := by rw [n2]; unfold rngL; simp
    rw [List.length_map] at this
    omega
  obtain ⟨ps', s3, s4, r3, l, p3, o3, z3⟩ := so_loop (t1 := .int (m : Int)) (ps.length - 1) 1 ps .un .un r2 p2 ok (by decide) (fun h => by omega)
  have rn : (fRng1 (fCall F__law_draw [] [(fVar 0), (fBin addT (fVar 1) (fC (.int 1)))])) [.val (.ref k), .val (.int (m : Int)), .un, .un, .un, .un] r = .ok (rngL 0 w) r1 := w_rng1 (i := w) (x_call (ts := [.ref k, .int ((m : Int) + 1)]) (r1 := r) rfl e1) ⟨by omega, by omega⟩
  have ln : fB1 lenT (fBor 2) (soE k (.int (m : Int)) ps .un .un) r2 = .ok (.int (ps.length : Nat)) r2 := e_b1 (x := .lst (psT ps)) (r1 := r2) rfl (by
    show some (T.int ((psT ps).length : Nat)) = _
    rw [List.length_map])
  have rn2 := w_rng2i (f := fC (.int 1)) (g := fB1 lenT (fBor 2)) (env := soE k (.int (m : Int)) ps .un .un) (r := r2) (r1 := r2) (r2 := r2) (i := 1) (j := (ps.length : Nat)) rfl ln ⟨by decide, by decide⟩ ⟨by omega, by omega⟩
  rw [show (((ps.length : Nat) : Int) - 1).toNat = ps.length - 1 by omega] at rn2
  exact ⟨ps', r3, n_fn (n_seq (n_own (xs := psT ps) (r1 := r2) (bind_ok rn e2)) (n_seq (n_for (xs := rngL 1 (ps.length - 1)) (r1 := r2) rn2 l) (n_seqR (n_frz (n_ret (t := .lst (psT ps')) (r1 := r3) rfl))))), p3, o3, by omega⟩
end K03
/-! the told row; without end; bounds. -/
namespace K03
open PySem Ep L2 Stp Dr
section
variable {a : List Pr}
theorem told_c (h : ∀ p ∈ a, Ok p) (la : a.length ≤ 1000) (r : RS) : fComp [1, 2] (hTupL 2 (hCons (hName 1) (hCons (hName 2) hNil))) fYes (fMake 3 F_Stretch_init [] [(fVar 1), (fVar 2)]) (fIter (fFld m_own_pairs (fVar 0))) (envOf 2 [sdT a]) r = .ok (a.map stT) r :=
  comp_all pT stT a (x_it (t := .lst (psT a)) (r1 := r) (pairs_f rfl) rfl) (fun p m => ⟨[.val (sdT a), .val (oTq p.1), .val (oTq p.2)], rfl, make_st (h p m) rfl rfl⟩) (by omega)
theorem told_s (h : ∀ p ∈ a, Ok p) (la : a.length ≤ 1000) (r : RS) : F_Spread_told [sdT a] r = .ok (.lst (a.map stT)) r := n_fn (n_seqR (n_ret (e_own (told_c h la r))))
theorem told_R (h : ∀ p ∈ a, Ok p) (la : a.length ≤ 1000) (r : RS) : F_Spread_toldR [sdT a] r = .ok (.ref r.length) (r ++ [a.map stT]) := by
  refine n_fn (n_seqR (n_ret ?_))
  unfold fRef
  rw [told_c h la r]
theorem row_s {i jj : Nat} {env : Ep.Env} (he : env[i]? = some (.val (sdT a))) (h : ∀ p ∈ a, Ok p) (la : a.length ≤ 1000) (r : RS) (hw : ∀ p : Pr, ∃ e, hName jj (stT p) (wipeE env [jj]) = some e ∧ e[jj]? = some (.val (stT p))) :
    fOwn (fComp [jj] (hName jj) fYes (fTup [(fFld m_low (fVar jj)), (fFld m_high (fVar jj))]) (fIter (fMeth 2 F_Spread_told [] (fVar i) []))) env r = .ok (.lst (psT a)) r :=
  e_own (comp_all stT pT a (x_it (t := .lst (a.map stT)) (r1 := r) (x_meth (vs := [.lst (psT a)]) (ts := []) (r1 := r) (r2 := r) (w_var he) rfl (told_s h la r)) rfl) (fun p m => by
    obtain ⟨e, h1, h2⟩ := hw p
    exact ⟨e, h1, e_tup (e_cons (x := oTq p.1) (r1 := r) (x_fld (C := 3) (vs := [.lst [pT p], oTq p.1, oTq p.2]) (j := 1) (r1 := r) (w_var h2) rfl rfl) (e_cons (x := oTq p.2) (r1 := r) (x_fld (C := 3) (vs := [.lst [pT p], oTq p.1, oTq p.2]) (j := 2) (r1 := r) (w_var h2) rfl rfl) rfl))⟩) (by omega))
/-- without an end -/
def endl (p : Pr) : Bool := decide (p.1 = none ∨ p.2 = none)
theorem endless_w (la : a.length ≤ 1000) (r : RS) : F_Spread_is_endless [sdT a] r = .ok (.bl (a.any endl)) r := by
  have c : fOwn (fComp [1] (hName 1) fYes (fCmp inT (fC .non) (fVar 1)) (fIter (fFld m_own_pairs (fVar 0)))) [.val (sdT a), .un] r = .ok (.lst (a.map fun p => .bl (endl p))) r :=
    e_own (comp_all pT (fun p => .bl (endl p)) a (x_it (t := .lst (psT a)) (r1 := r) (pairs_f rfl) rfl) (fun p m => ⟨_, rfl, e_cmp (x := .non) (y := pT p) (r1 := r) (r2 := r) rfl rfl (in_p _ _)⟩) (by omega))
  exact n_fn (n_seqR (n_ret (e_b1 (x := .lst (a.map fun p => .bl (endl p))) (r1 := r) c (any_bls _ _ _))))
theorem filt_any (ps : List Pr) : (!decide (ps.filter endl = [])) = ps.any endl := by
  induction ps with
  | nil => rfl
  | cons p ps ih =>
    rw [List.any_cons, List.filter_cons]
    cases c : endl p with
    | true => simp
    | false => rw [if_neg Bool.false_ne_true, ih, Bool.false_or]
theorem ne_ps (a b : List Pr) : neT (.lst (psT a)) (.lst (psT b)) = some (!decide (a = b)) := ne_pt lfI (ps_pt a) (ps_pt b) (by decide) ⟨fun h => by rw [of_decide_eq_true h], fun h => decide_eq_true (psT_inj (by injection h))⟩
theorem eq_ps (a b : List Pr) : eqT (.lst (psT a)) (.lst (psT b)) = some (decide (a = b)) := eq_pt lfI (ps_pt a) (ps_pt b) (by decide) ⟨fun h => by rw [of_decide_eq_true h], fun h => decide_eq_true (psT_inj (by injection h))⟩
/-- the bounds -/
def bP (a : List Pr) : Pr := match a.head?, a.getLast? with
  | some p, some q => (p.1, q.2)
  | _, _ => (none, none)
theorem p_pt (p : Pr) : Pt LfI 1 (pT p) := Pt.tup (os_pt [p.1, p.2])
theorem ne_p (p : Pr) : neT (pT p) (pT p) = some false := ne_pt lfI (p_pt p) (p_pt p) (b := true) (by decide) ⟨fun _ => rfl, fun _ => rfl⟩
theorem ix_last {a : List Pr} {q : Pr} (h : a.getLast? = some q) (r : RS) : ixT r (.lst (psT a)) (.int (-1)) = some (pT q) := by
  have l0 : 0 < a.length := by
    cases a with
    | nil => cases h
    | cons _ _ => exact Nat.zero_lt_succ _
  show L2.atI (psT a) (-1) = _
  unfold L2.atI
  have e : L2.ixN (psT a).length (-1) = some (a.length - 1) := by
    unfold L2.ixN
    rw [List.length_map, if_neg (by decide), if_pos (by omega)]
    congr 1
    omega
  rw [e]
  show (psT a)[a.length - 1]? = _
  rw [List.getElem?_map, ← List.getLast?_eq_getElem?, h]
  rfl
theorem bd_x {f : Ep.Env → M T} {env : Ep.Env} {r : RS} {p q : Pr} (hf : f env r = .ok (.lst (psT a)) r) (h1 : a.head? = some p) (h2 : a.getLast? = some q) : fTup [(fIx (fIx f (fC (.int 0))) (fC (.int 0))), (fIx (fIx f (fUn negT (fC (.int 1)))) (fC (.int 1)))] env r = .ok (pT (bP a)) r := by
  have e : bP a = (p.1, q.2) := by unfold bP; rw [h1, h2]
  have i0 : ixT r (.lst (psT a)) (.int 0) = some (pT p) := by
    cases a with
    | nil => cases h1
    | cons x xs =>
      obtain rfl : x = p := Option.some.inj h1
      exact ix_ps (ps := x :: xs) (i := 0) (by simp) r
  rw [e]
  exact e_tup (e_cons (x := oTq p.1) (r1 := r) (e_ix (x := pT p) (y := .int 0) (r1 := r) (r2 := r) (e_ix (x := .lst (psT a)) (y := .int 0) (r1 := r) (r2 := r) hf rfl i0) rfl rfl) (e_cons (x := oTq q.2) (r1 := r) (e_ix (x := pT q) (y := .int 1) (r1 := r) (r2 := r) (e_ix (x := .lst (psT a)) (y := .int (-1)) (r1 := r) (r2 := r) hf rfl (ix_last h2 r)) rfl rfl) rfl))
theorem ends_of (h : a ≠ []) : ∃ p q, a.head? = some p ∧ a.getLast? = some q := by
  cases a with
  | nil => exact absurd rfl h
  | cons x xs =>
    have n : (x :: xs).getLast? ≠ none := by simp
    obtain ⟨q, h⟩ := Option.ne_none_iff_exists'.mp n
    exact ⟨x, q, rfl, h⟩
theorem bounds_w (r : RS) : F_Spread_bounds [sdT a] r = .ok (pT (bP a)) r := by
  refine n_fn (n_seqR (n_ret ?_))
  by_cases c : a = []
  · subst c
    exact e_ifF (r1 := r) (e_cmpB (x := .lst []) (y := .lst []) (r1 := r) (r2 := r) (pairs_f (a := []) rfl) rfl (ne_ps [] [])) rfl
  · obtain ⟨p, q, h1, h2⟩ := ends_of c
    have t := ne_ps a []
    rw [decide_eq_false c] at t
    exact e_ifT (r1 := r) (e_cmpB (x := .lst (psT a)) (y := .lst []) (r1 := r) (r2 := r) (pairs_f rfl) rfl t) (bd_x (pairs_f rfl) h1 h2)
theorem law_bounds {f : Ep.Env → M T} {env : Ep.Env} {r : RS} (hf : f env r = .ok (.lst (psT a)) r) : fIf (fTru f) (fTup [(fIx (fIx f (fC (.int 0))) (fC (.int 0))), (fIx (fIx f (fUn negT (fC (.int 1)))) (fC (.int 1)))]) (fTup [(fC .non), (fC .non)]) env r = .ok (pT (bP a)) r := by
  by_cases c : a = []
  · subst c
    exact e_ifF (r1 := r) (e_tru (x := .lst []) (r1 := r) hf rfl) rfl
  · obtain ⟨p, q, h1, h2⟩ := ends_of c
    refine e_ifT (r1 := r) (e_tru (x := .lst (psT a)) (r1 := r) hf ?_) (bd_x hf h1 h2)
    cases a with
    | nil => exact absurd rfl c
    | cons _ _ => rfl
end
end K03
/-! refused rows; odd arguments. -/
namespace K03
open PySem Ep L2 Stp Dr
theorem empty_w (s : RS) : F_Spread_init [.tup []] s = .ok [.lst (psT [])] s := by
  have u := spread_g (v := .tup []) (c := none) (ps := []) (by decide) (s := s) rfl trivial rfl
  rwa [(sd_of (ps := []) fun p m => by cases m).one sd_nil fun _ => rfl] at u
theorem part_x {o : T} {s : RS} (h : F_is_list [o] s = .ok (.bl false) s) : F_Spread_init [o] s = .exn 0 (.str "stretches") s := by
  have go : g_Spread_init (.ins 2 [] :: envOf 3 [o]) s = .exn 0 (.str "stretches") [.ins 2 [], .val o, .un, .un, .un] s :=
    x_seqX (n_ifT (r1 := s) (e_notB (b := false) (e_tru (x := .bl false) (r1 := s) (call1 (t := o) rfl h) rfl)) rfl)
  unfold F_Spread_init fnI
  rw [go]
theorem make_x {C i : Nat} {F : List T → M (List T)} {f : Ep.Env → M T} {env : Ep.Env} {r : RS} {o p : T} (h1 : f env r = .ok o r) (h : F [o] r = .exn i p r) : fMake C F [] [f] env r = .exn i p r := by
  have e : fAll [f] env r = .ok [o] r := e_cons h1 rfl
  show M.bind (fAll [f] env) _ r = _
  unfold M.bind
  rw [e]
  show M.bind (F ([o] ++ [])) _ r = _
  unfold M.bind
  rw [List.append_nil, h]
theorem ref_part {o : T} {s : RS} (h : F_is_list [o] s = .ok (.bl false) s) : F__law_refused [o] s = .ok (.tup [.str "part", .str "stretches"]) s :=
  n_fn (n_seqR ((qTry_x (e := [.val o, .un]) (x_seqX (x_exprX (make_x (o := o) rfl (part_x h))))).trans rfl))
theorem ref_index {ps : List Pr} {o : T} {more : List T} {s : RS} (ho : isiT tab o (.cl 3) = some (.bl false)) : F__law_refused [.lst (ps.map stT ++ o :: more)] s = .ok (.tup [.str "index", .int (ps.length : Nat)]) s :=
  n_fn (n_seqR ((qTry_x (e := [.val (.lst (ps.map stT ++ o :: more)), .un]) (x_seqX (x_exprX (make_x (o := .lst (ps.map stT ++ o :: more)) rfl (spread_x ho))))).trans rfl))
theorem pt_s (s : Str) (h : PyData.strOk s = true) : Pt LfI 0 (.str s) := Pt.leaf (.inr (.inr ⟨_, rfl, h⟩)) _
theorem ne_parts : neT (.tup [.str "part", .str "stretches"]) (.tup [.str "part", .str "stretches"]) = some false := by kernel_rfl
theorem ne_index (k : Int) : neT (.tup [.str "index", .int k]) (.tup [.str "index", .int k]) = some false := by
  have q : Pt LfI 1 (.tup [.str "index", .int k]) := Pt.tup fun x hx => by
    rcases List.mem_cons.mp hx with rfl | hx
    · exact pt_s _ (by decide +kernel)
    · obtain rfl := List.mem_singleton.mp hx
      exact Pt.leaf (.inr (.inl ⟨_, rfl⟩)) _
  exact ne_pt lfI q q (b := true) (by decide) ⟨fun _ => rfl, fun _ => rfl⟩
theorem St.app {k j : Nat} {r : RS} (h : St k j r) (x : List T) : St k j (r ++ [x]) := by
  obtain ⟨xs, n, h1, h2, h3⟩ := h
  exact ⟨xs, n, by rw [List.getElem?_append_left (List.getElem?_eq_some_iff.mp h1).1]; exact h1, by rw [List.getElem?_append_left (List.getElem?_eq_some_iff.mp h2).1]; exact h2, h3⟩
theorem sl_takeR {r : RS} {m : Nat} {xs : List T} (h : r[m]? = some xs) (k : Nat) : slT r (.ref m) none (some (k : Int)) = some (.lst (xs.take k)) := by
  show (r[m]?).map _ = _
  rw [h]
  exact sl_take xs k r
theorem sl_dropR {r : RS} {m : Nat} {xs : List T} (h : r[m]? = some xs) (k : Nat) : slT r (.ref m) (some (k : Int)) none = some (.lst (xs.drop k)) := by
  show (r[m]?).map _ = _
  rw [h]
  exact sl_drop xs k r
theorem holds_0 {a : List Pr} (r : RS) : F_Spread_holds [sdT a, .str "0"] r = .ok (.bl false) r := n_fn (n_seqR (n_ret (e_andF (x_call (ts := [.str "0"]) (r1 := r) rfl rfl))))
theorem is_ff : isT (.bl false) (.bl false) = some true := rfl
theorem st0_w (r : RS) : F_Stretch_init [.non, .non] r = .ok [.lst [pT (none, none)], .non, .non] r := stretch_w (a := none) (b := none) (fun l h e => by cases e) r
theorem st0_m {env : Ep.Env} (r : RS) : fMake 3 F_Stretch_init [.non, .non] [] env r = .ok (stT (none, none)) r := bind_ok (a := []) (r1 := r) rfl (bind_ok (st0_w r) rfl)
theorem sp0_m {env : Ep.Env} (r : RS) : fMake 2 F_Spread_init [.tup []] [] env r = .ok (sdT []) r := bind_ok (a := []) (r1 := r) rfl (bind_ok (empty_w r) rfl)
theorem n_appE {f g : Ep.Env → M T} {env : Ep.Env} {r r1 r2 : RS} {k : Nat} {t : T} {xs : List T} (h1 : g env r = .ok (.ref k) r1) (h2 : f env r1 = .ok t r2) (h3 : r2[k]? = some xs) (hl : xs.length < 100000) : qAppE g f env r = .nx env (r2.set k (xs ++ [t])) := by
  unfold qAppE ofM
  rw [h1]
  dsimp only
  rw [h2]
  dsimp only
  rw [h3]
  exact if_pos hl
/-! the odd arguments -/
theorem odd_w {k j : Nat} {r : RS} (h : St k j r) {ps : List Pr} (ok : ∀ p ∈ ps, Ok p) (hl : ps.length ≤ 20) : ∃ r', F__law_odd_right [.ref k, .lst (psT ps)] r = .ok (.bl true) r' := by
  obtain ⟨v, r1, e1, p1, v0, v1⟩ := draw (m := 4) h (by decide) (by decide)
  obtain ⟨o, ho, lo⟩ : ∃ o, ixT r1 (.tup [.non, .int 5, .str "row", .dct [] [], .tup [.int 1, .int 2]]) (.int v) = some o ∧ ∀ s, F_is_list [o] s = .ok (.bl false) s := by
    have : v = 0 ∨ v = 1 ∨ v = 2 ∨ v = 3 := by omega
    rcases this with rfl | rfl | rfl | rfl
    · exact ⟨_, rfl, fun s => rfl⟩
    · exact ⟨_, rfl, fun s => rfl⟩
    · exact ⟨_, rfl, fun s => rfl⟩
    · exact ⟨_, rfl, fun s => rfl⟩
  obtain ⟨m, em⟩ : ∃ m, m = r1.length := ⟨_, rfl⟩
  obtain ⟨r2, er2⟩ : ∃ r2, r2 = r1 ++ [ps.map stT] := ⟨_, rfl⟩
  have p2 : St k j r2 := er2 ▸ p1.app _
  have hm : r2[m]? = some (ps.map stT) := by rw [er2, em, List.getElem?_append_right (Nat.le_refl _), Nat.sub_self]; rfl
  obtain ⟨mk, mj⟩ : m ≠ k ∧ m ≠ j := by
    obtain ⟨xs, n, h1, h2, _⟩ := p1
    have := (List.getElem?_eq_some_iff.mp h1).1
    have := (List.getElem?_eq_some_iff.mp h2).1
    constructor <;> omega
  obtain ⟨x, r3, e3, p3, x0, x1, f3⟩ := drawF (m := (ps.length : Int) + 1) p2 (by omega) (by omega)
  obtain ⟨at_, rfl⟩ : ∃ n : Nat, x = (n : Int) := ⟨x.toNat, by omega⟩
  obtain ⟨y, r4, e4, p4, y0, y1, f4⟩ := drawF (m := 4) p3 (by decide) (by decide)
  have hm3 : r3[m]? = some (ps.map stT) := (f3 m mk mj).trans hm
  have hm4 : r4[m]? = some (ps.map stT) := (f4 m mk mj).trans hm3
  obtain ⟨q, hq, lq⟩ : ∃ q, ixT r4 (.tup [.tup [.int 0, .int 1], .non, .int 3, sdT []]) (.int y) = some q ∧ isiT tab q (.cl 3) = some (.bl false) := by
    have : y = 0 ∨ y = 1 ∨ y = 2 ∨ y = 3 := by omega
    rcases this with rfl | rfl | rfl | rfl
    · exact ⟨_, rfl, rfl⟩
    · exact ⟨_, rfl, rfl⟩
    · exact ⟨_, rfl, rfl⟩
    · exact ⟨_, rfl, rfl⟩
  obtain ⟨a, ea⟩ : ∃ a, a = Rg.united ps := ⟨_, rfl⟩
  have sa := sd_of ok
  rw [← ea] at sa
  have la := sa.len
  have mk1 : F_Spread_init [.ref m] r4 = .ok [.lst (psT a)] r4 := by
    rw [ea]
    exact spread_g (v := .ref m) (c := some (m, ps.map stT)) (by omega) (by show (r4[m]?).map _ = _; rw [hm4]; rfl) hm4 rfl
  obtain ⟨r5, er5⟩ : ∃ r5, r5 = r4.set m (ps.map stT ++ [stT (none, none)]) := ⟨_, rfl⟩
  obtain ⟨r7, er7⟩ : ∃ r7, r7 = (r5 ++ [a.map stT]).set r5.length (a.map stT ++ [stT (none, none)]) := ⟨_, rfl⟩
  refine ⟨r7, n_fn ?_⟩
  refine n_seq (n_set (t := o) (r1 := r1) (e_ix (x := .tup [.non, .int 5, .str "row", .dct [] [], .tup [.int 1, .int 2]]) (y := .int v) (r1 := r) (r2 := r1) rfl (x_call (ts := [.ref k, .int 4]) (r1 := r) rfl e1) ho)) ?_
  refine n_seq (n_ifF (r1 := r1) (e_cmpB (x := .tup [.str "part", .str "stretches"]) (y := .tup [.str "part", .str "stretches"]) (r1 := r1) (r2 := r1) (x_call (ts := [o]) (r1 := r1) rfl (ref_part (lo r1))) rfl ne_parts) rfl) ?_
  refine n_seq (n_set (t := .ref m) (r1 := r2) ?_) ?_
  · have c := comp_all (vs := [8, 9]) (h := hTupL 2 (hCons (hName 8) (hCons (hName 9) hNil))) (f := fMake 3 F_Stretch_init [] [(fVar 8), (fVar 9)]) (fi := fIter (fVar 1)) (env := [.val (.ref k), .val (.lst (psT ps)), .val o, .un, .un, .un, .un, .un, .un, .un, .un]) (r := r1) pT stT ps (x_it (t := .lst (psT ps)) (r1 := r1) rfl rfl) (fun p w => ⟨[.val (.ref k), .val (.lst (psT ps)), .val o, .un, .un, .un, .un, .un, .val (oTq p.1), .val (oTq p.2), .un], rfl, make_st (ok p w) rfl rfl⟩) (by omega)
    show fRef _ [.val (.ref k), .val (.lst (psT ps)), .val o, .un, .un, .un, .un, .un, .un, .un, .un] r1 = _
    unfold fRef
    rw [c, em, er2]
  refine n_seq (n_set (t := .int (at_ : Nat)) (r1 := r3) (x_call (ts := [.ref k, .int ((ps.length : Int) + 1)]) (r1 := r2) (e_cons (x := .ref k) (r1 := r2) rfl (e_cons (x := .int ((ps.length : Int) + 1)) (r1 := r2) (e_bin (x := .int (ps.length : Nat)) (y := .int 1) (r1 := r2) (r2 := r2) (e_b1 (x := .ref m) (r1 := r2) rfl (by
    show ((r2[m]?).map fun ys => T.int (ys.length : Nat)) = _
    rw [hm]
    show some (T.int ((ps.map stT).length : Nat)) = _
    rw [List.length_map])) rfl rfl) rfl)) e3)) ?_
  refine n_seq (n_set (t := q) (r1 := r4) (e_ix (x := .tup [.tup [.int 0, .int 1], .non, .int 3, sdT []]) (y := .int y) (r1 := r3) (r2 := r4) (e_tup (e_cons (x := .tup [.int 0, .int 1]) (r1 := r3) rfl (e_cons (x := .non) (r1 := r3) rfl (e_cons (x := .int 3) (r1 := r3) rfl (e_cons (x := sdT []) (r1 := r3) (sp0_m r3) rfl))))) (x_call (ts := [.ref k, .int 4]) (r1 := r3) rfl e4) hq)) ?_
  have ref := ref_index (ps := ps.take at_) (o := q) (more := .non :: (ps.drop at_).map stT) (s := r4) lq
  rw [List.length_take, Nat.min_eq_left (by omega)] at ref
  have lt : ((ps.map stT).take at_).length ≤ 20 := by rw [List.length_take, List.length_map]; omega
  have ld : ((ps.map stT).drop at_).length ≤ 20 := by rw [List.length_drop, List.length_map]; omega
  refine n_seq (n_ifF (r1 := r4) (e_cmpB (x := .tup [.str "index", .int (at_ : Nat)]) (y := .tup [.str "index", .int (at_ : Nat)]) (r1 := r4) (r2 := r4) (x_call (ts := [.lst ((ps.take at_).map stT ++ q :: .non :: (ps.drop at_).map stT)]) (r1 := r4) (e_cons (x := .lst ((ps.take at_).map stT ++ q :: .non :: (ps.drop at_).map stT)) (r1 := r4) (e_bin (x := .lst ((ps.map stT).take at_ ++ [q, .non])) (y := .lst ((ps.map stT).drop at_)) (r1 := r4) (r2 := r4) (e_bin (x := .lst ((ps.map stT).take at_)) (y := .lst [q, .non]) (r1 := r4) (r2 := r4) (x_sl0 (x := .ref m) (j := (at_ : Nat)) (r1 := r4) (r2 := r4) rfl rfl (sl_takeR hm4 at_)) rfl (add_lst (by simp; omega))) (x_sl1 (x := .ref m) (j := (at_ : Nat)) (r1 := r4) (r2 := r4) rfl rfl (sl_dropR hm4 at_)) ?_) rfl) ref) rfl (ne_index _)) rfl) ?_
  · have ad : addT (.lst ((ps.map stT).take at_ ++ [q, .non])) (.lst ((ps.map stT).drop at_)) = some (.lst (((ps.map stT).take at_ ++ [q, .non]) ++ (ps.map stT).drop at_)) := add_lst (by rw [List.length_append]; simp only [List.length_cons, List.length_nil]; omega)
    rw [ad, List.append_assoc, List.map_take, List.map_drop]
    rfl
  refine n_seq (n_set (t := sdT a) (r1 := r4) (x_make (ts := [.ref m]) (r1 := r4) rfl mk1)) ?_
  refine n_seq (n_set (t := .lst (psT a)) (r1 := r4) (row_s (i := 6) (jj := 10) rfl sa.ok (by omega) r4 fun p => ⟨_, rfl, rfl⟩)) ?_
  refine n_seq (n_appR (k := m) (xs := ps.map stT) (t := stT (none, none)) (r1 := r4) rfl (st0_m r4) hm4 (by rw [List.length_map]; omega)) ?_
  rw [← er5]
  refine n_seq (n_appE (k := r5.length) (r1 := r5 ++ [a.map stT]) (r2 := r5 ++ [a.map stT]) (xs := a.map stT) (t := stT (none, none)) (x_meth (vs := [.lst (psT a)]) (ts := []) (r1 := r5) (r2 := r5) rfl rfl (told_R sa.ok (by omega) r5)) (st0_m _) (by rw [List.getElem?_append_right (Nat.le_refl _), Nat.sub_self]; rfl) (by rw [List.length_map]; omega)) ?_
  rw [← er7]
  have nn := ne_ps a a
  rw [decide_eq_true rfl] at nn
  refine n_seq (n_ifF (r1 := r7) (e_cmpB (x := .lst (psT a)) (y := .lst (psT a)) (r1 := r7) (r2 := r7) (row_s (i := 6) (jj := 10) rfl sa.ok (by omega) r7 fun p => ⟨_, rfl, rfl⟩) rfl nn) rfl) ?_
  have q1 : F_Spread_eq [sdT a, .ref m] r7 = .ok (.bl false) r7 := n_fn (n_seqR (n_ret (e_andF (e_bin (x := .ref m) (y := .cl 2) (r1 := r7) (r2 := r7) rfl rfl rfl))))
  have q2 : F_Spread_le [sdT a, stT (none, none)] r7 = .ok (.bl false) r7 := n_fn (n_seqR (n_ret (e_andF (e_bin (x := stT (none, none)) (y := .cl 2) (r1 := r7) (r2 := r7) rfl rfl rfl))))
  refine n_seqR (n_frz (n_ret (e_andT (r1 := r7) (e_cmp (x := .bl false) (y := .bl false) (r1 := r7) (r2 := r7) (two_ok (x := sdT a) (y := .ref m) (r1 := r7) (r2 := r7) rfl rfl (e_own2r q1)) rfl is_ff) (e_andT (r1 := r7) (e_cmp (x := .bl false) (y := .bl false) (r1 := r7) (r2 := r7) (two_ok (x := sdT a) (y := stT (none, none)) (r1 := r7) (r2 := r7) rfl (st0_m r7) (e_own2y q2)) rfl is_ff) (e_cmp (x := .bl false) (y := .bl false) (r1 := r7) (r2 := r7) (x_meth (vs := [.lst (psT a)]) (ts := [.str "0"]) (r1 := r7) (r2 := r7) rfl rfl (holds_0 r7)) rfl is_ff)))))
end K03
/-! the law. -/
namespace K03
open PySem Ep L2 Stp Dr
theorem ne_b (β : Bool) : neT (.bl β) (.bl β) = some false := by cases β <;> rfl
theorem any_take (A : List Pr) (x : Int) (h : (A.take 1).any (Rg.pin x) = true) : A.any (Rg.pin x) = true := by
  obtain ⟨p, m, q⟩ := List.any_eq_true.mp h
  exact List.any_eq_true.mpr ⟨p, List.mem_of_mem_take m, q⟩
abbrev ptB : Sm := (qSeq (qIf (fCmpB neT (fMeth 2 F_Spread_holds [] (fVar 6) [(fVar 9)]) (fCall F__law_has [] [(fVar 2), (fVar 9)])) (qSeq (qRet (fC (.bl false)))
    qNil) qNil)
    qNil)
abbrev lE (ns : List Int) (ps qs A B : List Pr) (s9 : Slot) : Ep.Env := [.val (.kls (ns.map T.int)), .val (.ref 1), .val (.lst (psT ps)), .val (.lst (psT qs)), .val (.lst (psT A)), .val (.lst (psT B)), .val (sdT A), .val (sdT B), .val (.bl (A.any endl)), s9, .un, .un]
theorem pt_loop {ns : List Int} {ps qs A B : List Pr} {n : Nat} (SA : Sd A (fun x => ps.any (Rg.pin x)) n) (hn : n ≤ 1000) (r : RS) : ∀ (L : List Int) (s9 : Slot), ∃ s9', loopF (hName 9) ptB (zsT L) (lE ns ps qs A B s9) r = .nx (lE ns ps qs A B s9') r
  | [], s9 => ⟨s9, rfl⟩
  | x :: L, s9 => by
    obtain ⟨s9', e⟩ := pt_loop (ns := ns) (qs := qs) (B := B) SA hn r L (.val (.int x))
    have w := holds_w (a := A) (by have := SA.len; omega) x r
    rw [SA.has] at w
    exact ⟨s9', n_loop rfl (n_seq (n_ifF (r1 := r) (e_cmpB (x := .bl (ps.any (Rg.pin x))) (y := .bl (ps.any (Rg.pin x))) (r1 := r) (r2 := r) (x_meth (vs := [.lst (psT A)]) (ts := [.int x]) (r1 := r) (r2 := r) rfl rfl w) (x_call (ts := [.lst (psT ps), .int x]) (r1 := r) rfl (has_w ps x r)) (ne_b _)) rfl) rfl) e⟩
theorem rev_w (xs : List T) (r : RS) (f : Ep.Env → M T) (env : Ep.Env) (h : f env r = .ok (.lst xs) r) : fRev f env r = .ok (.lst xs.reverse) r := bind_ok h rfl
theorem law_holds (ns : List Int) (h : ns.length ≤ 63) : ∃ r, F_law [.kls (ns.map T.int)] [] = .ok (.bl true) r := by
  have st0 : St 1 0 [ns.map T.int, [.ref 0, .int 0]] := ⟨ns, 0, rfl, rfl, by decide⟩
  obtain ⟨ps, r1, e1, p1, okp, lp⟩ := some_w st0 (m := 5) (by decide)
  obtain ⟨qs, r, e2, p2, okq, lq⟩ := some_w p1 (m := 4) (by decide)
  obtain ⟨zs, ez, lz⟩ := points_w (ps := ps) (by omega) r
  obtain ⟨ro, eo⟩ := odd_w p2 okp (by omega)
  have SA := sd_of okp
  have SB := sd_of okq
  obtain ⟨A, eA⟩ : ∃ A, A = Rg.united ps := ⟨_, rfl⟩
  obtain ⟨B, eB⟩ : ∃ B, B = Rg.united qs := ⟨_, rfl⟩
  have mA := lspread_w okp (by omega) r
  have mB := lspread_w okq (by omega) r
  have tA := told_w okp (by omega) r
  have tB := told_w okq (by omega) r
  rw [← eA] at SA mA tA
  rw [← eB] at SB mB tB
  have SA := SA.mono (m := 5) (by omega)
  have SB := SB.mono (m := 4) (by omega)
  have lA := SA.len
  have lB := SB.len
  have mD := lspread_w SA.ok (by omega) r
  rw [SA.uni] at mD
  have okC : ∀ p ∈ ps.reverse ++ A.take 1, Ok p := fun p m => (List.mem_append.mp m).elim (fun m => okp p (List.mem_reverse.mp m)) fun m => SA.ok p (List.mem_of_mem_take m)
  have lC : (ps.reverse ++ A.take 1).length ≤ 6 := by rw [List.length_append, List.length_reverse, List.length_take]; omega
  have mC := lspread_w okC (by omega) r
  have SC := sd_of okC
  have eqD : F_Spread_eq [sdT A, sdT A] r = .ok (.bl true) r := eq_w SA SA ⟨fun _ x => rfl, fun _ => rfl⟩ r
  have sm : ∀ x, ps.any (Rg.pin x) = (ps.reverse ++ A.take 1).any (Rg.pin x) := fun x => by
    rw [any_app, any_rev]
    cases c : ps.any (Rg.pin x) with
    | true => rfl
    | false =>
      cases d : (A.take 1).any (Rg.pin x) with
      | false => rfl
      | true =>
        have z := any_take A x d
        rw [SA.has, c] at z
        cases z
  have eqC : F_Spread_eq [sdT A, sdT (Rg.united (ps.reverse ++ A.take 1))] r = .ok (.bl true) r := eq_w SA SC ⟨fun _ => sm, fun _ => rfl⟩ r
  have eqB : F_Spread_eq [sdT A, sdT B] r = .ok (.bl (decide (A = B))) r := eq_w SA SB (decide_eq_true_iff.trans (SA.iff SB)) r
  have ad : addT (.lst (psT ps).reverse) (.lst (psT (A.take 1))) = some (.lst (psT (ps.reverse ++ A.take 1))) := by
    rw [show psT (ps.reverse ++ A.take 1) = (psT ps).reverse ++ psT (A.take 1) by rw [← List.map_reverse]; exact List.map_append]
    exact add_lst (by rw [List.length_reverse, List.length_map, List.length_map, List.length_take]; omega)
  have tk : slT r (.lst (psT A)) none (some 1) = some (.lst (psT (A.take 1))) := by
    have := sl_take (psT A) 1 r
    rw [← List.map_take] at this
    exact this
  have nn := ne_ps A A
  rw [decide_eq_true rfl] at nn
  obtain ⟨s9, ptl⟩ := pt_loop (ns := ns) (qs := qs) (B := B) SA (by decide) r zs .un
  refine ⟨ro, n_fn ?_⟩
  refine n_seq (n_set (t := .ref 1) (r1 := [ns.map T.int, [.ref 0, .int 0]]) rfl) ?_
  refine n_seq (n_par2 (x := .lst (psT ps)) (y := .lst (psT qs)) (r1 := r1) (r2 := r) (x_call (ts := [.ref 1, .int (5 : Nat)]) (r1 := [ns.map T.int, [.ref 0, .int 0]]) rfl e1) (x_call (ts := [.ref 1, .int (4 : Nat)]) (r1 := r1) rfl e2)) ?_
  refine n_seq (n_par2 (x := .lst (psT A)) (y := .lst (psT B)) (r1 := r) (r2 := r) (x_call (ts := [.lst (psT ps)]) (r1 := r) rfl tA) (x_call (ts := [.lst (psT qs)]) (r1 := r) rfl tB)) ?_
  refine n_seq (n_par2 (x := sdT A) (y := sdT B) (r1 := r) (r2 := r) (x_call (ts := [.lst (psT ps)]) (r1 := r) rfl mA) (x_call (ts := [.lst (psT qs)]) (r1 := r) rfl mB)) ?_
  refine n_seq (n_ifF (r1 := r) (e_orBF (r1 := r) (e_cmpB (x := .lst (psT A)) (y := .lst (psT A)) (r1 := r) (r2 := r) (row_s (i := 6) (jj := 11) rfl SA.ok (by omega) r fun p => ⟨_, rfl, rfl⟩) rfl nn) (e_toB (b := false) (two_ok (x := sdT A) (y := sdT A) (r1 := r) (r2 := r) rfl (x_call (ts := [.lst (psT A)]) (r1 := r) rfl mD) (e_own2n eqD)))) rfl) ?_
  refine n_seq (n_ifF (r1 := r) (e_orBF (r1 := r) (e_toB (b := false) (two_ok (x := sdT A) (y := sdT (Rg.united (ps.reverse ++ A.take 1))) (r1 := r) (r2 := r) rfl (x_call (ts := [.lst (psT (ps.reverse ++ A.take 1))]) (r1 := r) (e_cons (x := .lst (psT (ps.reverse ++ A.take 1))) (r1 := r) (e_bin (x := .lst (psT ps).reverse) (y := .lst (psT (A.take 1))) (r1 := r) (r2 := r) (rev_w (psT ps) r _ _ rfl) (x_sl0 (x := .lst (psT A)) (j := 1) (r1 := r) (r2 := r) rfl rfl tk) ad) rfl) mC) (e_own2n eqC))) (e_cmpB (x := .bl (decide (A = B))) (y := .bl (decide (A = B))) (r1 := r) (r2 := r) (two_ok (x := sdT A) (y := sdT B) (r1 := r) (r2 := r) rfl rfl (e_own2s eqB)) (e_cmp (x := .lst (psT A)) (y := .lst (psT B)) (r1 := r) (r2 := r) rfl rfl (eq_ps A B)) (ne_b _))) rfl) ?_
  have fl := ne_ps (A.filter endl) []
  rw [filt_any] at fl
  refine n_seq (n_set (t := .bl (A.any endl)) (r1 := r) (e_cmp (x := .lst (psT (A.filter endl))) (y := .lst []) (r1 := r) (r2 := r) (e_own (comp_ok pT pT endl A (x_it (t := .lst (psT A)) (r1 := r) rfl rfl) (fun p m => ⟨_, rfl, e_cmpB (x := .non) (y := pT p) (r1 := r) (r2 := r) rfl rfl (in_p _ _), fun _ => rfl⟩) (by omega))) rfl fl)) ?_
  have en := endless_w (a := A) (by omega) r
  have enM : ∀ env : Ep.Env, env[6]? = some (.val (sdT A)) → fMeth 2 F_Spread_is_endless [] (fVar 6) [] env r = .ok (.bl (A.any endl)) r := fun env he => x_meth (vs := [.lst (psT A)]) (ts := []) (r1 := r) (r2 := r) (w_var he) rfl en
  refine n_seq (n_ifF (r1 := r) (e_orBF (r1 := r) (e_cmpB (x := .bl (A.any endl)) (y := .bl (A.any endl)) (r1 := r) (r2 := r) (enM _ rfl) rfl (ne_b _)) (x_notF (e_tru (x := .bl true) (r1 := r) (e_bin (x := .bl (A.any endl)) (y := .ty "bool") (r1 := r) (r2 := r) (enM _ rfl) rfl rfl) rfl))) rfl) ?_
  refine n_seq (n_ifF (r1 := r) (e_cmpB (x := pT (bP A)) (y := pT (bP A)) (r1 := r) (r2 := r) (x_meth (vs := [.lst (psT A)]) (ts := []) (r1 := r) (r2 := r) rfl rfl (bounds_w r)) (law_bounds (a := A) rfl) (ne_p _)) rfl) ?_
  refine n_seq (n_for (xs := zsT zs) (r1 := r) (x_it (t := .lst (zsT zs)) (r1 := r) (x_call (ts := [.lst (psT ps)]) (r1 := r) rfl ez) rfl) ptl) ?_
  exact n_seqR (n_ret (x_call (ts := [.ref 1, .lst (psT ps)]) (r1 := r) rfl eo))
end K03
namespace K03
open PySem PySem.Spec L2 He Ep PyProof.Rows
theorem final {w : World} {K : PySem.W.Frag} {h : Heap} {mg : Str → Option Value} {f0 : Addr} (KX : K.In h) (Ns : h.Ns mainGlobals mg) (hm : mg "law" = some (.ref f0)) (c : SaysD fa fns K) (ck : (chk K).all id = true)
    (e_BadIndex : supW K (ma K (ga K "BadIndex") "__init__") = supV "BadIndex.__init__" s_BadIndex_init) (e_BadPart : supW K (ma K (ga K "BadPart") "__init__") = supV "BadPart.__init__" s_BadPart_init) (e_Spread : supW K (ma K (ga K "Spread") "__init__") = supV "Spread.__init__" s_Spread_init) (e_Stretch : supW K (ma K (ga K "Stretch") "__init__") = supV "Stretch.__init__" s_Stretch_init) :
    ∃ (G : Gm) (f : List T → M T) (fd : FuncData) (cs : List (Addr × Addr)), G.K = K ∧ G.mg = mg ∧ (∀ (s : Shared) (u : Value), BindsTo s fd ⟨[u], []⟩ [("_law_script", u)]) ∧
      (∀ p ∈ cs, ∃ y ∈ ([] : List Str), PySem.W.tabIn K y = some p) ∧ (∀ p ∈ cs, K.lookup p.2 = none) ∧ (∀ t ∈ G.tb, ∃ c, (c, t.1) ∈ cs) ∧
      (∀ ns : List Int, ns.length ≤ 63 → (∀ z ∈ ns, Builtin.Int.intBits z ≤ 1048576) → ∃ r, f [.kls (ns.map T.int)] [] = .ok (.bl true) r) ∧ ∀ base : Heap, K.In base → base.Ns mainGlobals mg → (∀ p ∈ cs, LamX.TabB base mg p.1 p.2) → FnOk PW w G.K G.mg base (L2.CX PW w) 7 f0 fd ["_law_script"] (spF G 1 f) := by
  obtain ⟨fd, F⟩ := c.def_ 26
  have cl : mg "law" = some (.ref (ga K "law")) := glo_ok KX Ns (c.fact 48)
  have e : f0 = ga K "law" := Value.ref.inj (Option.some.inj (hm.symm.trans cl))
  subst e
  refine ⟨GG K mg, F_law, fd, cs K, rfl, rfl, fun s u => F.bindsA (ps := ["_law_script"]) (fun _ _ _ _ _ _ us hl => match us, hl with | [_], _ => rfl) s [u] rfl, fun p hp => ?_, fun p hp => ?_, fun t ht => ?_, fun ns h _ => law_holds ns h, fun base _ _ TB => ?_⟩
  · exact absurd hp List.not_mem_nil
  · exact absurd hp List.not_mem_nil
  · exact absurd (show t ∈ ([] : List (Addr × Str)) from ht) List.not_mem_nil
  · exact run_law (tx_of (wd := w) KX Ns c ck e_BadIndex e_BadPart e_Spread e_Stretch ) F
def eq_ : EndQ := ⟨chk, fun K => [supW K (ma K (ga K "BadIndex") "__init__"), supW K (ma K (ga K "BadPart") "__init__"), supW K (ma K (ga K "Spread") "__init__"), supW K (ma K (ga K "Stretch") "__init__")], [supV "BadIndex.__init__" s_BadIndex_init, supV "BadPart.__init__" s_BadPart_init, supV "Spread.__init__" s_Spread_init, supV "Stretch.__init__" s_Stretch_init], fun K => [], fun p => []⟩
abbrev RR : PySem.W.OpenRow := PySem.W.OpenLaw.row PySem.Challenge.rw_endlessplane_k03_spreads_told
noncomputable abbrev hk : PySem.W.Hook := hookS eq_ 20000 fa fns
noncomputable def ob (s : PySem.W.SharedT) : AlS := obsS eq_ 20000 fa fns (HandSHeadRun.getT s)
theorem ob_eq (s : PySem.W.SharedT) : ob s = hk.obs s.abs := obsS_eq s
def names0 : List Str := ["_wall", "is_integer", "is_list", "PlaneError", "BadPart", "BadNumber", "BadIndex", "check_integer", "check_remainder", "has_in", "common_pair", "by_lows", "united", "shared", "outside", "first_in", "first_of", "Members", "Stretch", "Spread", "spread_of", "_law_draw", "_law_number", "_law_ends", "_law_has", "_law_points", "_law_told", "_law_some", "_law_spread", "_law_refused"]
def names1 : List Str := ["_law_odd_right"]
def names_ : List Str := names0 ++ names1
namespace Cut
open PySem PySem.W PySem.Calls PyProof.Rows HandSHeadRun Ep.Hd
noncomputable section
abbrev P0 : Program := RR.prog
abbrev b_ (i : Nat) : Stmt := atB P0.main.body i
abbrev m_ (i j : Nat) : Stmt := atB (stB (b_ i)) j
def o0 (P : Params) : Obj := oO (vT "dict") none (.dict (List.toArray [dE P "__name__" 1 (vS "builtins" 160), dE P "__doc__" 2 (vB "builtins.__doc__:str#opaque"), dE P "__package__" 3 (vB "builtins.__package__:str#opaque"), dE P "__loader__" 4 (vB "builtins.__loader__:shared#opaque"), dE P "__spec__" 5 (vB "builtins.__spec__#opaque"), dE P "__build_class__" 6 (vB "__build_class__"), dE P "__import__" 7 (vB "__import__"), dE P "abs" 8 (vB "abs"), dE P "all" 9 (vB "all"), dE P "any" 10 (vB "any"), dE P "ascii" 11 (vB "ascii"), dE P "bin" 12 (vB "bin"), dE P "breakpoint" 13 (vB "breakpoint"), dE P "callable" 14 (vB "callable"), dE P "chr" 15 (vB "chr"), dE P "compile" 16 (vB "compile"), dE P "delattr" 17 (vB "delattr"), dE P "dir" 18 (vB "dir"), dE P "divmod" 19 (vB "divmod"), dE P "eval" 20 (vB "eval"), dE P "exec" 21 (vB "exec"), dE P "format" 22 (vB "format"), dE P "getattr" 23 (vB "getattr"), dE P "globals" 24 (vB "globals"), dE P "hasattr" 25 (vB "hasattr"), dE P "hash" 26 (vB "hash"), dE P "hex" 27 (vB "hex"), dE P "id" 28 (vB "id"), dE P "input" 29 (vB "input"), dE P "isinstance" 30 (vB "isinstance"), dE P "issubclass" 31 (vB "issubclass"), dE P "iter" 32 (vB "iter"), dE P "aiter" 33 (vB "aiter"), dE P "len" 34 (vB "len"), dE P "locals" 35 (vB "locals"), dE P "max" 36 (vB "max"), dE P "min" 37 (vB "min"), dE P "next" 38 (vB "next"), dE P "anext" 39 (vB "anext"), dE P "oct" 40 (vB "oct"), dE P "ord" 41 (vB "ord"), dE P "pow" 42 (vB "pow"), dE P "print" 43 (vB "print"), dE P "repr" 44 (vB "repr"), dE P "round" 45 (vB "round"), dE P "setattr" 46 (vB "setattr"), dE P "sorted" 47 (vB "sorted"), dE P "sum" 48 (vB "sum"), dE P "vars" 49 (vB "vars"), dE P "None" 50 vN, dE P "Ellipsis" 51 PySem.Value.ellipsis, dE P "NotImplemented" 52 PySem.Value.notImplemented, dE P "False" 53 (PySem.Value.bool false), dE P "True" 54 (PySem.Value.bool true), dE P "bool" 55 (vT "bool"), dE P "memoryview" 56 (vT "memoryview"), dE P "bytearray" 57 (vT "bytearray"), dE P "bytes" 58 (vT "bytes"), dE P "classmethod" 59 (vT "classmethod"), dE P "complex" 60 (vT "complex"), dE P "dict" 61 (vT "dict"), dE P "enumerate" 62 (vT "enumerate"), dE P "filter" 63 (vT "filter"), dE P "float" 64 (vT "float"), dE P "frozenset" 65 (vT "frozenset"), dE P "property" 66 (vT "property"), dE P "int" 67 (vT "int"), dE P "list" 68 (vT "list"), dE P "map" 69 (vT "map"), dE P "object" 70 (vT "object"), dE P "range" 71 (vT "range"), dE P "reversed" 72 (vT "reversed"), dE P "set" 73 (vT "set"), dE P "slice" 74 (vT "slice"), dE P "staticmethod" 75 (vT "staticmethod"), dE P "str" 76 (vT "str"), dE P "super" 77 (vT "super"), dE P "tuple" 78 (vT "tuple"), dE P "type" 79 (vT "type"), dE P "zip" 80 (vT "zip"), dE P "__debug__" 81 (PySem.Value.bool true), dE P "BaseException" 82 (vT "BaseException"), dE P "BaseExceptionGroup" 83 (vT "BaseExceptionGroup"), dE P "Exception" 84 (vT "Exception"), dE P "GeneratorExit" 85 (vT "GeneratorExit"), dE P "KeyboardInterrupt" 86 (vT "KeyboardInterrupt"), dE P "SystemExit" 87 (vT "SystemExit"), dE P "ArithmeticError" 88 (vT "ArithmeticError"), dE P "AssertionError" 89 (vT "AssertionError"), dE P "AttributeError" 90 (vT "AttributeError"), dE P "BufferError" 91 (vT "BufferError"), dE P "EOFError" 92 (vT "EOFError"), dE P "ImportError" 93 (vT "ImportError"), dE P "LookupError" 94 (vT "LookupError"), dE P "MemoryError" 95 (vT "MemoryError"), dE P "NameError" 96 (vT "NameError"), dE P "OSError" 97 (vT "OSError"), dE P "ReferenceError" 98 (vT "ReferenceError"), dE P "RuntimeError" 99 (vT "RuntimeError"), dE P "StopAsyncIteration" 100 (vT "StopAsyncIteration"), dE P "StopIteration" 101 (vT "StopIteration"), dE P "SyntaxError" 102 (vT "SyntaxError"), dE P "SystemError" 103 (vT "SystemError"), dE P "TypeError" 104 (vT "TypeError"), dE P "ValueError" 105 (vT "ValueError"), dE P "Warning" 106 (vT "Warning"), dE P "FloatingPointError" 107 (vT "FloatingPointError"), dE P "OverflowError" 108 (vT "OverflowError"), dE P "ZeroDivisionError" 109 (vT "ZeroDivisionError"), dE P "BytesWarning" 110 (vT "BytesWarning"), dE P "DeprecationWarning" 111 (vT "DeprecationWarning"), dE P "EncodingWarning" 112 (vT "EncodingWarning"), dE P "FutureWarning" 113 (vT "FutureWarning"), dE P "ImportWarning" 114 (vT "ImportWarning"), dE P "PendingDeprecationWarning" 115 (vT "PendingDeprecationWarning"), dE P "ResourceWarning" 116 (vT "ResourceWarning"), dE P "RuntimeWarning" 117 (vT "RuntimeWarning"), dE P "SyntaxWarning" 118 (vT "SyntaxWarning"), dE P "UnicodeWarning" 119 (vT "UnicodeWarning"), dE P "UserWarning" 120 (vT "UserWarning"), dE P "BlockingIOError" 121 (vT "BlockingIOError"), dE P "ChildProcessError" 122 (vT "ChildProcessError"), dE P "ConnectionError" 123 (vT "ConnectionError"), dE P "FileExistsError" 124 (vT "FileExistsError"), dE P "FileNotFoundError" 125 (vT "FileNotFoundError"), dE P "InterruptedError" 126 (vT "InterruptedError"), dE P "IsADirectoryError" 127 (vT "IsADirectoryError"), dE P "NotADirectoryError" 128 (vT "NotADirectoryError"), dE P "PermissionError" 129 (vT "PermissionError"), dE P "ProcessLookupError" 130 (vT "ProcessLookupError"), dE P "TimeoutError" 131 (vT "TimeoutError"), dE P "IndentationError" 132 (vT "IndentationError"), dE P "_IncompleteInputError" 133 (vT "_IncompleteInputError"), dE P "IndexError" 134 (vT "IndexError"), dE P "KeyError" 135 (vT "KeyError"), dE P "ModuleNotFoundError" 136 (vT "ModuleNotFoundError"), dE P "NotImplementedError" 137 (vT "NotImplementedError"), dE P "PythonFinalizationError" 138 (vT "PythonFinalizationError"), dE P "RecursionError" 139 (vT "RecursionError"), dE P "UnboundLocalError" 140 (vT "UnboundLocalError"), dE P "UnicodeError" 141 (vT "UnicodeError"), dE P "BrokenPipeError" 142 (vT "BrokenPipeError"), dE P "ConnectionAbortedError" 143 (vT "ConnectionAbortedError"), dE P "ConnectionRefusedError" 144 (vT "ConnectionRefusedError"), dE P "ConnectionResetError" 145 (vT "ConnectionResetError"), dE P "TabError" 146 (vT "TabError"), dE P "UnicodeDecodeError" 147 (vT "UnicodeDecodeError"), dE P "UnicodeEncodeError" 148 (vT "UnicodeEncodeError"), dE P "UnicodeTranslateError" 149 (vT "UnicodeTranslateError"), dE P "ExceptionGroup" 150 (vT "ExceptionGroup"), dE P "EnvironmentError" 151 (vT "OSError"), dE P "IOError" 152 (vT "OSError"), dE P "open" 153 (vB "open"), dE P "quit" 154 (vB "builtins.quit#opaque"), dE P "exit" 155 (vB "builtins.exit#opaque"), dE P "copyright" 156 (vB "builtins.copyright#opaque"), dE P "credits" 157 (vB "builtins.credits#opaque"), dE P "license" 158 (vB "builtins.license#opaque"), dE P "help" 159 (vB "builtins.help#opaque")]) 159) []
def o1 (P : Params) : Obj := oO (vT "dict") none (.dict (List.toArray [dE P "builtins" 162 (vR 4), dE P "__main__" 163 (vR 5)]) 2) []
def o2 : Obj := oO vN none (.dict (List.toArray []) 0) []
def o3 (P : Params) : Obj := oO (vT "dict") none (.dict (List.toArray [dE P "__name__" 165 (vS "__main__" 164), dE P "__doc__" 166 vN, dE P "__package__" 167 vN, dE P "__loader__" 168 (vB "__main__.__loader__#opaque"), dE P "__spec__" 169 vN, dE P "__annotations__" 170 (vR 6), dE P "__builtins__" 171 (vR 4), dE P "__file__" 173 (vS "/claim/cut.py" 172), dE P "__cached__" 174 vN]) 9) []
def o4 : Obj := oO (vT "module") (some 0) PySem.Data.plain []
def o5 : Obj := oO (vT "module") (some 3) PySem.Data.plain []
def o6 : Obj := oO (vT "dict") none (.dict (List.toArray []) 0) []
def o7 : Obj := oT []
def o8 : Obj := oF []
def o9 : Obj := cD "<module>" "<module>" 176 1 0 0 0 0 7 false 175 8 [vN, vN, vN, vN] 179 1
def o10 : Obj := oO (vT "frame") none PySem.Data.plain [(some (vR 9)), (some (vR 3)), (some (vR 3)), none, (some (vS "__main__" 164)), none, (some (vR 0))]
def o11 : Obj := cD "<module>" "<module>" 182 1 0 0 0 0 11 false 181 12 [vN, vN, vN, vN] 185 1
def o12 : Obj := oO (vT "frame") none PySem.Data.plain [(some (vR 13)), (some (vR 3)), (some (vR 3)), none, (some (vS "__main__" 164)), none, (some (vR 0))]
def tA (P : Params) : BT := (nN (o0 P) (nN (o1 P) (nN (o3 P) (nN o7 nL nL) (nN o7 nL nL)) (nN o5 (nN o9 nL nL) (nN o11 nL nL))) (nN o2 (nN o4 (nN o8 nL nL) (nN o8 nL nL)) (nN o6 (nN o10 nL nL) (nN o12 nL nL))))
def fA : Fin_ := ⟨tA, 15, (PySem.Life.mk [] [] [] 0 [] [] false (List.toArray []) [] 0 false false false 0 [2000, 10, 10] false 0 true [] [] 0 false), (List.toArray []), (PySem.Drawn.mk 0 0 0 0), 187⟩
def fB : Fin_ := ⟨tA, 15, (PySem.Life.mk [] [] [] 0 [] [] false (List.toArray []) [] 0 false false false 0 [2000, 10, 10] false 0 true [] [] 0 false), (List.toArray []), (PySem.Drawn.mk 0 0 0 0), 187⟩
def o13 (P : Params) : Obj := oO (vT "dict") none (.dict (List.toArray [dE P "__name__" 165 (vS "endlessplane.stretches" 311), dE P "__doc__" 166 vN, dE P "__package__" 167 vN, dE P "__loader__" 168 (vB "__main__.__loader__#opaque"), dE P "__spec__" 169 vN, dE P "__annotations__" 170 (vR 6), dE P "__builtins__" 171 (vR 4), dE P "__file__" 173 (vS "/claim/cut.py" 172), dE P "__cached__" 174 vN, dE P "_wall" 193 (vR 21), dE P "is_integer" 202 (vR 28), dE P "is_list" 209 (vR 35), dE P "PlaneError" 229 (vR 45), dE P "BadPart" 256 (vR 67), dE P "BadNumber" 283 (vR 88), dE P "BadIndex" 310 (vR 109), dE P "check_integer" 319 (vR 118), dE P "check_remainder" 327 (vR 125), dE P "has_in" 337 (vR 132), dE P "common_pair" 347 (vR 139), dE P "by_lows" 353 (vR 144), dE P "united" 365 (vR 151), dE P "shared" 371 (vR 156), dE P "outside" 382 (vR 163), dE P "first_in" 394 (vR 170), dE P "first_of" 400 (vR 175), dE P "Members" 492 (vR 237)]) 27) []
def o14 : Obj := oF [(vI 1 0), (vI 0 0), (vR 20), (vI 5 0), (vI 0 0), (vR 27), (vI 7 0), (vI 0 0), (vR 34), (vI 10 0), (vI 0 0), (vR 41), (vI 12 0), (vI 0 0), (vR 55), (vI 17 0), (vI 0 0), (vR 76), (vI 22 0), (vI 0 0), (vR 97), (vI 28 0), (vI 0 0), (vR 117), (vI 31 0), (vI 0 0), (vR 124), (vI 35 0), (vI 0 0), (vR 131), (vI 38 0), (vI 0 0), (vR 138), (vI 42 0), (vI 0 0), (vR 143), (vI 48 0), (vI 0 0), (vR 150), (vI 57 0), (vI 0 0), (vR 155), (vI 62 0), (vI 0 0), (vR 162), (vI 72 0), (vI 0 0), (vR 169), (vI 78 0), (vI 0 0), (vR 174), (vI 84 0), (vI 0 0), (vR 181)]
def o15 : Obj := oT [(vS "k" 190)]
def o16 : Obj := rD "_wall" "_wall" (stA (b_ 0)) (b_ 0)
def o17 : Obj := cD "_wall" "_wall" 187 1 1 0 0 3 15 true 181 16 [vN, (vR 17), (vR 18), (vR 19)] 191 1
def o18 : Obj := fD "_wall" "_wall" (b_ 0) [] vN vN vN "__main__" 164 20 vN
def o19 : Obj := oT [(vS "value" 199)]
def o20 : Obj := rD "is_integer" "is_integer" (stA (b_ 2)) (b_ 2)
def o21 : Obj := cD "is_integer" "is_integer" 196 5 1 0 0 3 22 true 181 23 [vN, (vR 24), (vR 25), (vR 26)] 200 5
def o22 : Obj := fD "is_integer" "is_integer" (b_ 2) [] vN vN vN "endlessplane.common" 194 27 vN
def o23 : Obj := oT [(vS "value" 206)]
def o24 : Obj := rD "is_list" "is_list" (stA (b_ 3)) (b_ 3)
def o25 : Obj := cD "is_list" "is_list" 203 7 1 0 0 3 29 true 181 30 [vN, (vR 31), (vR 32), (vR 33)] 207 7
def o26 : Obj := fD "is_list" "is_list" (b_ 3) [] vN vN vN "endlessplane.common" 194 34 vN
def o27 : Obj := oT [(vT "ValueError")]
def o28 : Obj := oO (vT "builtin_function_or_method") none (.fields (List.toArray [(vB "type.__prepare__"), (vT "type")])) []
def o29 (P : Params) : Obj := oO (vT "dict") none (.dict (List.toArray [dE P "__module__" 219 (vS "endlessplane.errors" 210), dE P "__qualname__" 221 (vS "PlaneError" 220), dE P "__firstlineno__" 223 (vI 10 222), dE P "__static_attributes__" 224 (vR 43)]) 4) []
def o30 : Obj := cD "PlaneError" "PlaneError" 214 10 0 0 0 0 39 false 181 40 [vN, vN, vN, vN] 217 10
def o31 : Obj := oO (vT "frame") none PySem.Data.plain [(some (vR 41)), (some (vR 3)), (some (vR 38)), none, (some (vS "endlessplane.errors" 210)), none, (some (vR 0))]
def o32 (P : Params) : Obj := oO (vT "dict") none (.dict (List.toArray [dE P "__module__" 219 (vS "endlessplane.errors" 210), dE P "__firstlineno__" 223 (vI 10 222), dE P "__static_attributes__" 224 (vR 43), dE P "__weakref__" 226 (vR 46), dE P "__doc__" 227 vN]) 3) []
def o33 : Obj := oO (vT "type") none (PySem.Data.cls (PySem.ClassData.mk (PySem.Str.ofString "PlaneError") [(vT "ValueError")] [(vR 45), (vT "ValueError"), (vT "Exception"), (vT "BaseException"), (vT "object")] 44 (PySem.Str.ofString "PlaneError") true [] [(vR 67), (vR 88), (vR 109)] false (Option.none) false)) [(some (vR 36)), none, (some (vS "PlaneError" 212)), (some (vS "PlaneError" 220)), (some (vB "ValueError.__new__")), (some (PySem.Value.bool true))]
def o34 : Obj := oO (vT "getset_descriptor") none (.fields (List.toArray [(vS "__weakref__" 225), (vR 45), (vB "ExceptionGroup.__weakref__"), vN])) []
def o35 : Obj := oO (vT "super") none (.fields (List.toArray [(vR 45), (vR 45), (vR 45)])) []
def o36 : Obj := oO (vT "builtin_function_or_method") none (.fields (List.toArray [(vB "object.__init_subclass__"), (vR 45)])) []
def o37 : Obj := oT [(vR 45)]
def o38 (P : Params) : Obj := oO (vT "dict") none (.dict (List.toArray [dE P "__module__" 237 (vS "endlessplane.errors" 210), dE P "__qualname__" 239 (vS "BadPart" 238), dE P "__firstlineno__" 241 (vI 12 240), dE P "__init__" 250 (vR 64), dE P "__static_attributes__" 252 (vR 65), dE P "__classcell__" 253 (vR 52)]) 6) []
def o39 : Obj := oO (vT "cell") none (PySem.Data.cell (Option.some (vR 67))) []
def o40 : Obj := oF [(vI 14 0), (vI 4 0), (vR 63)]
def o41 : Obj := cD "BadPart" "BadPart" 232 12 0 0 0 0 53 false 181 54 [vN, vN, vN, vN] 235 12
def o42 : Obj := oO (vT "frame") none PySem.Data.plain [(some (vR 55)), (some (vR 3)), (some (vR 51)), none, (some (vS "endlessplane.errors" 210)), none, (some (vR 0))]
def o43 : Obj := oT [(vR 52)]
def o44 : Obj := oT [(vS "__class__" 245)]
def o45 : Obj := oT [(vS "self" 246), (vS "part" 247)]
def o46 : Obj := rD "__init__" "BadPart.__init__" (stA (m_ 6 0)) (m_ 6 0)
def o47 : Obj := cD "__init__" "BadPart.__init__" 242 14 2 0 0 3 58 true 181 59 [vN, (vR 60), (vR 61), (vR 62)] 248 14
def o48 : Obj := fD "__init__" "BadPart.__init__" (m_ 6 0) [(Prod.mk (PySem.Str.ofString "__class__") 52)] vN vN vN "endlessplane.errors" 210 63 (vR 57)
def o49 : Obj := oT [(vS "part" 251)]
def o50 (P : Params) : Obj := oO (vT "dict") none (.dict (List.toArray [dE P "__module__" 237 (vS "endlessplane.errors" 210), dE P "__firstlineno__" 241 (vI 12 240), dE P "__init__" 250 (vR 64), dE P "__static_attributes__" 252 (vR 65), dE P "__doc__" 254 vN]) 3) []
def o51 : Obj := oO (vT "type") none (PySem.Data.cls (PySem.ClassData.mk (PySem.Str.ofString "BadPart") [(vR 45)] [(vR 67), (vR 45), (vT "ValueError"), (vT "Exception"), (vT "BaseException"), (vT "object")] 66 (PySem.Str.ofString "BadPart") true [] [] false (Option.none) false)) [(some (vR 49)), none, (some (vS "BadPart" 230)), (some (vS "BadPart" 238)), (some (vB "ValueError.__new__")), (some (PySem.Value.bool true))]
def o52 : Obj := oO (vT "super") none (.fields (List.toArray [(vR 67), (vR 67), (vR 67)])) []
def o53 : Obj := oO (vT "builtin_function_or_method") none (.fields (List.toArray [(vB "object.__init_subclass__"), (vR 67)])) []
def o54 (P : Params) : Obj := oO (vT "dict") none (.dict (List.toArray [dE P "__module__" 264 (vS "endlessplane.errors" 210), dE P "__qualname__" 266 (vS "BadNumber" 265), dE P "__firstlineno__" 268 (vI 17 267), dE P "__init__" 277 (vR 85), dE P "__static_attributes__" 279 (vR 86), dE P "__classcell__" 280 (vR 73)]) 6) []
def o55 : Obj := oO (vT "cell") none (PySem.Data.cell (Option.some (vR 88))) []
def o56 : Obj := oF [(vI 19 0), (vI 4 0), (vR 84)]
def o57 : Obj := cD "BadNumber" "BadNumber" 259 17 0 0 0 0 74 false 181 75 [vN, vN, vN, vN] 262 17
def o58 : Obj := oO (vT "frame") none PySem.Data.plain [(some (vR 76)), (some (vR 3)), (some (vR 72)), none, (some (vS "endlessplane.errors" 210)), none, (some (vR 0))]
def o59 : Obj := oT [(vR 73)]
def o60 : Obj := oT [(vS "__class__" 272)]
def o61 : Obj := oT [(vS "self" 273), (vS "number" 274)]
def o62 : Obj := rD "__init__" "BadNumber.__init__" (stA (m_ 7 0)) (m_ 7 0)
def o63 : Obj := cD "__init__" "BadNumber.__init__" 269 19 2 0 0 3 79 true 181 80 [vN, (vR 81), (vR 82), (vR 83)] 275 19
def o64 : Obj := fD "__init__" "BadNumber.__init__" (m_ 7 0) [(Prod.mk (PySem.Str.ofString "__class__") 73)] vN vN vN "endlessplane.errors" 210 84 (vR 78)
def o65 : Obj := oT [(vS "number" 278)]
def o66 (P : Params) : Obj := oO (vT "dict") none (.dict (List.toArray [dE P "__module__" 264 (vS "endlessplane.errors" 210), dE P "__firstlineno__" 268 (vI 17 267), dE P "__init__" 277 (vR 85), dE P "__static_attributes__" 279 (vR 86), dE P "__doc__" 281 vN]) 3) []
def o67 : Obj := oO (vT "type") none (PySem.Data.cls (PySem.ClassData.mk (PySem.Str.ofString "BadNumber") [(vR 45)] [(vR 88), (vR 45), (vT "ValueError"), (vT "Exception"), (vT "BaseException"), (vT "object")] 87 (PySem.Str.ofString "BadNumber") true [] [] false (Option.none) false)) [(some (vR 70)), none, (some (vS "BadNumber" 257)), (some (vS "BadNumber" 265)), (some (vB "ValueError.__new__")), (some (PySem.Value.bool true))]
def o68 : Obj := oO (vT "super") none (.fields (List.toArray [(vR 88), (vR 88), (vR 88)])) []
def o69 : Obj := oO (vT "builtin_function_or_method") none (.fields (List.toArray [(vB "object.__init_subclass__"), (vR 88)])) []
def o70 (P : Params) : Obj := oO (vT "dict") none (.dict (List.toArray [dE P "__module__" 291 (vS "endlessplane.errors" 210), dE P "__qualname__" 293 (vS "BadIndex" 292), dE P "__firstlineno__" 295 (vI 22 294), dE P "__init__" 304 (vR 106), dE P "__static_attributes__" 306 (vR 107), dE P "__classcell__" 307 (vR 94)]) 6) []
def o71 : Obj := oO (vT "cell") none (PySem.Data.cell (Option.some (vR 109))) []
def o72 : Obj := oF [(vI 24 0), (vI 4 0), (vR 105)]
def o73 : Obj := cD "BadIndex" "BadIndex" 286 22 0 0 0 0 95 false 181 96 [vN, vN, vN, vN] 289 22
def o74 : Obj := oO (vT "frame") none PySem.Data.plain [(some (vR 97)), (some (vR 3)), (some (vR 93)), none, (some (vS "endlessplane.errors" 210)), none, (some (vR 0))]
def o75 : Obj := oT [(vR 94)]
def o76 : Obj := oT [(vS "__class__" 299)]
def o77 : Obj := oT [(vS "self" 300), (vS "index" 301)]
def o78 : Obj := rD "__init__" "BadIndex.__init__" (stA (m_ 8 0)) (m_ 8 0)
def o79 : Obj := cD "__init__" "BadIndex.__init__" 296 24 2 0 0 3 100 true 181 101 [vN, (vR 102), (vR 103), (vR 104)] 302 24
def o80 : Obj := fD "__init__" "BadIndex.__init__" (m_ 8 0) [(Prod.mk (PySem.Str.ofString "__class__") 94)] vN vN vN "endlessplane.errors" 210 105 (vR 99)
def o81 : Obj := oT [(vS "index" 305)]
def o82 (P : Params) : Obj := oO (vT "dict") none (.dict (List.toArray [dE P "__module__" 291 (vS "endlessplane.errors" 210), dE P "__firstlineno__" 295 (vI 22 294), dE P "__init__" 304 (vR 106), dE P "__static_attributes__" 306 (vR 107), dE P "__doc__" 308 vN]) 3) []
def o83 : Obj := oO (vT "type") none (PySem.Data.cls (PySem.ClassData.mk (PySem.Str.ofString "BadIndex") [(vR 45)] [(vR 109), (vR 45), (vT "ValueError"), (vT "Exception"), (vT "BaseException"), (vT "object")] 108 (PySem.Str.ofString "BadIndex") true [] [] false (Option.none) false)) [(some (vR 91)), none, (some (vS "BadIndex" 284)), (some (vS "BadIndex" 292)), (some (vB "ValueError.__new__")), (some (PySem.Value.bool true))]
def o84 : Obj := oO (vT "super") none (.fields (List.toArray [(vR 109), (vR 109), (vR 109)])) []
def o85 : Obj := oO (vT "builtin_function_or_method") none (.fields (List.toArray [(vB "object.__init_subclass__"), (vR 109)])) []
def o86 : Obj := oT [(vS "number" 316)]
def o87 : Obj := rD "check_integer" "check_integer" (stA (b_ 10)) (b_ 10)
def o88 : Obj := cD "check_integer" "check_integer" 313 28 1 0 0 3 112 true 181 113 [vN, (vR 114), (vR 115), (vR 116)] 317 28
def o89 : Obj := fD "check_integer" "check_integer" (b_ 10) [] vN vN vN "endlessplane.stretches" 311 117 vN
def o90 : Obj := oT [(vS "r" 323), (vS "p" 324)]
def o91 : Obj := rD "check_remainder" "check_remainder" (stA (b_ 11)) (b_ 11)
def o92 : Obj := cD "check_remainder" "check_remainder" 320 31 2 0 0 3 119 true 181 120 [vN, (vR 121), (vR 122), (vR 123)] 325 31
def o93 : Obj := fD "check_remainder" "check_remainder" (b_ 11) [] vN vN vN "endlessplane.stretches" 311 124 vN
def o94 : Obj := oT [(vS "pair" 331), (vS "number" 332), (vS "low" 333), (vS "high" 334)]
def o95 : Obj := rD "has_in" "has_in" (stA (b_ 12)) (b_ 12)
def o96 : Obj := cD "has_in" "has_in" 328 35 2 0 0 3 126 true 181 127 [vN, (vR 128), (vR 129), (vR 130)] 335 35
def o97 : Obj := fD "has_in" "has_in" (b_ 12) [] vN vN vN "endlessplane.stretches" 311 131 vN
def o98 : Obj := oT [(vS "one" 341), (vS "other" 342), (vS "low" 343), (vS "high" 344)]
def o99 : Obj := rD "common_pair" "common_pair" (stA (b_ 13)) (b_ 13)
def o100 : Obj := cD "common_pair" "common_pair" 338 38 2 0 0 3 133 true 181 134 [vN, (vR 135), (vR 136), (vR 137)] 345 38
def o101 : Obj := fD "common_pair" "common_pair" (b_ 13) [] vN vN vN "endlessplane.stretches" 311 138 vN
def o102 : Obj := rD "by_lows" "by_lows" (stA (b_ 14)) (b_ 14)
def o103 : Obj := cD "by_lows" "by_lows" 348 42 1 0 0 3 140 true 181 141 [vN, vN, vN, (vR 142)] 351 42
def o104 : Obj := fD "by_lows" "by_lows" (b_ 14) [] vN vN vN "endlessplane.stretches" 311 143 vN
def o105 : Obj := oT [(vS "pairs" 357), (vS "found" 358), (vS "low" 359), (vS "high" 360), (vS "first" 361), (vS "end" 362)]
def o106 : Obj := rD "united" "united" (stA (b_ 15)) (b_ 15)
def o107 : Obj := cD "united" "united" 354 48 1 0 0 3 145 true 181 146 [vN, (vR 147), (vR 148), (vR 149)] 363 48
def o108 : Obj := fD "united" "united" (b_ 15) [] vN vN vN "endlessplane.stretches" 311 150 vN
def o109 : Obj := rD "shared" "shared" (stA (b_ 16)) (b_ 16)
def o110 : Obj := cD "shared" "shared" 366 57 2 0 0 3 152 true 181 153 [vN, vN, vN, (vR 154)] 369 57
def o111 : Obj := fD "shared" "shared" (b_ 16) [] vN vN vN "endlessplane.stretches" 311 155 vN
def o112 : Obj := oT [(vS "pairs" 375), (vS "found" 376), (vS "low" 377), (vS "begin" 378), (vS "end" 379)]
def o113 : Obj := rD "outside" "outside" (stA (b_ 17)) (b_ 17)
def o114 : Obj := cD "outside" "outside" 372 62 1 0 0 3 157 true 181 158 [vN, (vR 159), (vR 160), (vR 161)] 380 62
def o115 : Obj := fD "outside" "outside" (b_ 17) [] vN vN vN "endlessplane.stretches" 311 162 vN
def o116 : Obj := oT [(vS "pair" 386), (vS "r" 387), (vS "p" 388), (vS "low" 389), (vS "high" 390), (vS "first" 391)]
def o117 : Obj := rD "first_in" "first_in" (stA (b_ 18)) (b_ 18)
def o118 : Obj := cD "first_in" "first_in" 383 72 3 0 0 3 164 true 181 165 [vN, (vR 166), (vR 167), (vR 168)] 392 72
def o119 : Obj := fD "first_in" "first_in" (b_ 18) [] vN vN vN "endlessplane.stretches" 311 169 vN
def o120 : Obj := rD "first_of" "first_of" (stA (b_ 19)) (b_ 19)
def o121 : Obj := cD "first_of" "first_of" 395 78 3 0 0 3 171 true 181 172 [vN, vN, vN, (vR 173)] 398 78
def o122 : Obj := fD "first_of" "first_of" (b_ 19) [] vN vN vN "endlessplane.stretches" 311 174 vN
def o123 (P : Params) : Obj := oO (vT "dict") none (.dict (List.toArray [dE P "__module__" 408 (vS "endlessplane.stretches" 311), dE P "__qualname__" 410 (vS "Members" 409), dE P "__firstlineno__" 412 (vI 84 411), dE P "__init__" 420 (vR 189), dE P "holds" 426 (vR 194), dE P "count" 437 (vR 202), dE P "first" 448 (vR 210), dE P "final" 459 (vR 218), dE P "nth" 471 (vR 226), dE P "below" 483 (vR 234), dE P "__static_attributes__" 485 (vR 235)]) 11) []
def o124 : Obj := oF [(vI 86 0), (vI 4 0), (vR 188), (vI 89 0), (vI 4 0), (vR 193), (vI 92 0), (vI 4 0), (vR 201), (vI 95 0), (vI 4 0), (vR 209), (vI 99 0), (vI 4 0), (vR 217), (vI 102 0), (vI 4 0), (vR 225), (vI 105 0), (vI 4 0), (vR 233)]
def o125 : Obj := cD "Members" "Members" 403 84 0 0 0 0 179 false 181 180 [vN, vN, vN, vN] 406 84
def o126 : Obj := oO (vT "frame") none PySem.Data.plain [(some (vR 181)), (some (vR 3)), (some (vR 178)), none, (some (vS "endlessplane.stretches" 311)), none, (some (vR 0))]
def o127 : Obj := oT [(vS "self" 416), (vS "pairs" 417)]
def o128 : Obj := rD "__init__" "Members.__init__" (stA (m_ 20 0)) (m_ 20 0)
def o129 : Obj := cD "__init__" "Members.__init__" 413 86 2 0 0 3 183 true 181 184 [vN, (vR 185), (vR 186), (vR 187)] 418 86
def o130 : Obj := fD "__init__" "Members.__init__" (m_ 20 0) [] vN vN vN "endlessplane.stretches" 311 188 vN
def o131 : Obj := rD "holds" "Members.holds" (stA (m_ 20 1)) (m_ 20 1)
def o132 : Obj := cD "holds" "Members.holds" 421 89 2 0 0 3 190 true 181 191 [vN, vN, vN, (vR 192)] 424 89
def o133 : Obj := fD "holds" "Members.holds" (m_ 20 1) [] vN vN vN "endlessplane.stretches" 311 193 vN
def o134 : Obj := oT [(vI 0 427), (vI 1 428)]
def o135 : Obj := oT [(vS "self" 432), (vS "r" 433), (vS "p" 434)]
def o136 : Obj := rD "count" "Members.count" (stA (m_ 20 2)) (m_ 20 2)
def o137 : Obj := cD "count" "Members.count" 429 92 3 0 0 3 196 true 181 197 [vN, (vR 198), (vR 199), (vR 200)] 435 92
def o138 : Obj := fD "count" "Members.count" (m_ 20 2) [] (vR 195) vN vN "endlessplane.stretches" 311 201 vN
def o139 : Obj := oT [(vI 0 438), (vI 1 439)]
def o140 : Obj := oT [(vS "self" 443), (vS "r" 444), (vS "p" 445)]
def o141 : Obj := rD "first" "Members.first" (stA (m_ 20 3)) (m_ 20 3)
def o142 : Obj := cD "first" "Members.first" 440 95 3 0 0 3 204 true 181 205 [vN, (vR 206), (vR 207), (vR 208)] 446 95
def o143 : Obj := fD "first" "Members.first" (m_ 20 3) [] (vR 203) vN vN "endlessplane.stretches" 311 209 vN
def o144 : Obj := oT [(vI 0 449), (vI 1 450)]
def o145 : Obj := oT [(vS "self" 454), (vS "r" 455), (vS "p" 456)]
def o146 : Obj := rD "final" "Members.final" (stA (m_ 20 4)) (m_ 20 4)
def o147 : Obj := cD "final" "Members.final" 451 99 3 0 0 3 212 true 181 213 [vN, (vR 214), (vR 215), (vR 216)] 457 99
def o148 : Obj := fD "final" "Members.final" (m_ 20 4) [] (vR 211) vN vN "endlessplane.stretches" 311 217 vN
def o149 : Obj := oT [(vI 0 460), (vI 1 461)]
def o150 : Obj := oT [(vS "self" 465), (vS "n" 466), (vS "r" 467), (vS "p" 468)]
def o151 : Obj := rD "nth" "Members.nth" (stA (m_ 20 5)) (m_ 20 5)
def o152 : Obj := cD "nth" "Members.nth" 462 102 4 0 0 3 220 true 181 221 [vN, (vR 222), (vR 223), (vR 224)] 469 102
def o153 : Obj := fD "nth" "Members.nth" (m_ 20 5) [] (vR 219) vN vN "endlessplane.stretches" 311 225 vN
def o154 : Obj := oT [(vI 0 472), (vI 1 473)]
def o155 : Obj := oT [(vS "self" 477), (vS "number" 478), (vS "r" 479), (vS "p" 480)]
def o156 : Obj := rD "below" "Members.below" (stA (m_ 20 6)) (m_ 20 6)
def o157 : Obj := cD "below" "Members.below" 474 105 4 0 0 3 228 true 181 229 [vN, (vR 230), (vR 231), (vR 232)] 481 105
def o158 : Obj := fD "below" "Members.below" (m_ 20 6) [] (vR 227) vN vN "endlessplane.stretches" 311 233 vN
def o159 : Obj := oT [(vS "own_pairs" 484)]
def o160 (P : Params) : Obj := oO (vT "dict") none (.dict (List.toArray [dE P "__module__" 408 (vS "endlessplane.stretches" 311), dE P "__firstlineno__" 412 (vI 84 411), dE P "__init__" 420 (vR 189), dE P "holds" 426 (vR 194), dE P "count" 437 (vR 202), dE P "first" 448 (vR 210), dE P "final" 459 (vR 218), dE P "nth" 471 (vR 226), dE P "below" 483 (vR 234), dE P "__static_attributes__" 485 (vR 235), dE P "__dict__" 487 (vR 238), dE P "__weakref__" 489 (vR 239), dE P "__doc__" 490 vN]) 4) []
def o161 : Obj := oO (vT "type") none (PySem.Data.cls (PySem.ClassData.mk (PySem.Str.ofString "Members") [(vT "object")] [(vR 237), (vT "object")] 236 (PySem.Str.ofString "Members") true [] [] false (Option.none) false)) [none, none, (some (vS "Members" 401)), (some (vS "Members" 409)), (some (vB "object.__new__")), (some (PySem.Value.bool true))]
def o162 : Obj := oO (vT "getset_descriptor") none (.fields (List.toArray [(vS "__dict__" 486), (vR 237), (vB "function.__dict__"), (vB "function.__dict__#set")])) []
def o163 : Obj := oO (vT "getset_descriptor") none (.fields (List.toArray [(vS "__weakref__" 488), (vR 237), (vB "ExceptionGroup.__weakref__"), vN])) []
def o164 : Obj := oO (vT "super") none (.fields (List.toArray [(vR 237), (vR 237), (vR 237)])) []
def o165 : Obj := oO (vT "builtin_function_or_method") none (.fields (List.toArray [(vB "object.__init_subclass__"), (vR 237)])) []
def t0 (P : Params) : BT := (nN (o0 P) (nN (o1 P) (nN (o13 P) (nN o7 (nN o7 (nN o23 (nN o47 (nN o8 nL nL) (nN o8 nL nL)) (nN o7 (nN o112 nL nL) (nN o7 nL nL))) (nN o35 (nN o60 (nN o103 nL nL) (nN o7 nL nL)) (nN o85 (nN o122 nL nL) (nN o163 nL nL)))) (nN o8 (nN o7 (nN o28 (nN o98 nL nL) (nN o7 nL nL)) (nN o7 (nN o7 nL nL) (nN o7 nL nL))) (nN o41 (nN (o66 P) (nN o108 nL nL) (nN o7 nL nL)) (nN o7 (nN o7 nL nL) nL)))) (nN o7 (nN o16 (nN o26 (nN o51 (nN o96 nL nL) (nN o134 nL nL)) (nN o75 (nN o115 nL nL) (nN o154 nL nL))) (nN (o38 P) (nN o62 (nN o105 nL nL) (nN o144 nL nL)) (nN o7 (nN o7 nL nL) nL))) (nN o21 (nN o7 (nN o56 (nN o101 nL nL) (nN o139 nL nL)) (nN o81 (nN o7 nL nL) (nN o159 nL nL))) (nN o8 (nN o37 (nN o110 nL nL) (nN o149 nL nL)) (nN o91 (nN o128 nL nL) nL))))) (nN o5 (nN o9 (nN o15 (nN o24 (nN o49 (nN o7 nL nL) (nN o132 nL nL)) (nN o73 (nN o113 nL nL) (nN o152 nL nL))) (nN o37 (nN o61 (nN o7 nL nL) (nN o142 nL nL)) (nN o8 (nN o28 nL nL) (nN o165 nL nL)))) (nN o7 (nN o30 (nN o55 (nN o99 nL nL) (nN o137 nL nL)) (nN o79 (nN o118 nL nL) (nN o157 nL nL))) (nN o43 (nN o68 (nN o8 nL nL) (nN o147 nL nL)) (nN o90 (nN o127 nL nL) nL)))) (nN o11 (nN o18 (nN o28 (nN o53 (nN o7 nL nL) (nN o8 nL nL)) (nN o8 (nN o8 nL nL) (nN o8 nL nL))) (nN o7 (nN o64 (nN o106 nL nL) (nN o8 nL nL)) (nN o88 (nN o125 nL nL) nL))) (nN o7 (nN o33 (nN o58 (nN o8 nL nL) (nN o8 nL nL)) (nN o83 (nN o120 nL nL) (nN o161 nL nL))) (nN o7 (nN (o70 P) (nN o7 nL nL) (nN o8 nL nL)) (nN o93 (nN o130 nL nL) nL)))))) (nN o2 (nN o4 (nN o8 (nN o8 (nN o7 (nN o48 (nN o94 nL nL) (nN o131 nL nL)) (nN o72 (nN o7 nL nL) (nN o151 nL nL))) (nN o36 (nN o8 (nN o104 nL nL) (nN o141 nL nL)) (nN o7 (nN o7 nL nL) (nN o164 nL nL)))) (nN o19 (nN o8 (nN (o54 P) (nN o7 nL nL) (nN o136 nL nL)) (nN o78 (nN o117 nL nL) (nN o156 nL nL))) (nN o42 (nN o67 (nN o7 nL nL) (nN o146 nL nL)) (nN o8 (nN o8 nL nL) nL)))) (nN o14 (nN o17 (nN o27 (nN o52 (nN o97 nL nL) (nN o7 nL nL)) (nN o76 (nN o7 nL nL) (nN o7 nL nL))) (nN o39 (nN o63 (nN o7 nL nL) (nN o7 nL nL)) (nN o87 (nN o124 nL nL) nL))) (nN o22 (nN (o32 P) (nN o57 (nN o7 nL nL) (nN o7 nL nL)) (nN (o82 P) (nN o8 nL nL) (nN (o160 P) nL nL))) (nN o45 (nN o28 (nN o111 nL nL) (nN o7 nL nL)) (nN o92 (nN o129 nL nL) nL))))) (nN o6 (nN o10 (nN o7 (nN o25 (nN (o50 P) (nN o95 nL nL) (nN o133 nL nL)) (nN o74 (nN o114 nL nL) (nN o153 nL nL))) (nN o28 (nN o7 (nN o8 nL nL) (nN o143 nL nL)) (nN o86 (nN (o123 P) nL nL) nL))) (nN o20 (nN o31 (nN o7 (nN o100 nL nL) (nN o138 nL nL)) (nN o80 (nN o119 nL nL) (nN o158 nL nL))) (nN o44 (nN o69 (nN o109 nL nL) (nN o148 nL nL)) (nN o7 (nN o7 nL nL) nL)))) (nN o12 (nN o7 (nN (o29 P) (nN o37 (nN o8 nL nL) (nN o135 nL nL)) (nN o77 (nN o116 nL nL) (nN o155 nL nL))) (nN o40 (nN o65 (nN o107 nL nL) (nN o145 nL nL)) (nN o89 (nN o126 nL nL) nL))) (nN o8 (nN o34 (nN o59 (nN o102 nL nL) (nN o140 nL nL)) (nN o84 (nN o121 nL nL) (nN o162 nL nL))) (nN o46 (nN o71 (nN o8 nL nL) (nN o150 nL nL)) (nN o7 (nN o7 nL nL) nL)))))))
def f0 : Fin_ := ⟨t0, 242, (PySem.Life.mk [] [] [] 0 [] [] false (List.toArray []) [] 0 false false false 0 [2000, 10, 10] false 0 true [] [] 0 false), (List.toArray []), (PySem.Drawn.mk 0 0 0 0), 493⟩
def o166 (P : Params) : Obj := oO (vT "dict") none (.dict (List.toArray [dE P "__name__" 165 (vS "law_endlessplane_k03_spreads_told" 672), dE P "__doc__" 166 vN, dE P "__package__" 167 vN, dE P "__loader__" 168 (vB "__main__.__loader__#opaque"), dE P "__spec__" 169 vN, dE P "__annotations__" 170 (vR 6), dE P "__builtins__" 171 (vR 4), dE P "__file__" 173 (vS "/claim/cut.py" 172), dE P "__cached__" 174 vN, dE P "_wall" 193 (vR 21), dE P "is_integer" 202 (vR 28), dE P "is_list" 209 (vR 35), dE P "PlaneError" 229 (vR 45), dE P "BadPart" 256 (vR 67), dE P "BadNumber" 283 (vR 88), dE P "BadIndex" 310 (vR 109), dE P "check_integer" 319 (vR 118), dE P "check_remainder" 327 (vR 125), dE P "has_in" 337 (vR 132), dE P "common_pair" 347 (vR 139), dE P "by_lows" 353 (vR 144), dE P "united" 365 (vR 151), dE P "shared" 371 (vR 156), dE P "outside" 382 (vR 163), dE P "first_in" 394 (vR 170), dE P "first_of" 400 (vR 175), dE P "Members" 492 (vR 237), dE P "Stretch" 559 (vR 294), dE P "Spread" 665 (vR 388), dE P "spread_of" 671 (vR 395), dE P "_law_draw" 685 (vR 402), dE P "_law_number" 695 (vR 409), dE P "_law_ends" 705 (vR 416), dE P "_law_has" 715 (vR 423), dE P "_law_points" 726 (vR 430), dE P "_law_told" 732 (vR 435), dE P "_law_some" 738 (vR 440), dE P "_law_spread" 744 (vR 445), dE P "_law_refused" 752 (vR 452), dE P "_law_odd_right" 758 (vR 457), dE P "law" 764 (vR 462)]) 41) []
def o167 : Obj := oF [(vI 1 0), (vI 0 0), (vR 20), (vI 5 0), (vI 0 0), (vR 27), (vI 7 0), (vI 0 0), (vR 34), (vI 10 0), (vI 0 0), (vR 41), (vI 12 0), (vI 0 0), (vR 55), (vI 17 0), (vI 0 0), (vR 76), (vI 22 0), (vI 0 0), (vR 97), (vI 28 0), (vI 0 0), (vR 117), (vI 31 0), (vI 0 0), (vR 124), (vI 35 0), (vI 0 0), (vR 131), (vI 38 0), (vI 0 0), (vR 138), (vI 42 0), (vI 0 0), (vR 143), (vI 48 0), (vI 0 0), (vR 150), (vI 57 0), (vI 0 0), (vR 155), (vI 62 0), (vI 0 0), (vR 162), (vI 72 0), (vI 0 0), (vR 169), (vI 78 0), (vI 0 0), (vR 174), (vI 84 0), (vI 0 0), (vR 181), (vI 107 0), (vI 0 0), (vR 248), (vI 135 0), (vI 0 0), (vR 303), (vI 183 0), (vI 0 0), (vR 394), (vI 186 0), (vI 0 0), (vR 401), (vI 198 0), (vI 0 0), (vR 408), (vI 205 0), (vI 0 0), (vR 415), (vI 218 0), (vI 0 0), (vR 422), (vI 223 0), (vI 0 0), (vR 429), (vI 230 0), (vI 0 0), (vR 434), (vI 251 0), (vI 0 0), (vR 439), (vI 258 0), (vI 0 0), (vR 444), (vI 260 0), (vI 0 0), (vR 451), (vI 269 0), (vI 0 0), (vR 456), (vI 285 0), (vI 0 0), (vR 461)]
def o168 : Obj := oO (vT "type") none (PySem.Data.cls (PySem.ClassData.mk (PySem.Str.ofString "Members") [(vT "object")] [(vR 237), (vT "object")] 236 (PySem.Str.ofString "Members") true [] [(vR 294), (vR 388)] false (Option.none) false)) [none, none, (some (vS "Members" 401)), (some (vS "Members" 409)), (some (vB "object.__new__")), (some (PySem.Value.bool true))]
def o169 : Obj := oT [(vR 237)]
def o170 (P : Params) : Obj := oO (vT "dict") none (.dict (List.toArray [dE P "__module__" 500 (vS "endlessplane.stretches" 311), dE P "__qualname__" 502 (vS "Stretch" 501), dE P "__firstlineno__" 504 (vI 107 503), dE P "__init__" 511 (vR 256), dE P "moved" 519 (vR 263), dE P "turned" 526 (vR 270), dE P "common" 535 (vR 277), dE P "__eq__" 543 (vR 284), dE P "__le__" 551 (vR 291), dE P "__static_attributes__" 554 (vR 292), dE P "__classcell__" 555 (vR 245)]) 11) []
def o171 : Obj := oO (vT "cell") none (PySem.Data.cell (Option.some (vR 294))) []
def o172 : Obj := oF [(vI 109 0), (vI 4 0), (vR 255), (vI 118 0), (vI 4 0), (vR 262), (vI 121 0), (vI 4 0), (vR 269), (vI 124 0), (vI 4 0), (vR 276), (vI 130 0), (vI 4 0), (vR 283), (vI 133 0), (vI 4 0), (vR 290)]
def o173 : Obj := cD "Stretch" "Stretch" 495 107 0 0 0 0 246 false 181 247 [vN, vN, vN, vN] 498 107
def o174 : Obj := oO (vT "frame") none PySem.Data.plain [(some (vR 248)), (some (vR 3)), (some (vR 244)), none, (some (vS "endlessplane.stretches" 311)), none, (some (vR 0))]
def o175 : Obj := oT [vN, vN]
def o176 : Obj := oT [(vR 245)]
def o177 : Obj := oT [(vS "__class__" 508)]
def o178 : Obj := rD "__init__" "Stretch.__init__" (stA (m_ 21 0)) (m_ 21 0)
def o179 : Obj := cD "__init__" "Stretch.__init__" 505 109 3 0 0 3 252 true 181 253 [vN, vN, vN, (vR 254)] 509 109
def o180 : Obj := fD "__init__" "Stretch.__init__" (m_ 21 0) [(Prod.mk (PySem.Str.ofString "__class__") 245)] (vR 250) vN vN "endlessplane.stretches" 311 255 (vR 251)
def o181 : Obj := oT [(vS "self" 515), (vS "by" 516)]
def o182 : Obj := rD "moved" "Stretch.moved" (stA (m_ 21 1)) (m_ 21 1)
def o183 : Obj := cD "moved" "Stretch.moved" 512 118 2 0 0 3 257 true 181 258 [vN, (vR 259), (vR 260), (vR 261)] 517 118
def o184 : Obj := fD "moved" "Stretch.moved" (m_ 21 1) [] vN vN vN "endlessplane.stretches" 311 262 vN
def o185 : Obj := oT [(vS "self" 523)]
def o186 : Obj := rD "turned" "Stretch.turned" (stA (m_ 21 2)) (m_ 21 2)
def o187 : Obj := cD "turned" "Stretch.turned" 520 121 1 0 0 3 264 true 181 265 [vN, (vR 266), (vR 267), (vR 268)] 524 121
def o188 : Obj := fD "turned" "Stretch.turned" (m_ 21 2) [] vN vN vN "endlessplane.stretches" 311 269 vN
def o189 : Obj := oT [(vS "self" 530), (vS "other" 531), (vS "found" 532)]
def o190 : Obj := rD "common" "Stretch.common" (stA (m_ 21 3)) (m_ 21 3)
def o191 : Obj := cD "common" "Stretch.common" 527 124 2 0 0 3 271 true 181 272 [vN, (vR 273), (vR 274), (vR 275)] 533 124
def o192 : Obj := fD "common" "Stretch.common" (m_ 21 3) [] vN vN vN "endlessplane.stretches" 311 276 vN
def o193 : Obj := oT [(vS "self" 539), (vS "other" 540)]
def o194 : Obj := rD "__eq__" "Stretch.__eq__" (stA (m_ 21 4)) (m_ 21 4)
def o195 : Obj := cD "__eq__" "Stretch.__eq__" 536 130 2 0 0 3 278 true 181 279 [vN, (vR 280), (vR 281), (vR 282)] 541 130
def o196 : Obj := fD "__eq__" "Stretch.__eq__" (m_ 21 4) [] vN vN vN "endlessplane.stretches" 311 283 vN
def o197 : Obj := oT [(vS "self" 547), (vS "other" 548)]
def o198 : Obj := rD "__le__" "Stretch.__le__" (stA (m_ 21 5)) (m_ 21 5)
def o199 : Obj := cD "__le__" "Stretch.__le__" 544 133 2 0 0 3 285 true 181 286 [vN, (vR 287), (vR 288), (vR 289)] 549 133
def o200 : Obj := fD "__le__" "Stretch.__le__" (m_ 21 5) [] vN vN vN "endlessplane.stretches" 311 290 vN
def o201 : Obj := oT [(vS "high" 552), (vS "low" 553)]
def o202 (P : Params) : Obj := oO (vT "dict") none (.dict (List.toArray [dE P "__module__" 500 (vS "endlessplane.stretches" 311), dE P "__firstlineno__" 504 (vI 107 503), dE P "__init__" 511 (vR 256), dE P "moved" 519 (vR 263), dE P "turned" 526 (vR 270), dE P "common" 535 (vR 277), dE P "__eq__" 543 (vR 284), dE P "__le__" 551 (vR 291), dE P "__static_attributes__" 554 (vR 292), dE P "__doc__" 556 vN, dE P "__hash__" 557 vN]) 4) []
def o203 : Obj := oO (vT "type") none (PySem.Data.cls (PySem.ClassData.mk (PySem.Str.ofString "Stretch") [(vR 237)] [(vR 294), (vR 237), (vT "object")] 293 (PySem.Str.ofString "Stretch") true [] [] false (Option.none) false)) [(some (vR 242)), none, (some (vS "Stretch" 493)), (some (vS "Stretch" 501)), (some (vB "object.__new__")), (some (PySem.Value.bool true))]
def o204 : Obj := oO (vT "super") none (.fields (List.toArray [(vR 294), (vR 294), (vR 294)])) []
def o205 : Obj := oO (vT "builtin_function_or_method") none (.fields (List.toArray [(vB "object.__init_subclass__"), (vR 294)])) []
def o206 (P : Params) : Obj := oO (vT "dict") none (.dict (List.toArray [dE P "__module__" 567 (vS "endlessplane.stretches" 311), dE P "__qualname__" 569 (vS "Spread" 568), dE P "__firstlineno__" 571 (vI 135 570), dE P "__init__" 578 (vR 312), dE P "told" 584 (vR 317), dE P "moved" 592 (vR 324), dE P "turned" 599 (vR 331), dE P "all_but" 606 (vR 338), dE P "is_endless" 612 (vR 343), dE P "bounds" 619 (vR 350), dE P "__eq__" 627 (vR 357), dE P "__le__" 635 (vR 364), dE P "__or__" 643 (vR 371), dE P "__and__" 651 (vR 378), dE P "__sub__" 659 (vR 385), dE P "__static_attributes__" 660 (vR 386), dE P "__classcell__" 661 (vR 300)]) 17) []
def o207 : Obj := oO (vT "cell") none (PySem.Data.cell (Option.some (vR 388))) []
def o208 : Obj := oF [(vI 137 0), (vI 4 0), (vR 311), (vI 145 0), (vI 4 0), (vR 316), (vI 148 0), (vI 4 0), (vR 323), (vI 151 0), (vI 4 0), (vR 330), (vI 154 0), (vI 4 0), (vR 337), (vI 157 0), (vI 4 0), (vR 342), (vI 160 0), (vI 4 0), (vR 349), (vI 163 0), (vI 4 0), (vR 356), (vI 166 0), (vI 4 0), (vR 363), (vI 169 0), (vI 4 0), (vR 370), (vI 174 0), (vI 4 0), (vR 377), (vI 179 0), (vI 4 0), (vR 384)]
def o209 : Obj := cD "Spread" "Spread" 562 135 0 0 0 0 301 false 181 302 [vN, vN, vN, vN] 565 135
def o210 : Obj := oO (vT "frame") none PySem.Data.plain [(some (vR 303)), (some (vR 3)), (some (vR 299)), none, (some (vS "endlessplane.stretches" 311)), none, (some (vR 0))]
def o211 : Obj := oT [(vR 305)]
def o212 : Obj := oT [(vR 300)]
def o213 : Obj := oT [(vS "__class__" 575)]
def o214 : Obj := rD "__init__" "Spread.__init__" (stA (m_ 22 0)) (m_ 22 0)
def o215 : Obj := cD "__init__" "Spread.__init__" 572 137 2 0 0 3 308 true 181 309 [vN, vN, vN, (vR 310)] 576 137
def o216 : Obj := fD "__init__" "Spread.__init__" (m_ 22 0) [(Prod.mk (PySem.Str.ofString "__class__") 300)] (vR 306) vN vN "endlessplane.stretches" 311 311 (vR 307)
def o217 : Obj := rD "told" "Spread.told" (stA (m_ 22 1)) (m_ 22 1)
def o218 : Obj := cD "told" "Spread.told" 579 145 1 0 0 3 313 true 181 314 [vN, vN, vN, (vR 315)] 582 145
def o219 : Obj := fD "told" "Spread.told" (m_ 22 1) [] vN vN vN "endlessplane.stretches" 311 316 vN
def o220 : Obj := oT [(vS "self" 588), (vS "by" 589)]
def o221 : Obj := rD "moved" "Spread.moved" (stA (m_ 22 2)) (m_ 22 2)
def o222 : Obj := cD "moved" "Spread.moved" 585 148 2 0 0 3 318 true 181 319 [vN, (vR 320), (vR 321), (vR 322)] 590 148
def o223 : Obj := fD "moved" "Spread.moved" (m_ 22 2) [] vN vN vN "endlessplane.stretches" 311 323 vN
def o224 : Obj := oT [(vS "self" 596)]
def o225 : Obj := rD "turned" "Spread.turned" (stA (m_ 22 3)) (m_ 22 3)
def o226 : Obj := cD "turned" "Spread.turned" 593 151 1 0 0 3 325 true 181 326 [vN, (vR 327), (vR 328), (vR 329)] 597 151
def o227 : Obj := fD "turned" "Spread.turned" (m_ 22 3) [] vN vN vN "endlessplane.stretches" 311 330 vN
def o228 : Obj := oT [(vS "self" 603)]
def o229 : Obj := rD "all_but" "Spread.all_but" (stA (m_ 22 4)) (m_ 22 4)
def o230 : Obj := cD "all_but" "Spread.all_but" 600 154 1 0 0 3 332 true 181 333 [vN, (vR 334), (vR 335), (vR 336)] 604 154
def o231 : Obj := fD "all_but" "Spread.all_but" (m_ 22 4) [] vN vN vN "endlessplane.stretches" 311 337 vN
def o232 : Obj := rD "is_endless" "Spread.is_endless" (stA (m_ 22 5)) (m_ 22 5)
def o233 : Obj := cD "is_endless" "Spread.is_endless" 607 157 1 0 0 3 339 true 181 340 [vN, vN, vN, (vR 341)] 610 157
def o234 : Obj := fD "is_endless" "Spread.is_endless" (m_ 22 5) [] vN vN vN "endlessplane.stretches" 311 342 vN
def o235 : Obj := oT [(vS "self" 616)]
def o236 : Obj := rD "bounds" "Spread.bounds" (stA (m_ 22 6)) (m_ 22 6)
def o237 : Obj := cD "bounds" "Spread.bounds" 613 160 1 0 0 3 344 true 181 345 [vN, (vR 346), (vR 347), (vR 348)] 617 160
def o238 : Obj := fD "bounds" "Spread.bounds" (m_ 22 6) [] vN vN vN "endlessplane.stretches" 311 349 vN
def o239 : Obj := oT [(vS "self" 623), (vS "other" 624)]
def o240 : Obj := rD "__eq__" "Spread.__eq__" (stA (m_ 22 7)) (m_ 22 7)
def o241 : Obj := cD "__eq__" "Spread.__eq__" 620 163 2 0 0 3 351 true 181 352 [vN, (vR 353), (vR 354), (vR 355)] 625 163
def o242 : Obj := fD "__eq__" "Spread.__eq__" (m_ 22 7) [] vN vN vN "endlessplane.stretches" 311 356 vN
def o243 : Obj := oT [(vS "self" 631), (vS "other" 632)]
def o244 : Obj := rD "__le__" "Spread.__le__" (stA (m_ 22 8)) (m_ 22 8)
def o245 : Obj := cD "__le__" "Spread.__le__" 628 166 2 0 0 3 358 true 181 359 [vN, (vR 360), (vR 361), (vR 362)] 633 166
def o246 : Obj := fD "__le__" "Spread.__le__" (m_ 22 8) [] vN vN vN "endlessplane.stretches" 311 363 vN
def o247 : Obj := oT [(vS "self" 639), (vS "other" 640)]
def o248 : Obj := rD "__or__" "Spread.__or__" (stA (m_ 22 9)) (m_ 22 9)
def o249 : Obj := cD "__or__" "Spread.__or__" 636 169 2 0 0 3 365 true 181 366 [vN, (vR 367), (vR 368), (vR 369)] 641 169
def o250 : Obj := fD "__or__" "Spread.__or__" (m_ 22 9) [] vN vN vN "endlessplane.stretches" 311 370 vN
def o251 : Obj := oT [(vS "self" 647), (vS "other" 648)]
def o252 : Obj := rD "__and__" "Spread.__and__" (stA (m_ 22 10)) (m_ 22 10)
def o253 : Obj := cD "__and__" "Spread.__and__" 644 174 2 0 0 3 372 true 181 373 [vN, (vR 374), (vR 375), (vR 376)] 649 174
def o254 : Obj := fD "__and__" "Spread.__and__" (m_ 22 10) [] vN vN vN "endlessplane.stretches" 311 377 vN
def o255 : Obj := oT [(vS "self" 655), (vS "other" 656)]
def o256 : Obj := rD "__sub__" "Spread.__sub__" (stA (m_ 22 11)) (m_ 22 11)
def o257 : Obj := cD "__sub__" "Spread.__sub__" 652 179 2 0 0 3 379 true 181 380 [vN, (vR 381), (vR 382), (vR 383)] 657 179
def o258 : Obj := fD "__sub__" "Spread.__sub__" (m_ 22 11) [] vN vN vN "endlessplane.stretches" 311 384 vN
def o259 (P : Params) : Obj := oO (vT "dict") none (.dict (List.toArray [dE P "__module__" 567 (vS "endlessplane.stretches" 311), dE P "__firstlineno__" 571 (vI 135 570), dE P "__init__" 578 (vR 312), dE P "told" 584 (vR 317), dE P "moved" 592 (vR 324), dE P "turned" 599 (vR 331), dE P "all_but" 606 (vR 338), dE P "is_endless" 612 (vR 343), dE P "bounds" 619 (vR 350), dE P "__eq__" 627 (vR 357), dE P "__le__" 635 (vR 364), dE P "__or__" 643 (vR 371), dE P "__and__" 651 (vR 378), dE P "__sub__" 659 (vR 385), dE P "__static_attributes__" 660 (vR 386), dE P "__doc__" 662 vN, dE P "__hash__" 663 vN]) 4) []
def o260 : Obj := oO (vT "type") none (PySem.Data.cls (PySem.ClassData.mk (PySem.Str.ofString "Spread") [(vR 237)] [(vR 388), (vR 237), (vT "object")] 387 (PySem.Str.ofString "Spread") true [] [] false (Option.none) false)) [(some (vR 297)), none, (some (vS "Spread" 560)), (some (vS "Spread" 568)), (some (vB "object.__new__")), (some (PySem.Value.bool true))]
def o261 : Obj := oO (vT "super") none (.fields (List.toArray [(vR 388), (vR 388), (vR 388)])) []
def o262 : Obj := oO (vT "builtin_function_or_method") none (.fields (List.toArray [(vB "object.__init_subclass__"), (vR 388)])) []
def o263 : Obj := rD "spread_of" "spread_of" (stA (b_ 23)) (b_ 23)
def o264 : Obj := cD "spread_of" "spread_of" 666 183 1 0 0 3 391 true 181 392 [vN, vN, vN, (vR 393)] 669 183
def o265 : Obj := fD "spread_of" "spread_of" (b_ 23) [] vN vN vN "endlessplane.stretches" 311 394 vN
def o266 : Obj := oT [(vS "_law_state" 677), (vS "_law_limit" 678), (vS "_law_cells" 679), (vS "_law_at" 680), (vS "_law_cell" 681), (vS "_law_mixed" 682)]
def o267 : Obj := rD "_law_draw" "_law_draw" (stA (b_ 25)) (b_ 25)
def o268 : Obj := cD "_law_draw" "_law_draw" 674 186 2 0 0 3 396 true 181 397 [vN, (vR 398), (vR 399), (vR 400)] 683 186
def o269 : Obj := fD "_law_draw" "_law_draw" (b_ 25) [] vN vN vN "law_endlessplane_k03_spreads_told" 672 401 vN
def o270 : Obj := oT [(vS "_law_state" 689), (vS "_law_most" 690), (vS "_law_number_here" 691), (vS "_law_turn" 692)]
def o271 : Obj := rD "_law_number" "_law_number" (stA (b_ 26)) (b_ 26)
def o272 : Obj := cD "_law_number" "_law_number" 686 198 2 0 0 3 403 true 181 404 [vN, (vR 405), (vR 406), (vR 407)] 693 198
def o273 : Obj := fD "_law_number" "_law_number" (b_ 26) [] vN vN vN "law_endlessplane_k03_spreads_told" 672 408 vN
def o274 : Obj := oT [(vS "_law_state" 699), (vS "_law_low" 700), (vS "_law_high" 701), (vS "_law_way" 702)]
def o275 : Obj := rD "_law_ends" "_law_ends" (stA (b_ 27)) (b_ 27)
def o276 : Obj := cD "_law_ends" "_law_ends" 696 205 1 0 0 3 410 true 181 411 [vN, (vR 412), (vR 413), (vR 414)] 703 205
def o277 : Obj := fD "_law_ends" "_law_ends" (b_ 27) [] vN vN vN "law_endlessplane_k03_spreads_told" 672 415 vN
def o278 : Obj := oT [(vS "_law_pairs" 709), (vS "_law_number_here" 710), (vS "_law_low" 711), (vS "_law_high" 712)]
def o279 : Obj := rD "_law_has" "_law_has" (stA (b_ 28)) (b_ 28)
def o280 : Obj := cD "_law_has" "_law_has" 706 218 2 0 0 3 417 true 181 418 [vN, (vR 419), (vR 420), (vR 421)] 713 218
def o281 : Obj := fD "_law_has" "_law_has" (b_ 28) [] vN vN vN "law_endlessplane_k03_spreads_told" 672 422 vN
def o282 : Obj := oT [(vS "_law_pairs" 719), (vS "_law_found" 720), (vS "_law_low" 721), (vS "_law_high" 722), (vS "_law_end" 723)]
def o283 : Obj := rD "_law_points" "_law_points" (stA (b_ 29)) (b_ 29)
def o284 : Obj := cD "_law_points" "_law_points" 716 223 1 0 0 3 424 true 181 425 [vN, (vR 426), (vR 427), (vR 428)] 724 223
def o285 : Obj := fD "_law_points" "_law_points" (b_ 29) [] vN vN vN "law_endlessplane_k03_spreads_told" 672 429 vN
def o286 : Obj := rD "_law_told" "_law_told" (stA (b_ 30)) (b_ 30)
def o287 : Obj := cD "_law_told" "_law_told" 727 230 1 0 0 3 431 true 181 432 [vN, vN, vN, (vR 433)] 730 230
def o288 : Obj := fD "_law_told" "_law_told" (b_ 30) [] vN vN vN "law_endlessplane_k03_spreads_told" 672 434 vN
def o289 : Obj := rD "_law_some" "_law_some" (stA (b_ 31)) (b_ 31)
def o290 : Obj := cD "_law_some" "_law_some" 733 251 2 0 0 3 436 true 181 437 [vN, vN, vN, (vR 438)] 736 251
def o291 : Obj := fD "_law_some" "_law_some" (b_ 31) [] vN vN vN "law_endlessplane_k03_spreads_told" 672 439 vN
def o292 : Obj := rD "_law_spread" "_law_spread" (stA (b_ 32)) (b_ 32)
def o293 : Obj := cD "_law_spread" "_law_spread" 739 258 1 0 0 3 441 true 181 442 [vN, vN, vN, (vR 443)] 742 258
def o294 : Obj := fD "_law_spread" "_law_spread" (b_ 32) [] vN vN vN "law_endlessplane_k03_spreads_told" 672 444 vN
def o295 : Obj := oT [(vS "_law_value" 748), (vS "e" 749)]
def o296 : Obj := rD "_law_refused" "_law_refused" (stA (b_ 33)) (b_ 33)
def o297 : Obj := cD "_law_refused" "_law_refused" 745 260 1 0 0 3 446 true 181 447 [vN, (vR 448), (vR 449), (vR 450)] 750 260
def o298 : Obj := fD "_law_refused" "_law_refused" (b_ 33) [] vN vN vN "law_endlessplane_k03_spreads_told" 672 451 vN
def o299 : Obj := rD "_law_odd_right" "_law_odd_right" (stA (b_ 34)) (b_ 34)
def o300 : Obj := cD "_law_odd_right" "_law_odd_right" 753 269 2 0 0 3 453 true 181 454 [vN, vN, vN, (vR 455)] 756 269
def o301 : Obj := fD "_law_odd_right" "_law_odd_right" (b_ 34) [] vN vN vN "law_endlessplane_k03_spreads_told" 672 456 vN
def o302 : Obj := rD "law" "law" (stA (b_ 35)) (b_ 35)
def o303 : Obj := cD "law" "law" 759 285 1 0 0 3 458 true 181 459 [vN, vN, vN, (vR 460)] 762 285
def o304 : Obj := fD "law" "law" (b_ 35) [] vN vN vN "law_endlessplane_k03_spreads_told" 672 461 vN
def t1 (P : Params) : BT := (nN (o0 P) (nN (o1 P) (nN (o166 P) (nN o7 (nN o7 (nN o23 (nN o47 (nN o8 (nN o179 nL nL) (nN o256 nL nL)) (nN o8 (nN o8 nL nL) (nN o8 nL nL))) (nN o7 (nN o112 (nN o197 nL nL) (nN o276 nL nL)) (nN o7 (nN o7 nL nL) nL))) (nN o35 (nN o60 (nN o103 (nN o7 nL nL) (nN o7 nL nL)) (nN o7 (nN o7 nL nL) nL)) (nN o85 (nN o122 (nN o209 nL nL) (nN o7 nL nL)) (nN o163 (nN o247 nL nL) nL)))) (nN o8 (nN o7 (nN o28 (nN o98 (nN o184 nL nL) (nN o7 nL nL)) (nN o7 (nN o224 nL nL) (nN o299 nL nL))) (nN o7 (nN o7 (nN o204 nL nL) (nN o281 nL nL)) (nN o7 (nN o8 nL nL) nL))) (nN o41 (nN (o66 P) (nN o108 (nN o8 nL nL) (nN o271 nL nL)) (nN o7 (nN o234 nL nL) nL)) (nN o7 (nN o7 (nN o215 nL nL) (nN o290 nL nL)) (nN o172 (nN o7 nL nL) nL))))) (nN o7 (nN o16 (nN o26 (nN o51 (nN o96 (nN o181 nL nL) (nN (o259 P) nL nL)) (nN o134 (nN o222 nL nL) (nN o297 nL nL))) (nN o75 (nN o115 (nN o200 nL nL) (nN o278 nL nL)) (nN o154 (nN o240 nL nL) nL))) (nN (o38 P) (nN o62 (nN o105 (nN o190 nL nL) (nN o7 nL nL)) (nN o144 (nN o7 nL nL) nL)) (nN o7 (nN o7 (nN o212 nL nL) (nN o288 nL nL)) (nN o28 (nN o250 nL nL) nL)))) (nN o21 (nN o7 (nN o56 (nN o101 (nN o7 nL nL) (nN o265 nL nL)) (nN o139 (nN o227 nL nL) (nN o8 nL nL))) (nN o81 (nN o7 (nN (o206 P) nL nL) (nN o7 nL nL)) (nN o159 (nN o245 nL nL) nL))) (nN o8 (nN o37 (nN o110 (nN o195 nL nL) (nN o8 nL nL)) (nN o149 (nN o7 nL nL) nL)) (nN o91 (nN o128 (nN o217 nL nL) (nN o292 nL nL)) (nN o176 (nN o7 nL nL) nL)))))) (nN o5 (nN o9 (nN o15 (nN o24 (nN o49 (nN o7 (nN o7 nL nL) (nN o258 nL nL)) (nN o132 (nN o7 nL nL) (nN o7 nL nL))) (nN o73 (nN o113 (nN o198 nL nL) (nN o7 nL nL)) (nN o152 (nN o239 nL nL) nL))) (nN o37 (nN o61 (nN o7 (nN o189 nL nL) (nN o268 nL nL)) (nN o142 (nN o230 nL nL) nL)) (nN o8 (nN o28 (nN o7 nL nL) (nN o286 nL nL)) (nN o165 (nN o248 nL nL) nL)))) (nN o7 (nN o30 (nN o55 (nN o99 (nN o8 nL nL) (nN o263 nL nL)) (nN o137 (nN o225 nL nL) (nN o301 nL nL))) (nN o79 (nN o118 (nN o169 nL nL) (nN o8 nL nL)) (nN o157 (nN o7 nL nL) nL))) (nN o43 (nN o68 (nN o8 (nN o7 nL nL) (nN o273 nL nL)) (nN o147 (nN o8 nL nL) nL)) (nN o90 (nN o127 (nN o7 nL nL) (nN o7 nL nL)) (nN o174 (nN o253 nL nL) nL))))) (nN o11 (nN o18 (nN o28 (nN o53 (nN o7 (nN o182 nL nL) (nN o261 nL nL)) (nN o8 (nN o7 nL nL) (nN o7 nL nL))) (nN o8 (nN o8 (nN (o202 P) nL nL) (nN o279 nL nL)) (nN o8 (nN o242 nL nL) nL))) (nN o7 (nN o64 (nN o106 (nN o192 nL nL) (nN o270 nL nL)) (nN o8 (nN o232 nL nL) nL)) (nN o88 (nN o125 (nN o8 nL nL) (nN o8 nL nL)) (nN o171 (nN o8 nL nL) nL)))) (nN o7 (nN o33 (nN o58 (nN o8 (nN o187 nL nL) (nN o8 nL nL)) (nN o8 (nN o8 nL nL) (nN o303 nL nL))) (nN o83 (nN o120 (nN o7 nL nL) (nN o284 nL nL)) (nN o168 (nN o7 nL nL) nL))) (nN o7 (nN (o70 P) (nN o7 (nN o7 nL nL) (nN o7 nL nL)) (nN o8 (nN o237 nL nL) nL)) (nN o93 (nN o130 (nN o219 nL nL) (nN o294 nL nL)) (nN o8 (nN o255 nL nL) nL))))))) (nN o2 (nN o4 (nN o8 (nN o8 (nN o7 (nN o48 (nN o94 (nN o180 nL nL) (nN o257 nL nL)) (nN o131 (nN o220 nL nL) (nN o295 nL nL))) (nN o72 (nN o7 (nN o7 nL nL) (nN o277 nL nL)) (nN o151 (nN o8 nL nL) nL))) (nN o36 (nN o8 (nN o104 (nN o8 nL nL) (nN o267 nL nL)) (nN o141 (nN o229 nL nL) nL)) (nN o7 (nN o7 (nN o210 nL nL) (nN o8 nL nL)) (nN o164 (nN o7 nL nL) nL)))) (nN o19 (nN o8 (nN (o54 P) (nN o7 (nN o7 nL nL) (nN o8 nL nL)) (nN o136 (nN o7 nL nL) (nN o300 nL nL))) (nN o78 (nN o117 (nN o205 nL nL) (nN o7 nL nL)) (nN o156 (nN o243 nL nL) nL))) (nN o42 (nN o67 (nN o7 (nN o193 nL nL) (nN o272 nL nL)) (nN o146 (nN o7 nL nL) nL)) (nN o8 (nN o8 (nN o216 nL nL) (nN o291 nL nL)) (nN o173 (nN o252 nL nL) nL))))) (nN o167 (nN o17 (nN o27 (nN o52 (nN o97 (nN o7 nL nL) (nN o260 nL nL)) (nN o7 (nN o223 nL nL) (nN o298 nL nL))) (nN o76 (nN o7 (nN o201 nL nL) (nN o7 nL nL)) (nN o7 (nN o241 nL nL) nL))) (nN o39 (nN o63 (nN o7 (nN o191 nL nL) (nN o8 nL nL)) (nN o7 (nN o8 nL nL) nL)) (nN o87 (nN o124 (nN o213 nL nL) (nN o7 nL nL)) (nN (o170 P) (nN o7 nL nL) nL)))) (nN o22 (nN (o32 P) (nN o57 (nN o7 (nN o186 nL nL) (nN o7 nL nL)) (nN o7 (nN o7 nL nL) (nN o302 nL nL))) (nN (o82 P) (nN o8 (nN o207 nL nL) (nN o283 nL nL)) (nN (o160 P) (nN o246 nL nL) nL))) (nN o45 (nN o28 (nN o111 (nN o196 nL nL) (nN o274 nL nL)) (nN o7 (nN o236 nL nL) nL)) (nN o92 (nN o129 (nN o218 nL nL) (nN o293 nL nL)) (nN o177 (nN o8 nL nL) nL)))))) (nN o6 (nN o10 (nN o7 (nN o25 (nN (o50 P) (nN o95 (nN o8 nL nL) (nN o7 nL nL)) (nN o133 (nN o221 nL nL) (nN o296 nL nL))) (nN o74 (nN o114 (nN o199 nL nL) (nN o8 nL nL)) (nN o153 (nN o7 nL nL) nL))) (nN o28 (nN o7 (nN o8 (nN o7 nL nL) (nN o269 nL nL)) (nN o143 (nN o231 nL nL) nL)) (nN o86 (nN (o123 P) (nN o211 nL nL) (nN o287 nL nL)) (nN o169 (nN o249 nL nL) nL)))) (nN o20 (nN o31 (nN o7 (nN o100 (nN o185 nL nL) (nN o264 nL nL)) (nN o138 (nN o226 nL nL) (nN o7 nL nL))) (nN o80 (nN o119 (nN o28 nL nL) (nN o282 nL nL)) (nN o158 (nN o244 nL nL) nL))) (nN o44 (nN o69 (nN o109 (nN o194 nL nL) (nN o7 nL nL)) (nN o148 (nN o235 nL nL) nL)) (nN o7 (nN o7 (nN o8 nL nL) (nN o8 nL nL)) (nN o175 (nN o254 nL nL) nL))))) (nN o12 (nN o7 (nN (o29 P) (nN o37 (nN o8 (nN o183 nL nL) (nN o262 nL nL)) (nN o135 (nN o8 nL nL) (nN o8 nL nL))) (nN o77 (nN o116 (nN o203 nL nL) (nN o280 nL nL)) (nN o155 (nN o7 nL nL) nL))) (nN o40 (nN o65 (nN o107 (nN o7 nL nL) (nN o7 nL nL)) (nN o145 (nN o233 nL nL) nL)) (nN o89 (nN o126 (nN o214 nL nL) (nN o289 nL nL)) (nN o7 (nN o251 nL nL) nL)))) (nN o8 (nN o34 (nN o59 (nN o102 (nN o188 nL nL) (nN o266 nL nL)) (nN o140 (nN o228 nL nL) (nN o304 nL nL))) (nN o84 (nN o121 (nN o208 nL nL) (nN o285 nL nL)) (nN o162 (nN o8 nL nL) nL))) (nN o46 (nN o71 (nN o8 (nN o8 nL nL) (nN o275 nL nL)) (nN o150 (nN o238 nL nL) nL)) (nN o7 (nN o7 (nN o7 nL nL) (nN o7 nL nL)) (nN o178 (nN o7 nL nL) nL))))))))
def f1 : Fin_ := ⟨t1, 463, (PySem.Life.mk [] [] [] 0 [] [] false (List.toArray []) [] 0 false false false 0 [2000, 10, 10] false 0 true [] [] 0 false), (List.toArray []), (PySem.Drawn.mk 0 0 0 0), 765⟩
def fF : Fin_ := ⟨t1, 463, (PySem.Life.mk [] [] [] 0 [] [] false (List.toArray []) [] 0 false false false 0 [2000, 10, 10] false 0 true [] [] 0 false), (List.toArray []), (PySem.Drawn.mk 0 0 0 0), 765⟩
def KK (P : Params) : PySem.W.Frag := [(3, (o166 P)), (6, o6), (4, o4), (0, (o0 P)), (21, o18), (20, o17), (28, o22), (27, o21), (35, o26), (34, o25), (45, o33), (44, (o32 P)), (43, o7), (46, o34), (67, o51), (66, (o50 P)), (64, o48), (63, o47), (52, o39), (65, o49), (88, o67), (87, (o66 P)), (85, o64), (84, o63), (73, o55), (86, o65), (109, o83), (108, (o82 P)), (106, o80), (105, o79), (94, o71), (107, o81), (118, o89), (117, o88), (125, o93), (124, o92), (132, o97), (131, o96), (139, o101), (138, o100), (144, o104), (143, o103), (151, o108), (150, o107), (156, o111), (155, o110), (163, o115), (162, o114), (170, o119), (169, o118), (175, o122), (174, o121), (237, o168), (236, (o160 P)), (189, o130), (188, o129), (194, o133), (193, o132), (202, o138), (201, o137), (195, o134), (210, o143), (209, o142), (203, o139), (218, o148), (217, o147), (211, o144), (226, o153), (225, o152), (219, o149), (234, o158), (233, o157), (227, o154), (235, o159), (238, o162), (239, o163), (294, o203), (293, (o202 P)), (256, o180), (255, o179), (250, o175), (245, o171), (263, o184), (262, o183), (270, o188), (269, o187), (277, o192), (276, o191), (284, o196), (283, o195), (291, o200), (290, o199), (292, o201), (388, o260), (387, (o259 P)), (312, o216), (311, o215), (306, o211), (305, o7), (300, o207), (317, o219), (316, o218), (324, o223), (323, o222), (331, o227), (330, o226), (338, o231), (337, o230), (343, o234), (342, o233), (350, o238), (349, o237), (357, o242), (356, o241), (364, o246), (363, o245), (371, o250), (370, o249), (378, o254), (377, o253), (385, o258), (384, o257), (386, o7), (395, o265), (394, o264), (402, o269), (401, o268), (409, o273), (408, o272), (416, o277), (415, o276), (423, o281), (422, o280), (430, o285), (429, o284), (435, o288), (434, o287), (440, o291), (439, o290), (445, o294), (444, o293), (452, o298), (451, o297), (457, o301), (456, o300), (462, o304), (461, o303), (2, o2)]
def env0 : PySem.Env := { scope := P0.main.scope, locals := mainNs, globals := mainNs, cells := [], code := (vR 13), frame := some 14 }
def q0 : Pos := (PySem.Pos.mk 0 0 0 0)
def posA : Pos := (PySem.Pos.mk 0 0 0 0)
def posB : Pos := (PySem.Pos.mk 0 0 0 0)
def pos0 : Pos := (PySem.Pos.mk 84 0 106 16)
def pos1 : Pos := (PySem.Pos.mk 285 0 302 49)
def body0 : List Stmt := behindTheImports P0
def c0 : Code := .body body0 env0
abbrev B0 : List Frame := [topFrame q0]
def l0 : List Stmt := (body0.drop 0).take 21
def l1 : List Stmt := (body0.drop 21).take 15
def t00 (w : World) : BT := match putAll (boot_heap w.params).objs.toList .nil 0 with | some (t, _) => t | none => .nil
theorem boot0 (w : World) : putAll (boot_heap w.params).objs.toList .nil 0 = some (t00 w, 11) := by kernel_rfl
theorem ha (w : World) (os : OsState) : topF (stQ P0 w) 11 (some (vR 6)) 12 (bootT w os (t00 w, 11)) (topStub P0) = some (fA.at w os, ⟨denQ tabQ (.body body0 env0), c0, posA, B0⟩) := by kernel_rfl
theorem hb (w : World) (os : OsState) : segF (stQ P0 w) 11 (some (vR 6)) 1 1 (fA.at w os) (headQ body0 env0 c0 posA B0) = some (.next, fB.at w os, c0, posB) := by kernel_rfl
theorem g0 (w : World) (os : OsState) : segF (stQ P0 w) 11 (some (vR 6)) 1 1818 (fB.at w os) (someQ l0 env0 c0 posB B0) = some (.next, f0.at w os, c0, pos0) := by kernel_rfl
theorem g1 (w : World) (os : OsState) : segF (stQ P0 w) 11 (some (vR 6)) 1 1390 (f0.at w os) (someQ l1 env0 c0 pos0 B0) = some (.next, f1.at w os, c0, pos1) := by kernel_rfl
theorem he (w : World) (os : OsState) : goF (stQ P0 w) 11 (some (vR 6)) 2 (f1.at w os) ⟨doneF .next, c0, pos1, B0⟩ = some (fF.at w os) := by kernel_rfl
theorem hbody : body0 = l0 ++ (l1 ++ ([])) := by kernel_rfl
theorem run_ (w : World) (os : OsState) : topRun treeTable P0 w 11 (some (vR 6)) (12 + (1 + (1818 + (1390 + (2))))) ⟨boot_heap w.params, Array.mk [], boot_drawn, boot_toks, os⟩ (topStub P0) = some (fF.at w os).abs := by
  have r := ahead (ha w os) (hb w os) hbody (lot (g0 w os) (lot (g1 w os) ((behind (he w os)))))
  rw [boot_abs (boot0 w)] at r
  exact r
theorem size_ (w : World) : ((boot_heap w.params).isNs mainGlobals && (Array.mk [] : Array GenState).size == 0, (boot_heap w.params).objs.size, (boot_heap w.params).nsMap mainGlobals "__annotations__") = (true, 11, (some (vR 6))) := by kernel_rfl
theorem look1 (w : World) (os : OsState) : looksF P0 (boot_heap w.params) (fF.at w os).abs = true := by kernel_rfl
theorem look2 (w : World) (os : OsState) : seenQ (PySem.W.view RR.prog [35]) names_ (importedModules P0.main.body) (fun s => xlAt (PySem.W.view RR.prog [35]) [] s && recOk RR.toRowW.records s) (fF.at w os).abs = openGood (PySem.W.view RR.prog [35]) names_ := by kernel_rfl
theorem frag_ (w : World) (os : OsState) : fragF (getT (fF.at w os)) 20000 = KK w.params := by kernel_rfl
theorem look_f (w : World) : (fa.all fun f => f.ok (KK w.params)) = true := by kernel_rfl
theorem look_d1 (w : World) : ((fns.take 70).all fun d => d.ok (KK w.params)) = true := by kernel_rfl
theorem look_d2 (w : World) : ((fns.drop 70).all fun d => d.ok (KK w.params)) = true := by kernel_rfl
theorem look_e (w : World) : (fns.map fun d => He.fnW (KK w.params) d.at_) = fns.map He.DefD.val := by kernel_rfl
theorem look_c (w : World) : ((eq_.ck (KK w.params)).all id, eq_.su (KK w.params), eq_.ds (KK w.params)) = (true, eq_.sv, eq_.dv w.params) := by kernel_rfl
theorem look3 (w : World) (os : OsState) : ob (fF.at w os) = hk.val w := obs_join (frag_ w os) (look_f w) (all_cut 70 (look_d1 w) (look_d2 w)) (look_e w) (look_c w)
theorem left_ : LeftO P0 (PySem.W.view RR.prog [35]) names_ (fun s => xlAt (PySem.W.view RR.prog [35]) [] s && recOk RR.toRowW.records s) hk.obs hk.val 100000 true :=
  left_lots fF (by kernel_rfl) (by rfl) (fun s => by kernel_rfl) (by rfl) size_ run_ look1 look2 fun w os => (ob_eq _).symm.trans (look3 w os)
def q_0 : List Stmt := (P0.main.body.drop 0).take 16
theorem w_0 : sumsQ TablesWhole.holds P0.main.scope ⟨P0.main.scope, [], [], [], none⟩ P0.main.scope q_0 = true := by kernel_rfl
def q_1 : List Stmt := (P0.main.body.drop 16).take 16
theorem w_1 : sumsQ TablesWhole.holds P0.main.scope ⟨P0.main.scope, [], [], [], none⟩ P0.main.scope q_1 = true := by kernel_rfl
def q_2 : List Stmt := (P0.main.body.drop 32).take 100000
theorem w_2 : sumsQ TablesWhole.holds P0.main.scope ⟨P0.main.scope, [], [], [], none⟩ P0.main.scope q_2 = true := by kernel_rfl
theorem told_ : toldQ TablesWhole.gather P0.main.scope ⟨P0.main.scope, [], [], [], none⟩ P0.main.scope P0.main.body = [] := by kernel_rfl
theorem wbody : P0.main.body = q_0 ++ (q_1 ++ (q_2 ++ ([]))) := by kernel_rfl
theorem whole_ : P0.tablesWhole = true := whole_of rfl rfl rfl told_ (by kernel_rfl) (sums_is wbody (sums_more w_0 (sums_more w_1 (sums_more w_2 (by kernel_rfl)))))
end
end Cut
end K03
open PySem PySem.Calls PySem.W
open PyProof.Rows
set_option maxHeartbeats 0 in
theorem PySem.Challenge.cw_endlessplane_k03_spreads_told_holds : PySem.Challenge.rw_endlessplane_k03_spreads_told.Holds := by
  w_on
  o_law
  refine Ep.Hd.head_lots (r := K03.RR) (q := view K03.RR.prog [35]) (Hk := K03.hk) (ls := K03.names_) (df := HandSHeadRun.topDef K03.RR.prog 35) (kws := []) K03.Cut.left_ (by kernel_rfl) (by kernel_rfl) (by kernel_rfl) (by rfl) (by first | assumption | decide +kernel) (by decide +kernel) ⟨rfl, rfl, rfl, rfl, rfl, K03.Cut.whole_⟩ ?hw ?hc
  case hw => w_witness2
  case hc =>
    refine Ep.law_endE (l := PySem.Challenge.rw_endlessplane_k03_spreads_told) (x := "_law_script") 7 [] rfl (by kernel_rfl) ⟨rfl, by decide, by decide⟩ ?hx ?F
    case hx => exact fun y hy => absurd hy List.not_mem_nil
    intro w mg fa h Y Ns hm0
    obtain ⟨K, KX, c⟩ := Y
    have hm : mg ("law" : PySem.Str) = some (.ref fa) := by
      have e : (HandSHeadRun.topDef K03.RR.prog 35).name = ("law" : PySem.Str) := by kernel_rfl
      rw [← e]
      exact hm0
    exact ⟨K, KX, K03.final KX Ns hm c.d c.ck (List.cons.inj c.su).1 (List.cons.inj (List.cons.inj c.su).2).1 (List.cons.inj (List.cons.inj (List.cons.inj c.su).2).2).1 (List.cons.inj (List.cons.inj (List.cons.inj (List.cons.inj c.su).2).2).2).1⟩
