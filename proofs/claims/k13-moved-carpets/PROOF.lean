import PyProof.Rows.All
import Wide.All
import OpenK.AllK
import Wide.FinOn
import HandS.ForMost
import KE.KStateDown
import Lean
import HandS.Head0
import HandS.Head1
import HandS.Head2
import HandS.HeadEnd
import HandS.Walk
import HandS.Wide
import HandS.Defaults
import HandS.IsInst
import HandS.Exc
import HandS.Lambda
import HandS.CallSlots
import HandS.TupAny
import HandS.Deep
import HandS.Style
import HandS.TupMul
import PyProof.Rows.StrMul
import HandS.SortInts
import HandS.RaiseMore
import HandS.Text
import HandS.Zip
import HandS.TryOnly
import HandS.WordsExc
import HandS.Iter
import HandS.Comp
import HandS.Dict
import HandS.More
import KE.KIndexOf
import HandS.SlotsOwn
import HandS.HeadHook2
import HandS.HeadHook3
import HandS.EndTab
import HandS.ForExc
import HandS.ExcSuper
import KE.KExcSuper
import HandS.TryMany
import HandS.ExcIs
import KE.KExcIs
import KE.GoesEnum
import HandS.Star
import HandS.Conv
import HandS.DictComp
import KE.KDictZip
import KE.GoesMore
import HandS.GenBody
import OpenK.KMake
import KE.GoesZip
import HandS.HeadHook1
import HandS.HeadHook4
import HandS.Flow
import HandS.Nested
import KE.KSuper
import PyProof.RangeFor
import HandS.Base
import PyProof.RangeIter
import PyProof.WalksMore
import PyProof.Walk
import PyProof.WalkLemmas
import PyProof.FactsTree
import PyProof.TableTree
import PyProof.PlainAttrs
import PyProof.ReprRoads
import HandS.MakeKwOnly
import KE.DatumOrd
import KE.KDictKeyed
import HandS.TupLen
import KE.KNestM
import PySem.Challenge.RW_endlessplane_k13_whole_moved_carpets
set_option Elab.async false
set_option linter.all false
set_option maxRecDepth 100000
set_option maxHeartbeats 8000000
set_option exponentiation.threshold 5000
/-! Values as trees, worlds, what a value denotes. -/
namespace Ep
open PySem PySem.Spec L2
/-- a value, tuples and lists by their items; kls: a list that is never changed (the script, one of the top); gl: a def or class of the top; ref: a list that is changed by several defs -/
inductive T where
  | non | bl (b : Bool) | int (i : Int) | str (x : Str)
  | tup (xs : List T) | lst (xs : List T) | kls (xs : List T)
  | obj (C : Nat) (vs : List T)
  | gl (x : Str) | cl (C : Nat) | ty (n : String) | ref (k : Nat)
  | dct (ks : List Key) (vs : List T) | dtt (ks : List (List Key)) (vs : List T)
  | fdt (ks : List (List Key)) (vs : List T)
abbrev RS := List (List T)
inductive Out (α : Type) where
  | ok (a : α) (r : RS) | exn (c : Nat) (p : T) (r : RS) | bad
def M (α : Type) := RS → Out α
@[simp] def M.pure {α : Type} (a : α) : M α := fun r => .ok a r
@[simp] def M.bind {α β : Type} (m : M α) (k : α → M β) : M β := fun r => match m r with
  | .ok a r' => k a r'
  | .exn c p r' => .exn c p r'
  | .bad => .bad
instance : Monad M where
  pure := M.pure
  bind := M.bind
@[simp] def M.bad {α : Type} : M α := fun _ => .bad
@[simp] def M.lift {α : Type} : Option α → M α
  | some a => M.pure a
  | none => M.bad
/-- the program: its written part, its names, the classes' names and their fields -/
structure Gm where
  K : PySem.W.Frag
  mg : Str → Option Value
  cn : Nat → Str
  fl : Nat → List Str
  tb : List (Addr × Str) := []
  /-- a function that the running def heard: its address, its code object and that one's name, what it captured -/
  fn : Option (Addr × Addr × Str × List V × List T) := none
/-- a world: what stands still (public), the changed lists' addresses -/
structure Fx where
  me : Addr
  xa : Addr
  xd : Addr
structure Wd where
  P : Hp
  R : List Addr
  fx : Fx
/-- a tuple that stands: tracked, or of the written part -/
def TupAt (K : PySem.W.Frag) (H : Hp) (a : Addr) (xs : List V) : Prop := H a = some (.tup xs) ∨ ∃ (o : Obj) (its : Array Value) (n : Nat), K.lookup a = some o ∧ o.cls = .type "tuple" ∧ o.data = .seq its n ∧ its.size ≤ sizeLine ∧ Vals xs its.toList
theorem tup_sq {K : PySem.W.Frag} {P H : Hp} {a : Addr} {xs : List V} (s : Same P H) (h : TupAt K P a xs) : SqT K H a xs := by
  rcases h with h | h
  · exact .inl (.inl (s _ _ h))
  · exact .inr h
theorem TupAt.mono {K : PySem.W.Frag} {P H : Hp} {a : Addr} {xs : List V} (h : TupAt K P a xs) (s : Same P H) : TupAt K H a xs := by
  rcases h with h | h
  · exact .inl (s _ _ h)
  · exact .inr h
def keyV : Key → T
  | .inl i => .int i
  | .inr z => .str z
/-- the key, the tuple where it stands, the value -/
def RelF (p : List Key × Addr × V) (q : List Key × Addr × Value) : Prop := p.1 = q.1 ∧ p.2.1 = q.2.1 ∧ RelV p.2.2 q.2.2
/-- od, the object at a, is a dict with the entries kvs, its keys tuples -/
def FdAt (od : Obj) (a : Addr) (kvs : List (List Key × Addr × V)) : Prop := ∃ (P : Program) (w : World) (es : Array DictEntry) (ep : Nat) (xs : List (List Key × Addr × Value)), od.data = .dict es ep ∧ es.toList = xs.map (entryOfKey (tupleKind (mixKind P w))) ∧ Paired RelF kvs xs ∧ (xs.map (·.1)).Nodup ∧ od.ExactDict ∧ (a == sysModules) = false ∧ kvs.length ≤ sizeLine
mutual
inductive Den (G : Gm) (w : Wd) : V → T → Prop
  | non : Den G w .non .non
  | bl (b : Bool) : Den G w (.bl b) (.bl b)
  | int (i : Int) : Den G w (.int i) (.int i)
  | str (x : Str) : Den G w (.str x) (.str x)
  | tup {a : Addr} {vs : List V} {ts : List T} (h : TupAt G.K w.P a vs) (z : ts.length ≤ sizeLine) (d : Dens G w vs ts) : Den G w (.ref a) (.tup ts)
  | lst {a : Addr} {vs : List V} {ts : List T} (h : w.P a = some (.lst vs)) (z : ts.length ≤ sizeLine) (d : Dens G w vs ts) : Den G w (.ref a) (.lst ts)
  | kls {a : Addr} {vs : List V} {ts : List T} (h : SqL G.K w.P a vs) (z : ts.length ≤ sizeLine) (d : Dens G w vs ts) : Den G w (.ref a) (.kls ts)
  | obj {a cA dx : Addr} {C : Nat} {vs : List V} {ts : List T} (c : G.mg (G.cn C) = some (.ref cA)) (h : w.P a = some (.ins cA dx ((G.fl C).zip vs))) (l : (G.fl C).length = vs.length) (d : Dens G w vs ts) : Den G w (.ref a) (.obj C ts)
  | gl {x : Str} {a : Addr} (h : G.mg x = some (.ref a)) : Den G w (.ref a) (.gl x)
  | cl {C : Nat} {a : Addr} (h : G.mg (G.cn C) = some (.ref a)) : Den G w (.ref a) (.cl C)
  | ty (n : String) : Den G w (.ty n) (.ty n)
  | ref {k : Nat} {a : Addr} (h : w.R[k]? = some a) : Den G w (.ref a) (.ref k)
  | dct {a : Addr} {ks : List Key} {vs : List V} {ts : List T} (h : w.P a = some (.dK (ks.zip vs))) (l : ks.length = ts.length) (d : Dens G w vs ts) : Den G w (.ref a) (.dct ks ts)
  | dtt {a : Addr} {ks : List (List Key)} {vs : List V} {ts : List T} (h : w.P a = some (.dT (ks.zip vs))) (l : ks.length = ts.length) (d : Dens G w vs ts) : Den G w (.ref a) (.dtt ks ts)
  /-- a dict whose keys are tuples, read alone from now on -/
  | fdt {a : Addr} {od : Obj} {kvs : List (List Key × Addr × V)} {ts : List T} (h : w.P a = some (.frz od (.ext fun _ => True))) (f : FdAt od a kvs) (dk : Dens G w (kvs.map fun x => V.ref x.2.1) (kvs.map fun x => T.tup (x.1.map keyV))) (dv : Dens G w (kvs.map fun x => x.2.2) ts) : Den G w (.ref a) (.fdt (kvs.map fun x => x.1) ts)
inductive Dens (G : Gm) (w : Wd) : List V → List T → Prop
  | nil : Dens G w [] []
  | cons {v : V} {vs : List V} {t : T} {ts : List T} (h : Den G w v t) (r : Dens G w vs ts) : Dens G w (v :: vs) (t :: ts)
end
/-- what a later world keeps -/
structure Later (w w' : Wd) : Prop where
  pub : Same w.P w'.P
  refs : ∃ more, w'.R = w.R ++ more
theorem Later.refl (w : Wd) : Later w w := ⟨Same.refl _, [], by simp⟩
theorem Later.trans {w w1 w2 : Wd} (a : Later w w1) (b : Later w1 w2) : Later w w2 := ⟨a.pub.trans b.pub, by
  obtain ⟨m, e⟩ := a.refs
  obtain ⟨m', e'⟩ := b.refs
  exact ⟨m ++ m', by rw [e', e, List.append_assoc]⟩⟩
mutual
theorem Den.mono {G : Gm} {w w' : Wd} (L : Later w w') : ∀ {v : V} {t : T}, Den G w v t → Den G w' v t
  | _, _, .non => .non
  | _, _, .bl b => .bl b
  | _, _, .int i => .int i
  | _, _, .str x => .str x
  | _, _, .tup h z d => .tup (h.mono L.pub) z (Dens.mono L d)
  | _, _, .lst h z d => .lst (L.pub _ _ h) z (Dens.mono L d)
  | _, _, .kls h z d => .kls (L.pub.seq h) z (Dens.mono L d)
  | _, _, .obj c h l d => .obj c (L.pub _ _ h) l (Dens.mono L d)
  | _, _, .gl h => .gl h
  | _, _, .cl h => .cl h
  | _, _, .ty n => .ty n
  | _, _, .dct h l d => .dct (L.pub _ _ h) l (Dens.mono L d)
  | _, _, .dtt h l d => .dtt (L.pub _ _ h) l (Dens.mono L d)
  | _, _, .fdt h f dk dv => .fdt (L.pub _ _ h) f (Dens.mono L dk) (Dens.mono L dv)
  | _, _, .ref (k := k) (a := a) h => .ref (by
      obtain ⟨m, e⟩ := L.refs
      rw [e, List.getElem?_append_left (by
        have := (List.getElem?_eq_some_iff.mp h).1
        exact this)]
      exact h)
theorem Dens.mono {G : Gm} {w w' : Wd} (L : Later w w') : ∀ {vs : List V} {ts : List T}, Dens G w vs ts → Dens G w' vs ts
  | _, _, .nil => .nil
  | _, _, .cons h r => .cons (Den.mono L h) (Dens.mono L r)
end
theorem Dens.length {G : Gm} {w : Wd} : ∀ {vs : List V} {ts : List T}, Dens G w vs ts → vs.length = ts.length
  | _, _, .nil => rfl
  | _, _, .cons _ r => by simp [Dens.length r]
theorem Dens.append {G : Gm} {w : Wd} : ∀ {vs ws : List V} {ts us : List T}, Dens G w vs ts → Dens G w ws us → Dens G w (vs ++ ws) (ts ++ us)
  | _, _, _, _, .nil, s => s
  | _, _, _, _, .cons h r, s => .cons h (Dens.append r s)
theorem Dens.get {G : Gm} {w : Wd} : ∀ {vs : List V} {ts : List T} {i : Nat} {t : T}, Dens G w vs ts → ts[i]? = some t → ∃ v, vs[i]? = some v ∧ Den G w v t
  | _, _, _, _, .nil, e => by (simp at e)
  | _, _, 0, _, .cons h r, e => by simp at e; subst e; exact ⟨_, rfl, h⟩
  | _, _, i + 1, _, .cons h r, e => by
    obtain ⟨v, h1, h2⟩ := Dens.get (i := i) r (by simpa using e)
    exact ⟨v, by simpa using h1, h2⟩
theorem Dens.getV {G : Gm} {w : Wd} : ∀ {vs : List V} {ts : List T} {i : Nat} {v : V}, Dens G w vs ts → vs[i]? = some v → ∃ t, ts[i]? = some t ∧ Den G w v t
  | _, _, _, _, .nil, e => by (simp at e)
  | _, _, 0, _, .cons h r, e => by simp at e; subst e; exact ⟨_, rfl, h⟩
  | _, _, i + 1, _, .cons h r, e => by
    obtain ⟨v, h1, h2⟩ := Dens.getV (i := i) r (by simpa using e)
    exact ⟨v, by simpa using h1, h2⟩
theorem Dens.set {G : Gm} {w : Wd} {v : V} {t : T} (d : Den G w v t) : ∀ {vs : List V} {ts : List T} (i : Nat), Dens G w vs ts → Dens G w (vs.set i v) (ts.set i t)
  | _, _, _, .nil => .nil
  | _, _, 0, .cons _ r => .cons d r
  | _, _, i + 1, .cons h r => .cons h (Dens.set d i r)
theorem Dens.take {G : Gm} {w : Wd} : ∀ {vs : List V} {ts : List T} (n : Nat), Dens G w vs ts → Dens G w (vs.take n) (ts.take n)
  | _, _, 0, _ => .nil
  | _, _, n + 1, .nil => .nil
  | _, _, n + 1, .cons h r => .cons h (Dens.take n r)
theorem Dens.drop {G : Gm} {w : Wd} : ∀ {vs : List V} {ts : List T} (n : Nat), Dens G w vs ts → Dens G w (vs.drop n) (ts.drop n)
  | _, _, 0, h => h
  | _, _, n + 1, .nil => .nil
  | _, _, n + 1, .cons h r => Dens.drop n r
/-- the changed lists stand as r says -/
structure RefsOk (G : Gm) (w : Wd) (H : Hp) (r : RS) : Prop where
  nd : w.R.Nodup
  len : w.R.length = r.length
  out : ∀ a ∈ w.R, w.P a = none
  at_ : ∀ (k : Nat) (xs : List T), r[k]? = some xs → ∃ a vs, w.R[k]? = some a ∧ H a = some (.lst vs) ∧ Dens G w vs xs ∧ xs.length ≤ sizeLine
/-- no table of code objects -/
def NoTab (o : HO) : Prop := ∀ ps, o ≠ .tbl ps
/-- no table, nothing of the machine's own -/
structure Pl (o : HO) : Prop where
  tb : ∀ ps, o ≠ .tbl ps
  ex : ∀ f, o ≠ .ext f
/-- something stands there that is no table -/
def Vs (H : Hp) (a : Addr) : Prop := ∃ o, H a = some o ∧ NoTab o
theorem vs_of {H : Hp} {a : Addr} {o : HO} (h : H a = some o) (n : NoTab o := by intro ps e; cases e) : Vs H a := ⟨o, h, n⟩
theorem nvs {H : Hp} {a : Addr} (h : H a = none) : ¬ Vs H a := fun ⟨_, e, _⟩ => by rw [h] at e; cases e
theorem Vs.put {H : Hp} {a p : Addr} {o : HO} (h : Vs H a) (n : NoTab o) : Vs (upd H p o) a := by
  by_cases e : a = p
  · subst e; exact ⟨o, upd_same, n⟩
  · obtain ⟨u, h1, h2⟩ := h; exact ⟨u, by rw [upd_ne e]; exact h1, h2⟩
theorem ne_nv {H : Hp} {a p : Addr} {o : HO} (h : H a = some o) (n : NoTab o) (hp : ¬ Vs H p) : a ≠ p := fun e => hp (e ▸ ⟨o, h, n⟩)
structure Good (G : Gm) (w : Wd) (H : Hp) (r : RS) : Prop where
  sub : Same w.P H
  refs : RefsOk G w H r
  tabs : LamX.Tabs G.tb H
  nt : ∀ a o, w.P a = some o → NoTab o
theorem TabS.put {H : Hp} {T p : Addr} {q : Str} {o : HO} (t : LamX.TabS H T q) (h : H p = none ∨ ∃ u, H p = some u ∧ Pl u) : LamX.TabS (upd H p o) T q := by
  obtain ⟨ps, h1, h2, h3⟩ := t
  have nT : T ≠ p := fun e => by
    rcases h with z | ⟨u, z, k⟩
    · rw [e, z] at h1; cases h1
    · rw [e, z] at h1; exact k.tb ps (Option.some.inj h1)
  refine ⟨ps, by rw [upd_ne nT]; exact h1, h2, fun pos cv hc => ?_⟩
  obtain ⟨c, e1, e2⟩ := h3 pos cv hc
  have nc : c ≠ p := fun e => by
    rcases h with z | ⟨u, z, k⟩
    · rw [e, z] at e2; cases e2
    · rw [e, z] at e2; unfold LamX.CodeO at e2; exact k.ex _ (Option.some.inj e2)
  exact ⟨c, e1, by rw [upd_ne nc]; exact e2⟩
theorem tabs_put {tb : List (Addr × Str)} {H : Hp} {p : Addr} {o : HO} (t : LamX.Tabs tb H) (h : H p = none ∨ ∃ u, H p = some u ∧ Pl u) : LamX.Tabs tb (upd H p o) := fun q hq => TabS.put (t q hq) h
/-- from H to H': public things stay, the untracked of others stays hidden, all but the changed lists stays -/
structure Step (w : Wd) (H : Hp) (w' : Wd) (H' : Hp) : Prop where
  pub : Same w.P w'.P
  fr : ∀ a o, a ∉ w.R → H a = some o → NoTab o → H' a = some o
  keep : ∀ a, Vs H a → Vs H' a
  hid : ∀ a, a ∉ w.R → Vs H a → w.P a = none → w'.P a = none
  refs : ∃ more, w'.R = w.R ++ more ∧ ∀ a ∈ more, ¬ Vs H a
  me : w'.fx = w.fx
theorem Step.refl (w : Wd) (H : Hp) : Step w H w H := ⟨Same.refl _, fun _ _ _ h _ => h, fun _ h => h, fun _ _ _ h => h, ⟨[], by simp, by simp⟩, rfl⟩
theorem Step.later {w w' : Wd} {H H' : Hp} (s : Step w H w' H') : Later w w' := ⟨s.pub, by obtain ⟨m, e, _⟩ := s.refs; exact ⟨m, e⟩⟩
theorem Step.trans {w w1 w2 : Wd} {H H1 H2 : Hp} (a : Step w H w1 H1) (b : Step w1 H1 w2 H2) : Step w H w2 H2 := by
  obtain ⟨m, e, hm⟩ := a.refs
  obtain ⟨m2, e2, hm2⟩ := b.refs
  have notin : ∀ x, x ∉ w.R → Vs H x → x ∉ w1.R := fun x h1 h2 h3 => by
    rw [e] at h3
    rcases List.mem_append.mp h3 with h | h
    · exact h1 h
    · exact hm x h h2
  refine ⟨a.pub.trans b.pub, fun x o h1 h2 h4 => ?_, fun x h => b.keep x (a.keep x h), fun x h1 h2 h3 => ?_, ⟨m ++ m2, by rw [e2, e, List.append_assoc], fun x hx => ?_⟩, b.me.trans a.me⟩
  · exact b.fr x o (notin x h1 ⟨o, h2, h4⟩) (a.fr x o h1 h2 h4) h4
  · exact b.hid x (notin x h1 h2) (a.keep x h2) (a.hid x h1 h2 h3)
  · rcases List.mem_append.mp hx with h | h
    · exact hm x h
    · exact fun hn => hm2 x h (a.keep x hn)
theorem RefsOk.there {G : Gm} {w : Wd} {H : Hp} {r : RS} (x : RefsOk G w H r) {a : Addr} (h : a ∈ w.R) : ∃ vs, H a = some (.lst vs) := by
  obtain ⟨k, hk, e⟩ := List.getElem_of_mem h
  have hk' : k < r.length := by rw [← x.len]; exact hk
  obtain ⟨b, vs, h1, h2, _, _⟩ := x.at_ k r[k] (by simp [hk'])
  have : b = a := by
    rw [List.getElem?_eq_getElem hk] at h1
    exact (Option.some.inj h1).symm.trans e
  subst this
  exact ⟨vs, h2⟩
/-- a new thing, public at once -/
def Wd.add (w : Wd) (p : Addr) (o : HO) : Wd := ⟨upd w.P p o, w.R, w.fx⟩
section
variable {G : Gm} {w : Wd} {H : Hp} {r : RS} {p : Addr} {o : HO}
theorem Good.noref (g : Good G w H r) (hp : H p = none) : p ∉ w.R := fun h => by
  obtain ⟨vs, e⟩ := g.refs.there h
  rw [hp] at e
  cases e
theorem Good.nopub (g : Good G w H r) (hp : H p = none) : w.P p = none := by
  cases e : w.P p with
  | none => rfl
  | some u => exact absurd (g.sub p u e) (by rw [hp]; simp)
theorem Good.new (g : Good G w H r) (hp : H p = none) (no : NoTab o := by intro ps e; cases e) : Step w H (w.add p o) (upd H p o) ∧ Good G (w.add p o) (upd H p o) r := by
  have hP := g.nopub hp
  have hR := g.noref hp
  have st : Step w H (w.add p o) (upd H p o) := by
    refine ⟨fun a u e => ?_, fun a u _ e _ => ?_, fun a h => ?_, fun a _ h1 h2 => ?_, ⟨[], by simp [Wd.add], by simp⟩, rfl⟩
    · show upd w.P p o a = some u
      rw [upd_ne (ne_of_none e hP)]
      exact e
    · rw [upd_ne (ne_of_none e hp)]
      exact e
    · exact h.put no
    · show upd w.P p o a = none
      rw [upd_ne (fun e => nvs hp (by rw [← e]; exact h1))]
      exact h2
  refine ⟨st, fun a u e => ?_, ⟨g.refs.nd, g.refs.len, fun a ha => ?_, fun k xs hk => ?_⟩, tabs_put g.tabs (.inl hp), fun a u e => ?_⟩
  · have e : upd w.P p o a = some u := e
    by_cases h : a = p
    · subst h
      rw [upd_same] at e ⊢
      exact e
    · rw [upd_ne h] at e ⊢
      exact g.sub a u e
  · show upd w.P p o a = none
    rw [upd_ne (fun e => hR (by rw [← e]; exact ha))]
    exact g.refs.out a ha
  · obtain ⟨a, vs, h1, h2, h3, hz⟩ := g.refs.at_ k xs hk
    refine ⟨a, vs, h1, ?_, h3.mono st.later, hz⟩
    rw [upd_ne (ne_of_none h2 hp)]
    exact h2
  · have e : upd w.P p o a = some u := e
    by_cases h : a = p
    · subst h
      rw [upd_same] at e
      cases e
      exact no
    · rw [upd_ne h] at e
      exact g.nt a u e
end
/-- a slot of a def: nothing, a value, a list of its own that is still changed, an instance that is being made (its class's address, its fields so far) -/
inductive Pv where
  | lst (xs : List T) | ins (C : Nat) (vs : List T) | dk (ks : List Key) (vs : List T) | dt (ks : List (List Key)) (vs : List T)
inductive Slot where
  | un | val (t : T) | pv (o : Pv) | fn
abbrev Slot.own (xs : List T) : Slot := .pv (.lst xs)
abbrev Slot.ins (C : Nat) (vs : List T) : Slot := .pv (.ins C vs)
abbrev Slot.dk (ks : List Key) (vs : List T) : Slot := .pv (.dk ks vs)
/-- a thing of a def's own, as it stands -/
inductive PvOk (G : Gm) (w : Wd) (a : Addr) : HO → Pv → Prop
  | lst {vs : List V} {xs : List T} (z : xs.length ≤ sizeLine) (d : Dens G w vs xs) : PvOk G w a (.lst vs) (.lst xs)
  | ins {C : Nat} {cA dx : Addr} {vs : List V} {ts : List T} (hm : a = w.fx.me) (c : G.mg (G.cn C) = some (.ref cA)) (l : ts.length ≤ (G.fl C).length) (d : Dens G w vs ts) : PvOk G w a (.ins cA dx (((G.fl C).take ts.length).zip vs)) (.ins C ts)
  | dk {ks : List Key} {vs : List V} {ts : List T} (l : ks.length = ts.length) (z : ks.length ≤ sizeLine) (d : Dens G w vs ts) : PvOk G w a (.dK (ks.zip vs)) (.dk ks ts)
  | dt {ks : List (List Key)} {vs : List V} {ts : List T} (l : ks.length = ts.length) (z : ks.length ≤ sizeLine) (d : Dens G w vs ts) : PvOk G w a (.dT (ks.zip vs)) (.dt ks ts)
theorem PvOk.mono {G : Gm} {w w' : Wd} {a : Addr} (L : Later w w') (em : w'.fx = w.fx) {o : HO} {p : Pv} (h : PvOk G w a o p) : PvOk G w' a o p := by
  cases h with
  | lst z d => exact .lst z (d.mono L)
  | ins hm c l d => exact .ins (hm.trans (by rw [em])) c l (d.mono L)
  | dk l z d => exact .dk l z (d.mono L)
  | dt l z d => exact .dt l z (d.mono L)
theorem code_ne {H : Hp} {c p : Addr} {q : Str} {u : HO} (hc : H c = some (LamX.CodeO c q)) (hp : H p = some u) (k : Pl u) : c ≠ p := fun e => by
  subst e
  rw [hp] at hc
  unfold LamX.CodeO at hc
  exact k.ex _ (Option.some.inj hc)
theorem PvOk.pl {G : Gm} {w : Wd} {a : Addr} {o : HO} {p : Pv} (h : PvOk G w a o p) : Pl o := by
  cases h <;> exact ⟨fun _ e => (by cases e), fun _ e => (by cases e)⟩
abbrev Env := List Slot
/-- the slots hold what env says; H0: the heap at the def's entry -/
def SlotAt (G : Gm) (w : Wd) (H0 H : Hp) (σ : L2.St) (oa : Nat → Addr) (i : Nat) : Slot → Prop
  | .un => True
  | .val t => ∃ v, σ[i]? = some (some v) ∧ Den G w v t
  | .fn => ∃ a c q cv ct, G.fn = some (a, c, q, cv, ct) ∧ σ[i]? = some (some (.ref a)) ∧ Dens G w cv ct ∧ c ∉ w.R ∧ H c = some (LamX.CodeO c q)
  | .pv q => σ[i]? = some (some (.ref (oa i))) ∧ w.P (oa i) = none ∧ oa i ∉ w.R ∧ ¬ Vs H0 (oa i) ∧ ∃ o, H (oa i) = some o ∧ PvOk G w (oa i) o q
def Slot.priv : Slot → Bool
  | .pv _ => true
  | _ => false
structure Slots (G : Gm) (w : Wd) (H0 H : Hp) (σ : L2.St) (env : Env) : Prop where
  len : σ.length = env.length
  ex : ∃ oa : Nat → Addr, (∀ (i : Nat) (s : Slot), env[i]? = some s → SlotAt G w H0 H σ oa i s) ∧ ∀ (i j : Nat) (s u : Slot), env[i]? = some s → env[j]? = some u → s.priv = true → u.priv = true → oa i = oa j → i = j
section
variable {G : Gm} {w w' : Wd} {H0 H H' : Hp} {r r' : RS} {σ : L2.St} {env : Env}
theorem Slots.step (s : Slots G w H0 H σ env) (st : Step w H w' H') : Slots G w' H0 H' σ env := by
  obtain ⟨oa, h1, h2⟩ := s.ex
  refine ⟨s.len, oa, fun i s hi => ?_, h2⟩
  have h := h1 i s hi
  have nr : ∀ a, a ∉ w.R → Vs H a → a ∉ w'.R := fun a ha hn hm => by
    obtain ⟨m, e, hm'⟩ := st.refs
    rw [e] at hm
    rcases List.mem_append.mp hm with z | z
    · exact ha z
    · exact hm' a z hn
  cases s with
  | un => trivial
  | fn =>
    obtain ⟨a, c, q, cv, ct, e1, e2, d, n, hc⟩ := h
    exact ⟨a, c, q, cv, ct, e1, e2, d.mono st.later, nr c n ⟨_, hc, LamX.codeO_ne⟩, st.fr c _ n hc LamX.codeO_ne⟩
  | val t =>
    obtain ⟨v, e, d⟩ := h
    exact ⟨v, e, d.mono st.later⟩
  | pv q =>
    obtain ⟨e, h3, h4, h5, o, h6, h7⟩ := h
    exact ⟨e, st.hid _ h4 ⟨o, h6, h7.pl.tb⟩ h3, nr _ h4 ⟨o, h6, h7.pl.tb⟩, h5, o, st.fr _ _ h4 h6 h7.pl.tb, h7.mono st.later st.me⟩
end
/-! ### what is wanted behind a computation -/
/-- an exception of the top's class c, made of one value -/
structure ExcIs (G : Gm) (w : Wd) (H : Hp) (c : Nat) (p : T) (cls : Value) (d : Option Addr) : Prop where
  ex : ∃ cA dd v f, G.mg (G.cn c) = some (.ref cA) ∧ cls = .ref cA ∧ d = some dd ∧ G.fl c = [f] ∧ H dd = some (.xd [(f, v)]) ∧ Den G w v p
def OutP {α : Type} (G : Gm) (w : Wd) (H : Hp) (E : XK) (okP : α → RS → Wd → Hp → Prop) : Out α → Prop
  | .ok a r' => ∀ w' H', Step w H w' H' → Good G w' H' r' → okP a r' w' H'
  | .exn c p r' => ∀ w' H' cls d, Step w H w' H' → Good G w' H' r' → ExcIs G w' H' c p cls d → E cls d H'
  | .bad => False
theorem OutP.mono {α : Type} {G : Gm} {w w1 : Wd} {H H1 : Hp} {E : XK} {P : α → RS → Wd → Hp → Prop} {o : Out α} (h : OutP G w H E P o) (s : Step w H w1 H1) : OutP G w1 H1 E P o := by
  cases o with
  | ok a r' => exact fun w' H' s' g => h w' H' (s.trans s') g
  | exn c p r' => exact fun w' H' cls d s' g x => h w' H' cls d (s.trans s') g x
  | bad => exact h
theorem OutP.imp {α : Type} {G : Gm} {w : Wd} {H : Hp} {E : XK} {P P' : α → RS → Wd → Hp → Prop} {o : Out α} (h : OutP G w H E P o) (hi : ∀ a r w' H', Step w H w' H' → Good G w' H' r → P a r w' H' → P' a r w' H') : OutP G w H E P' o := by
  cases o with
  | ok a r' => exact fun w' H' s' g => hi _ _ _ _ s' g (h w' H' s' g)
  | exn c p r' => exact h
  | bad => exact h
theorem OutP.bind {α β : Type} {G : Gm} {w : Wd} {H : Hp} {E : XK} {P : β → RS → Wd → Hp → Prop} {m : M α} {k : α → M β} {r : RS} (h : OutP G w H E P ((m >>= k) r)) :
    OutP G w H E (fun a r1 w1 H1 => OutP G w1 H1 E P (k a r1)) (m r) := by
  have e : (m >>= k) r = M.bind m k r := rfl
  rw [e] at h
  unfold M.bind at h
  cases q : m r with
  | ok a r' =>
    rw [q] at h
    exact fun w' H' s g => h.mono s
  | exn c p r' =>
    rw [q] at h
    exact h
  | bad =>
    rw [q] at h
    exact h
end Ep
namespace Ep
open PySem PySem.Spec L2
/-! ### readings by computations -/
abbrev WE0 (W : WX) (σ : L2.St) : XK := fun c d H => W c d σ H
def tS (G : Gm) (W : WX) (f : Env → M T) : TE := fun σ H Q => ∃ w H0 env r, Good G w H r ∧ Slots G w H0 H σ env ∧ OutP G w H (WE0 W σ) (fun t _ w' H' => ∀ v, Den G w' v t → Q v H') (f env r)
def tSB (G : Gm) (W : WX) (f : Env → M Bool) : TT := fun σ H Q => ∃ w H0 env r, Good G w H r ∧ Slots G w H0 H σ env ∧ OutP G w H (WE0 W σ) (fun b _ _ H' => Q b H') (f env r)
def fAll : List (Env → M T) → Env → M (List T)
  | [], _ => pure []
  | f :: fs, env => f env >>= fun x => fAll fs env >>= fun xs => pure (x :: xs)
def tSA (G : Gm) (W : WX) (fs : List (Env → M T)) : TA := fun σ H Q => ∃ w H0 env r, Good G w H r ∧ Slots G w H0 H σ env ∧ OutP G w H (WE0 W σ) (fun ts _ w' H' => ∀ vs, Dens G w' vs ts → ts.length = fs.length → Q vs H') (fAll fs env r)
abbrev SE (X : Cx) (G : Gm) (W : WX) (e : Expr) (f : Env → M T) : Prop := PE X e (tS G W f)
abbrev SB (X : Cx) (G : Gm) (W : WX) (e : Expr) (f : Env → M Bool) : Prop := PT X e (tSB G W f)
abbrev SW (X : Cx) (G : Gm) (W : WX) (e : Expr) (f : Env → M Bool) : Prop := PW X e (tSB G W f)
abbrev SA (X : Cx) (G : Gm) (W : WX) (es : List Expr) (fs : List (Env → M T)) : Prop := PA X es (tSA G W fs)
theorem pe_imp {X : Cx} {e : Expr} {t t' : TE} (h : PE X e t) (i : ∀ σ H Q, t' σ H Q → t σ H Q) : PE X e t' := ⟨fun pins s σ H Q I q => h.run pins s σ H Q I (i σ H Q q)⟩
theorem pt_imp {X : Cx} {e : Expr} {t t' : TT} (h : PT X e t) (i : ∀ σ H Q, t' σ H Q → t σ H Q) : PT X e t' := ⟨fun pins s σ H Q I q => h.run pins s σ H Q I (i σ H Q q)⟩
theorem pw_imp {X : Cx} {e : Expr} {t t' : TT} (h : PW X e t) (i : ∀ σ H Q, t' σ H Q → t σ H Q) : PW X e t' := ⟨fun wh pins s σ H Q I q => h.run wh pins s σ H Q I (i σ H Q q)⟩
theorem pa_imp {X : Cx} {e : List Expr} {t t' : TA} (h : PA X e t) (i : ∀ σ H Q, t' σ H Q → t σ H Q) : PA X e t' := ⟨fun pos pins s σ H Q I q => h.run pos pins s σ H Q I (i σ H Q q)⟩
section
variable {G : Gm} {W : WX} {w : Wd} {H0 H : Hp} {r : RS} {σ : L2.St} {env : Env}
/-- behind a first part the second one, in the world that is then -/
theorem seqE {α : Type} {f : Env → M T} {k : T → M α} {P : α → RS → Wd → Hp → Prop} {Q : VK} (g : Good G w H r) (s : Slots G w H0 H σ env) (h : OutP G w H (WE0 W σ) P ((f env >>= k) r))
    (n : ∀ t r1 w1 H1 v, Good G w1 H1 r1 → Slots G w1 H0 H1 σ env → Step w H w1 H1 → Den G w1 v t → OutP G w1 H1 (WE0 W σ) P (k t r1) → Q v H1) : tS G W f σ H Q :=
  ⟨w, H0, env, r, g, s, h.bind.imp fun t r1 w1 H1 st g1 o v d => n t r1 w1 H1 v g1 (s.step st) st d o⟩
theorem seqB {α : Type} {f : Env → M Bool} {k : Bool → M α} {P : α → RS → Wd → Hp → Prop} {Q : Bool → Hp → Prop} (g : Good G w H r) (s : Slots G w H0 H σ env) (h : OutP G w H (WE0 W σ) P ((f env >>= k) r))
    (n : ∀ b r1 w1 H1, Good G w1 H1 r1 → Slots G w1 H0 H1 σ env → Step w H w1 H1 → OutP G w1 H1 (WE0 W σ) P (k b r1) → Q b H1) : tSB G W f σ H Q :=
  ⟨w, H0, env, r, g, s, h.bind.imp fun t r1 w1 H1 st g1 o => n t r1 w1 H1 g1 (s.step st) st o⟩
theorem seqA {α : Type} {fs : List (Env → M T)} {k : List T → M α} {P : α → RS → Wd → Hp → Prop} {Q : List V → Hp → Prop} (g : Good G w H r) (s : Slots G w H0 H σ env) (h : OutP G w H (WE0 W σ) P ((fAll fs env >>= k) r))
    (n : ∀ t r1 w1 H1 v, Good G w1 H1 r1 → Slots G w1 H0 H1 σ env → Step w H w1 H1 → Dens G w1 v t → t.length = fs.length → OutP G w1 H1 (WE0 W σ) P (k t r1) → Q v H1) : tSA G W fs σ H Q :=
  ⟨w, H0, env, r, g, s, h.bind.imp fun t r1 w1 H1 st g1 o v d l => n t r1 w1 H1 v g1 (s.step st) st d l o⟩
theorem OutP.here {α : Type} {E : XK} {P : α → RS → Wd → Hp → Prop} {a : α} (g : Good G w H r) (h : OutP G w H E P (.ok a r)) : P a r w H := h w H (Step.refl _ _) g
end
/-! ### names, constants -/
section
variable {X : Cx} {G : Gm} {W : WX} {pos : Pos}
def fVar (i : Nat) : Env → M T := fun env => match env[i]? with
  | some (.val t) => pure t
  | _ => M.bad
theorem s_var {x : Str} (i : Nat) (hN : X.N[i]? = some x) (hv : Vis X.env.scope x) (hd : (x == ("__debug__" : Str)) = false := by decide) (hcd : (x == ("__classdict__" : Str)) = false := by decide) : SE X G W (.Name x pos) (fVar i) :=
  pe_imp (pe_var hN hv hd hcd) fun σ H Q ⟨w, H0, env, r, g, s, h⟩ => by
    unfold fVar at h
    cases e : env[i]? with
    | none => rw [e] at h; exact h.elim
    | some sl =>
      rw [e] at h
      cases sl with
      | val t =>
        obtain ⟨oa, hs, _⟩ := s.ex
        obtain ⟨v, e1, d⟩ := hs i _ e
        exact ⟨v, e1, OutP.here g h v d⟩
      | un => exact h.elim
      | fn => exact h.elim
      | pv _ => exact h.elim
def fC (t : T) : Env → M T := fun _ => pure t
theorem s_c {e : Expr} {v : V} {t : T} (h : PE X e (tC v)) (d : ∀ w, Den G w v t) : SE X G W e (fC t) := pe_imp h fun σ H Q ⟨w, H0, env, r, g, s, h⟩ => OutP.here g h v (d w)
theorem s_int {i : Int} {j : Nat} : SE X G W (.Constant (.int i) j pos) (fC (.int i)) := s_c pe_int fun _ => .int _
theorem s_bl {b : Bool} {j : Nat} : SE X G W (.Constant (.bool b) j pos) (fC (.bl b)) := s_c pe_bl fun _ => .bl _
theorem s_non {j : Nat} : SE X G W (.Constant .none j pos) (fC .non) := s_c pe_non fun _ => .non
theorem s_str {x : Str} {j : Nat} : SE X G W (.Constant (.str x) j pos) (fC (.str x)) := s_c pe_str fun _ => .str _
/-- a name of the top: its value denotes t in every world -/
theorem s_glob {x : Str} {v : V} {u : Value} {t : T} (hg : Gl X x) (hm : X.mg x = some u) (r : RelV v u) (d : ∀ w, Den G w v t) (hd : (x == ("__debug__" : Str)) = false := by decide) : SE X G W (.Name x pos) (fC t) := s_c (pe_glob hg hm r hd) d
theorem s_bltn {x : Str} {v : V} {u : Value} {t : T} (hg : Gl X x) (hm : X.mg x = none) (hv : bootBuiltins x = some u) (r : RelV v u) (d : ∀ w, Den G w v t) (hn : x ≠ "__name__" := by decide) (hd : (x == ("__debug__" : Str)) = false := by decide) : SE X G W (.Name x pos) (fC t) := s_c (pe_bltn hg hm hv r hn hd) d
end
/-! ### lists that are only looked at -/
/-- a value, or a list that the def still changes -/
def DenB (G : Gm) (w : Wd) (H : Hp) (v : V) (t : T) : Prop := Den G w v t ∨ ∃ a vs xs, v = .ref a ∧ t = .lst xs ∧ a ∉ w.R ∧ H a = some (.lst vs) ∧ Dens G w vs xs ∧ xs.length ≤ sizeLine
def tSK (G : Gm) (W : WX) (f : Env → M T) : TE := fun σ H Q => ∃ w H0 env r, Good G w H r ∧ Slots G w H0 H σ env ∧ OutP G w H (WE0 W σ) (fun t _ w' H' => ∀ v, DenB G w' H' v t → Q v H') (f env r)
abbrev SK (X : Cx) (G : Gm) (W : WX) (e : Expr) (f : Env → M T) : Prop := PE X e (tSK G W f)
theorem DenB.step {G : Gm} {w w' : Wd} {H H' : Hp} {v : V} {t : T} (d : DenB G w H v t) (s : Step w H w' H') : DenB G w' H' v t := by
  rcases d with d | ⟨a, vs, xs, e1, e2, h1, h2, h3, h4⟩
  · exact .inl (d.mono s.later)
  · refine .inr ⟨a, vs, xs, e1, e2, fun hm => ?_, s.fr _ _ h1 h2 (by intro _ e; cases e), h3.mono s.later, h4⟩
    obtain ⟨m, e, hm'⟩ := s.refs
    rw [e] at hm
    rcases List.mem_append.mp hm with z | z
    · exact h1 z
    · exact hm' a z (vs_of h2)
section
variable {X : Cx} {G : Gm} {W : WX} {pos : Pos} {a b : Expr} {f g : Env → M T}
theorem k_of (h : SE X G W a f) : SK X G W a f := pe_imp h fun σ H Q ⟨w, H0, env, r, g, s, h⟩ => ⟨w, H0, env, r, g, s, h.imp fun _ _ _ _ _ _ z v d => z v (.inl d)⟩
def fBor (i : Nat) : Env → M T := fun env => match env[i]? with
  | some (.val t) => pure t
  | some (.pv (.lst xs)) => pure (.lst xs)
  | _ => M.bad
theorem k_var {x : Str} (i : Nat) (hN : X.N[i]? = some x) (hv : Vis X.env.scope x) (hd : (x == ("__debug__" : Str)) = false := by decide) (hcd : (x == ("__classdict__" : Str)) = false := by decide) : SK X G W (.Name x pos) (fBor i) :=
  pe_imp (pe_var hN hv hd hcd) fun σ H Q ⟨w, H0, env, r, g, s, h⟩ => by
    unfold fBor at h
    cases e : env[i]? with
    | none => rw [e] at h; exact h.elim
    | some sl =>
      rw [e] at h
      obtain ⟨oa, hs, _⟩ := s.ex
      cases sl with
      | val t =>
        obtain ⟨v, e1, d⟩ := hs i _ e
        exact ⟨v, e1, OutP.here g h v (.inl d)⟩
      | pv o =>
        cases o with
        | lst xs =>
          obtain ⟨e1, h2, h3, h4, o, h5, h6⟩ := hs i _ e
          cases h6 with
          | lst hz h6 => exact ⟨_, e1, OutP.here g h _ (.inr ⟨_, _, xs, rfl, rfl, h3, h5, h6, hz⟩)⟩
        | _ => exact h.elim
      | un => exact h.elim
      | fn => exact h.elim
theorem seqK {α : Type} {w : Wd} {H0 H : Hp} {r : RS} {σ : L2.St} {env : Env} {k : T → M α} {P : α → RS → Wd → Hp → Prop} {Q : VK} (g : Good G w H r) (s : Slots G w H0 H σ env) (h : OutP G w H (WE0 W σ) P ((f env >>= k) r))
    (n : ∀ t r1 w1 H1 v, Good G w1 H1 r1 → Slots G w1 H0 H1 σ env → Step w H w1 H1 → DenB G w1 H1 v t → OutP G w1 H1 (WE0 W σ) P (k t r1) → Q v H1) : tSK G W f σ H Q :=
  ⟨w, H0, env, r, g, s, h.bind.imp fun t r1 w1 H1 st g1 o v d => n t r1 w1 H1 v g1 (s.step st) st d o⟩
end
/-! ### operators -/
section
variable {X : Cx} {G : Gm} {W : WX} {pos : Pos}
/-- a rule by values computes h -/
def OpV (G : Gm) (r2 : R2) (h : T → T → Option T) : Prop := ∀ w H r x y t u z Q, Good G w H r → Den G w x t → Den G w y u → h t u = some z → (∀ v w' H', Step w H w' H' → Good G w' H' r → Den G w' v z → Q v H') → r2 x y H Q
def fBin (h : T → T → Option T) (f g : Env → M T) : Env → M T := fun env => f env >>= fun x => g env >>= fun y => M.lift (h x y)
theorem liftP {α : Type} {w : Wd} {H : Hp} {E : XK} {r : RS} {P : α → RS → Wd → Hp → Prop} {o : Option α} (h : OutP G w H E P (M.lift o r)) : ∃ a, o = some a ∧ ∀ w' H', Step w H w' H' → Good G w' H' r → P a r w' H' := by
  cases o with
  | none => exact h.elim
  | some a => exact ⟨a, rfl, h⟩
variable {a b c : Expr} {f g k : Env → M T}
theorem op_use {r2 : R2} {h : T → T → Option T} {σ : L2.St} {H : Hp} {Q : VK} (hv : OpV G r2 h) (hq : tS G W (fBin h f g) σ H Q) : tOp r2 (tS G W f) (tS G W g) σ H Q := by
  obtain ⟨w, H0, env, r, g0, s, h0⟩ := hq
  refine seqE g0 s h0 fun t r1 w1 H1 x g1 s1 st1 d1 h1 => ?_
  refine seqE g1 s1 h1 fun u r2 w2 H2 y g2 s2 st2 d2 h2 => ?_
  obtain ⟨z, ez, hz⟩ := liftP h2
  exact hv w2 H2 r2 x y t u z Q g2 (d1.mono st2.later) d2 ez fun v w' H' st g' d => hz w' H' st g' v d
theorem s_bin {op : Operator} {r2 : R2} {h : T → T → Option T} (ho : OpR X (binaryOp op) r2) (hv : OpV G r2 h) (ha : SE X G W a f) (hb : SE X G W b g) : SE X G W (.BinOp a op b pos) (fBin h f g) :=
  pe_imp (pe_op ho ha hb) fun σ H Q hq => op_use hv hq
def UnV (G : Gm) (r1 : V → Hp → VK → Prop) (h : T → Option T) : Prop := ∀ w H r x t z Q, Good G w H r → Den G w x t → h t = some z → (∀ v w' H', Step w H w' H' → Good G w' H' r → Den G w' v z → Q v H') → r1 x H Q
def fUn (h : T → Option T) (f : Env → M T) : Env → M T := fun env => f env >>= fun x => M.lift (h x)
theorem s_un {op : UnaryOp} {r1 : V → Hp → VK → Prop} {h : T → Option T} (ho : UnR X (unaryOp op) r1) (hv : UnV G r1 h) (ha : SE X G W a f) : SE X G W (.UnaryOp op a pos) (fUn h f) :=
  pe_imp (pe_un ho ha) fun σ H Q ⟨w, H0, env, r, g0, s, h0⟩ => by
    refine seqE g0 s h0 fun t r1 w1 H1 x g1 s1 st1 d1 h1 => ?_
    obtain ⟨z, ez, hz⟩ := liftP h1
    exact hv w1 H1 r1 x t z Q g1 d1 ez fun v w' H' st g' d => hz w' H' st g' v d
/-- comparisons -/
def fCmp (h : T → T → Option Bool) (f g : Env → M T) : Env → M T := fBin (fun x y => (h x y).map T.bl) f g
def fCmpB (h : T → T → Option Bool) (f g : Env → M T) : Env → M Bool := fun env => f env >>= fun x => g env >>= fun y => M.lift (h x y)
def CmpV (G : Gm) (r2 : R2) (h : T → T → Option Bool) : Prop := ∀ w H r x y t u z Q, Good G w H r → DenB G w H x t → DenB G w H y u → h t u = some z → Q (.bl z) H → r2 x y H Q
theorem s_cmp {op : CmpOp} {r2 : R2} {h : T → T → Option Bool} (ho : OpR X (compareOp op) r2) (hv : CmpV G r2 h) (ha : SK X G W a f) (hb : SK X G W b g) (hm : behindInMarks op b = false) : SE X G W (.Compare a [op] [b] pos) (fCmp h f g) :=
  pe_imp (pe_cmpR ho ha hb hm) fun σ H Q ⟨w, H0, env, r, g0, s, h0⟩ => by
    refine seqK g0 s h0 fun t r1 w1 H1 x g1 s1 st1 d1 h1 => ?_
    refine seqK g1 s1 h1 fun u r2 w2 H2 y g2 s2 st2 d2 h2 => ?_
    obtain ⟨z, ez, hz⟩ := liftP h2
    have ez : (h t u).map T.bl = some z := ez
    cases e : h t u with
    | none => rw [e] at ez; cases ez
    | some b =>
      rw [e] at ez
      cases ez
      exact hv w2 H2 r2 x y t u b _ g2 (d1.step st2) d2 e (hz w2 H2 (Step.refl _ _) g2 _ (.bl b))
theorem s_cmpB {op : CmpOp} {r2 : R2} {h : T → T → Option Bool} (ho : OpR X (compareOp op) r2) (hv : CmpV G r2 h) (ha : SK X G W a f) (hb : SK X G W b g) (hm : behindInMarks op b = false) : SB X G W (.Compare a [op] [b] pos) (fCmpB h f g) :=
  pt_imp (pt_cmpR ho ha hb hm) fun σ H Q ⟨w, H0, env, r, g0, s, h0⟩ => by
    show tOp r2 (tSK G W f) (tSK G W g) σ H fun x H' => ∃ k, x = .bl k ∧ Q k H'
    refine seqK g0 s h0 fun t r1 w1 H1 x g1 s1 st1 d1 h1 => ?_
    refine seqK g1 s1 h1 fun u r2 w2 H2 y g2 s2 st2 d2 h2 => ?_
    obtain ⟨z, ez, hz⟩ := liftP h2
    exact hv w2 H2 r2 x y t u z _ g2 (d1.step st2) d2 ez ⟨z, rfl, hz w2 H2 (Step.refl _ _) g2⟩
def fChain (h h' : T → T → Option Bool) (f g k : Env → M T) : Env → M T := fun env => f env >>= fun x => g env >>= fun y => M.lift (h x y) >>= fun c => if c = true then k env >>= fun z => M.lift ((h' y z).map T.bl) else pure (.bl false)
end
/-! ### chains, and, or, not, if .. else, arguments -/
section
variable {X : Cx} {G : Gm} {W : WX} {pos : Pos} {a b c : Expr} {f g k : Env → M T} {rest : List Expr} {p q : Env → M Bool}
theorem s_chain {op op' : CmpOp} {r2 r3 : R2} {h h' : T → T → Option Bool} (ho : OpR X (compareOp op) r2) (ho' : OpR X (compareOp op') r3) (hv : CmpV G r2 h) (hv' : CmpV G r3 h') (ha : SE X G W a f) (hb : SE X G W b g) (hc : SE X G W c k)
    (hm : lastMarks [op, op'] [b, c] = false) : SE X G W (.Compare a [op, op'] [b, c] pos) (fChain h h' f g k) :=
  pe_imp (pe_chain ho ho' ha hb hc hm) fun σ H Q ⟨w, H0, env, r, g0, s, h0⟩ => by
    refine seqE g0 s h0 fun t r1 w1 H1 x g1 s1 st1 d1 h1 => ?_
    refine seqE g1 s1 h1 fun u r2 w2 H2 y g2 s2 st2 d2 h2 => ?_
    obtain ⟨z, ez, h3⟩ := liftP h2.bind
    refine hv w2 H2 r2 x y t u z _ g2 (.inl (d1.mono st2.later)) (.inl d2) ez ⟨z, rfl, ?_⟩
    have h4 := h3 w2 H2 (Step.refl _ _) g2
    cases z with
    | true =>
      refine seqE g2 s2 h4 fun t3 r3 w3 H3 x3 g3 s3 st3 d3 h5 => ?_
      obtain ⟨z', ez', h6⟩ := liftP h5
      cases e : h' u t3 with
      | none => rw [e] at ez'; cases ez'
      | some b =>
        rw [e] at ez'
        cases ez'
        exact hv' w3 H3 r3 y x3 u t3 b _ g3 (.inl (d2.mono st3.later)) (.inl d3) e (h6 w3 H3 (Step.refl _ _) g3 _ (.bl b))
    | false => exact OutP.here g2 h4 _ (.bl false)
/-- a bool as a test -/
def fToB (f : Env → M T) : Env → M Bool := fun env => f env >>= fun x => match x with
  | .bl b => pure b
  | _ => M.bad
theorem s_val (ha : SE X G W a f) (he : ∀ whole, isTrue a X.env whole = (do let v ← whole; standAt a.pos; holding [v] (truthy v)) := by intro _; rfl) : SB X G W a (fToB f) :=
  pt_imp (pt_val ha he) fun σ H Q ⟨w, H0, env, r, g0, s, h0⟩ => by
    refine seqE g0 s h0 fun t r1 w1 H1 x g1 s1 st1 d1 h1 => ?_
    cases d1 with
    | bl b => exact ⟨b, rfl, OutP.here g1 h1⟩
    | _ => exact h1.elim
/-- a value's truth -/
def truT : T → Option Bool
  | .non => some false
  | .bl b => some b
  | .int i => some (i != 0)
  | .str x => if x.length ≤ 100000 then some ((x.length : Int) != 0) else none
  | .tup xs => some (!xs.isEmpty)
  | .lst xs => some (!xs.isEmpty)
  | .kls xs => some (!xs.isEmpty)
  | _ => none
theorem Dens.emp {w : Wd} {vs : List V} {ts : List T} (d : Dens G w vs ts) : vs.isEmpty = ts.isEmpty := by cases d <;> rfl
def fTru (f : Env → M T) : Env → M Bool := fun env => f env >>= fun x => M.lift (truT x)
theorem s_tru (hK : X.K = G.K) (ha : SE X G W a f) (he : ∀ whole, isTrue a X.env whole = (do let v ← whole; standAt a.pos; holding [v] (truthy v)) := by intro _; rfl) : SB X G W a (fTru f) :=
  pt_imp (pt_truth ha he) fun σ H Q ⟨w, H0, env, r, g0, s, h0⟩ => by
    refine seqE g0 s h0 fun t r1 w1 H1 x g1 s1 st1 d1 h1 => ?_
    obtain ⟨z, ez, h2⟩ := liftP h1
    refine ⟨z, ?_, h2 w1 H1 (Step.refl _ _) g1⟩
    rw [hK]
    cases d1 with
    | non => cases ez; rfl
    | bl b => cases ez; rfl
    | int i => cases ez; rfl
    | str y =>
      have ez : (if y.length ≤ 100000 then some ((y.length : Int) != 0) else none) = some z := ez
      by_cases h : y.length ≤ 100000
      · rw [if_pos h] at ez
        cases ez
        exact ⟨Nat.le_trans h (by decide), rfl⟩
      · rw [if_neg h] at ez
        cases ez
    | tup hs _ d => cases ez; exact .inr (.inl ⟨_, tup_sq g1.sub hs, by rw [d.emp]⟩)
    | lst hs _ d => cases ez; exact .inl ⟨_, SqL.of (g1.sub _ _ hs), by rw [d.emp]⟩
    | kls hs _ d => cases ez; exact .inl ⟨_, g1.sub.seq hs, by rw [d.emp]⟩
    | _ => cases ez
def fOrB (p q : Env → M Bool) : Env → M Bool := fun env => p env >>= fun c => if c = true then pure true else q env
def fNotB (p : Env → M Bool) : Env → M Bool := fun env => p env >>= fun c => pure (!c)
theorem w_or1 (ha : SB X G W a p) : SW X G W (.BoolOp .Or [a] pos) p := pw_or1 ha
theorem w_or (ha : SB X G W a p) (hb : SW X G W (.BoolOp .Or (b :: rest) pos) q) : SW X G W (.BoolOp .Or (a :: b :: rest) pos) (fOrB p q) :=
  pw_imp (pw_or ha hb) fun σ H Q ⟨w, H0, env, r, g0, s, h0⟩ => by
    refine seqB g0 s h0 fun t r1 w1 H1 g1 s1 st1 h1 => ?_
    cases t with
    | false => exact ⟨w1, H0, env, r1, g1, s1, h1⟩
    | true => exact OutP.here g1 h1
theorem w_not (ha : SB X G W a p) : SB X G W (.UnaryOp .Not a pos) (fNotB p) :=
  pt_imp (pt_not ha) fun σ H Q ⟨w, H0, env, r, g0, s, h0⟩ => by
    refine seqB g0 s h0 fun t r1 w1 H1 g1 s1 st1 h1 => ?_
    exact OutP.here g1 h1
theorem w_t (ha : SW X G W a p) : SB X G W a p := ha.pt
/-- as values: bools -/
def fAnd (f g : Env → M T) : Env → M T := fun env => f env >>= fun x => match x with
  | .bl true => g env
  | .bl false => pure (.bl false)
  | _ => M.bad
def fNot (f : Env → M T) : Env → M T := fun env => f env >>= fun x => match x with
  | .bl b => pure (.bl (!b))
  | _ => M.bad
theorem s_one {op : BoolOp} (ha : SE X G W a f) : SE X G W (.BoolOp op [a] pos) f := pe_one ha
theorem s_and (ha : SE X G W a f) (hb : SE X G W (.BoolOp .And (b :: rest) pos) g) : SE X G W (.BoolOp .And (a :: b :: rest) pos) (fAnd f g) :=
  pe_imp (pe_and ha hb) fun σ H Q ⟨w, H0, env, r, g0, s, h0⟩ => by
    refine seqE g0 s h0 fun t r1 w1 H1 x g1 s1 st1 d1 h1 => ?_
    cases d1 with
    | bl b =>
      cases b with
      | true => exact ⟨true, rfl, w1, H0, env, r1, g1, s1, h1⟩
      | false => exact ⟨false, rfl, OutP.here g1 h1 _ (.bl false)⟩
    | _ => exact h1.elim
theorem s_not (ha : SE X G W a f) : SE X G W (.UnaryOp .Not a pos) (fNot f) :=
  pe_imp (pe_not ha) fun σ H Q ⟨w, H0, env, r, g0, s, h0⟩ => by
    refine seqE g0 s h0 fun t r1 w1 H1 x g1 s1 st1 d1 h1 => ?_
    cases d1 with
    | bl b => exact ⟨b, rfl, OutP.here g1 h1 _ (.bl _)⟩
    | _ => exact h1.elim
theorem a_nil : SA X G W [] [] := pa_imp pa_nil fun σ H Q ⟨w, H0, env, r, g0, s, h0⟩ => OutP.here g0 h0 [] .nil rfl
theorem a_cons {e : Expr} {es : List Expr} {fs : List (Env → M T)} (ha : SE X G W e f) (hr : SA X G W es fs) (hs : starEach (e :: es) X.env = (false, eval e X.env) :: starEach es X.env := by rfl) : SA X G W (e :: es) (f :: fs) :=
  pa_imp (pa_cons ha hr hs) fun σ H Q ⟨w, H0, env, r, g0, s, h0⟩ => by
    refine seqE g0 s h0 fun t r1 w1 H1 x g1 s1 st1 d1 h1 => ?_
    refine seqA g1 s1 h1 fun ts r2 w2 H2 xs g2 s2 st2 d2 l h2 => ?_
    exact OutP.here g2 h2 (x :: xs) (.cons (d1.mono st2.later) d2) (by rw [List.length_cons, List.length_cons, l])
def fTup (fs : List (Env → M T)) : Env → M T := fun env => fAll fs env >>= fun ts => pure (.tup ts)
def fLst (fs : List (Env → M T)) : Env → M T := fun env => fAll fs env >>= fun ts => pure (.lst ts)
theorem s_tup {es : List Expr} {fs : List (Env → M T)} {j : Nat} (ha : SA X G W es fs) (hl : fs.length ≤ 1000 := by decide) : SE X G W (.Tuple es j pos) (fTup fs) :=
  pe_imp (pe_tup ha) fun σ H Q ⟨w, H0, env, r, g0, s, h0⟩ => by
    refine seqA g0 s h0 fun ts r1 w1 H1 vs g1 s1 st1 d1 l h1 => ?_
    have hz : ts.length ≤ sizeLine := by rw [l]; exact Nat.le_trans hl (by decide)
    refine ⟨by rw [d1.length]; exact hz, fun p hp => ?_⟩
    obtain ⟨st, g2⟩ := g1.new (o := .tup vs) hp
    exact h1 _ _ st g2 _ (.tup (.inl upd_same) hz (d1.mono st.later))
theorem s_lst {es : List Expr} {fs : List (Env → M T)} (ha : SA X G W es fs) (hl : fs.length ≤ 1000 := by decide) : SE X G W (.List es pos) (fLst fs) :=
  pe_imp (pe_lst ha) fun σ H Q ⟨w, H0, env, r, g0, s, h0⟩ => by
    refine seqA g0 s h0 fun ts r1 w1 H1 vs g1 s1 st1 d1 l h1 => ?_
    have hz : ts.length ≤ sizeLine := by rw [l]; exact Nat.le_trans hl (by decide)
    refine ⟨by rw [d1.length]; exact hz, fun p hp => ?_⟩
    obtain ⟨st, g2⟩ := g1.new (o := .lst vs) hp
    exact h1 _ _ st g2 _ (.lst upd_same hz (d1.mono st.later))
end
end Ep
namespace Ep
open PySem PySem.Spec L2
section
variable {X : Cx} {G : Gm} {W : WX} {pos : Pos} {a b : Expr} {f g : Env → M T}
/-- the items of a list, a tuple -/
def seqT (r : RS) : T → Option (List T)
  | .lst xs => some xs
  | .kls xs => some xs
  | .tup xs => some xs
  | .ref k => r[k]?
  | _ => none
inductive SeqD (G : Gm) (w : Wd) (H : Hp) (a : Addr) (xs : List T) : Prop where
  | l (vs : List V) (h : SqL G.K H a vs) (d : Dens G w vs xs) (z : xs.length ≤ sizeLine) : SeqD G w H a xs
  | t (vs : List V) (h : SqT G.K H a vs) (d : Dens G w vs xs) (z : xs.length ≤ sizeLine) : SeqD G w H a xs
theorem seq_of {w : Wd} {H : Hp} {r : RS} {v : V} {t : T} {xs : List T} (g : Good G w H r) (d : DenB G w H v t) (e : seqT r t = some xs) : ∃ a, v = .ref a ∧ SeqD G w H a xs := by
  rcases d with d | ⟨a, vs, ys, e1, e2, h1, h2, h3, h4⟩
  · cases d with
    | tup h z d => cases e; exact ⟨_, rfl, .t _ (tup_sq g.sub h) d z⟩
    | lst h z d => cases e; exact ⟨_, rfl, .l _ (SqL.of (g.sub _ _ h)) d z⟩
    | kls h z d => cases e; exact ⟨_, rfl, .l _ (g.sub.seq h) d z⟩
    | @ref k a h =>
      obtain ⟨b, vs, h1, h2, h3, h4⟩ := g.refs.at_ k xs e
      rw [h] at h1
      cases h1
      exact ⟨_, rfl, .l vs (SqL.of h2) h3 h4⟩
    | _ => cases e
  · subst e1 e2
    cases e
    exact ⟨_, rfl, .l vs (SqL.of h2) h3 h4⟩
theorem SeqD.z {w : Wd} {H : Hp} {a : Addr} {xs : List T} (h : SeqD G w H a xs) : xs.length ≤ sizeLine := by cases h <;> assumption
/-! ### items -/
def ixT (r : RS) (t : T) (i : T) : Option T := match t, i with
  | .str z, .int i => if z.length ≤ 100000 then (atI z.cps.toList i).map fun c => .str ⟨#[c]⟩ else none
  | t, .int i => (seqT r t).bind fun xs => atI xs i
  | _, _ => none
def fIx (f g : Env → M T) : Env → M T := fun env => f env >>= fun x => g env >>= fun y => fun r => M.lift (ixT r x y) r
theorem dens_at {w : Wd} {vs : List V} {xs : List T} {i : Int} {t : T} (d : Dens G w vs xs) (e : atI xs i = some t) : ∃ v, atI vs i = some v ∧ Den G w v t := by
  unfold atI at e ⊢
  rw [d.length]
  cases q : ixN xs.length i with
  | none => rw [q] at e; cases e
  | some j =>
    rw [q] at e
    exact d.get e
theorem s_ix (hK : X.K = G.K) (ha : SK X G W a f) (hb : SE X G W b g) (hs : PlainIx b) : SE X G W (.Subscript a b pos) (fIx f g) :=
  pe_imp (pe_ix ix_seq ha hb hs) fun σ H Q ⟨w, H0, env, r, g0, s, h0⟩ => by
    refine seqK g0 s h0 fun t r1 w1 H1 x g1 s1 st1 d1 h1 => ?_
    refine seqE g1 s1 h1 fun u r2 w2 H2 y g2 s2 st2 d2 h2 => ?_
    have d1 := d1.step st2
    obtain ⟨z, ez, h3⟩ := liftP h2
    have fin : ∀ v, Den G w2 v z → Q v H2 := fun v d => h3 w2 H2 (Step.refl _ _) g2 v d
    rw [hK]
    have seqs : ∀ i, y = .int i → ((seqT r2 t).bind fun xs => atI xs i) = some z → rIx G.K x y H2 Q := fun i ey e => by
      cases q : seqT r2 t with
      | none => rw [q] at e; cases e
      | some xs =>
        rw [q] at e
        obtain ⟨p, rfl, sd⟩ := seq_of g2 d1 q
        cases sd with
        | l vs hh dd _ =>
          obtain ⟨v, e1, e2⟩ := dens_at dd e
          exact .inl ⟨p, vs, i, v, rfl, ey, hh, e1, fin v e2⟩
        | t vs hh dd _ =>
          obtain ⟨v, e1, e2⟩ := dens_at dd e
          exact .inr (.inl ⟨p, vs, i, v, rfl, ey, hh, e1, fin v e2⟩)
    cases d2 with
    | int i =>
      cases t with
      | str zz =>
        have ez : (if zz.length ≤ 100000 then (atI zz.cps.toList i).map fun c => T.str ⟨#[c]⟩ else none) = some z := ez
        by_cases hz : zz.length ≤ 100000
        · rw [if_pos hz] at ez
          cases q : atI zz.cps.toList i with
          | none => rw [q] at ez; cases ez
          | some c =>
            rw [q] at ez
            cases ez
            have : x = .str zz := by
              rcases d1 with d1 | ⟨_, _, _, _, e2, _⟩
              · cases d1; rfl
              · cases e2
            subst this
            exact .inr (.inr ⟨zz, i, c, rfl, rfl, Nat.le_trans hz (by decide), q, fin _ (.str _)⟩)
        · rw [if_neg hz] at ez; cases ez
      | _ => exact seqs i rfl ez
    | _ => cases t <;> cases ez
/-! ### slices -/
def fO : Option (Env → M T) → Env → M (Option Int)
  | none, _ => pure none
  | some f, env => f env >>= fun x => match x with
    | .int i => pure (some i)
    | _ => M.bad
def tSO (G : Gm) (W : WX) (f : Option (Env → M T)) : TO := fun σ H Q => ∃ w H0 env r, Good G w H r ∧ Slots G w H0 H σ env ∧ OutP G w H (WE0 W σ) (fun o _ _ H' => Q o H') (fO f env r)
theorem po_imp {e : Option Expr} {t t' : TO} (h : PO X e t) (i : ∀ σ H Q, t' σ H Q → t σ H Q) : PO X e t' := ⟨fun pins s σ H Q I q => h.run pins s σ H Q I (i σ H Q q)⟩
theorem o_none : PO X none (tSO G W none) := po_imp po_none fun σ H Q ⟨w, H0, env, r, g, s, h⟩ => OutP.here g h
theorem o_some (ha : SE X G W a f) : PO X (some a) (tSO G W (some f)) := po_imp (po_some ha) fun σ H Q ⟨w, H0, env, r, g0, s, h0⟩ => by
  refine seqE g0 s h0 fun t r1 w1 H1 x g1 s1 st1 d1 h1 => ?_
  cases d1 with
  | int i => exact ⟨i, rfl, OutP.here g1 h1⟩
  | _ => exact h1.elim
def cutT (xs : List T) (lo hi : Option Int) : List T := (xs.drop (HT.sIx xs.length 0 lo)).take (HT.sIx xs.length xs.length hi - HT.sIx xs.length 0 lo)
def slT (r : RS) (t : T) (lo hi : Option Int) : Option T := match t with
  | .str z => if z.length ≤ 100000 then some (.str (cutS z lo hi)) else none
  | .lst xs => some (.lst (cutT xs lo hi))
  | .kls xs => some (.lst (cutT xs lo hi))
  | .ref k => r[k]?.map fun xs => .lst (cutT xs lo hi)
  | .tup xs => some (.tup (cutT xs lo hi))
  | _ => none
theorem Dens.cut {w : Wd} {vs : List V} {xs : List T} (d : Dens G w vs xs) (lo hi : Option Int) : Dens G w (cutV vs lo hi) (cutT xs lo hi) := by
  unfold cutV cutT
  rw [d.length]
  exact (d.drop _).take _
theorem cutT_length (xs : List T) (lo hi : Option Int) : (cutT xs lo hi).length ≤ xs.length := by
  unfold cutT
  rw [List.length_take, List.length_drop]
  omega
/-- a slice's value -/
def SlVal (X : Cx) (G : Gm) (r3 : V → Option Int → Option Int → Hp → VK → Prop) : Prop := ∀ w H r x t lo hi z Q, Good G w H r → DenB G w H x t → slT r t lo hi = some z → (∀ v w' H', Step w H w' H' → Good G w' H' r → Den G w' v z → Q v H') → r3 x lo hi H Q
theorem sl_use (hK : X.K = G.K) : SlVal X G (fun x lo hi H Q => rSlL X.K x lo hi H Q ∨ rSlA X.K x lo hi H Q ∨ rSlS x lo hi H Q) := by
  intro w H r x t lo hi z Q g d e q
  rw [hK]
  have lst : ∀ xs, seqT r t = some xs → z = .lst (cutT xs lo hi) → (∀ ys, t ≠ .tup ys) → rSlL G.K x lo hi H Q := fun xs e1 e2 nt => by
    obtain ⟨a, rfl, sd⟩ := seq_of g d e1
    have go : ∀ vs, SqL G.K H a vs → Dens G w vs xs → xs.length ≤ sizeLine → rSlL G.K (.ref a) lo hi H Q := fun vs h d z' => ⟨a, vs, rfl, h, fun p hp => by
      obtain ⟨st, g2⟩ := g.new (o := .lst (cutV vs lo hi)) hp
      subst e2
      exact q _ _ _ st g2 (.lst upd_same (Nat.le_trans (cutT_length _ _ _) z') ((d.cut lo hi).mono st.later))⟩
    rcases d with d | ⟨b, vs, ys, e3, e4, h1, h2, h3, h4⟩
    · cases d with
      | lst h z d => cases e1; exact go _ (SqL.of (g.sub _ _ h)) d z
      | kls h z d => cases e1; exact go _ (g.sub.seq h) d z
      | tup h z d => exact absurd rfl (nt _)
      | @ref k b h =>
        obtain ⟨b', vs, h1, h2, h3, h4⟩ := g.refs.at_ k xs e1
        rw [h] at h1
        cases h1
        exact go vs (SqL.of h2) h3 h4
      | _ => cases e1
    · cases e3
      subst e4
      cases e1
      exact go vs (SqL.of h2) h3 h4
  cases t with
  | str zz =>
    have e : (if zz.length ≤ 100000 then some (T.str (cutS zz lo hi)) else none) = some z := e
    by_cases hz : zz.length ≤ 100000
    · rw [if_pos hz] at e
      cases e
      have : x = .str zz := by
        rcases d with d1 | ⟨_, _, _, _, e2, _⟩
        · cases d1; rfl
        · cases e2
      subst this
      exact .inr (.inr ⟨zz, rfl, Nat.le_trans hz (by decide), q _ w H (Step.refl _ _) g (.str _)⟩)
    · rw [if_neg hz] at e; cases e
  | lst xs =>
    cases e
    exact .inl (lst xs rfl rfl fun _ => nofun)
  | kls xs =>
    cases e
    exact .inl (lst xs rfl rfl fun _ => nofun)
  | ref k =>
    have e : (r[k]?.map fun xs => T.lst (cutT xs lo hi)) = some z := e
    cases q' : r[k]? with
    | none => rw [q'] at e; cases e
    | some xs =>
      rw [q'] at e
      cases e
      exact .inl (lst xs q' rfl fun _ => nofun)
  | tup xs =>
    cases e
    rcases d with d1 | ⟨_, _, _, _, e2, _⟩
    · cases d1 with
      | @tup a vs _ h z d =>
        have hl : (cutT xs lo hi).length ≤ sizeLine := Nat.le_trans (cutT_length _ _ _) z
        refine .inr (.inl ⟨a, vs, rfl, tup_sq g.sub h, ?_, ?_⟩)
        · rw [d.length]
          rintro ⟨e1, e2⟩
          refine q _ w H (Step.refl _ _) g (.tup h hl ?_)
          unfold cutT
          rw [e1, e2]
          simpa using d
        · intro _ p hp
          obtain ⟨st, g2⟩ := g.new (o := .tup (cutV vs lo hi)) hp
          exact q _ _ _ st g2 (.tup (.inl upd_same) hl ((d.cut lo hi).mono st.later))
    · cases e2
  | _ => cases e
def fSl (f : Env → M T) (lo hi : Option (Env → M T)) : Env → M T := fun env => f env >>= fun x => fO lo env >>= fun i => fO hi env >>= fun j => fun r => M.lift (slT r x i j) r
theorem seqO {α : Type} {w : Wd} {H0 H : Hp} {r : RS} {σ : L2.St} {env : Env} {o : Option (Env → M T)} {k : Option Int → M α} {P : α → RS → Wd → Hp → Prop} {Q : Option Int → Hp → Prop} (g : Good G w H r) (s : Slots G w H0 H σ env) (h : OutP G w H (WE0 W σ) P ((fO o env >>= k) r))
    (n : ∀ t r1 w1 H1, Good G w1 H1 r1 → Slots G w1 H0 H1 σ env → Step w H w1 H1 → OutP G w1 H1 (WE0 W σ) P (k t r1) → Q t H1) : tSO G W o σ H Q :=
  ⟨w, H0, env, r, g, s, h.bind.imp fun t r1 w1 H1 st g1 o => n t r1 w1 H1 g1 (s.step st) st o⟩
theorem s_sl {lo hi : Option Expr} {fl fh : Option (Env → M T)} {p2 : Pos} (hK : X.K = G.K) (ha : SK X G W a f) (hl : PO X lo (tSO G W fl)) (hh : PO X hi (tSO G W fh)) : SE X G W (.Subscript a (.Slice lo hi none p2) pos) (fSl f fl fh) :=
  pe_imp (pe_slice (sl_list.or (sl_tupA.or sl_str)) ha hl hh) fun σ H Q ⟨w, H0, env, r, g0, s, h0⟩ => by
    refine seqK g0 s h0 fun t r1 w1 H1 x g1 s1 st1 d1 h1 => ?_
    refine seqO g1 s1 h1 fun i r2 w2 H2 g2 s2 st2 h2 => ?_
    refine seqO g2 s2 h2 fun j r3 w3 H3 g3 s3 st3 h3 => ?_
    obtain ⟨z, ez, h4⟩ := liftP h3
    exact sl_use hK w3 H3 r3 x t i j z Q g3 ((d1.step st2).step st3) ez fun v w' H' st g' d => h4 w' H' st g' v d
/-! ### new lists -/
def tSL (G : Gm) (W : WX) (f : Env → M (List T)) : TE := fun σ H Q => ∃ w H0 env r, Good G w H r ∧ Slots G w H0 H σ env ∧
  OutP G w H (WE0 W σ) (fun xs _ w' H' => ∀ p vs, ¬ Vs H p → w'.P p = none → p ∉ w'.R → H' p = some (.lst vs) → Dens G w' vs xs → xs.length ≤ sizeLine → Q (.ref p) H') (f env r)
abbrev SL (X : Cx) (G : Gm) (W : WX) (e : Expr) (f : Env → M (List T)) : Prop := PE X e (tSL G W f)
theorem Step.publish {w w' : Wd} {H H' : Hp} {p : Addr} {o : HO} (s : Step w H w' H') (h0 : ¬ Vs H p) (hP : w'.P p = none) : Step w H (w'.add p o) H' := by
  refine ⟨fun a u e => ?_, s.fr, s.keep, fun a h1 h2 h3 => ?_, s.refs, s.me⟩
  · show upd w'.P p o a = some u
    have := s.pub a u e
    rw [upd_ne (ne_of_none this hP)]
    exact this
  · show upd w'.P p o a = none
    rw [upd_ne (fun e => h0 (by rw [← e]; exact h2))]
    exact s.hid a h1 h2 h3
theorem Later.add {w : Wd} {p : Addr} {o : HO} (hP : w.P p = none) : Later w (w.add p o) := ⟨fun a u e => by
  show upd w.P p o a = some u
  rw [upd_ne (ne_of_none e hP)]
  exact e, [], by simp [Wd.add]⟩
theorem Good.publish {w : Wd} {H : Hp} {r : RS} {p : Addr} {o : HO} (g : Good G w H r) (hP : w.P p = none) (hR : p ∉ w.R) (h : H p = some o) (no : NoTab o := by intro ps e; cases e) : Good G (w.add p o) H r := by
  refine ⟨fun a u e => ?_, ⟨g.refs.nd, g.refs.len, fun a ha => ?_, fun k xs hk => ?_⟩, g.tabs, fun a u e => ?_⟩
  · have e : upd w.P p o a = some u := e
    by_cases q : a = p
    · subst q
      rw [upd_same] at e
      cases e
      exact h
    · rw [upd_ne q] at e
      exact g.sub a u e
  · show upd w.P p o a = none
    rw [upd_ne (fun e => hR (by rw [← e]; exact ha))]
    exact g.refs.out a ha
  · obtain ⟨a, vs, h1, h2, h3, hz⟩ := g.refs.at_ k xs hk
    exact ⟨a, vs, h1, h2, h3.mono (Later.add hP), hz⟩
  · have e : upd w.P p o a = some u := e
    by_cases q : a = p
    · subst q
      rw [upd_same] at e
      cases e
      exact no
    · rw [upd_ne q] at e
      exact g.nt a u e
def fOwn (f : Env → M (List T)) : Env → M T := fun env => f env >>= fun xs => pure (.lst xs)
theorem own_read {f : Env → M (List T)} {σ : L2.St} {H : Hp} {Q : VK} : tS G W (fOwn f) σ H Q → tSL G W f σ H Q := fun ⟨w, H0, env, r, g, s, h⟩ => by
  refine ⟨w, H0, env, r, g, s, ?_⟩
  have e : fOwn f env r = M.bind (f env) (fun xs => M.pure (T.lst xs)) r := rfl
  rw [e] at h
  unfold M.bind at h
  cases q : f env r with
  | ok xs r1 =>
    rw [q] at h
    intro w1 H1 st g1 p vs hp hP hR hh d z
    exact h _ _ (st.publish hp hP) (g1.publish hP hR hh) _ (.lst upd_same z (d.mono (Later.add hP)))
  | exn c p r1 =>
    rw [q] at h
    exact h
  | bad =>
    rw [q] at h
    exact h
theorem s_own {f : Env → M (List T)} (h : SL X G W a f) : SE X G W a (fOwn f) := pe_imp h fun σ H Q q => own_read q
theorem l_lst {es : List Expr} {fs : List (Env → M T)} (ha : SA X G W es fs) (hl : fs.length ≤ 1000 := by decide) : SL X G W (.List es pos) (fAll fs) :=
  pe_imp (pe_lst ha) fun σ H Q ⟨w, H0, env, r, g0, s, h0⟩ => by
    refine ⟨w, H0, env, r, g0, s, ?_⟩
    cases q : fAll fs env r with
    | ok ts r1 =>
      rw [q] at h0
      intro w1 H1 st g1 vs d l
      have hz : ts.length ≤ sizeLine := by rw [l]; exact Nat.le_trans hl (by decide)
      refine ⟨by rw [d.length]; exact hz, fun p hp => ?_⟩
      have hR := g1.noref hp
      have hP := g1.nopub hp
      have hH : ¬ Vs H p := fun z => nvs hp (st.keep p z)
      have st2 : Step w H w1 (upd H1 p (.lst vs)) := ⟨st.pub, fun a o h1 h2 h3 => by
        rw [upd_ne (ne_of_none (st.fr a o h1 h2 h3) hp)]
        exact st.fr a o h1 h2 h3, fun a h => by
        exact (st.keep a h).put (by intro _ e; cases e), st.hid, st.refs, st.me⟩
      have g2 : Good G w1 (upd H1 p (.lst vs)) r1 := ⟨fun a o e => by
        rw [upd_ne (ne_of_none (g1.sub a o e) hp)]
        exact g1.sub a o e, ⟨g1.refs.nd, g1.refs.len, g1.refs.out, fun k xs hk => by
        obtain ⟨a, us, h1, h2, h3, h4⟩ := g1.refs.at_ k xs hk
        exact ⟨a, us, h1, by rw [upd_ne (ne_of_none h2 hp)]; exact h2, h3, h4⟩⟩, tabs_put g1.tabs (.inl hp), g1.nt⟩
      exact h0 w1 _ st2 g2 p vs hH hP hR upd_same d hz
    | exn c p r1 =>
      rw [q] at h0
      exact h0
    | bad =>
      rw [q] at h0
      exact h0
end
end Ep
namespace Ep
open PySem PySem.Spec L2
section
variable {G : Gm} {w w1 : Wd} {H H1 : Hp} {r : RS} {p : Addr} {o : HO}
theorem Step.before (s : Step w H w1 H1) (h : H1 p = none) : ¬ Vs H p := fun z => nvs h (s.keep p z)
/-- a new thing that nobody else sees -/
theorem Step.priv (s : Step w H w1 H1) (hp : H1 p = none) (no : NoTab o := by intro ps e; cases e) : Step w H w1 (upd H1 p o) := ⟨s.pub, fun a u h1 h2 h3 => by
    rw [upd_ne (ne_of_none (s.fr a u h1 h2 h3) hp)]
    exact s.fr a u h1 h2 h3, fun a h => by
    exact (s.keep a h).put no, s.hid, s.refs, s.me⟩
/-- a private thing is changed -/
theorem Step.chg (s : Step w H w1 H1) (h0 : ¬ Vs H p) (no : NoTab o := by intro ps e; cases e) : Step w H w1 (upd H1 p o) := ⟨s.pub, fun a u h1 h2 h3 => by
    rw [upd_ne (ne_nv h2 h3 h0)]
    exact s.fr a u h1 h2 h3, fun a h => by
    exact (s.keep a h).put no, s.hid, s.refs, s.me⟩
theorem Good.priv (g : Good G w H r) (hP : w.P p = none) (hR : p ∉ w.R) (hq : H p = none ∨ ∃ u, H p = some u ∧ Pl u) : Good G w (upd H p o) r := ⟨fun a u e => by
    rw [upd_ne (ne_of_none e hP)]
    exact g.sub a u e, ⟨g.refs.nd, g.refs.len, g.refs.out, fun k xs hk => by
    obtain ⟨a, us, h1, h2, h3, h4⟩ := g.refs.at_ k xs hk
    refine ⟨a, us, h1, ?_, h3, h4⟩
    rw [upd_ne (fun e => hR (by rw [← e]; exact List.mem_of_getElem? h1))]
    exact h2⟩, tabs_put g.tabs hq, g.nt⟩
end
/-! ### fields -/
theorem lookup_zip {name : Str} : ∀ {l : List Str} {vs : List V} {j : Nat}, l.findIdx? (fun y => y == name) = some j → l.length = vs.length → (l.zip vs).lookup name = vs[j]?
  | [], _, _, h, _ => by simp at h
  | y :: l, [], _, _, e => by simp at e
  | y :: l, v :: vs, j, h, e => by
    rw [List.findIdx?_cons] at h
    rw [List.zip_cons_cons, List.lookup_cons]
    by_cases q : y = name
    · subst q
      have e1 : (y == y) = true := by simp
      rw [if_pos e1] at h
      cases h
      rw [e1]
      rfl
    · have e1 : (y == name) = false := by simp [q]
      have e2 : (name == y) = false := by simp [Ne.symm q]
      rw [e1, if_neg (by decide)] at h
      rw [e2]
      cases h2 : l.findIdx? (fun y => y == name) with
      | none => rw [h2] at h; cases h
      | some i =>
        rw [h2] at h
        cases h
        have := lookup_zip (vs := vs) h2 (by simpa using e)
        simpa using this
theorem lookup_zip_none {name : Str} : ∀ {l : List Str} {vs : List V}, name ∉ l → (l.zip vs).lookup name = none
  | [], _, _ => rfl
  | y :: l, [], _ => rfl
  | y :: l, v :: vs, h => by
    rw [List.zip_cons_cons, List.lookup_cons]
    have e2 : (name == y) = false := by
      have : name ≠ y := fun e => h (by rw [e]; exact List.mem_cons_self)
      simp [this]
    rw [e2]
    exact lookup_zip_none fun hm => h (List.mem_cons_of_mem _ hm)
/-- the classes whose instances have the field, and its place -/
structure FldOk (G : Gm) (name : Str) (C j : Nat) : Prop where
  at_ : (G.fl C).findIdx? (fun y => y == name) = some j
  cl : ∀ cA, G.mg (G.cn C) = some (.ref cA) → Cls G.K cA ∧ NoAttr G.K cA name
def fFld (m : Nat → Option Nat) (f : Env → M T) : Env → M T := fun env => f env >>= fun x => match x with
  | .obj C vs => M.lift ((m C).bind fun j => vs[j]?)
  | _ => M.bad
section
variable {X : Cx} {G : Gm} {W : WX} {pos : Pos} {a b : Expr} {f g : Env → M T} {name : Str}
theorem s_fld (hK : X.K = G.K) (m : Nat → Option Nat) (ok : ∀ C j, m C = some j → FldOk G name C j) (ha : SE X G W a f) (hb : attributeBase a name X.env (eval a X.env) = eval a X.env := by rfl) : SE X G W (.Attribute a name pos) (fFld m f) :=
  pe_imp (pe_fld ha hb) fun σ H Q ⟨w, H0, env, r, g0, s, h0⟩ => by
    refine seqE g0 s h0 fun t r1 w1 H1 x g1 s1 st1 d1 h1 => ?_
    cases d1 with
    | @obj p cA dx C vs ts c h l d =>
      obtain ⟨z, ez, h2⟩ := liftP h1
      cases q : m C with
      | none => rw [q] at ez; cases ez
      | some j =>
        rw [q] at ez
        have o := ok C j q
        obtain ⟨v, e1, e2⟩ := d.get (i := j) ez
        rw [hK]
        exact ⟨p, cA, dx, _, v, rfl, g1.sub _ _ h, (o.cl cA c).1, (o.cl cA c).2, by rw [lookup_zip o.at_ l]; exact e1, h2 w1 H1 (Step.refl _ _) g1 v e2⟩
    | _ => exact h1.elim
/-! ### calls -/
/-- a def computes F of n arguments -/
def spF (G : Gm) (n : Nat) (F : List T → M T) : Sp := fun vs H Q E => ∃ w r ts, Good G w H r ∧ Dens G w vs ts ∧ ts.length = n ∧ OutP G w H E (fun t _ w' H' => ∀ v, Den G w' v t → Q v H') (F ts r)
/-- an __init__ makes of n arguments the fields of an instance of C -/
def spI (G : Gm) (C n : Nat) (F : List T → M (List T)) : Sp := fun vs H Q E => ∃ w r ts x rest cA dx H1, vs = .ref x :: rest ∧ G.mg (G.cn C) = some (.ref cA) ∧ H1 x = none ∧ H1 dx = none ∧ dx ≠ x ∧ H = upd (upd H1 dx (.own x)) x (.ins cA dx []) ∧
  Good G w H1 r ∧ Dens G w rest ts ∧ ts.length = n ∧ OutP G w H1 E (fun fs _ w' H' => ∀ us dx', H' x = some (.ins cA dx' ((G.fl C).zip us)) → us.length = (G.fl C).length → Dens G w' us fs → w'.P x = none → x ∉ w'.R → Q .non H') (F ts r)
theorem spF_len {n : Nat} {F : List T → M T} {ps : List Str} (h : ps.length = n) : ∀ vs H Q E, spF G n F vs H Q E → vs.length = ps.length := fun vs H Q E ⟨w, r, ts, g, d, l, _⟩ => by rw [d.length, l, h]
theorem spI_len {C n : Nat} {F : List T → M (List T)} {ps : List Str} (h : ps.length = n + 1) : ∀ vs H Q E, spI G C n F vs H Q E → vs.length = ps.length := fun vs H Q E ⟨w, r, ts, x, rest, cA, dx, H1, e, _, _, _, _, _, g, d, l, _⟩ => by rw [e, List.length_cons, d.length, l, h]
/-- a def of the top: x its name, n its parameters, ds its last arguments where they are left out -/
structure DefOk (P : Program) (wd : World) (base : Heap) (G : Gm) (k : Nat) (x : Str) (n : Nat) (ds : List T) (F : List T → M T) : Prop where
  ex : ∃ f fd ps dvs dus, FnOk P wd G.K G.mg base (L2.CX P wd) k f fd ps (spF G n F) ∧ G.mg x = some (.ref f) ∧ PySem.W.keepIn G.K (.ref f) = true ∧ Binds G.K fd ps dus ∧ Vals dvs dus ∧ ∀ w, Dens G w dvs ds
/-- a class's making -/
structure MakeOk (P : Program) (wd : World) (base : Heap) (G : Gm) (k C n : Nat) (ds : List T) (F : List T → M (List T)) : Prop where
  ex : ∃ cA f fd ps dvs dus, G.mg (G.cn C) = some (.ref cA) ∧ Mk G.K cA f ∧ FnOk P wd G.K G.mg base (L2.CX P wd) k f fd ps (spI G C n F) ∧ Binds G.K fd ps dus ∧ Vals dvs dus ∧ ∀ w, Dens G w dvs ds
/-- a method of the class C: F takes the instance first -/
structure MethOk (P : Program) (wd : World) (base : Heap) (G : Gm) (k C : Nat) (m : Str) (n : Nat) (ds : List T) (F : List T → M T) : Prop where
  ex : ∃ cA f fd ps dvs dus, G.mg (G.cn C) = some (.ref cA) ∧ Cls G.K cA ∧ Meth G.K cA m f ∧ FnOk P wd G.K G.mg base (L2.CX P wd) k f fd ps (spF G n F) ∧ Binds G.K fd ps dus ∧ Vals dvs dus ∧ ∀ w, Dens G w dvs ds
  nof : m ∉ G.fl C
def fCall (F : List T → M T) (ds : List T) (fs : List (Env → M T)) : Env → M T := fun env => fAll fs env >>= fun ts => F (ts ++ ds)
def fMake (C : Nat) (F : List T → M (List T)) (ds : List T) (fs : List (Env → M T)) : Env → M T := fun env => fAll fs env >>= fun ts => F (ts ++ ds) >>= fun us => pure (.obj C us)
def fMeth (C : Nat) (F : List T → M T) (ds : List T) (f : Env → M T) (fs : List (Env → M T)) : Env → M T := fun env => f env >>= fun x => match x with
  | .obj C' vs => if C' = C then fAll fs env >>= fun ts => F (.obj C' vs :: (ts ++ ds)) else M.bad
  | _ => M.bad
variable {e : Expr} {es : List Expr} {fs : List (Env → M T)} {ds : List T} {j k n C : Nat} {p apos : Pos} {x : Str}
theorem call_use {F : List T → M T} {dvs : List V} (hn : fs.length + ds.length = n) (hd : ∀ w, Dens G w dvs ds) {σ : L2.St} {H : Hp} {Q : VK} (h : tS G W (fCall F ds fs) σ H Q) : tCallSD (spF G n F) dvs (WE W) (tSA G W fs) σ H Q := by
  obtain ⟨w, H0, env, r, g0, s, h0⟩ := h
  refine seqA g0 s h0 fun ts r1 w1 H1 vs g1 s1 st1 d1 l h1 => ?_
  exact ⟨w1, r1, ts ++ ds, g1, d1.append (hd w1), by rw [List.length_append, l, hn], h1⟩
theorem s_call {F : List T → M T} (D : DefOk X.prog X.w X.base G k x n ds F) (hK : X.K = G.K) (hM : X.mg = G.mg) (tk : Takes X W) (hr : Room j X.A) (hk : k ≤ j) (hg : Gl X x) (ha : SA X G W (e :: es) fs) (hn : fs.length + ds.length = n := by rfl)
    (hdb : (x == ("__debug__" : Str)) = false := by decide) (he : starEach (e :: es) X.env = (false, eval e X.env) :: starEach es X.env := by rfl) (hpl : (backTo pos (starEach es X.env)).any (·.1) = false := by rfl) : SE X G W (.Call (.Name x p) (e :: es) [] pos) (fCall F ds fs) := by
  obtain ⟨f, fd, ps, dvs, dus, h1, h2, h3, h4, h5, h6⟩ := D.ex
  rw [← hK, ← hM] at h1
  exact pe_imp (pe_callSD (E := WE W) h1 (hr.mono hk) hg (by rw [hM]; exact h2) (by rw [hK]; exact h3) (by rw [hK]; exact h4) h5 (fun σ => passAt tk σ) ha hdb he hpl) fun σ H Q h => call_use hn h6 h
theorem s_meth {F : List T → M T} {m : Str} {o : Expr} {pl : Sem Bool} (D : MethOk X.prog X.w X.base G k C m n ds F) (hK : X.K = G.K) (hM : X.mg = G.mg) (tk : Takes X W) (hr : Room j X.A) (hk : k ≤ j) (ho : SE X G W o f) (ha : SA X G W (e :: es) fs) (hn : fs.length + ds.length + 1 = n := by rfl) (hst : starEach (e :: es) X.env = (false, eval e X.env) :: starEach es X.env := by rfl) (hpl : (backTo pos (starEach es X.env)).any (·.1) = false := by rfl)
    (ht : eval (.Call (.Attribute o m apos) (e :: es) [] pos) X.env = (do let ov ← eval o X.env; standAt apos.atName; let (f, first) ← holding [ov] (getMethod ov m pl); callWith pos f first (backTo pos (starEach (e :: es) X.env)) (backToKw pos (keywordEach [] X.env))) := by rfl) : SE X G W (.Call (.Attribute o m apos) (e :: es) [] pos) (fMeth C F ds f fs) := by
  obtain ⟨cA, fn, fd, ps, dvs, dus, c1, c2, c3, h1, h4, h5, h6⟩ := D.ex
  rw [← hK, ← hM] at h1
  refine ⟨fun pins s σ H Q I ⟨w, H0, env, r, g0, s0, h0⟩ => ?_⟩
  refine PySem.W.methodCall_KW (pl := pl) (thn (ho.run pins s σ H _ I (seqE g0 s0 h0 fun t r1 w1 H1 x g1 s1 st1 d1 h1 => show (∃ w1 r1 t, Good G w1 H1 r1 ∧ Slots G w1 H0 H1 σ env ∧ Den G w1 x t ∧ OutP G w1 H1 (WE0 W σ) (fun t x w' H' => ∀ (v : V), Den G w' v t → Q v H') ((match t with | .obj C' vs => if C' = C then fAll fs env >>= fun ts => F (.obj C' vs :: (ts ++ ds)) else M.bad | _ => M.bad : M T) r1)) from ⟨w1, r1, t, g1, s1, d1, h1⟩)) fun u s1 ⟨v, H1, I1, rv, w1, r1, t, g1, sl1, d1, h2⟩ => ?_) ht
  cases d1 with
  | @obj q cA' dx C' vs ts c h l d =>
    by_cases hC : C' = C
    · subst hC
      rw [c1] at c
      cases c
      obtain rfl : u = Value.ref q := rv
      have h2 : OutP G w1 H1 (WE0 W σ) (fun t x w' H' => ∀ (v : V), Den G w' v t → Q v H') ((fAll fs env >>= fun us => F (.obj C' ts :: (us ++ ds))) r1) := by simpa using h2
      refine getmeth_ok I1 (g1.sub _ _ h) (by rw [hK]; exact c2) (by rw [hK]; exact c3) (lookup_zip_none D.nof) ?_
      refine PySem.W.callWith_K (first := [.ref q]) (h₀ := X.base) I.ok.mod.kin (by rw [hK]; exact c3.kp) (thn (ha.run pos pins s1 σ H1 _ I1 (seqA g1 sl1 h2 fun us r2 w2 H2 ws g2 s2 st2 d2 l2 h3 => show (∃ w2 r2 us, Good G w2 H2 r2 ∧ Dens G w2 (.ref q :: (ws ++ dvs)) (.obj C' ts :: (us ++ ds)) ∧ us.length = fs.length ∧ OutP G w2 H2 (WE0 W σ) (fun t x w' H' => ∀ (v : V), Den G w' v t → Q v H') (F (.obj C' ts :: (us ++ ds)) r2)) from ⟨w2, r2, us, g2, .cons ((Den.obj c1 h l d).mono st2.later) (d2.append (h6 w2)), l2, h3⟩)) fun us s2 ⟨ws, H2, I2, rw2, w2, r2, us', g2, d2, l2, h3⟩ => ⟨I2.kIn, ?_⟩) hst hpl
      exact run_fnSD (us := .ref q :: us) (vs := .ref q :: ws) h1 (hr.mono hk) (by rw [hK]; exact h4) h5 (passAt tk σ) I2 (.cons rfl rw2) ⟨w2, r2, _, g2, d2, by rw [List.length_cons, List.length_append, l2, ← hn], h3⟩
    · have h2 : OutP G w1 H1 (WE0 W σ) (fun t x w' H' => ∀ (v : V), Den G w' v t → Q v H') ((M.bad : M T) r1) := by simpa [hC] using h2
      exact h2.elim
  | _ => exact h2.elim
theorem s_meth0 {F : List T → M T} {m : Str} {o : Expr} {pl : Sem Bool} (D : MethOk X.prog X.w X.base G k C m n ds F) (hK : X.K = G.K) (hM : X.mg = G.mg) (tk : Takes X W) (hr : Room j X.A) (hk : k ≤ j) (ho : SE X G W o f) (hn : ds.length + 1 = n := by rfl)
    (ht : eval (.Call (.Attribute o m apos) [] [] pos) X.env = (do let ov ← eval o X.env; standAt apos.atName; let (f, first) ← holding [ov] (getMethod ov m pl); callWith pos f first (backTo pos (starEach [] X.env)) (backToKw pos (keywordEach [] X.env))) := by rfl) : SE X G W (.Call (.Attribute o m apos) [] [] pos) (fMeth C F ds f []) := by
  obtain ⟨cA, fn, fd, ps, dvs, dus, c1, c2, c3, h1, h4, h5, h6⟩ := D.ex
  rw [← hK, ← hM] at h1
  refine ⟨fun pins s σ H Q I ⟨w, H0, env, r, g0, s0, h0⟩ => ?_⟩
  refine PySem.W.methodCall_KW (pl := pl) (thn (ho.run pins s σ H _ I (seqE g0 s0 h0 fun t r1 w1 H1 x g1 s1 st1 d1 h1 => show (∃ w1 r1 t, Good G w1 H1 r1 ∧ Slots G w1 H0 H1 σ env ∧ Den G w1 x t ∧ OutP G w1 H1 (WE0 W σ) (fun t x w' H' => ∀ (v : V), Den G w' v t → Q v H') ((match t with | .obj C' vs => if C' = C then fAll [] env >>= fun ts => F (.obj C' vs :: (ts ++ ds)) else M.bad | _ => M.bad : M T) r1)) from ⟨w1, r1, t, g1, s1, d1, h1⟩)) fun u s1 ⟨v, H1, I1, rv, w1, r1, t, g1, sl1, d1, h2⟩ => ?_) ht
  cases d1 with
  | @obj q cA' dx C' vs ts c h l d =>
    by_cases hC : C' = C
    · subst hC
      rw [c1] at c
      cases c
      obtain rfl : u = Value.ref q := rv
      have h2 : OutP G w1 H1 (WE0 W σ) (fun t x w' H' => ∀ (v : V), Den G w' v t → Q v H') (F (.obj C' ts :: ([] ++ ds)) r1) := by
        have h2 : OutP G w1 H1 (WE0 W σ) (fun t x w' H' => ∀ (v : V), Den G w' v t → Q v H') ((if C' = C' then (fAll [] env >>= fun us => F (.obj C' ts :: (us ++ ds))) else M.bad : M T) r1) := h2
        rw [if_pos rfl] at h2
        exact h2
      refine getmeth_ok I1 (g1.sub _ _ h) (by rw [hK]; exact c2) (by rw [hK]; exact c3) (lookup_zip_none D.nof) ?_
      exact PySem.W.callWith_K0 (first := [.ref q]) I1.kIn (by rw [hK]; exact c3.kp) (run_fnSD (us := [.ref q]) (vs := [.ref q]) h1 (hr.mono hk) (by rw [hK]; exact h4) h5 (passAt tk σ) I1 (.cons rfl .nil) ⟨w1, r1, _, g1, .cons (.obj c1 h l d) (h6 w1), by simpa using hn, h2⟩)
    · have h2 : OutP G w1 H1 (WE0 W σ) (fun t x w' H' => ∀ (v : V), Den G w' v t → Q v H') ((M.bad : M T) r1) := by simpa [hC] using h2
      exact h2.elim
  | _ => exact h2.elim
/-! ### instances made -/
theorem run_makeSD {CX : CXT} {cA f : Addr} {fd : FuncData} {ps : List Str} {sp : Sp} {dvs : List V} {dus : List Value} {E : L2.St → XK} {pins : List (Addr × Obj)} {σ : L2.St} {H : Hp} {s : Shared} {Q : VK} {us : List Value} {vs : List V} (Mk' : Mk X.K cA f) (F : FnOk X.prog X.w X.K X.mg X.base CX k f fd ps sp) (hr : Room (k + 1) X.A) (hb : Binds X.K fd ps dus) (hd : Vals dvs dus)
    (hx : ∀ σ, PassesAt CX X σ (E σ)) (I : L2.Inv X pins σ H s) (r : Vals vs us)
    (h : ∀ x dx, H x = none → H dx = none → dx ≠ x → sp (.ref x :: (vs ++ dvs)) (upd (upd H dx (.own x)) x (.ins cA dx [])) (fun v H2 => v = .non ∧ Q (.ref x) H2) (E σ)) :
    wpAny (model X.prog X.w) X.A (call (.ref cA) us) (EP X pins σ Q) X.xe s := by
  have fr0 : H s.heap.objs.size = none := I.hok.fresh (Nat.le_refl _)
  have fr1 : H (s.heap.objs.size + 1) = none := I.hok.fresh (Nat.le_succ _)
  have hq := h _ _ fr1 fr0 (Nat.ne_of_lt (Nat.lt_succ_self _))
  have J := L2.Inv.made (C := cA) I
  have rr : Vals (V.ref (s.heap.objs.size + 1) :: (vs ++ dvs)) (Value.ref (s.heap.objs.size + 1) :: (us ++ dus)) := .cons rfl (r.append hd)
  have hl : (Value.ref (s.heap.objs.size + 1) :: us ++ dus).length = ps.length := by
    have e1 := rr.length
    have e2 := F.len _ _ _ _ hq
    rw [e2] at e1
    exact e1.symm
  refine wpAny_call (make_map (f := f) I.kIn Mk'.makes Mk'.init (beq_iff_eq.mp Mk'.fn) ?_)
  refine codeAny_mono (F.run _ X.stack _ _ ⟨Value.ref (s.heap.objs.size + 1) :: us, []⟩ (Value.ref (s.heap.objs.size + 1) :: (us ++ dus)) _ _ (E σ) (hr.make cA us []) (J.env0.make cA us []) (hb _ (Value.ref (s.heap.objs.size + 1) :: us) J.kIn hl) rr hq) fun res s' hq' => ?_
  cases res with
  | error e => exact hx σ pins _ _ e s' J hq'
  | ok fl =>
    cases fl with
    | ret u =>
      obtain ⟨v, H', I3, rv, ev, q3⟩ := J.after hq'
      rw [ev] at rv
      exact ⟨rv, ⟨V.ref (s.heap.objs.size + 1), H', I3, rfl, q3⟩⟩
    | next => exact hq'.elim
    | brk => exact hq'.elim
    | cont => exact hq'.elim
theorem make_use {F : List T → M (List T)} {cA x dx : Addr} {w1 : Wd} {H1 : Hp} {r1 : RS} {vs : List V} {ts : List T} {σ : L2.St} {Q : VK} (c1 : G.mg (G.cn C) = some (.ref cA)) (g1 : Good G w1 H1 r1) (d1 : Dens G w1 vs ts) (l1 : ts.length = n)
    (h1 : OutP G w1 H1 (WE0 W σ) (fun t _ w' H' => ∀ v, Den G w' v t → Q v H') ((F ts >>= fun us => pure (T.obj C us)) r1)) (hf : H1 x = none) (hdx : H1 dx = none) (ne : dx ≠ x) :
    spI G C n F (.ref x :: vs) (upd (upd H1 dx (.own x)) x (.ins cA dx [])) (fun v H2 => v = .non ∧ Q (.ref x) H2) (WE W σ) := by
  refine ⟨w1, r1, ts, x, vs, cA, dx, H1, rfl, c1, hf, hdx, ne, rfl, g1, d1, l1, ?_⟩
  have e : ((F ts >>= fun us => pure (T.obj C us)) : M T) r1 = M.bind (F ts) (fun us => M.pure (T.obj C us)) r1 := rfl
  rw [e] at h1
  unfold M.bind at h1
  cases q : F ts r1 with
  | ok us r2 =>
    rw [q] at h1
    intro w' H' st g' ws dx' hh hl d hP hR
    refine ⟨rfl, h1 _ _ (st.publish (nvs hf) hP) (g'.publish hP hR hh) _ ?_⟩
    exact .obj c1 upd_same hl.symm (d.mono (Later.add hP))
  | exn c p r2 =>
    rw [q] at h1
    exact h1
  | bad =>
    rw [q] at h1
    exact h1
theorem s_make {F : List T → M (List T)} (D : MakeOk X.prog X.w X.base G k C n ds F) (hx : x = G.cn C) (hK : X.K = G.K) (hM : X.mg = G.mg) (tk : Takes X W) (hr : Room j X.A) (hk : k + 1 ≤ j) (hg : Gl X x) (ha : SA X G W (e :: es) fs) (hn : fs.length + ds.length = n := by rfl)
    (hdb : (x == ("__debug__" : Str)) = false := by decide) (he : starEach (e :: es) X.env = (false, eval e X.env) :: starEach es X.env := by rfl) (hpl : (backTo pos (starEach es X.env)).any (·.1) = false := by rfl) : SE X G W (.Call (.Name x p) (e :: es) [] pos) (fMake C F ds fs) := by
  obtain ⟨cA, f, fd, ps, dvs, dus, c1, mk, h1, h4, h5, h6⟩ := D.ex
  rw [← hK, ← hM] at h1
  refine ⟨fun pins s σ H Q I ⟨w, H0, env, r, g0, s0, h0⟩ => ?_⟩
  refine wpAny_Call_Name_kw (ld_glob I hg (by rw [hM, hx]; exact c1) ?_ hdb)
  refine PySem.W.callWith_K (h₀ := X.base) I.ok.mod.kin (by rw [hK]; exact mk.kp) (thn (ha.run pos pins s σ H _ I (seqA g0 s0 h0 fun us r2 w2 H2 ws g2 s2 st2 d2 l2 h3 => show (∃ w2 r2 us, Good G w2 H2 r2 ∧ Dens G w2 (ws ++ dvs) (us ++ ds) ∧ us.length = fs.length ∧ OutP G w2 H2 (WE0 W σ) (fun t x w' H' => ∀ (v : V), Den G w' v t → Q v H') ((F (us ++ ds) >>= fun us => pure (T.obj C us)) r2)) from ⟨w2, r2, us, g2, d2.append (h6 w2), l2, h3⟩)) fun us s1 ⟨vs, H1, I1, rv, w2, r2, us', g2, d2, l2, h3⟩ => ⟨I1.kIn, ?_⟩) he hpl
  exact run_makeSD (E := WE W) (by rw [hK]; exact mk) h1 (hr.mono hk) (by rw [hK]; exact h4) h5 (fun σ => passAt tk σ) I1 rv fun x dx e1 e2 ne => make_use c1 g2 d2 (by rw [List.length_append, l2, hn]) h3 e1 e2 ne
end
end Ep
namespace Ep
open PySem PySem.Spec L2
section
variable {X : Cx} {G : Gm}
/-! ### arithmetic -/
def addT : T → T → Option T
  | .int i, .int j => some (.int (i + j))
  | .int i, .bl k => some (.int (i + PyProof.Rows.b2i k))
  | .str a, .str b => if a.length + b.length ≤ 100000 then some (.str (a ++ b)) else none
  | .lst a, .lst b => if a.length + b.length ≤ 100000 then some (.lst (a ++ b)) else none
  | .tup a, .tup b => if a.length + b.length ≤ 100000 then some (.tup (a ++ b)) else none
  | _, _ => none
def rAddA (K : PySem.W.Frag) : R2 := fun x y H Q => (rI0 fun i j => .int (i + j)) x y H Q ∨ (∃ i k, x = .int i ∧ y = .bl k ∧ Q (.int (i + PyProof.Rows.b2i k)) H) ∨ (∃ i j, x = .str i ∧ y = .str j ∧ i.length + j.length ≤ sizeLine ∧ Q (.str (i ++ j)) H) ∨ rCat x y H Q ∨ rCatA K x y H Q
theorem op_addA : OpR X (binaryOp .Add) (rAddA X.K) := op_add.or (op_add_ib.or (op_add_str.or (op_cat.or op_catA)))
theorem le_size {n : Nat} (h : n ≤ 100000) : n ≤ sizeLine := Nat.le_trans h (by decide)
theorem v_add (hK : X.K = G.K) : OpV G (rAddA X.K) addT := by
  intro w H r x y t u z Q g d1 d2 e q
  rw [hK]
  cases d1 with
  | int i =>
    cases d2 with
    | int j => cases e; exact .inl ⟨i, j, rfl, rfl, q _ w H (Step.refl _ _) g (.int _)⟩
    | bl k => cases e; exact .inr (.inl ⟨i, k, rfl, rfl, q _ w H (Step.refl _ _) g (.int _)⟩)
    | _ => cases e
  | str a =>
    cases d2 with
    | str b =>
      have e : (if a.length + b.length ≤ 100000 then some (T.str (a ++ b)) else none) = some z := e
      by_cases h : a.length + b.length ≤ 100000
      · rw [if_pos h] at e
        cases e
        exact .inr (.inr (.inl ⟨a, b, rfl, rfl, le_size h, q _ w H (Step.refl _ _) g (.str _)⟩))
      · rw [if_neg h] at e; cases e
    | _ => cases e
  | @lst p vs ts h1 z1 dd =>
    cases d2 with
    | @lst p2 vs2 ts2 h2 z2 dd2 =>
      have e : (if ts.length + ts2.length ≤ 100000 then some (T.lst (ts ++ ts2)) else none) = some z := e
      by_cases h : ts.length + ts2.length ≤ 100000
      · rw [if_pos h] at e
        cases e
        refine .inr (.inr (.inr (.inl ⟨p, p2, vs, vs2, rfl, rfl, g.sub _ _ h1, g.sub _ _ h2, by rw [dd.length, dd2.length]; exact le_size h, fun a ha => ?_⟩)))
        obtain ⟨st, g2⟩ := g.new (o := .lst (vs ++ vs2)) ha
        exact q _ _ _ st g2 (.lst upd_same (by rw [List.length_append]; exact le_size h) ((dd.append dd2).mono st.later))
      · rw [if_neg h] at e; cases e
    | _ => cases e
  | @tup p vs ts h1 z1 dd =>
    cases d2 with
    | @tup p2 vs2 ts2 h2 z2 dd2 =>
      have e : (if ts.length + ts2.length ≤ 100000 then some (T.tup (ts ++ ts2)) else none) = some z := e
      by_cases h : ts.length + ts2.length ≤ 100000
      · rw [if_pos h] at e
        cases e
        refine .inr (.inr (.inr (.inr ⟨p, p2, vs, vs2, rfl, rfl, tup_sq g.sub h1, tup_sq g.sub h2, by rw [dd.length, dd2.length]; exact le_size h, fun e1 => ?_, fun _ e2 => ?_, fun _ _ a ha => ?_⟩)))
        · have : ts = [] := by cases dd with
            | nil => rfl
            | cons _ _ => cases e1
          subst this
          exact q _ w H (Step.refl _ _) g (.tup h2 z2 dd2)
        · have : ts2 = [] := by cases dd2 with
            | nil => rfl
            | cons _ _ => cases e2
          subst this
          rw [List.append_nil] at q
          exact q _ w H (Step.refl _ _) g (.tup h1 z1 dd)
        · obtain ⟨st, g2⟩ := g.new (o := .tup (vs ++ vs2)) ha
          exact q _ _ _ st g2 (.tup (.inl upd_same) (by rw [List.length_append]; exact le_size h) ((dd.append dd2).mono st.later))
      · rw [if_neg h] at e; cases e
    | _ => cases e
  | _ => cases e
def subT : T → T → Option T
  | .int i, .int j => some (.int (i - j))
  | _, _ => none
theorem v_sub : OpV G (rI0 fun i j => .int (i - j)) subT := fun w H r x y t u z Q g d1 d2 e q => by
  cases d1 with
  | int i =>
    cases d2 with
    | int j => cases e; exact ⟨i, j, rfl, rfl, q _ w H (Step.refl _ _) g (.int _)⟩
    | _ => cases e
  | _ => cases e
/-- one factor small, or both together below a million bits -/
def mulOk (i j : Int) : Bool := (decide (-(2 ^ 64) < i) && decide (i < 2 ^ 64)) || (decide (-(2 ^ 64) < j) && decide (j < 2 ^ 64)) || decide (i.natAbs.log2 + j.natAbs.log2 < 1000000)
def mulT : T → T → Option T
  | .int i, .int j => if mulOk i j = true then some (.int (i * j)) else none
  | .lst xs, .int k => if 0 ≤ k ∧ k ≤ 100000 ∧ xs.length * k.toNat ≤ 100000 then some (.lst (List.replicate k.toNat xs).flatten) else none
  | .tup xs, .int k => if xs.isEmpty = false ∧ 2 ≤ k ∧ k ≤ 1000 ∧ xs.length ≤ 1000 then some (.tup (List.replicate k.toNat xs).flatten) else none
  | .str a, .int k => if 0 ≤ k ∧ k ≤ 16384 ∧ a.length ≤ 1024 then some (.str (PySem.Txt.mul a k)) else none
  | _, _ => none
def rRepS : R2 := fun x y H Q => ∃ a k, x = .str a ∧ y = .int k ∧ 0 ≤ k ∧ k ≤ 16384 ∧ a.length ≤ 1024 ∧ Q (.str (PySem.Txt.mul a k)) H
theorem op_repS : OpR X (binaryOp .Mult) rRepS := by
  intro pins s σ H x y v u Q I rx ry h
  obtain ⟨a, k, rfl, rfl, h0, h1, h2, q⟩ := h
  obtain ⟨t, rfl⟩ := rx
  obtain ⟨t', rfl⟩ := ry
  exact SB.mul (PyProof.Rows.mulOk_of 1024 16384 h2 (by omega) (by omega) (by decide) (by decide)) fun t2 n => ⟨.str _, H, I.tok _, ⟨_, rfl⟩, q⟩
def rMulA (K : PySem.W.Frag) : R2 := fun x y H Q => (rI CMul fun i j => .int (i * j)) x y H Q ∨ (rI CMulW fun i j => .int (i * j)) x y H Q ∨ rRep x y H Q ∨ rRepT K x y H Q ∨ rRepS x y H Q
theorem op_mulA : OpR X (binaryOp .Mult) (rMulA X.K) := op_mul.or (op_mulW.or (op_rep.or (op_repT.or op_repS)))
theorem dens_rep {w : Wd} {vs : List V} {ts : List T} (d : Dens G w vs ts) : ∀ k : Nat, Dens G w (List.replicate k vs).flatten (List.replicate k ts).flatten
  | 0 => .nil
  | k + 1 => by
    rw [List.replicate_succ, List.replicate_succ, List.flatten_cons, List.flatten_cons]
    exact d.append (dens_rep d k)
theorem len_rep {α : Type} (xs : List α) : ∀ k : Nat, (List.replicate k xs).flatten.length = xs.length * k
  | 0 => rfl
  | k + 1 => by
    rw [List.replicate_succ, List.flatten_cons, List.length_append, len_rep xs k, Nat.mul_succ, Nat.add_comm]
theorem v_mul (hK : X.K = G.K) : OpV G (rMulA X.K) mulT := fun w H r x y t u z Q g d1 d2 e q => by
  rw [hK]
  cases d1 with
  | str a =>
    cases d2 with
    | int k =>
      have e : (if 0 ≤ k ∧ k ≤ 16384 ∧ a.length ≤ 1024 then some (T.str (PySem.Txt.mul a k)) else none) = some z := e
      by_cases h : 0 ≤ k ∧ k ≤ 16384 ∧ a.length ≤ 1024
      · rw [if_pos h] at e
        cases e
        exact .inr (.inr (.inr (.inr ⟨a, k, rfl, rfl, h.1, h.2.1, h.2.2, q _ w H (Step.refl _ _) g (.str _)⟩)))
      · rw [if_neg h] at e; cases e
    | _ => cases e
  | @tup p vs ts h1 z1 dd =>
    cases d2 with
    | int k =>
      have e : (if ts.isEmpty = false ∧ 2 ≤ k ∧ k ≤ 1000 ∧ ts.length ≤ 1000 then some (T.tup (List.replicate k.toNat ts).flatten) else none) = some z := e
      by_cases h : ts.isEmpty = false ∧ 2 ≤ k ∧ k ≤ 1000 ∧ ts.length ≤ 1000
      · rw [if_pos h] at e
        cases e
        obtain ⟨h0, ha, hb, hc⟩ := h
        refine .inr (.inr (.inr (.inl ⟨p, k, vs, rfl, rfl, tup_sq g.sub h1, fun e => ?_, ha, hb, by rw [dd.length]; exact hc, fun a ha => ?_⟩)))
        · subst e; cases dd; cases h0
        · obtain ⟨st, g2⟩ := g.new (o := .tup (List.replicate k.toNat vs).flatten) ha
          refine q _ _ _ st g2 (.tup (.inl upd_same) ?_ ((dens_rep dd _).mono st.later))
          rw [len_rep, sizeLine_eq]
          have := Nat.mul_le_mul hc (show k.toNat ≤ 1000 by omega)
          omega
      · rw [if_neg h] at e; cases e
    | _ => cases e
  | int i =>
    cases d2 with
    | int j =>
      have e : (if mulOk i j = true then some (T.int (i * j)) else none) = some z := e
      by_cases h : mulOk i j = true
      · rw [if_pos h] at e
        cases e
        have fin := q _ w H (Step.refl _ _) g (.int _)
        unfold mulOk at h
        simp only [Bool.or_eq_true, Bool.and_eq_true, decide_eq_true_eq] at h
        rcases h with (h | h) | h
        · exact .inl ⟨i, j, rfl, rfl, .inl h, fin⟩
        · exact .inl ⟨i, j, rfl, rfl, .inr h, fin⟩
        · exact .inr (.inl ⟨i, j, rfl, rfl, h, fin⟩)
      · rw [if_neg h] at e; cases e
    | _ => cases e
  | @lst p vs ts h1 z1 dd =>
    cases d2 with
    | int k =>
      have e : (if 0 ≤ k ∧ k ≤ 100000 ∧ ts.length * k.toNat ≤ 100000 then some (T.lst (List.replicate k.toNat ts).flatten) else none) = some z := e
      by_cases h : 0 ≤ k ∧ k ≤ 100000 ∧ ts.length * k.toNat ≤ 100000
      · rw [if_pos h] at e
        cases e
        obtain ⟨ha, hb, hc⟩ := h
        refine .inr (.inr (.inl ⟨p, k, vs, rfl, rfl, g.sub _ _ h1, by omega, by omega, by rw [dd.length]; exact le_size hc, fun a ha => ?_⟩))
        obtain ⟨st, g2⟩ := g.new (o := .lst (List.replicate k.toNat vs).flatten) ha
        exact q _ _ _ st g2 (.lst upd_same (by rw [len_rep]; exact le_size hc) ((dens_rep dd _).mono st.later))
      · rw [if_neg h] at e; cases e
    | _ => cases e
  | _ => cases e
/-- // and %: a divisor below 0 is a small one -/
def divT : T → T → Option T
  | .int i, .int j => if 0 < j ∧ j.natAbs.log2 < 9000 then some (.int (i / j)) else if j < 0 ∧ j.natAbs < 1073741824 then some (.int (i.fdiv j)) else none
  | _, _ => none
def rDivA : R2 := fun x y H Q => rI CDivW (fun i j => .int (i / j)) x y H Q ∨ rI CDivN (fun i j => .int (i.fdiv j)) x y H Q
theorem op_divA : OpR X (binaryOp .FloorDiv) rDivA := op_fdivW.or op_fdivN
theorem v_div : OpV G rDivA divT := fun w H r x y t u z Q g d1 d2 e q => by
  cases d1 with
  | int i =>
    cases d2 with
    | int j =>
      have e : (if 0 < j ∧ j.natAbs.log2 < 9000 then some (T.int (i / j)) else if j < 0 ∧ j.natAbs < 1073741824 then some (T.int (i.fdiv j)) else none) = some z := e
      by_cases h : 0 < j ∧ j.natAbs.log2 < 9000
      · rw [if_pos h] at e
        cases e
        exact .inl ⟨i, j, rfl, rfl, h, q _ w H (Step.refl _ _) g (.int _)⟩
      · rw [if_neg h] at e
        by_cases h2 : j < 0 ∧ j.natAbs < 1073741824
        · rw [if_pos h2] at e
          cases e
          exact .inr ⟨i, j, rfl, rfl, ⟨by omega, h2.2⟩, q _ w H (Step.refl _ _) g (.int _)⟩
        · rw [if_neg h2] at e; cases e
    | _ => cases e
  | _ => cases e
def modT : T → T → Option T
  | .int i, .int j => if 0 < j then some (.int (i % j)) else if j < 0 then some (.int (i.fmod j)) else none
  | _, _ => none
def rModA : R2 := fun x y H Q => rI (fun _ j => 0 < j) (fun i j => .int (i % j)) x y H Q ∨ rI (fun _ j => j ≠ 0) (fun i j => .int (i.fmod j)) x y H Q
theorem op_modA : OpR X (binaryOp .Mod) rModA := op_mod.or op_modN
theorem v_mod : OpV G rModA modT := fun w H r x y t u z Q g d1 d2 e q => by
  cases d1 with
  | int i =>
    cases d2 with
    | int j =>
      have e : (if 0 < j then some (T.int (i % j)) else if j < 0 then some (T.int (i.fmod j)) else none) = some z := e
      by_cases h : 0 < j
      · rw [if_pos h] at e
        cases e
        exact .inl ⟨i, j, rfl, rfl, h, q _ w H (Step.refl _ _) g (.int _)⟩
      · rw [if_neg h] at e
        by_cases h2 : j < 0
        · rw [if_pos h2] at e
          cases e
          exact .inr ⟨i, j, rfl, rfl, by omega, q _ w H (Step.refl _ _) g (.int _)⟩
        · rw [if_neg h2] at e; cases e
    | _ => cases e
  | _ => cases e
def powT : T → T → Option T
  | .int i, .int j => if 0 ≤ j ∧ j ≤ 1000 ∧ i.natAbs < 2 ^ 64 then some (.int (i ^ j.toNat)) else none
  | _, _ => none
theorem v_pow : OpV G (rI CPow fun i j => .int (i ^ j.toNat)) powT := fun w H r x y t u z Q g d1 d2 e q => by
  cases d1 with
  | int i =>
    cases d2 with
    | int j =>
      have e : (if 0 ≤ j ∧ j ≤ 1000 ∧ i.natAbs < 2 ^ 64 then some (T.int (i ^ j.toNat)) else none) = some z := e
      by_cases h : 0 ≤ j ∧ j ≤ 1000 ∧ i.natAbs < 2 ^ 64
      · rw [if_pos h] at e
        cases e
        exact ⟨i, j, rfl, rfl, ⟨h.1, by omega, h.2.2⟩, q _ w H (Step.refl _ _) g (.int _)⟩
      · rw [if_neg h] at e; cases e
    | _ => cases e
  | _ => cases e
def negT : T → Option T
  | .int i => some (.int (-i))
  | _ => none
theorem v_neg : UnV G (rU fun i => .int (-i)) negT := fun w H r x t z Q g d1 e q => by
  cases d1 with
  | int i => cases e; exact ⟨i, rfl, q _ w H (Step.refl _ _) g (.int _)⟩
  | _ => cases e
/-! ### comparisons -/
theorem DenB.int {w : Wd} {H : Hp} {v : V} {i : Int} (d : DenB G w H v (.int i)) : v = .int i := by
  rcases d with d | ⟨_, _, _, _, e, _⟩
  · cases d; rfl
  · cases e
theorem DenB.str {w : Wd} {H : Hp} {v : V} {i : Str} (d : DenB G w H v (.str i)) : v = .str i := by
  rcases d with d | ⟨_, _, _, _, e, _⟩
  · cases d; rfl
  · cases e
theorem DenB.bl {w : Wd} {H : Hp} {v : V} {i : Bool} (d : DenB G w H v (.bl i)) : v = .bl i := by
  rcases d with d | ⟨_, _, _, _, e, _⟩
  · cases d; rfl
  · cases e
theorem DenB.non {w : Wd} {H : Hp} {v : V} (d : DenB G w H v .non) : v = .non := by
  rcases d with d | ⟨_, _, _, _, e, _⟩
  · cases d; rfl
  · cases e
def cmpI (p : Int → Int → Bool) : T → T → Option Bool
  | .int i, .int j => some (p i j)
  | _, _ => none
theorem v_cmpI {p : Int → Int → Bool} : CmpV G (rI0 fun i j => .bl (p i j)) (cmpI p) := fun w H r x y t u z Q g d1 d2 e q => by
  cases t with
  | int i =>
    cases u with
    | int j =>
      cases e
      rw [d1.int, d2.int]
      exact ⟨i, j, rfl, rfl, q⟩
    | _ => cases e
  | _ => cases e
def ltT : T → T → Option Bool := cmpI fun i j => decide (i < j)
def leT : T → T → Option Bool := cmpI fun i j => decide (i ≤ j)
def gtT : T → T → Option Bool := cmpI fun i j => decide (j < i)
def geT : T → T → Option Bool := cmpI fun i j => decide (j ≤ i)
theorem v_lt : CmpV G (rI0 fun i j => .bl (decide (i < j))) ltT := v_cmpI
theorem v_le : CmpV G (rI0 fun i j => .bl (decide (i ≤ j))) leT := v_cmpI
theorem v_gt : CmpV G (rI0 fun i j => .bl (decide (j < i))) gtT := v_cmpI
theorem v_ge : CmpV G (rI0 fun i j => .bl (decide (j ≤ i))) geT := v_cmpI
/-- is None, is not None; is True .. -/
def isNon : T → Bool
  | .non => true
  | _ => false
def isT : T → T → Option Bool
  | t, .non => some (isNon t)
  | .bl a, .bl b => some (decide (a = b))
  | _, _ => none
end
/-! ### data -/
mutual
def pyT : T → Option PyData
  | .non => some .none
  | .bl b => some (.bool b)
  | .int i => some (.int i)
  | .str x => some (.str x)
  | .tup xs => (pyTs xs).map .tuple
  | .lst xs => (pyTs xs).map .list
  | .kls xs => (pyTs xs).map .list
  | _ => none
def pyTs : List T → Option (List PyData)
  | [] => some []
  | x :: xs => (pyT x).bind fun d => (pyTs xs).map (d :: ·)
end
mutual
theorem pyT_dp {G : Gm} {w : Wd} {H : Hp} (s : Same w.P H) : ∀ (t : T) (v : V) (d : PyData), Den G w v t → pyT t = some d → Dp G.K H v d
  | .non, _, _, h, e => by cases h; cases e; exact .non
  | .bl b, _, _, h, e => by cases h; cases e; exact .bl b
  | .int b, _, _, h, e => by cases h; cases e; exact .int b
  | .str b, _, _, h, e => by cases h; cases e; exact .str b
  | .tup xs, _, _, h, e => by
    cases h with
    | tup h z dd =>
      have e : (pyTs xs).map PyData.tuple = some _ := e
      cases q : pyTs xs with
      | none => rw [q] at e; cases e
      | some ds =>
        rw [q] at e
        cases e
        exact .tup (tup_sq s h) (pyTs_dp s xs _ _ dd q)
  | .lst xs, _, _, h, e => by
    cases h with
    | lst h z dd =>
      have e : (pyTs xs).map PyData.list = some _ := e
      cases q : pyTs xs with
      | none => rw [q] at e; cases e
      | some ds =>
        rw [q] at e
        cases e
        exact .lst (SqL.of (s _ _ h)) (pyTs_dp s xs _ _ dd q)
  | .kls xs, _, _, h, e => by
    cases h with
    | kls h z dd =>
      have e : (pyTs xs).map PyData.list = some _ := e
      cases q : pyTs xs with
      | none => rw [q] at e; cases e
      | some ds =>
        rw [q] at e
        cases e
        exact .lst (s.seq h) (pyTs_dp s xs _ _ dd q)
  | .obj _ _, _, _, _, e => by cases e
  | .gl _, _, _, _, e => by cases e
  | .cl _, _, _, _, e => by cases e
  | .ty _, _, _, _, e => by cases e
  | .ref _, _, _, _, e => by cases e
  | .dct _ _, _, _, _, e => by cases e
  | .fdt _ _, _, _, _, e => by cases e
theorem pyTs_dp {G : Gm} {w : Wd} {H : Hp} (s : Same w.P H) : ∀ (ts : List T) (vs : List V) (ds : List PyData), Dens G w vs ts → pyTs ts = some ds → DpAll G.K H vs ds
  | [], _, _, h, e => by cases h; cases e; exact .nil
  | t :: ts, _, _, h, e => by
    cases h with
    | cons h1 h2 =>
      have e : ((pyT t).bind fun d => (pyTs ts).map (d :: ·)) = some _ := e
      cases q : pyT t with
      | none => rw [q] at e; cases e
      | some d =>
        rw [q] at e
        cases q2 : pyTs ts with
        | none => rw [q2] at e; cases e
        | some ds =>
          rw [q2] at e
          cases e
          exact .cons (pyT_dp s t _ _ h1 q) (pyTs_dp s ts _ _ h2 q2)
end
section
variable {X : Cx} {G : Gm}
theorem denB_dp {w : Wd} {H : Hp} {r : RS} {v : V} {t : T} {d : PyData} (g : Good G w H r) (h : DenB G w H v t) (e : pyT t = some d) : Dp G.K H v d := by
  rcases h with h | ⟨a, vs, xs, e1, e2, h1, h2, h3, h4⟩
  · exact pyT_dp g.sub t v d h e
  · subst e1 e2
    have e : (pyTs xs).map PyData.list = some _ := e
    cases q : pyTs xs with
    | none => rw [q] at e; cases e
    | some ds =>
      rw [q] at e
      cases e
      exact .lst (SqL.of h2) (pyTs_dp g.sub xs _ _ h3 q)
def eqT (t u : T) : Option Bool := match pyT t, pyT u with
  | some d, some e => if (SeqAt.shaped d && SeqAt.shaped e) = true then some (PyData.eqv d e) else none
  | _, _ => none
def neT (t u : T) : Option Bool := (eqT t u).map (!·)
theorem eq_use {w : Wd} {H : Hp} {r : RS} {x y : V} {t u : T} {z : Bool} (g : Good G w H r) (d1 : DenB G w H x t) (d2 : DenB G w H y u) (e : eqT t u = some z) : ∃ d e, Dp G.K H x d ∧ Dp G.K H y e ∧ SeqAt.shaped d = true ∧ SeqAt.shaped e = true ∧ z = PyData.eqv d e := by
  unfold eqT at e
  cases q1 : pyT t with
  | none => rw [q1] at e; cases e
  | some d =>
    cases q2 : pyT u with
    | none => rw [q1, q2] at e; cases e
    | some d' =>
      rw [q1, q2] at e
      have e : (if (SeqAt.shaped d && SeqAt.shaped d') = true then some (PyData.eqv d d') else none) = some z := e
      by_cases h : (SeqAt.shaped d && SeqAt.shaped d') = true
      · rw [if_pos h] at e
        cases e
        rw [Bool.and_eq_true] at h
        exact ⟨d, d', denB_dp g d1 q1, denB_dp g d2 q2, h.1, h.2, rfl⟩
      · rw [if_neg h] at e; cases e
theorem v_eq (hK : X.K = G.K) : CmpV G (rEqD X.K) eqT := fun w H r x y t u z Q g d1 d2 e q => by
  obtain ⟨d, d', h1, h2, h3, h4, e⟩ := eq_use g d1 d2 e
  subst e
  rw [hK]
  exact ⟨d, d', h1, h2, h3, h4, q⟩
theorem v_ne (hK : X.K = G.K) : CmpV G (rNeD X.K) neT := fun w H r x y t u z Q g d1 d2 e q => by
  unfold neT at e
  cases e' : eqT t u with
  | none => rw [e'] at e; cases e
  | some b =>
    rw [e'] at e
    cases e
    obtain ⟨d, d', h1, h2, h3, h4, e⟩ := eq_use g d1 d2 e'
    subst e
    rw [hK]
    exact ⟨d, d', h1, h2, h3, h4, q⟩
/-! ### in -/
/-- the flat value of a tree -/
def flT : T → Option V
  | .non => some .non
  | .bl b => some (.bl b)
  | .int i => some (.int i)
  | .str x => some (.str x)
  | _ => none
def flTs : List T → Option (List V)
  | [] => some []
  | t :: ts => (flT t).bind fun v => (flTs ts).map (v :: ·)
theorem flT_of {w : Wd} {v u : V} {t : T} (d : Den G w v t) (e : flT t = some u) : v = u ∧ flatV v = true := by
  cases d with
  | non => cases e; exact ⟨rfl, rfl⟩
  | bl b => cases e; exact ⟨rfl, rfl⟩
  | int i => cases e; exact ⟨rfl, rfl⟩
  | str x => cases e; exact ⟨rfl, rfl⟩
  | _ => cases e
theorem flTs_of {w : Wd} : ∀ {vs us : List V} {ts : List T}, Dens G w vs ts → flTs ts = some us → vs = us ∧ vs.all flatV = true
  | _, _, _, .nil, e => by cases e; exact ⟨rfl, rfl⟩
  | _, _, t :: ts, .cons h r, e => by
    have e : ((flT t).bind fun v => (flTs ts).map (v :: ·)) = some _ := e
    cases q : flT t with
    | none => rw [q] at e; cases e
    | some v =>
      rw [q] at e
      cases q2 : flTs ts with
      | none => rw [q2] at e; cases e
      | some vs =>
        rw [q2] at e
        cases e
        obtain ⟨e1, f1⟩ := flT_of h q
        obtain ⟨e2, f2⟩ := flTs_of r q2
        subst e1 e2
        exact ⟨rfl, by rw [List.all_cons, f1, f2]; rfl⟩
/-- x in a text (x one sign), a tuple of flat things, a list of data -/
def inT (t u : T) : Option Bool := match u with
  | .str z => match t with
    | .str c => if c.cps.size = 1 then some (decide (c.cps.getD 0 0 ∈ z.cps.toList)) else none
    | _ => none
  | .tup xs => (flT t).bind fun v => (flTs xs).map fun vs => inV v vs
  | u => match pyT t, pyT u with
    | some d, some (.list ds) => if (SeqAt.shaped d && SeqAt.shaped (.list ds)) = true then some (ds.any fun z => PyData.eqv z d) else none
    | _, _ => none
def rInA (K : PySem.W.Frag) : R2 := fun x y H Q => (∃ (c : Nat) (z : Str), x = .str ⟨#[c]⟩ ∧ y = .str z ∧ Q (.bl (decide (c ∈ z.cps.toList))) H) ∨ rIn K false x y H Q ∨ rInD K x y H Q
theorem op_inA (hu : X.A.units + 65 < cLine) : OpR X (compareOp .In) (rInA X.K) := op_in_sign.or (op_in_seq.or (op_inD hu))
theorem sign_eq {c : Str} (h : c.cps.size = 1) : c = ⟨#[c.cps.getD 0 0]⟩ := by
  obtain ⟨a⟩ := c
  obtain ⟨l⟩ := a
  match l, h with
  | [x], _ => rfl
theorem in_use {w : Wd} {H : Hp} {r : RS} {x y : V} {t u : T} {z : Bool} (g : Good G w H r) (d1 : DenB G w H x t) (d2 : DenB G w H y u) (e : inT t u = some z) :
    (∃ (c : Nat) (zz : Str), x = .str ⟨#[c]⟩ ∧ y = .str zz ∧ z = decide (c ∈ zz.cps.toList)) ∨ (∃ p vs, y = .ref p ∧ SqT G.K H p vs ∧ flatV x = true ∧ vs.all flatV = true ∧ z = inV x vs) ∨
    ∃ d ds, Dp G.K H x d ∧ Dp G.K H y (.list ds) ∧ SeqAt.shaped d = true ∧ SeqAt.shaped (.list ds) = true ∧ z = ds.any fun z => PyData.eqv z d := by
  have deep : (match pyT t, pyT u with
      | some d, some (.list ds) => if (SeqAt.shaped d && SeqAt.shaped (.list ds)) = true then some (ds.any fun z => PyData.eqv z d) else none
      | _, _ => none) = some z → ∃ d ds, Dp G.K H x d ∧ Dp G.K H y (.list ds) ∧ SeqAt.shaped d = true ∧ SeqAt.shaped (.list ds) = true ∧ z = ds.any fun z => PyData.eqv z d := fun e => by
    cases q1 : pyT t with
    | none => rw [q1] at e; cases e
    | some d =>
      cases q2 : pyT u with
      | none => rw [q1, q2] at e; cases e
      | some d' =>
        rw [q1, q2] at e
        cases d' with
        | list ds =>
          have e : (if (SeqAt.shaped d && SeqAt.shaped (.list ds)) = true then some (ds.any fun z => PyData.eqv z d) else none) = some z := e
          by_cases h : (SeqAt.shaped d && SeqAt.shaped (.list ds)) = true
          · rw [if_pos h] at e
            cases e
            rw [Bool.and_eq_true] at h
            exact ⟨d, ds, denB_dp g d1 q1, denB_dp g d2 q2, h.1, h.2, rfl⟩
          · rw [if_neg h] at e; cases e
        | _ => cases e
  cases u with
  | str zz =>
    cases t with
    | str c =>
      have e : (if c.cps.size = 1 then some (decide (c.cps.getD 0 0 ∈ zz.cps.toList)) else none) = some z := e
      by_cases h : c.cps.size = 1
      · rw [if_pos h] at e
        cases e
        exact .inl ⟨_, zz, by rw [d1.str]; exact congrArg V.str (sign_eq h), d2.str, rfl⟩
      · rw [if_neg h] at e; cases e
    | _ => cases e
  | tup xs =>
    have e : ((flT t).bind fun v => (flTs xs).map fun vs => inV v vs) = some z := e
    cases q : flT t with
    | none => rw [q] at e; cases e
    | some v =>
      rw [q] at e
      cases q2 : flTs xs with
      | none => rw [q2] at e; cases e
      | some vs =>
        rw [q2] at e
        cases e
        rcases d2 with d2 | ⟨_, _, _, _, e2, _⟩
        · cases d2 with
          | @tup p us _ h zz d =>
            obtain ⟨e3, f3⟩ := flTs_of d q2
            rcases d1 with d1 | ⟨_, _, _, _, e2, _⟩
            · obtain ⟨e4, f4⟩ := flT_of d1 q
              subst e3 e4
              exact .inr (.inl ⟨p, us, rfl, tup_sq g.sub h, f4, f3, rfl⟩)
            · subst e2; cases q
        · cases e2
  | lst xs => exact .inr (.inr (deep e))
  | kls xs => exact .inr (.inr (deep e))
  | _ =>
    have e := deep e
    exact .inr (.inr e)
theorem v_in (hK : X.K = G.K) : CmpV G (rInA X.K) inT := fun w H r x y t u z Q g d1 d2 e q => by
  rw [hK]
  rcases in_use g d1 d2 e with ⟨c, zz, e1, e2, e3⟩ | ⟨p, vs, e1, h1, h2, h3, e3⟩ | ⟨d, ds, h1, h2, h3, h4, e3⟩
  · subst e3; exact .inl ⟨c, zz, e1, e2, q⟩
  · subst e3; exact .inr (.inl ⟨p, vs, e1, .inr h1, h2, h3, q⟩)
  · subst e3; exact .inr (.inr ⟨d, ds, h1, h2, h3, h4, q⟩)
end
end Ep
namespace Ep
open PySem PySem.Spec L2
/-! ### built-ins of one and two arguments -/
section
variable {X : Cx} {G : Gm} {W : WX} {pos p : Pos} {a b : Expr} {f g : Env → M T} {x : Str} {id : String}
def B1 (G : Gm) (r1 : List V → Hp → VK → Prop) (h : RS → T → Option T) : Prop := ∀ w H r v t z Q, Good G w H r → DenB G w H v t → h r t = some z → (∀ v' w' H', Step w H w' H' → Good G w' H' r → Den G w' v' z → Q v' H') → r1 [v] H Q
def fB1 (h : RS → T → Option T) (f : Env → M T) : Env → M T := fun env => f env >>= fun x => fun r => M.lift (h r x) r
theorem b1_use {r1 : List V → Hp → VK → Prop} {h : RS → T → Option T} (hv : B1 G r1 h) {σ : L2.St} {H : Hp} {Q : VK} (q : tS G W (fB1 h f) σ H Q) : tCB r1 (tCons (tSK G W f) tNil) σ H Q := by
  obtain ⟨w, H0, env, r, g0, s, h0⟩ := q
  refine seqK g0 s h0 fun t r1 w1 H1 x g1 s1 st1 d1 h1 => ?_
  obtain ⟨z, ez, h2⟩ := liftP h1
  exact hv w1 H1 r1 x t z Q g1 d1 ez fun v' w' H' st g' d => h2 w' H' st g' v' d
theorem s_b1 {r1 : List V → Hp → VK → Prop} {h : RS → T → Option T} (hc : CallR X (.builtin id) r1) (hv : B1 G r1 h) (hg : Gl X x) (hm : X.mg x = none) (hb : bootBuiltins x = some (.builtin id)) (ha : SK X G W a f) (hs : starEach [a] X.env = (false, eval a X.env) :: starEach [] X.env := by rfl)
    (hn : x ≠ "__name__" := by decide) (hdb : (x == ("__debug__" : Str)) = false := by decide) (hpl : (backTo pos (starEach [] X.env)).any (·.1) = false := by rfl) : SE X G W (.Call (.Name x p) [a] [] pos) (fB1 h f) :=
  pe_imp (pe_callB hc hg hm hb (pa_cons ha pa_nil hs) hn hdb hs hpl) fun σ H Q q => b1_use hv q
theorem s_t1 {r1 : List V → Hp → VK → Prop} {h : RS → T → Option T} (hc : CallR X (.type id) r1) (hv : B1 G r1 h) (hg : Gl X x) (hm : X.mg x = none) (hb : bootBuiltins x = some (.type id)) (ha : SK X G W a f) (hs : starEach [a] X.env = (false, eval a X.env) :: starEach [] X.env := by rfl)
    (hn : x ≠ "__name__" := by decide) (hdb : (x == ("__debug__" : Str)) = false := by decide) (hpl : (backTo pos (starEach [] X.env)).any (·.1) = false := by rfl) : SE X G W (.Call (.Name x p) [a] [] pos) (fB1 h f) :=
  pe_imp (pe_callTy hc hg hm hb (pa_cons ha pa_nil hs) hn hdb hs hpl) fun σ H Q q => b1_use hv q
def B2 (G : Gm) (r1 : List V → Hp → VK → Prop) (h : T → T → Option T) : Prop := ∀ w H r v u t s z Q, Good G w H r → Den G w v t → Den G w u s → h t s = some z → (∀ v' w' H', Step w H w' H' → Good G w' H' r → Den G w' v' z → Q v' H') → r1 [v, u] H Q
theorem s_b2 {r1 : List V → Hp → VK → Prop} {h : T → T → Option T} (hc : CallR X (.builtin id) r1) (hv : B2 G r1 h) (hg : Gl X x) (hm : X.mg x = none) (hb : bootBuiltins x = some (.builtin id)) (ha : SE X G W a f) (hB : SE X G W b g)
    (hs : starEach [a, b] X.env = (false, eval a X.env) :: starEach [b] X.env := by rfl) (hs2 : starEach [b] X.env = (false, eval b X.env) :: starEach [] X.env := by rfl)
    (hn : x ≠ "__name__" := by decide) (hdb : (x == ("__debug__" : Str)) = false := by decide) (hpl : (backTo pos (starEach [b] X.env)).any (·.1) = false := by rfl) : SE X G W (.Call (.Name x p) [a, b] [] pos) (fBin h f g) :=
  pe_imp (pe_callB hc hg hm hb (pa_cons ha (pa_cons hB pa_nil hs2) hs) hn hdb hs hpl) fun σ H Q ⟨w, H0, env, r, g0, s, h0⟩ => by
    refine seqE g0 s h0 fun t r1 w1 H1 v g1 s1 st1 d1 h1 => ?_
    refine seqE g1 s1 h1 fun u r2 w2 H2 y g2 s2 st2 d2 h2 => ?_
    obtain ⟨z, ez, hz⟩ := liftP h2
    exact hv w2 H2 r2 v y t u z Q g2 (d1.mono st2.later) d2 ez fun v w' H' st g' d => hz w' H' st g' v d
def lenT (r : RS) (t : T) : Option T := match t with
  | .str z => if z.length ≤ 100000 then some (.int z.length) else none
  | t => (seqT r t).map fun xs => .int xs.length
def rLenA (K : PySem.W.Frag) : List V → Hp → VK → Prop := fun xs H Q => (∃ p ys, xs = [.ref p] ∧ (SqL K H p ys ∨ SqT K H p ys) ∧ Q (.int ys.length) H) ∨ ∃ z, xs = [.str z] ∧ z.length ≤ sizeLine ∧ Q (.int z.length) H
theorem c_len : CallR X (.builtin "len") (rLenA X.K) := call_len_seq.or call_len_str
theorem v_len (hK : X.K = G.K) : B1 G (rLenA X.K) lenT := fun w H r v t z Q g d e q => by
  rw [hK]
  have seqs : ((seqT r t).map fun xs => T.int xs.length) = some z → rLenA G.K [v] H Q := fun e => by
    cases q1 : seqT r t with
    | none => rw [q1] at e; cases e
    | some xs =>
      rw [q1] at e
      cases e
      obtain ⟨p, rfl, sd⟩ := seq_of g d q1
      cases sd with
      | l vs h dd zz => exact .inl ⟨p, vs, rfl, .inl h, by rw [dd.length]; exact q _ w H (Step.refl _ _) g (.int _)⟩
      | t vs h dd zz => exact .inl ⟨p, vs, rfl, .inr h, by rw [dd.length]; exact q _ w H (Step.refl _ _) g (.int _)⟩
  cases t with
  | str y =>
    have e : (if y.length ≤ 100000 then some (T.int y.length) else none) = some z := e
    by_cases h : y.length ≤ 100000
    · rw [if_pos h] at e
      cases e
      exact .inr ⟨y, by rw [d.str], le_size h, q _ w H (Step.refl _ _) g (.int _)⟩
    · rw [if_neg h] at e; cases e
  | _ => exact seqs e
def intT (_ : RS) (t : T) : Option T := match t with
  | .int i => some (.int i)
  | .bl k => some (.int (if k then 1 else 0))
  | _ => none
theorem v_int : B1 G (fun xs H Q => (∃ i, xs = [.int i] ∧ Q (.int i) H) ∨ ∃ k, xs = [.bl k] ∧ Q (.int (if k then 1 else 0)) H) intT := fun w H r v t z Q g d e q => by
  cases t with
  | int i => cases e; exact .inl ⟨i, by rw [d.int], q _ w H (Step.refl _ _) g (.int _)⟩
  | bl i => cases e; exact .inr ⟨i, by rw [d.bl], q _ w H (Step.refl _ _) g (.int _)⟩
  | _ => cases e
def absT (_ : RS) (t : T) : Option T := match t with
  | .int i => some (T.int (if i < 0 then -i else i))
  | _ => none
theorem v_abs : B1 G (fun xs H Q => ∃ i, xs = [.int i] ∧ Q (.int (if i < 0 then -i else i)) H) absT := fun w H r v t z Q g d e q => by
  cases t with
  | int i => cases e; exact ⟨i, by rw [d.int], q _ w H (Step.refl _ _) g (.int _)⟩
  | _ => cases e
def max2T : T → T → Option T
  | .int i, .int j => some (.int (if j > i then j else i))
  | _, _ => none
def min2T : T → T → Option T
  | .int i, .int j => some (.int (if j < i then j else i))
  | _, _ => none
theorem v_max2 : B2 G (fun xs H Q => ∃ i j, xs = [.int i, .int j] ∧ Q (.int (if j > i then j else i)) H) max2T := fun w H r v u t s z Q g d1 d2 e q => by
  cases d1 with
  | int i =>
    cases d2 with
    | int j => cases e; exact ⟨i, j, rfl, q _ w H (Step.refl _ _) g (.int _)⟩
    | _ => cases e
  | _ => cases e
theorem v_min2 : B2 G (fun xs H Q => ∃ i j, xs = [.int i, .int j] ∧ Q (.int (if j < i then j else i)) H) min2T := fun w H r v u t s z Q g d1 d2 e q => by
  cases d1 with
  | int i =>
    cases d2 with
    | int j => cases e; exact ⟨i, j, rfl, q _ w H (Step.refl _ _) g (.int _)⟩
    | _ => cases e
  | _ => cases e
/-- a list of ints, of bools, of texts -/
def intsT : List T → Option (List Int)
  | [] => some []
  | .int i :: r => (intsT r).map (i :: ·)
  | _ :: _ => none
def blsT : List T → Option (List Bool)
  | [] => some []
  | .bl i :: r => (blsT r).map (i :: ·)
  | _ :: _ => none
def strsT : List T → Option (List Str)
  | [] => some []
  | .str i :: r => (strsT r).map (i :: ·)
  | _ :: _ => none
theorem ints_of {w : Wd} : ∀ {ts : List T} {vs : List V} {ns : List Int}, Dens G w vs ts → intsT ts = some ns → vs = ns.map V.int
  | [], _, _, .nil, e => by cases e; rfl
  | t :: ts, _, _, .cons h r, e => by
    cases h with
    | int i =>
      have e : (intsT ts).map (i :: ·) = some _ := e
      cases q : intsT ts with
      | none => rw [q] at e; cases e
      | some ns => rw [q] at e; cases e; rw [ints_of r q]; rfl
    | _ => cases e
theorem bls_of {w : Wd} : ∀ {ts : List T} {vs : List V} {ns : List Bool}, Dens G w vs ts → blsT ts = some ns → vs = ns.map V.bl
  | [], _, _, .nil, e => by cases e; rfl
  | t :: ts, _, _, .cons h r, e => by
    cases h with
    | bl i =>
      have e : (blsT ts).map (i :: ·) = some _ := e
      cases q : blsT ts with
      | none => rw [q] at e; cases e
      | some ns => rw [q] at e; cases e; rw [bls_of r q]; rfl
    | _ => cases e
theorem strs_of {w : Wd} : ∀ {ts : List T} {vs : List V} {ns : List Str}, Dens G w vs ts → strsT ts = some ns → vs = ns.map V.str
  | [], _, _, .nil, e => by cases e; rfl
  | t :: ts, _, _, .cons h r, e => by
    cases h with
    | str i =>
      have e : (strsT ts).map (i :: ·) = some _ := e
      cases q : strsT ts with
      | none => rw [q] at e; cases e
      | some ns => rw [q] at e; cases e; rw [strs_of r q]; rfl
    | _ => cases e
/-- the items of a list -/
def lstT (r : RS) : T → Option (List T)
  | .lst xs => some xs
  | .kls xs => some xs
  | .ref k => r[k]?
  | _ => none
theorem lst_of {w : Wd} {H : Hp} {r : RS} {v : V} {t : T} {xs : List T} (g : Good G w H r) (d : DenB G w H v t) (e : lstT r t = some xs) : ∃ a vs, v = .ref a ∧ SqL G.K H a vs ∧ Dens G w vs xs ∧ xs.length ≤ sizeLine := by
  rcases d with d | ⟨a, vs, ys, e1, e2, h1, h2, h3, h4⟩
  · cases d with
    | lst h z d => cases e; exact ⟨_, _, rfl, SqL.of (g.sub _ _ h), d, z⟩
    | kls h z d => cases e; exact ⟨_, _, rfl, g.sub.seq h, d, z⟩
    | @ref k a h =>
      obtain ⟨b, vs, h1, h2, h3, h4⟩ := g.refs.at_ k xs e
      rw [h] at h1
      cases h1
      exact ⟨_, vs, rfl, SqL.of h2, h3, h4⟩
    | _ => cases e
  · subst e1 e2
    cases e
    exact ⟨_, vs, rfl, SqL.of h2, h3, h4⟩
def sumT (r : RS) (t : T) : Option T := (lstT r t).bind fun xs => (intsT xs).map fun ns => .int ns.sum
theorem v_sum (hK : X.K = G.K) : B1 G (rSum X.K) sumT := fun w H r v t z Q g d e q => by
  unfold sumT at e
  cases q1 : lstT r t with
  | none => rw [q1] at e; cases e
  | some xs =>
    rw [q1] at e
    have e : ((intsT xs).map fun ns => T.int ns.sum) = some z := e
    obtain ⟨a, vs, rfl, h, dd, zz⟩ := lst_of g d q1
    cases q2 : intsT xs with
    | none => rw [q2] at e; cases e
    | some ns =>
      rw [q2] at e
      cases e
      have := ints_of dd q2
      subst this
      rw [hK]
      exact ⟨a, ns, rfl, h, q _ w H (Step.refl _ _) g (.int _)⟩
def anyT (r : RS) (t : T) : Option T := (lstT r t).bind fun xs => (blsT xs).map fun bs => .bl (bs.any _root_.id)
def allT (r : RS) (t : T) : Option T := (lstT r t).bind fun xs => (blsT xs).map fun bs => .bl (bs.all _root_.id)
theorem v_any (hK : X.K = G.K) : B1 G (rAny X.K) anyT := fun w H r v t z Q g d e q => by
  unfold anyT at e
  cases q1 : lstT r t with
  | none => rw [q1] at e; cases e
  | some xs =>
    rw [q1] at e
    have e : ((blsT xs).map fun bs => T.bl (bs.any _root_.id)) = some z := e
    obtain ⟨a, vs, rfl, h, dd, zz⟩ := lst_of g d q1
    cases q2 : blsT xs with
    | none => rw [q2] at e; cases e
    | some ns =>
      rw [q2] at e
      cases e
      have := bls_of dd q2
      subst this
      rw [hK]
      exact ⟨a, ns, rfl, h, q _ w H (Step.refl _ _) g (.bl _)⟩
theorem v_all (hK : X.K = G.K) : B1 G (rAll X.K) allT := fun w H r v t z Q g d e q => by
  unfold allT at e
  cases q1 : lstT r t with
  | none => rw [q1] at e; cases e
  | some xs =>
    rw [q1] at e
    have e : ((blsT xs).map fun bs => T.bl (bs.all _root_.id)) = some z := e
    obtain ⟨a, vs, rfl, h, dd, zz⟩ := lst_of g d q1
    cases q2 : blsT xs with
    | none => rw [q2] at e; cases e
    | some ns =>
      rw [q2] at e
      cases e
      have := bls_of dd q2
      subst this
      rw [hK]
      exact ⟨a, ns, rfl, h, q _ w H (Step.refl _ _) g (.bl _)⟩
/-- tuple(xs), list(xs) -/
def tupT (r : RS) (t : T) : Option T := (seqT r t).map .tup
def lisT (r : RS) (t : T) : Option T := (seqT r t).map .lst
theorem v_tup (hK : X.K = G.K) : B1 G (fun xs H Q => ∃ p ys, xs = [.ref p] ∧ ((SqL X.K H p ys ∧ ∀ l, H l = none → Q (.ref l) (upd H l (.tup ys))) ∨ (SqT X.K H p ys ∧ Q (.ref p) H))) tupT := fun w H r v t z Q g d e q => by
  unfold tupT at e
  cases q1 : seqT r t with
  | none => rw [q1] at e; cases e
  | some xs =>
    rw [q1] at e
    cases e
    rw [hK]
    cases t with
    | tup ys =>
      cases q1
      rcases d with d | ⟨_, _, _, _, e2, _⟩
      · cases d with
        | @tup a vs _ h zz dd => exact ⟨a, vs, rfl, .inr ⟨tup_sq g.sub h, q _ w H (Step.refl _ _) g (.tup h zz dd)⟩⟩
      · cases e2
    | lst ys =>
      obtain ⟨a, vs, rfl, h, dd, zz⟩ := lst_of g d (show lstT r (.lst ys) = some xs from q1)
      refine ⟨a, vs, rfl, .inl ⟨h, fun l hl => ?_⟩⟩
      obtain ⟨st, g2⟩ := g.new (o := .tup vs) hl
      exact q _ _ _ st g2 (.tup (.inl upd_same) zz (dd.mono st.later))
    | kls ys =>
      obtain ⟨a, vs, rfl, h, dd, zz⟩ := lst_of g d (show lstT r (.kls ys) = some xs from q1)
      refine ⟨a, vs, rfl, .inl ⟨h, fun l hl => ?_⟩⟩
      obtain ⟨st, g2⟩ := g.new (o := .tup vs) hl
      exact q _ _ _ st g2 (.tup (.inl upd_same) zz (dd.mono st.later))
    | ref ys =>
      obtain ⟨a, vs, rfl, h, dd, zz⟩ := lst_of g d (show lstT r (.ref ys) = some xs from q1)
      refine ⟨a, vs, rfl, .inl ⟨h, fun l hl => ?_⟩⟩
      obtain ⟨st, g2⟩ := g.new (o := .tup vs) hl
      exact q _ _ _ st g2 (.tup (.inl upd_same) zz (dd.mono st.later))
    | _ => cases q1
theorem v_lis (hK : X.K = G.K) : B1 G (fun xs H Q => ∃ p ys, xs = [.ref p] ∧ (SqL X.K H p ys ∨ SqT X.K H p ys) ∧ ∀ l, H l = none → Q (.ref l) (upd H l (.lst ys))) lisT := fun w H r v t z Q g d e q => by
  unfold lisT at e
  cases q1 : seqT r t with
  | none => rw [q1] at e; cases e
  | some xs =>
    rw [q1] at e
    cases e
    rw [hK]
    obtain ⟨p, rfl, sd⟩ := seq_of g d q1
    cases sd with
    | l vs h dd zz =>
      refine ⟨p, vs, rfl, .inl h, fun l hl => ?_⟩
      obtain ⟨st, g2⟩ := g.new (o := .lst vs) hl
      exact q _ _ _ st g2 (.lst upd_same zz (dd.mono st.later))
    | t vs h dd zz =>
      refine ⟨p, vs, rfl, .inr h, fun l hl => ?_⟩
      obtain ⟨st, g2⟩ := g.new (o := .lst vs) hl
      exact q _ _ _ st g2 (.lst upd_same zz (dd.mono st.later))
/-- isinstance(x, c) -/
def tagS : T → Option String
  | .non => some "NoneType"
  | .bl _ => some "bool"
  | .int _ => some "int"
  | .str _ => some "str"
  | .tup _ => some "tuple"
  | .lst _ => some "list"
  | .kls _ => some "list"
  | .ref _ => some "list"
  | .dct _ _ => some "dict"
  | .dtt _ _ => some "dict"
  | _ => none
theorem ty_of {w : Wd} {H : Hp} {r : RS} {v : V} {t : T} {s : String} (g : Good G w H r) (d : Den G w v t) (e : tagS t = some s) : TyX G.K H v (.type s) := by
  cases d with
  | non => cases e; exact .base .non
  | bl b => cases e; exact .base (.bl b)
  | int i => cases e; exact .base (.int i)
  | str x => cases e; exact .base (.str x)
  | tup h z d =>
    cases e
    rcases h with h | ⟨o, its, n, h1, h2, _⟩
    · exact .base (.tup (g.sub _ _ h))
    · exact .kTuple h1 h2
  | lst h z d => cases e; exact .base (.lst (g.sub _ _ h))
  | kls h z d =>
    cases e
    rcases g.sub.seq h with (h | ⟨o, h⟩) | ⟨o, its, n, h1, h2, _⟩
    · exact .base (.lst h)
    · exact .base (.frz h)
    · exact .kList h1 h2
  | @ref k a h =>
    cases e
    obtain ⟨vs, q⟩ := g.refs.there (List.mem_of_getElem? h)
    exact .base (.lst q)
  | dct h l d => cases e; exact .base (.dK (g.sub _ _ h))
  | dtt h l d => cases e; exact .base (.dT (g.sub _ _ h))
  | _ => cases e
/-- the kind of a value: a built-in type, an own class -/
inductive Kd where
  | b (s : String) | o (C : Nat)
  deriving DecidableEq
def kdT : T → Option Kd
  | .obj C _ => some (.o C)
  | t => (tagS t).map .b
/-- what the library tells of an own class -/
structure InsTy (K : PySem.W.Frag) (cA : Addr) : Prop where
  cl : Cls K cA
  ha : PySem.W.findIn K (.ref cA) "__class__" = some (some (.builtin "object.__class__"))
  hsp : PySem.W.specialIn K (.builtin "object.__class__") "__get__" = some (some (.builtin "getset_descriptor.__get__"))
  htak : PySem.W.takesIn K (.builtin "object.__class__") = some true
  hmr : PySem.W.mroIn K cA (.type "object") = some true
def KdV (G : Gm) (k : Kd) (u : Value) : Prop := match k with
  | .b s => u = .type s
  | .o C => ∃ cA, G.mg (G.cn C) = some (.ref cA) ∧ u = .ref cA ∧ InsTy G.K cA
/-- a class as a value -/
inductive Cl where
  | ty (n : String) | cl (C : Nat)
  deriving DecidableEq
def clT : T → Option Cl
  | .ty n => some (.ty n)
  | .cl C => some (.cl C)
  | _ => none
def ClV (G : Gm) (c : Cl) (u : Value) : Prop := match c with
  | .ty n => u = .type n
  | .cl C => ∃ cA, G.mg (G.cn C) = some (.ref cA) ∧ u = .ref cA
/-- a table of isinstance -/
def TabOk (G : Gm) (tb : Kd → Cl → Option Bool) : Prop := ∀ k c b, tb k c = some b → (∀ C, k = .o C → ∀ cA, G.mg (G.cn C) = some (.ref cA) → InsTy G.K cA) ∧ ∀ u z, KdV G k u → ClV G c z → PySem.W.kitOne G.K u z = some b
def isiL (tb : Kd → Cl → Option Bool) (k : Kd) : List T → Option Bool
  | [] => some false
  | c :: cs => match (clT c).bind (tb k) with
    | some true => (clsT cs).map fun _ => true
    | some false => isiL tb k cs
    | none => none
where clsT : List T → Option Unit
  | [] => some ()
  | c :: cs => (clT c).bind fun _ => clsT cs
def isiT (tb : Kd → Cl → Option Bool) (t c : T) : Option T := match c with
  | .tup cs => (kdT t).bind fun k => match cs with
    | [] => none
    | c :: cs => (isiL tb k (c :: cs)).map T.bl
  | c => (kdT t).bind fun k => (clT c).bind fun c => (tb k c).map T.bl
def rIsiA (K : PySem.W.Frag) : List V → Hp → VK → Prop := fun xs H Q => rIsi K xs H Q ∨ rIsiT K xs H Q ∨ rIsiK K xs H Q
theorem c_isi : CallR X (.builtin "isinstance") (rIsiA X.K) := call_isi.or (call_isiT.or call_isiK)
theorem cl_of {w : Wd} {v : V} {t : T} {c : Cl} (d : Den G w v t) (h : clT t = some c) : ∃ u, ClsV v u ∧ ClV G c u := by
  cases d with
  | ty n => cases h; exact ⟨_, .ty n, rfl⟩
  | @cl C a q => cases h; exact ⟨_, .own a, a, q, rfl⟩
  | _ => cases h
theorem kd_of {w : Wd} {H : Hp} {r : RS} {v : V} {t : T} {k : Kd} (g : Good G w H r) (d : Den G w v t) (e : kdT t = some k) (hi : ∀ C, k = .o C → ∀ cA, G.mg (G.cn C) = some (.ref cA) → InsTy G.K cA) : ∃ u, TyX G.K H v u ∧ KdV G k u := by
  have go : ∀ s, tagS t = some s → k = .b s → ∃ u, TyX G.K H v u ∧ KdV G k u := fun s e1 e2 => by
    subst e2
    exact ⟨_, ty_of g d e1, rfl⟩
  cases t with
  | obj C vs =>
    cases e
    cases d with
    | @obj a cA dx _ us _ c h l dd =>
      have i := hi C rfl cA c
      exact ⟨_, .base (.ins (g.sub _ _ h) i.cl i.ha i.hsp i.htak i.hmr), cA, c, rfl, i⟩
  | non => cases e; exact go _ rfl rfl
  | bl _ => cases e; exact go _ rfl rfl
  | int _ => cases e; exact go _ rfl rfl
  | str _ => cases e; exact go _ rfl rfl
  | tup _ => cases e; exact go _ rfl rfl
  | lst _ => cases e; exact go _ rfl rfl
  | kls _ => cases e; exact go _ rfl rfl
  | ref _ => cases e; exact go _ rfl rfl
  | dct _ _ => cases e; exact go _ rfl rfl
  | dtt _ _ => cases e; exact go _ rfl rfl
  | _ => cases e
theorem cls_of {w : Wd} : ∀ {cs : List T} {vs : List V}, Dens G w vs cs → isiL.clsT cs = some () → ∃ us, Paired ClsV vs us
  | [], _, .nil, _ => ⟨[], .nil⟩
  | c :: cs, _, .cons h r, e => by
    have e : ((clT c).bind fun _ => isiL.clsT cs) = some () := e
    cases q : clT c with
    | none => rw [q] at e; cases e
    | some c' =>
      rw [q] at e
      obtain ⟨u, h1, _⟩ := cl_of h q
      obtain ⟨us, h2⟩ := cls_of r e
      exact ⟨u :: us, .cons h1 h2⟩
theorem isi_list {tb : Kd → Cl → Option Bool} (ok : TabOk G tb) {k : Kd} {u : Value} (hu : KdV G k u) {w : Wd} : ∀ {cs : List T} {vs : List V} {b : Bool}, Dens G w vs cs → isiL tb k cs = some b → ∃ us, Paired ClsV vs us ∧ PySem.W.kitAny G.K u us = some b
  | [], _, _, .nil, e => by cases e; exact ⟨[], .nil, kitAny_nil⟩
  | c :: cs, _, b, .cons h r, e => by
    unfold isiL at e
    cases q : clT c with
    | none => rw [q] at e; cases e
    | some c' =>
      rw [q] at e
      obtain ⟨z, h1, h2⟩ := cl_of h q
      have e : (match tb k c' with
        | some true => (isiL.clsT cs).map fun _ => true
        | some false => isiL tb k cs
        | none => none) = some b := e
      cases q2 : tb k c' with
      | none => rw [q2] at e; cases e
      | some b' =>
        rw [q2] at e
        have h3 := (ok k c' b' q2).2 u z hu h2
        cases b' with
        | true =>
          have e : ((isiL.clsT cs).map fun _ => true) = some b := e
          cases q3 : isiL.clsT cs with
          | none => rw [q3] at e; cases e
          | some _ =>
            rw [q3] at e
            cases e
            obtain ⟨us, hp⟩ := cls_of r q3
            exact ⟨z :: us, .cons h1 hp, kitAny_cons h3 (fun z => nomatch z) (fun _ => rfl)⟩
        | false =>
          obtain ⟨us, hp, ha⟩ := isi_list ok hu r e
          exact ⟨z :: us, .cons h1 hp, kitAny_cons h3 (fun _ => ha) (fun z => nomatch z)⟩
theorem v_isi {tb : Kd → Cl → Option Bool} (ok : TabOk G tb) (hK : X.K = G.K) : B2 G (rIsiA X.K) (isiT tb) := fun w H r v u t s z Q g d1 d2 e q => by
  rw [hK]
  have one : ((kdT t).bind fun k => (clT s).bind fun c => (tb k c).map T.bl) = some z → rIsiA G.K [v, u] H Q := fun e => by
    cases q1 : kdT t with
    | none => rw [q1] at e; cases e
    | some k =>
      rw [q1] at e
      have e : ((clT s).bind fun c => (tb k c).map T.bl) = some z := e
      cases q2 : clT s with
      | none => rw [q2] at e; cases e
      | some c =>
        rw [q2] at e
        have e : (tb k c).map T.bl = some z := e
        cases q3 : tb k c with
        | none => rw [q3] at e; cases e
        | some b =>
          rw [q3] at e
          cases e
          obtain ⟨hi, hk⟩ := ok k c b q3
          obtain ⟨z1, h1, h2⟩ := cl_of d2 q2
          obtain ⟨z2, h3, h4⟩ := kd_of g d1 q1 hi
          exact .inl ⟨v, u, z2, z1, b, rfl, h1, h3, hk _ _ h4 h2, q _ w H (Step.refl _ _) g (.bl b)⟩
  cases s with
  | tup cs =>
    have e : ((kdT t).bind fun k => match cs with
      | [] => none
      | c :: cs => (isiL tb k (c :: cs)).map T.bl) = some z := e
    cases q1 : kdT t with
    | none => rw [q1] at e; cases e
    | some k =>
      rw [q1] at e
      cases cs with
      | nil => cases e
      | cons c cs =>
        have e : (isiL tb k (c :: cs)).map T.bl = some z := e
        cases q3 : isiL tb k (c :: cs) with
        | none => rw [q3] at e; cases e
        | some b =>
          rw [q3] at e
          cases e
          have hi : ∀ C, k = .o C → ∀ cA, G.mg (G.cn C) = some (.ref cA) → InsTy G.K cA := by
            unfold isiL at q3
            cases q2 : clT c with
            | none => rw [q2] at q3; cases q3
            | some c' =>
              rw [q2] at q3
              cases q4 : tb k c' with
              | none =>
                have q3 : (match tb k c' with
                  | some true => (isiL.clsT cs).map fun _ => true
                  | some false => isiL tb k cs
                  | none => none) = some b := q3
                rw [q4] at q3
                cases q3
              | some b' => exact (ok k c' b' q4).1
          obtain ⟨z2, h3, h4⟩ := kd_of g d1 q1 hi
          cases d2 with
          | @tup p vs _ h zz dd =>
            obtain ⟨us, hp, ha⟩ := isi_list ok h4 dd q3
            rcases h with hT | ⟨⟨oc, od, dt, sl⟩, its, n, h1, h2, h5, _, h6⟩
            · exact .inr (.inl ⟨v, p, vs, z2, us, b, rfl, g.sub _ _ hT, hp, h3, ha, q _ w H (Step.refl _ _) g (.bl b)⟩)
            · have h2 : oc = .type "tuple" := h2
              have h5 : dt = .seq its n := h5
              subst h2 h5
              have e6 := ClsV.all hp h6
              have e7 : us.toArray = its := by rw [← e6]
              exact .inr (.inr ⟨v, p, od, us, n, sl, z2, b, rfl, by rw [e7]; exact h1, h3, ha, q _ w H (Step.refl _ _) g (.bl b)⟩)
  | _ => exact one e
end
end Ep
namespace Ep
open PySem PySem.Spec L2
/-! ### statements -/
inductive SO where
  | nx (e : Env) (r : RS) | rt (t : T) (r : RS) | bk (e : Env) (r : RS) | ct (e : Env) (r : RS) | exn (c : Nat) (p : T) (e : Env) (r : RS) | bad
abbrev Sm := Env → RS → SO
def FlowP (G : Gm) (W : WX) (w0 : Wd) (H0 : Hp) (D : Ends) : SO → Prop
  | .nx env r => ∀ w' H' σ', Step w0 H0 w' H' → Good G w' H' r → Slots G w' H0 H' σ' env → D.nx σ' H'
  | .rt t r => ∀ w' H' v, Step w0 H0 w' H' → Good G w' H' r → Den G w' v t → D.rt v H'
  | .bk env r => ∀ w' H' σ', Step w0 H0 w' H' → Good G w' H' r → Slots G w' H0 H' σ' env → D.bk σ' H'
  | .ct env r => ∀ w' H' σ', Step w0 H0 w' H' → Good G w' H' r → Slots G w' H0 H' σ' env → D.ct σ' H'
  | .exn c p env r => ∀ w' H' σ' cls d, Step w0 H0 w' H' → Good G w' H' r → Slots G w' H0 H' σ' env → ExcIs G w' H' c p cls d → W cls d σ' H'
  | .bad => False
/-- where a computation stands: the base, the world now, the slots -/
structure At (G : Gm) (w0 : Wd) (H0 : Hp) (w : Wd) (H : Hp) (σ : L2.St) (env : Env) (r : RS) : Prop where
  st : Step w0 H0 w H
  g : Good G w H r
  s : Slots G w H0 H σ env
def tSS (G : Gm) (W : WX) (w0 : Wd) (H0 : Hp) (g : Sm) : TS := fun D σ H => ∃ w env r, At G w0 H0 w H σ env r ∧ FlowP G W w0 H0 D (g env r)
abbrev SS (X : Cx) (G : Gm) (W : WX) (st : Stmt) (g : Sm) : Prop := ∀ w0 H0, PS X st (tSS G W w0 H0 g)
abbrev SSs (X : Cx) (G : Gm) (W : WX) (st : List Stmt) (g : Sm) : Prop := ∀ w0 H0, PSs X st (tSS G W w0 H0 g)
theorem ps_imp {X : Cx} {st : Stmt} {t t' : TS} (h : PS X st t) (i : ∀ D σ H, t' D σ H → t D σ H) : PS X st t' := ⟨fun pins s σ H D I q => h.run pins s σ H D I (i D σ H q)⟩
theorem pss_imp {X : Cx} {st : List Stmt} {t t' : TS} (h : PSs X st t) (i : ∀ D σ H, t' D σ H → t D σ H) : PSs X st t' := ⟨fun pins s σ H D I q => h.run pins s σ H D I (i D σ H q)⟩
def ofM {α : Type} (env : Env) (k : α → RS → SO) : Out α → SO
  | .ok a r => k a r
  | .exn c p r => .exn c p env r
  | .bad => .bad
section
variable {G : Gm} {W : WX} {w0 w : Wd} {H0 H : Hp} {σ : L2.St} {env : Env} {r : RS} {D : Ends}
theorem At.step (a : At G w0 H0 w H σ env r) {w' : Wd} {H' : Hp} {r' : RS} (st : Step w H w' H') (g : Good G w' H' r') : At G w0 H0 w' H' σ env r' := ⟨a.st.trans st, g, a.s.step st⟩
theorem FlowP.ofM {α : Type} {m : Out α} {k : α → RS → SO} (a : At G w0 H0 w H σ env r) (h : FlowP G W w0 H0 D (ofM env k m)) :
    OutP G w H (WE0 W σ) (fun x r' w' H' => At G w0 H0 w' H' σ env r' ∧ FlowP G W w0 H0 D (k x r')) m := by
  cases m with
  | ok x r' => exact fun w' H' st g => ⟨a.step st g, h⟩
  | exn c p r' => exact fun w' H' cls d st g x => h w' H' σ cls d (a.st.trans st) g (a.s.step st) x
  | bad => exact h
end
section
variable {X : Cx} {G : Gm} {W : WX} {st : Stmt} {rest : List Stmt} {g g' : Sm} {pos : Pos}
def qNil : Sm := fun env r => .nx env r
def qSeq (g g' : Sm) : Sm := fun env r => match g env r with
  | .nx env r => g' env r
  | o => o
theorem ss_nil : SSs X G W [] qNil := fun w0 H0 => pss_imp pss_nil fun D σ H ⟨w, env, r, a, h⟩ => h w H σ a.st a.g a.s
theorem ss_cons (h1 : SS X G W st g) (h2 : SSs X G W rest g') : SSs X G W (st :: rest) (qSeq g g') := fun w0 H0 => pss_imp (pss_cons (h1 w0 H0) (h2 w0 H0)) fun D σ H ⟨w, env, r, a, h⟩ => by
  refine ⟨w, env, r, a, ?_⟩
  unfold qSeq at h
  cases q : g env r with
  | nx env' r' =>
    rw [q] at h
    exact fun w' H' σ' st g s => ⟨w', env', r', ⟨st, g, s⟩, h⟩
  | rt t r' => rw [q] at h; exact h
  | bk e r' => rw [q] at h; exact h
  | ct e r' => rw [q] at h; exact h
  | exn c p e r' => rw [q] at h; exact h
  | bad => rw [q] at h; exact h
variable {e : Expr} {f : Env → M T}
def qRet (f : Env → M T) : Sm := fun env r => ofM env (fun t r => .rt t r) (f env r)
theorem at_e {w0 w : Wd} {H0 H : Hp} {σ : L2.St} {env : Env} {r : RS} {D : Ends} {k : T → RS → SO} {Q : VK} (a : At G w0 H0 w H σ env r) (h : FlowP G W w0 H0 D (ofM env k (f env r)))
    (n : ∀ t r1 w1 H1 v, At G w0 H0 w1 H1 σ env r1 → Den G w1 v t → FlowP G W w0 H0 D (k t r1) → Q v H1) : tS G W f σ H Q :=
  ⟨w, H0, env, r, a.g, a.s, (FlowP.ofM a h).imp fun t r1 w1 H1 _ _ q v d => n t r1 w1 H1 v q.1 d q.2⟩
theorem at_b {w0 w : Wd} {H0 H : Hp} {σ : L2.St} {env : Env} {r : RS} {D : Ends} {p : Env → M Bool} {k : Bool → RS → SO} {Q : Bool → Hp → Prop} (a : At G w0 H0 w H σ env r) (h : FlowP G W w0 H0 D (ofM env k (p env r)))
    (n : ∀ t r1 w1 H1, At G w0 H0 w1 H1 σ env r1 → FlowP G W w0 H0 D (k t r1) → Q t H1) : tSB G W p σ H Q :=
  ⟨w, H0, env, r, a.g, a.s, (FlowP.ofM a h).imp fun t r1 w1 H1 _ _ q => n t r1 w1 H1 q.1 q.2⟩
theorem ss_ret (he : SE X G W e f) : SS X G W (.Return (some e) pos) (qRet f) := fun w0 H0 => ps_imp (ps_ret he) fun D σ H ⟨w, env, r, a, h⟩ =>
  at_e a h fun t r1 w1 H1 v a1 d h1 => h1 w1 H1 v a1.st a1.g d
def qExpr (f : Env → M T) : Sm := fun env r => ofM env (fun _ r => .nx env r) (f env r)
theorem ss_expr (he : SE X G W e f) (hs : swapsWith e none pos.line X.env = pure false := by rfl) : SS X G W (.Expr e pos) (qExpr f) := fun w0 H0 => ps_imp (ps_expr he hs) fun D σ H ⟨w, env, r, a, h⟩ =>
  at_e a h fun t r1 w1 H1 v a1 d h1 => h1 w1 H1 σ a1.st a1.g a1.s
def qIf (p : Env → M Bool) (g g' : Sm) : Sm := fun env r => ofM env (fun c r => if c = true then g env r else g' env r) (p env r)
theorem ss_if {c : Expr} {p : Env → M Bool} {sa sb : List Stmt} (hc : SB X G W c p) (ha : SSs X G W sa g) (hb : SSs X G W sb g') : SS X G W (.If c sa sb pos) (qIf p g g') := fun w0 H0 => ps_imp (ps_if hc (ha w0 H0) (hb w0 H0)) fun D σ H ⟨w, env, r, a, h⟩ =>
  at_b a h fun t r1 w1 H1 a1 h1 => by
    cases t with
    | true => exact ⟨w1, env, r1, a1, h1⟩
    | false => exact ⟨w1, env, r1, a1, h1⟩
end
/-! ### slots set -/
section
variable {G : Gm} {w : Wd} {H0 H : Hp} {σ : L2.St} {env : Env} {r : RS}
theorem Slots.setVal {v : V} {t : T} (s : Slots G w H0 H σ env) (i : Nat) (d : Den G w v t) : Slots G w H0 H (σ.set i (some v)) (env.set i (.val t)) := by
  obtain ⟨oa, h1, h2⟩ := s.ex
  refine ⟨by simp [s.len], oa, fun j sl hj => ?_, fun j k u u' hj hk pj pk e => ?_⟩
  · by_cases hij : i = j
    · subst hij
      by_cases hl : i < env.length
      · rw [List.getElem?_set_self hl] at hj
        cases hj
        exact ⟨v, by rw [List.getElem?_set_self (by rw [s.len]; exact hl)], d⟩
      · rw [List.getElem?_eq_none (by simpa using hl)] at hj
        cases hj
    · rw [List.getElem?_set_ne hij] at hj
      have := h1 j sl hj
      unfold SlotAt at this ⊢
      cases sl <;> first | exact True.intro | (simp only [List.getElem?_set_ne hij]; exact this)
  · have ne : ∀ {m : Nat} {x : Slot}, (env.set i (.val t))[m]? = some x → x.priv = true → env[m]? = some x := fun {m x} hm px => by
      by_cases him : i = m
      · subst him
        by_cases hl : i < env.length
        · rw [List.getElem?_set_self hl] at hm
          cases hm
          cases px
        · rw [List.getElem?_eq_none (by simpa using hl)] at hm
          cases hm
      · rw [List.getElem?_set_ne him] at hm
        exact hm
    exact h2 j k u u' (ne hj pj) (ne hk pk) pj pk e
/-- an own list's address is none of a heap's that does not know it -/
theorem Slots.setOwn {p : Addr} {o : HO} {xs : Pv} (s : Slots G w H0 H σ env) (i : Nat) (nw : ∀ (j : Nat) (sl : Slot) (oa : Addr), env[j]? = some sl → sl.priv = true → σ[j]? = some (some (.ref oa)) → oa ≠ p)
    (hP : w.P p = none) (hR : p ∉ w.R) (h0 : ¬ Vs H0 p) (hh : H p = some o) (d : PvOk G w p o xs) : Slots G w H0 H (σ.set i (some (.ref p))) (env.set i (.pv xs)) := by
  obtain ⟨oa, h1, h2⟩ := s.ex
  have old : ∀ {m : Nat} {x : Slot}, i ≠ m → (env.set i (.pv xs))[m]? = some x → env[m]? = some x := fun {m x} him hm => by
    rw [List.getElem?_set_ne him] at hm
    exact hm
  have oan : ∀ {m : Nat} {x : Slot}, env[m]? = some x → x.priv = true → oa m ≠ p := fun {m x} hm px => by
    have := h1 m x hm
    cases x with
    | un => cases px
    | fn => cases px
    | val _ => cases px
    | pv ys => exact nw m _ _ hm rfl this.1
  refine ⟨by simp [s.len], fun j => if j = i then p else oa j, fun j sl hj => ?_, fun j k u u' hj hk pj pk e => ?_⟩
  · by_cases hij : i = j
    · subst hij
      by_cases hl : i < env.length
      · rw [List.getElem?_set_self hl] at hj
        cases hj
        simp only [SlotAt, if_true]
        exact ⟨by rw [List.getElem?_set_self (by rw [s.len]; exact hl)], hP, hR, h0, o, hh, d⟩
      · rw [List.getElem?_eq_none (by simpa using hl)] at hj
        cases hj
    · have := h1 j sl (old hij hj)
      unfold SlotAt at this ⊢
      cases sl <;> first | exact True.intro | (simp only [List.getElem?_set_ne hij, if_neg (Ne.symm hij)]; exact this)
  · by_cases hij : i = j
    · by_cases hik : i = k
      · rw [← hij, ← hik]
      · have e : (if j = i then p else oa j) = (if k = i then p else oa k) := e
        rw [if_pos hij.symm, if_neg (Ne.symm hik)] at e
        exact absurd e.symm (oan (old hik hk) pk)
    · by_cases hik : i = k
      · have e : (if j = i then p else oa j) = (if k = i then p else oa k) := e
        rw [if_neg (Ne.symm hij), if_pos hik.symm] at e
        exact absurd e (oan (old hij hj) pj)
      · have e : (if j = i then p else oa j) = (if k = i then p else oa k) := e
        rw [if_neg (Ne.symm hij), if_neg (Ne.symm hik)] at e
        exact h2 j k u u' (old hij hj) (old hik hk) pj pk e
/-- an own list changes -/
theorem Slots.chg {o : HO} {xs ys : Pv} (s : Slots G w H0 H σ env) {i : Nat} {p : Addr} (he : env[i]? = some (.pv xs)) (hp : σ[i]? = some (some (.ref p))) (d : PvOk G w p o ys) : Slots G w H0 (upd H p o) σ (env.set i (.pv ys)) := by
  obtain ⟨oa, h1, h2⟩ := s.ex
  have hi := h1 i _ he
  have ep : oa i = p := by
    have := hi.1
    rw [hp] at this
    exact (V.ref.inj (Option.some.inj (Option.some.inj this))).symm
  have old : ∀ {m : Nat} {x : Slot}, i ≠ m → (env.set i (.pv ys))[m]? = some x → env[m]? = some x := fun {m x} him hm => by
    rw [List.getElem?_set_ne him] at hm
    exact hm
  have hl : i < env.length := (List.getElem?_eq_some_iff.mp he).1
  have pr : ∀ {m : Nat} {x : Slot}, (env.set i (.pv ys))[m]? = some x → x.priv = true → ∃ y : Slot, env[m]? = some y ∧ y.priv = true := fun {m x} hm px => by
    by_cases him : i = m
    · subst him; exact ⟨_, he, rfl⟩
    · exact ⟨x, old him hm, px⟩
  refine ⟨by simp [s.len], oa, fun j sl hj => ?_, fun j k u u' hj hk pj pk e => ?_⟩
  · by_cases hij : i = j
    · subst hij
      rw [List.getElem?_set_self hl] at hj
      cases hj
      obtain ⟨a1, a2, a3, a4, _⟩ := hi
      exact ⟨a1, a2, a3, a4, o, by rw [ep]; exact upd_same, by rw [ep]; exact d⟩
    · have q := old hij hj
      have := h1 j sl q
      cases sl with
      | un => trivial
      | fn =>
        obtain ⟨a, c, q, cv, ct, e1, e2, d', n, hc⟩ := this
        obtain ⟨_, _, _, _, u, b6, b7⟩ := hi
        exact ⟨a, c, q, cv, ct, e1, e2, d', n, by rw [upd_ne (code_ne hc (by rw [← ep]; exact b6) b7.pl)]; exact hc⟩
      | val t => exact this
      | pv zs =>
        have ne : oa j ≠ p := fun e => hij (h2 i j _ _ he q rfl rfl (ep.trans e.symm))
        obtain ⟨a1, a2, a3, a4, u, a6, a7⟩ := this
        exact ⟨a1, a2, a3, a4, u, by rw [upd_ne ne]; exact a6, a7⟩
  · obtain ⟨y, e1, p1⟩ := pr hj pj
    obtain ⟨y', e2, p2⟩ := pr hk pk
    exact h2 j k y y' e1 e2 p1 p2 e
def Pv.frz : Pv → Option T
  | .lst xs => some (.lst xs)
  | .dk ks vs => some (.dct ks vs)
  | .dt ks vs => some (.dtt ks vs)
  | .ins _ _ => none
theorem PvOk.frz {o : HO} {p : Pv} {t : T} {a : Addr} (h : PvOk G w a o p) (e : p.frz = some t) (hP : w.P a = none) : Den G (w.add a o) (.ref a) t := by
  have L : Later w (w.add a o) := Later.add hP
  cases h with
  | lst z d => cases e; exact .lst upd_same z (d.mono L)
  | ins _ c l d => cases e
  | dk l z d => cases e; exact .dct upd_same l (d.mono L)
  | dt l z d => cases e; exact .dtt upd_same l (d.mono L)
/-- an own thing is a value from now on -/
theorem Slots.freeze {p : Pv} {t : T} (s : Slots G w H0 H σ env) (g : Good G w H r) {w0 : Wd} (st : Step w0 H0 w H) {i : Nat} (he : env[i]? = some (.pv p)) (hf : p.frz = some t) : ∃ w', Step w0 H0 w' H ∧ Good G w' H r ∧ Slots G w' H0 H σ (env.set i (.val t)) := by
  obtain ⟨oa, h1, h2⟩ := s.ex
  obtain ⟨a1, a2, a3, a4, o, a6, a7⟩ := h1 i _ he
  refine ⟨w.add (oa i) o, st.publish a4 a2, g.publish a2 a3 a6 a7.pl.tb, ?_⟩
  have L : Later w (w.add (oa i) o) := Later.add a2
  have hl : i < env.length := (List.getElem?_eq_some_iff.mp he).1
  have old : ∀ {m : Nat} {x : Slot}, i ≠ m → (env.set i (.val t))[m]? = some x → env[m]? = some x := fun {m x} him hm => by
    rw [List.getElem?_set_ne him] at hm
    exact hm
  have pr : ∀ {m : Nat} {x : Slot}, (env.set i (.val t))[m]? = some x → x.priv = true → env[m]? = some x := fun {m x} hm px => by
    by_cases him : i = m
    · subst him
      rw [List.getElem?_set_self hl] at hm
      cases hm
      cases px
    · exact old him hm
  refine ⟨by simp [s.len], oa, fun j sl hj => ?_, fun j k u u' hj hk pj pk e => h2 j k u u' (pr hj pj) (pr hk pk) pj pk e⟩
  by_cases hij : i = j
  · subst hij
    rw [List.getElem?_set_self hl] at hj
    cases hj
    exact ⟨_, a1, a7.frz hf a2⟩
  · have q := old hij hj
    have := h1 j sl q
    have nP : ∀ {x : Slot}, env[j]? = some x → x.priv = true → w.P (oa j) = none → (w.add (oa i) o).P (oa j) = none := fun {x} hx px hn => by
      show upd w.P (oa i) o (oa j) = none
      rw [upd_ne (fun e => hij (h2 i j _ _ he hx rfl px e.symm))]
      exact hn
    cases sl with
    | un => trivial
    | fn =>
      obtain ⟨a, c, q, cv, ct, e1, e2, d', n, hc⟩ := this
      exact ⟨a, c, q, cv, ct, e1, e2, d'.mono L, n, hc⟩
    | val t =>
      obtain ⟨v, e1, d1⟩ := this
      exact ⟨v, e1, d1.mono L⟩
    | pv zs =>
      obtain ⟨b1, b2, b3, b4, u, b6, b7⟩ := this
      exact ⟨b1, nP q rfl b2, b3, b4, u, b6, b7.mono L rfl⟩
end
/-- the own things of some slots become values -/
def frz1 (env : Env) (i : Nat) : Env := match env[i]? with
  | some (.pv p) => match p.frz with
    | some t => env.set i (.val t)
    | none => env
  | _ => env
def frz : List Nat → Env → Env
  | [], env => env
  | i :: is, env => frz is (frz1 env i)
theorem At.freeze1 {G : Gm} {w0 : Wd} {H0 H : Hp} {σ : L2.St} {r : RS} (i : Nat) {w : Wd} {env : Env} (a : At G w0 H0 w H σ env r) : ∃ w', At G w0 H0 w' H σ (frz1 env i) r := by
  unfold frz1
  cases q : env[i]? with
  | none => exact ⟨w, a⟩
  | some sl =>
    cases sl with
    | pv p =>
      cases e : p.frz with
      | none => exact ⟨w, by simpa [e] using a⟩
      | some t =>
        obtain ⟨w', h1, h2, h3⟩ := a.s.freeze a.g a.st q e
        exact ⟨w', by simpa [e] using (⟨h1, h2, h3⟩ : At G w0 H0 w' H σ (env.set i (.val t)) r)⟩
    | un => exact ⟨w, a⟩
    | fn => exact ⟨w, a⟩
    | val t => exact ⟨w, a⟩
theorem At.freeze {G : Gm} {w0 : Wd} {H0 H : Hp} {σ : L2.St} {r : RS} : ∀ (is : List Nat) {w : Wd} {env : Env}, At G w0 H0 w H σ env r → ∃ w', At G w0 H0 w' H σ (frz is env) r
  | [], w, env, a => ⟨w, a⟩
  | i :: is, w, env, a => by
    obtain ⟨w1, a1⟩ := a.freeze1 i
    exact At.freeze is a1
theorem ss_frz {X : Cx} {G : Gm} {W : WX} {st : Stmt} {g : Sm} (is : List Nat) (h : SS X G W st g) : SS X G W st (fun env r => g (frz is env) r) := fun w0 H0 => ps_imp (h w0 H0) fun D σ H ⟨w, env, r, a, q⟩ => by
  obtain ⟨w', a'⟩ := a.freeze is
  exact ⟨w', frz is env, r, a', q⟩
/-! ### assignments -/
section
variable {X : Cx} {G : Gm} {W : WX} {pos : Pos} {e : Expr} {f : Env → M T}
def qSet (i : Nat) (f : Env → M T) : Sm := fun env r => ofM env (fun t r => .nx (env.set i (.val t)) r) (f env r)
theorem ss_set {i : Nat} {x : Str} {pos' : Pos} (hN : X.N.Nodup) (hi : X.N[i]? = some x) (hx : Loc X.env.scope x) (he : SE X G W e f) (hs : swapsWith e (some (.Name x pos')) pos.line X.env = pure false := by rfl) (hf : X.fn x = true ∨ X.env.scope.names.lookup x = some .local := by first | exact .inl rfl | exact .inr rfl | assumption) :
    SS X G W (.Assign [.Name x pos'] e pos) (qSet i f) := fun w0 H0 => ps_imp (ps_set hN hi hx he hs hf) fun D σ H ⟨w, env, r, a, h⟩ =>
  at_e a h fun t r1 w1 H1 v a1 d h1 => h1 w1 H1 _ a1.st a1.g (a1.s.setVal i d)
theorem At.notNew {w0 w : Wd} {H0 H : Hp} {σ : L2.St} {env : Env} {r : RS} (a : At G w0 H0 w H σ env r) {j : Nat} {sl : Slot} {b p : Addr} (hj : env[j]? = some sl) (pj : sl.priv = true) (hb : σ[j]? = some (some (.ref b))) (hp : ¬ Vs H p) : b ≠ p := fun eb => by
  subst eb
  obtain ⟨oa, k1, k2⟩ := a.s.ex
  have := k1 j sl hj
  cases sl with
  | un => cases pj
  | fn => cases pj
  | val _ => cases pj
  | pv ys =>
    obtain ⟨b1, _, _, _, o, b6, _⟩ := this
    rw [hb] at b1
    cases b1
    rename_i b7
    exact hp ⟨o, b6, b7.pl.tb⟩
def qOwn (i : Nat) (f : Env → M (List T)) : Sm := fun env r => ofM env (fun xs r => .nx (env.set i (.own xs)) r) (f env r)
theorem at_own {i : Nat} {f : Env → M (List T)} {w0 w : Wd} {H0 H : Hp} {σ : L2.St} {env : Env} {r : RS} {D : Ends} (a : At G w0 H0 w H σ env r) (h : FlowP G W w0 H0 D (qOwn i f env r)) : tSL G W f σ H (fun v H1 => D.nx (σ.set i (some v)) H1) := by
  refine ⟨w, H0, env, r, a.g, a.s, (FlowP.ofM a h).imp fun xs r1 w1 H1 st g1 q p vs hp hP hR hh d z => ?_⟩
  obtain ⟨a1, h1⟩ := q
  refine h1 w1 H1 _ a1.st a1.g (a1.s.setOwn i (fun j sl b hj pj hb => a.notNew hj pj hb hp) hP hR (fun z => hp (a.st.keep _ z)) hh (.lst z d))
theorem ss_own {i : Nat} {x : Str} {pos' : Pos} {f : Env → M (List T)} (hN : X.N.Nodup) (hi : X.N[i]? = some x) (hx : Loc X.env.scope x) (he : SL X G W e f) (hs : swapsWith e (some (.Name x pos')) pos.line X.env = pure false := by rfl) (hf : X.fn x = true ∨ X.env.scope.names.lookup x = some .local := by first | exact .inl rfl | exact .inr rfl | assumption) :
    SS X G W (.Assign [.Name x pos'] e pos) (qOwn i f) := fun w0 H0 => ps_imp (ps_set hN hi hx he hs hf) fun D σ H ⟨w, env, r, a, h⟩ => at_own a h
/-- a, b = e, e' with plain names -/
def qPar2 (i j : Nat) (f g : Env → M T) : Sm := fun env r => ofM env (fun ts r => match ts with
  | [t, u] => .nx ((env.set i (.val t)).set j (.val u)) r
  | _ => .bad) (fAll [f, g] env r)
theorem at_a {w0 w : Wd} {H0 H : Hp} {σ : L2.St} {env : Env} {r : RS} {D : Ends} {fs : List (Env → M T)} {k : List T → RS → SO} {Q : List V → Hp → Prop} (a : At G w0 H0 w H σ env r) (h : FlowP G W w0 H0 D (ofM env k (fAll fs env r)))
    (n : ∀ ts r1 w1 H1 vs, At G w0 H0 w1 H1 σ env r1 → Dens G w1 vs ts → ts.length = fs.length → FlowP G W w0 H0 D (k ts r1) → Q vs H1) : tSA G W fs σ H Q :=
  ⟨w, H0, env, r, a.g, a.s, (FlowP.ofM a h).imp fun t r1 w1 H1 _ _ q v d l => n t r1 w1 H1 v q.1 d l q.2⟩
theorem ss_par2 {i j : Nat} {x y : Str} {e1 e2 : Expr} {f g : Env → M T} {px py pt : Pos} {kt k2 pt2} (hc : X.calm = true) (hN : X.N.Nodup) (hi : X.N[i]? = some x) (hj : X.N[j]? = some y) (hij : i ≠ j)
    (hx : X.env.scope.names.lookup x = some .local) (hy : X.env.scope.names.lookup y = some .local) (ha : SA X G W [e1, e2] [f, g])
    (hw : swappedStores [.Tuple [.Name x px, .Name y py] kt pt] (.Tuple [e1, e2] k2 pt2) X.env = pure (some [x, y]))
    (hs : swapsWithSole [.Tuple [.Name x px, .Name y py] kt pt] (.Tuple [e1, e2] k2 pt2) pos.line X.env = pure false := by rfl) :
    SS X G W (.Assign [.Tuple [.Name x px, .Name y py] kt pt] (.Tuple [e1, e2] k2 pt2) pos) (qPar2 i j f g) := fun w0 H0 => ps_imp (ps_par hc hN hi hj hij hx hy ha hw hs) fun D σ H ⟨w, env, r, a, h⟩ =>
  at_a a h fun ts r1 w1 H1 vs a1 d l h1 => by
    cases d with
    | nil => cases l
    | cons d1 d =>
      cases d with
      | nil => cases l
      | cons d2 d =>
        cases d with
        | cons _ _ => cases l
        | nil => exact ⟨_, _, rfl, h1 w1 H1 _ a1.st a1.g ((a1.s.setVal i d1).setVal j d2)⟩
/-! ### targets -/
/-- all slots but those of vs stay -/
def But (vs : List Nat) (σ σ' : L2.St) : Prop := σ'.length = σ.length ∧ ∀ j, j ∉ vs → σ'[j]? = σ[j]?
theorem But.refl {vs : List Nat} {σ : L2.St} : But vs σ σ := ⟨rfl, fun _ _ => rfl⟩
theorem But.trans {vs us : List Nat} {σ σ1 σ2 : L2.St} (a : But vs σ σ1) (b : But us σ1 σ2) : But (vs ++ us) σ σ2 := ⟨b.1.trans a.1, fun j hj => (b.2 j fun h => hj (List.mem_append_right _ h)).trans (a.2 j fun h => hj (List.mem_append_left _ h))⟩
theorem But.set {σ : L2.St} {i : Nat} {v : Option V} : But [i] σ (σ.set i v) := ⟨List.length_set, fun j hj => List.getElem?_set_ne fun e => hj (by simp [e])⟩
def tG (G : Gm) (vs : List Nat) (w0 : Wd) (H0 : Hp) (h : T → Env → Option Env) : TG := fun v σ H Q => ∃ w env r t env', At G w0 H0 w H σ env r ∧ Den G w v t ∧ h t env = some env' ∧ ∀ σ', Slots G w H0 H σ' env' → But vs σ σ' → Q σ' H
def tGs (G : Gm) (us : List Nat) (w0 : Wd) (H0 : Hp) (h : List T → Env → Option Env) : TGs := fun vs σ H Q => ∃ w env r ts env', At G w0 H0 w H σ env r ∧ Dens G w vs ts ∧ h ts env = some env' ∧ ∀ σ', Slots G w H0 H σ' env' → But us σ σ' → Q σ' H
abbrev SG (X : Cx) (G : Gm) (vs : List Nat) (tg : Expr) (h : T → Env → Option Env) : Prop := ∀ w0 H0, PG X tg (tG G vs w0 H0 h)
abbrev SGs (X : Cx) (G : Gm) (vs : List Nat) (tg : List Expr) (h : List T → Env → Option Env) : Prop := ∀ w0 H0, PGs X tg (tGs G vs w0 H0 h)
theorem pg_imp {tg : Expr} {t t' : TG} (h : PG X tg t) (i : ∀ v σ H Q, t' v σ H Q → t v σ H Q) : PG X tg t' := ⟨fun pins s σ H v u Q I r q => h.run pins s σ H v u Q I r (i v σ H Q q)⟩
theorem pgs_imp {tg : List Expr} {t t' : TGs} (h : PGs X tg t) (i : ∀ v σ H Q, t' v σ H Q → t v σ H Q) : PGs X tg t' := ⟨fun pins s σ H v u Q I r q => h.run pins s σ H v u Q I r (i v σ H Q q)⟩
def hName (i : Nat) : T → Env → Option Env := fun t env => some (env.set i (.val t))
theorem g_name {i : Nat} {x : Str} (hN : X.N.Nodup) (hi : X.N[i]? = some x) (hx : Loc X.env.scope x) (hf : X.fn x = true ∨ X.env.scope.names.lookup x = some .local := by first | exact .inl rfl | exact .inr rfl | assumption) : SG X G [i] (.Name x pos) (hName i) := fun w0 H0 =>
  pg_imp (pg_name hN hi hx hf) fun v σ H Q ⟨w, env, r, t, env', a, d, e, q⟩ => by
    cases e
    exact q _ (a.s.setVal i d) But.set
def hNil : List T → Env → Option Env := fun ts env => match ts with
  | [] => some env
  | _ => none
def hCons (h : T → Env → Option Env) (hs : List T → Env → Option Env) : List T → Env → Option Env := fun ts env => match ts with
  | t :: ts => (h t env).bind (hs ts)
  | [] => none
theorem gs_nil : SGs X G [] [] hNil := fun w0 H0 => pgs_imp pgs_nil fun vs σ H Q ⟨w, env, r, ts, env', a, d, e, q⟩ => by
  cases d with
  | nil => cases e; exact ⟨rfl, q σ a.s But.refl⟩
  | cons _ _ => cases e
theorem gs_cons {tg : Expr} {tgs : List Expr} {h : T → Env → Option Env} {hs : List T → Env → Option Env} {us us' : List Nat} (h1 : SG X G us tg h) (h2 : SGs X G us' tgs hs) (he : (assignEach (tg :: tgs) X.env).map (·.2) = assign tg X.env :: (assignEach tgs X.env).map (·.2) := by rfl) : SGs X G (us ++ us') (tg :: tgs) (hCons h hs) := fun w0 H0 =>
  pgs_imp (pgs_cons (h1 w0 H0) (h2 w0 H0) he) fun vs σ H Q ⟨w, env, r, ts, env', a, d, e, q⟩ => by
    cases d with
    | nil => cases e
    | @cons v vs t ts d1 d2 =>
      have e : (h t env).bind (hs ts) = some env' := e
      cases e1 : h t env with
      | none => rw [e1] at e; cases e
      | some env1 =>
        rw [e1] at e
        exact ⟨v, vs, rfl, w, env, r, t, env1, a, d1, e1, fun σ' s' b => ⟨w, env1, r, ts, env', ⟨a.st, a.g, s'⟩, d2, e, fun σ2 s2 b2 => q σ2 s2 (b.trans b2)⟩⟩
def hTup (n : Nat) (hs : List T → Env → Option Env) : T → Env → Option Env := fun t env => match t with
  | .tup ts => if ts.length = n then hs ts env else none
  | _ => none
theorem g_tup {us : List Nat} {es : List Expr} {k n : Nat} {hs : List T → Env → Option Env} (hc : X.calm = true) (hK : X.K = G.K) (h : SGs X G us es hs) (hn : (assignEach es X.env).length = n := by rfl) (hst : (assignEach es X.env).findIdx? (·.1) = none := by rfl) : SG X G us (.Tuple es k pos) (hTup n hs) := fun w0 H0 =>
  pg_imp (pg_tup hc (h w0 H0) hn hst) fun v σ H Q ⟨w, env, r, t, env', a, d, e, q⟩ => by
    cases d with
    | @tup p vs ts hh z dd =>
      have e : (if ts.length = n then hs ts env else none) = some env' := e
      by_cases hl : ts.length = n
      · rw [if_pos hl] at e
        rw [hK]
        exact ⟨p, vs, rfl, tup_sq a.g.sub hh, by rw [dd.length]; exact hl, w, env, r, ts, env', a, dd, e, q⟩
      · rw [if_neg hl] at e; cases e
    | _ => cases e
def qAsg (f : Env → M T) (h : T → Env → Option Env) : Sm := fun env r => ofM env (fun t r => match h t env with
  | some env' => .nx env' r
  | none => .bad) (f env r)
theorem ss_asg {us : List Nat} {tg : Expr} {h : T → Env → Option Env} (he : SE X G W e f) (hg : SG X G us tg h) (hs : swapsWithSole [tg] e pos.line X.env = pure false := by rfl) (hw : swappedStores [tg] e X.env = pure none := by rfl)
    (h1 : (assignEach [tg] X.env).map (·.2) = [assign tg X.env] := by rfl) : SS X G W (.Assign [tg] e pos) (qAsg f h) := fun w0 H0 => ps_imp (ps_asg he (hg w0 H0) hs hw h1) fun D σ H ⟨w, env, r, a, hq⟩ =>
  at_e a hq fun t r1 w1 H1 v a1 d h2 => by
    cases q : h t env with
    | none => rw [q] at h2; exact h2.elim
    | some env' =>
      rw [q] at h2
      exact ⟨w1, env, r1, t, env', a1, d, q, fun σ' s' _ => h2 w1 H1 σ' a1.st a1.g s'⟩
end
end Ep
namespace Ep
open PySem PySem.Spec L2
/-! ### lists changed -/
section
variable {G : Gm} {w w0 : Wd} {H0 H : Hp} {σ : L2.St} {env : Env} {r : RS}
/-- a changed list of several defs -/
theorem At.ref (a : At G w0 H0 w H σ env r) {k : Nat} {p : Addr} {xs : List T} {vs : List V} (hp : w.R[k]? = some p) (hk : r[k]? = some xs) {ys : List T} (d : Dens G w vs ys) (hz : ys.length ≤ sizeLine) : At G w0 H0 w (upd H p (.lst vs)) σ env (r.set k ys) := by
  have hm : p ∈ w.R := List.mem_of_getElem? hp
  have hl : k < r.length := (List.getElem?_eq_some_iff.mp hk).1
  have st : Step w H w (upd H p (.lst vs)) := ⟨Same.refl _, fun b o h1 h2 _ => by
      rw [upd_ne (fun e => h1 (by rw [e]; exact hm))]
      exact h2, fun b h => by
      exact h.put (by intro _ e; cases e), fun _ _ _ h => h, ⟨[], by simp, by simp⟩, rfl⟩
  obtain ⟨vs0, ev0⟩ := a.g.refs.there hm
  refine a.step st ⟨fun b o e => ?_, ⟨a.g.refs.nd, by rw [List.length_set]; exact a.g.refs.len, a.g.refs.out, fun j zs hj => ?_⟩, tabs_put a.g.tabs (.inr ⟨_, ev0, ⟨fun _ e => (by cases e), fun _ e => (by cases e)⟩⟩), a.g.nt⟩
  · rw [upd_ne (fun q => by rw [q, a.g.refs.out p hm] at e; cases e)]
    exact a.g.sub b o e
  · by_cases hjk : k = j
    · subst hjk
      rw [List.getElem?_set_self hl] at hj
      cases hj
      exact ⟨p, vs, hp, upd_same, d, hz⟩
    · rw [List.getElem?_set_ne hjk] at hj
      obtain ⟨b, us, h1, h2, h3, h4⟩ := a.g.refs.at_ j zs hj
      refine ⟨b, us, h1, ?_, h3, h4⟩
      have hb : b ≠ p := fun e => by
        subst e
        obtain ⟨l1, e1⟩ := List.getElem?_eq_some_iff.mp hp
        obtain ⟨l2, e2⟩ := List.getElem?_eq_some_iff.mp h1
        exact hjk ((List.getElem_inj a.g.refs.nd).mp (e1.trans e2.symm))
      rw [upd_ne hb]
      exact h2
/-- an own thing is changed -/
theorem At.pv (a : At G w0 H0 w H σ env r) {i : Nat} {xs ys : Pv} {o : HO} {p : Addr} (he : env[i]? = some (.pv xs)) (hp : σ[i]? = some (some (.ref p))) (d : PvOk G w p o ys) : At G w0 H0 w (upd H p o) σ (env.set i (.pv ys)) r := by
  obtain ⟨oa, h1, h2⟩ := a.s.ex
  obtain ⟨b1, b2, b3, b4, u, b6, b7⟩ := h1 i _ he
  rw [hp] at b1
  cases b1
  exact ⟨a.st.chg b4 d.pl.tb, a.g.priv b2 b3 (.inr ⟨u, b6, b7.pl⟩), a.s.chg he hp d⟩
theorem At.own (a : At G w0 H0 w H σ env r) {i : Nat} {xs ys : List T} {vs : List V} {p : Addr} (he : env[i]? = some (.own xs)) (hp : σ[i]? = some (some (.ref p))) (d : Dens G w vs ys) (hz : ys.length ≤ sizeLine) : At G w0 H0 w (upd H p (.lst vs)) σ (env.set i (.own ys)) r :=
  a.pv he hp (.lst hz d)
/-- an own thing: its address -/
theorem At.thing (a : At G w0 H0 w H σ env r) {i : Nat} {q : Pv} (he : env[i]? = some (.pv q)) : ∃ p o, σ[i]? = some (some (.ref p)) ∧ H p = some o ∧ PvOk G w p o q := by
  obtain ⟨oa, h1, h2⟩ := a.s.ex
  obtain ⟨b1, b2, b3, b4, o, b6, b7⟩ := h1 i _ he
  exact ⟨_, o, b1, b6, b7⟩
/-- the list of a slot, to be changed: its address, its items -/
theorem At.lst (a : At G w0 H0 w H σ env r) {i : Nat} {xs : List T} (he : env[i]? = some (.own xs)) : ∃ p vs, σ[i]? = some (some (.ref p)) ∧ H p = some (.lst vs) ∧ Dens G w vs xs ∧ xs.length ≤ sizeLine := by
  obtain ⟨p, o, h1, h2, h3⟩ := a.thing he
  cases h3 with
  | lst z d => exact ⟨p, _, h1, h2, d, z⟩
theorem At.lstR (a : At G w0 H0 w H σ env r) {i k : Nat} {xs : List T} (he : env[i]? = some (.val (.ref k))) (hk : r[k]? = some xs) : ∃ p vs, σ[i]? = some (some (.ref p)) ∧ H p = some (.lst vs) ∧ Dens G w vs xs ∧ w.R[k]? = some p ∧ xs.length ≤ sizeLine := by
  obtain ⟨oa, h1, h2⟩ := a.s.ex
  obtain ⟨v, e1, d⟩ := h1 i _ he
  cases d with
  | ref h =>
    obtain ⟨b, us, h3, h4, h5, h6⟩ := a.g.refs.at_ k xs hk
    rw [h] at h3
    cases h3
    exact ⟨_, us, e1, h4, h5, h, h6⟩
end
section
variable {X : Cx} {G : Gm} {W : WX} {pos : Pos} {e ix : Expr} {f g : Env → M T}
theorem at_eS {w0 w : Wd} {H0 H : Hp} {σ : L2.St} {env : Env} {r : RS} {D : Ends} {k : T → RS → SO} {Q : VK} (a : At G w0 H0 w H σ env r) (h : FlowP G W w0 H0 D (ofM env k (f env r)))
    (n : ∀ t r1 w1 H1 v, Step w H w1 H1 → At G w0 H0 w1 H1 σ env r1 → Den G w1 v t → FlowP G W w0 H0 D (k t r1) → Q v H1) : tS G W f σ H Q :=
  ⟨w, H0, env, r, a.g, a.s, (FlowP.ofM a h).imp fun t r1 w1 H1 st _ q v d => n t r1 w1 H1 v st q.1 d q.2⟩
/-- may the slot's list be changed: an own one, or one of several defs -/
def isMut (env : Env) (i : Nat) : Bool := match env[i]? with
  | some (.pv (.lst _)) => true
  | some (.val (.ref _)) => true
  | _ => false
/-- the items of the slot's list; a new list in its place -/
def mutGet (env : Env) (i : Nat) (r : RS) : Option (List T) := match env[i]? with
  | some (.pv (.lst xs)) => some xs
  | some (.val (.ref k)) => r[k]?
  | _ => none
def mutSet (env : Env) (i : Nat) (r : RS) (ys : List T) : SO := match env[i]? with
  | some (.pv (.lst _)) => .nx (env.set i (.own ys)) r
  | some (.val (.ref k)) => .nx env (r.set k ys)
  | _ => .bad
theorem At.mutA {w w0 : Wd} {H0 H : Hp} {σ : L2.St} {env : Env} {r : RS} (a : At G w0 H0 w H σ env r) {i : Nat} (hm : isMut env i = true) : ∃ p vs, σ[i]? = some (some (.ref p)) ∧ H p = some (.lst vs) := by
  unfold isMut at hm
  cases q : env[i]? with
  | none => rw [q] at hm; cases hm
  | some sl =>
    rw [q] at hm
    cases sl with
    | pv o =>
      cases o with
      | lst xs =>
        obtain ⟨p, vs, e1, hp, _⟩ := a.lst q
        exact ⟨p, vs, e1, hp⟩
      | _ => cases hm
    | val t =>
      cases t with
      | ref k =>
        obtain ⟨oa, k1, k2⟩ := a.s.ex
        obtain ⟨v0, e1, d0⟩ := k1 i _ q
        cases d0 with
        | ref hp =>
          obtain ⟨vs, hh⟩ := a.g.refs.there (List.mem_of_getElem? hp)
          exact ⟨_, vs, e1, hh⟩
      | _ => cases hm
    | un => cases hm
    | fn => cases hm
theorem At.mutG {w w0 : Wd} {H0 H : Hp} {σ : L2.St} {env : Env} {r : RS} (a : At G w0 H0 w H σ env r) {i : Nat} {xs : List T} (hm : mutGet env i r = some xs) : ∃ p vs, σ[i]? = some (some (.ref p)) ∧ H p = some (.lst vs) ∧ Dens G w vs xs ∧ xs.length ≤ sizeLine ∧
    ∀ us ys, Dens G w us ys → ys.length ≤ sizeLine → ∀ (D : Ends), FlowP G W w0 H0 D (mutSet env i r ys) → D.nx σ (upd H p (.lst us)) := by
  unfold mutGet at hm
  cases q : env[i]? with
  | none => rw [q] at hm; cases hm
  | some sl =>
    rw [q] at hm
    cases sl with
    | pv o =>
      cases o with
      | lst ys =>
        cases hm
        obtain ⟨p, vs, e1, hp, d, hz⟩ := a.lst q
        refine ⟨p, vs, e1, hp, d, hz, fun us ys dd hl D h => ?_⟩
        unfold mutSet at h
        rw [q] at h
        have a2 := a.own q e1 dd hl
        exact h _ _ _ a2.st a2.g a2.s
      | _ => cases hm
    | val t =>
      cases t with
      | ref k =>
        obtain ⟨p, vs, e1, hp, d, hR, hz⟩ := a.lstR q hm
        refine ⟨p, vs, e1, hp, d, hz, fun us ys dd hl D h => ?_⟩
        unfold mutSet at h
        rw [q] at h
        have a2 := a.ref hR hm dd hl
        exact h _ _ _ a2.st a2.g a2.s
      | _ => cases hm
    | un => cases hm
    | fn => cases hm
/-- xs.append(e) -/
def qApp (i : Nat) (f : Env → M T) : Sm := fun env r => if isMut env i = true then ofM env (fun t r => match mutGet env i r with
  | some xs => if xs.length < 100000 then mutSet env i r (xs ++ [t]) else .bad
  | none => .bad) (f env r) else .bad
theorem ss_app {x : Str} {px apos cpos : Pos} (hK : X.K = G.K) (i : Nat) (hN : X.N[i]? = some x) (hv : Vis X.env.scope x) (he : SE X G W e f) (hbase : attributeBase (.Name x px) "append" X.env (eval (.Name x px) X.env) = eval (.Name x px) X.env := by rfl)
    (hfew : ((backTo cpos (starEach [e] X.env)).all (fun x => !x.1) && (backToKw cpos (keywordEach [] X.env)).all (fun x => x.1.isSome) && decide (([e] : List Expr).length + ([] : List Keyword).length + (if ([] : List Keyword).isEmpty then 0 else 1) < 30)) = true := by rfl)
    (hline : (apos.endLine == cpos.line) = true := by rfl) (hs : starEach [e] X.env = (false, eval e X.env) :: starEach [] X.env := by rfl) (hplain : (backTo cpos (starEach [] X.env)).any (·.1) = false := by rfl)
    (hd : (x == ("__debug__" : Str)) = false := by decide) (hcd : (x == ("__classdict__" : Str)) = false := by decide) :
    SS X G W (.Expr (.Call (.Attribute (.Name x px) "append" apos) [e] [] cpos) pos) (qApp i f) := fun w0 H0 =>
  ps_imp (ps_expr (pe_bm PySem.F.plainAttrs_list PySem.F.slot_list_append PySem.F.type_list_append mt_append (pe_var hN hv hd hcd) (pa_cons he pa_nil hs) hbase hfew hline hs hplain)) fun D σ H ⟨w, env, r, a, h⟩ => by
    rw [hK]
    unfold qApp at h
    by_cases hm : isMut env i = true
    · rw [if_pos hm] at h
      obtain ⟨p, vs, e1, hp⟩ := a.mutA hm
      refine ⟨_, e1, .inl ⟨rfl, vs, SqL.of hp⟩, at_e a h fun t r1 w1 H1 v a1 d h1 => ?_⟩
      cases q : mutGet env i r1 with
      | none => rw [q] at h1; exact h1.elim
      | some xs =>
        rw [q] at h1
        have h1 : FlowP G W w0 H0 D (if xs.length < 100000 then mutSet env i r1 (xs ++ [t]) else .bad) := h1
        by_cases hl : xs.length < 100000
        · rw [if_pos hl] at h1
          obtain ⟨p', vs', e2, hp', dd, hz', go⟩ := a1.mutG (W := W) q
          rw [e1] at e2
          cases e2
          exact ⟨p, vs', v, rfl, rfl, hp', by rw [dd.length]; exact Nat.lt_of_lt_of_le hl (by decide), go _ _ (dd.append (.cons d .nil)) (by rw [List.length_append]; exact Nat.le_trans (Nat.succ_le_of_lt hl) (by decide)) D h1⟩
        · rw [if_neg hl] at h1; exact h1.elim
    · rw [if_neg hm] at h; exact h.elim
/-- xs[i] = e -/
def qSetIx (i : Nat) (f g : Env → M T) : Sm := fun env r => if isMut env i = true then ofM env (fun t r => ofM env (fun u r => match mutGet env i r, u with
  | some xs, .int k => match ixN xs.length k with
    | some j => mutSet env i r (xs.set j t)
    | none => .bad
  | _, _ => .bad) (g env r)) (f env r) else .bad
theorem ss_setIx {x : Str} {px spos : Pos} (i : Nat) (hN : X.N[i]? = some x) (hv : Vis X.env.scope x) (he : SE X G W e f) (hi : SE X G W ix g)
    (ha : ∀ v, assign (.Subscript (.Name x px) ix spos) X.env v = (do let ov ← holding [v] (eval (.Name x px) X.env); let iv ← holding [v, ov] (eval ix X.env); standAt spos; holding [v, ov, iv] (setItem ov iv v); release [v, ov, iv] []) := by intro _; rfl)
    (hs : swapsWithSole [.Subscript (.Name x px) ix spos] e pos.line X.env = pure false := by rfl) (hw : swappedStores [.Subscript (.Name x px) ix spos] e X.env = pure none := by rfl)
    (h1 : (assignEach [.Subscript (.Name x px) ix spos] X.env).map (·.2) = [assign (.Subscript (.Name x px) ix spos) X.env] := by rfl) (hd : (x == ("__debug__" : Str)) = false := by decide) (hcd : (x == ("__classdict__" : Str)) = false := by decide) :
    SS X G W (.Assign [.Subscript (.Name x px) ix spos] e pos) (qSetIx i f g) := fun w0 H0 =>
  ps_imp (ps_asg he (pg_sub (pe_var hN hv hd hcd) hi set_list ha) hs hw h1) fun D σ H ⟨w, env, r, a, h⟩ => by
    unfold qSetIx at h
    by_cases hm : isMut env i = true
    · rw [if_pos hm] at h
      refine at_e a h fun t r1 w1 H1 v a1 d h1 => ?_
      obtain ⟨p, vs, e1, hp⟩ := a1.mutA hm
      refine ⟨_, e1, at_eS a1 h1 fun u r2 w2 H2 y st2 a2 d2 h2 => ?_⟩
      have d := d.mono st2.later
      cases q : mutGet env i r2 with
      | none => rw [q] at h2; exact h2.elim
      | some xs =>
        rw [q] at h2
        cases d2 with
        | int k =>
          obtain ⟨p', vs', e2, hp', dd, hz', go⟩ := a2.mutG (W := W) q
          rw [e1] at e2
          cases e2
          have h2 : FlowP G W w0 H0 D (match ixN xs.length k with
            | some j => mutSet env i r2 (xs.set j t)
            | none => .bad) := h2
          cases q2 : ixN xs.length k with
          | none => rw [q2] at h2; exact h2.elim
          | some j =>
            rw [q2] at h2
            exact ⟨p, vs', k, j, rfl, rfl, hp', by rw [dd.length]; exact q2, go _ _ (dd.set d j) (by rw [List.length_set]; exact hz') D h2⟩
        | _ => exact h2.elim
    · rw [if_neg hm] at h; exact h.elim
/-- a list that several defs change, from a new one -/
def fRef (f : Env → M (List T)) : Env → M T := fun env r => match f env r with
  | .ok xs r' => .ok (.ref r'.length) (r' ++ [xs])
  | .exn c p r' => .exn c p r'
  | .bad => .bad
theorem s_ref {f : Env → M (List T)} (h : SL X G W e f) : SE X G W e (fRef f) := pe_imp h fun σ H Q ⟨w, H0, env, r, g, s, h⟩ => by
  refine ⟨w, H0, env, r, g, s, ?_⟩
  unfold fRef at h
  cases q : f env r with
  | ok xs r1 =>
    rw [q] at h
    intro w1 H1 st g1 p vs hp hP hR hh d z
    have L : Later w1 ⟨w1.P, w1.R ++ [p], w1.fx⟩ := ⟨Same.refl _, [p], rfl⟩
    have st2 : Step w H ⟨w1.P, w1.R ++ [p], w1.fx⟩ H1 := ⟨st.pub, st.fr, st.keep, st.hid, by
      obtain ⟨m, e, hm⟩ := st.refs
      exact ⟨m ++ [p], by show w1.R ++ [p] = _; rw [e, List.append_assoc], fun a ha => by
        rcases List.mem_append.mp ha with z | z
        · exact hm a z
        · rw [List.mem_singleton.mp z]; exact hp⟩, st.me⟩
    have g2 : Good G ⟨w1.P, w1.R ++ [p], w1.fx⟩ H1 (r1 ++ [xs]) := ⟨g1.sub, ⟨List.nodup_append.mpr ⟨g1.refs.nd, by simp, fun a ha b hb e => hR (by rw [← List.mem_singleton.mp hb, ← e]; exact ha)⟩, by simp [g1.refs.len], fun a ha => by
        rcases List.mem_append.mp ha with z | z
        · exact g1.refs.out a z
        · rw [List.mem_singleton.mp z]; exact hP, fun k ys hk => by
        by_cases hl : k < r1.length
        · rw [List.getElem?_append_left hl] at hk
          obtain ⟨a, us, h1, h2, h3, h4⟩ := g1.refs.at_ k ys hk
          exact ⟨a, us, by show (w1.R ++ [p])[k]? = some a; rw [List.getElem?_append_left (by rw [g1.refs.len]; exact hl)]; exact h1, h2, h3.mono L, h4⟩
        · have hk' : k = r1.length := by
            have := (List.getElem?_eq_some_iff.mp hk).1
            rw [List.length_append, List.length_singleton] at this
            omega
          subst hk'
          rw [List.getElem?_append_right (Nat.le_refl _), Nat.sub_self] at hk
          cases hk
          exact ⟨p, vs, by show (w1.R ++ [p])[r1.length]? = some p; rw [List.getElem?_append_right (by rw [g1.refs.len]; exact Nat.le_refl _), g1.refs.len, Nat.sub_self]; rfl, hh, d.mono L, z⟩⟩, g1.tabs, g1.nt⟩
    refine h _ _ st2 g2 _ (.ref ?_)
    show (w1.R ++ [p])[r1.length]? = some p
    rw [List.getElem?_append_right (by rw [g1.refs.len]; exact Nat.le_refl _), g1.refs.len, Nat.sub_self]
    rfl
  | exn c p r1 =>
    rw [q] at h
    exact h
  | bad =>
    rw [q] at h
    exact h
/-- self.f = e in an __init__ -/
def qFld (i C n : Nat) (f : Env → M T) : Sm := fun env r => match env[i]? with
  | some (.pv (.ins C' ts)) => if C' = C ∧ ts.length = n then ofM env (fun t r => .nx (env.set i (.ins C (ts ++ [t]))) r) (f env r) else .bad
  | _ => .bad
theorem putF_new {name : Str} {v : V} : ∀ {fs : List (Str × V)}, fs.lookup name = none → putF name v fs = fs ++ [(name, v)]
  | [], _ => rfl
  | (y, u) :: fs, h => by
    rw [List.lookup_cons] at h
    by_cases q : name = y
    · subst q
      rw [show (name == name) = true by simp] at h
      cases h
    · rw [show (name == y) = false by simp [q]] at h
      have e : ¬ y = name := fun z => q z.symm
      unfold putF
      rw [if_neg e, putF_new h]
      rfl
theorem At.ins {w w0 : Wd} {H0 H : Hp} {σ : L2.St} {env : Env} {r : RS} (a : At G w0 H0 w H σ env r) {i C : Nat} {ts : List T} (he : env[i]? = some (.ins C ts)) : ∃ p cA dx vs, σ[i]? = some (some (.ref p)) ∧ G.mg (G.cn C) = some (.ref cA) ∧ H p = some (.ins cA dx (((G.fl C).take ts.length).zip vs)) ∧ vs.length = ts.length ∧ ts.length ≤ (G.fl C).length ∧
    ∀ v t, Den G w v t → ts.length < (G.fl C).length → At G w0 H0 w (upd H p (.ins cA dx (((G.fl C).take (ts ++ [t]).length).zip (vs ++ [v])))) σ (env.set i (.ins C (ts ++ [t]))) r := by
  obtain ⟨p, o, h1, h2, h3⟩ := a.thing he
  cases h3 with
  | ins hm c l d => exact ⟨p, _, _, _, h1, c, h2, d.length, l, fun v t dd hl => a.pv he h1 (.ins hm c (by rw [List.length_append, List.length_singleton]; exact hl) (d.append (.cons dd .nil)))⟩
/-- the class's n-th field is the name, and stands but once among those ahead -/
structure NthFld (G : Gm) (C n : Nat) (name : Str) : Prop where
  at_ : (G.fl C)[n]? = some name
  new : name ∉ (G.fl C).take n
  few : (G.fl C).length < 1000
  cl : ∀ cA, G.mg (G.cn C) = some (.ref cA) → Cls G.K cA ∧ NoAttr G.K cA name
theorem zip_snoc {l : List Str} {n : Nat} {name : Str} {vs : List V} {v : V} (h : l[n]? = some name) (hv : vs.length = n) : (l.take n).zip vs ++ [(name, v)] = (l.take (n + 1)).zip (vs ++ [v]) := by
  obtain ⟨hl, e⟩ := List.getElem?_eq_some_iff.mp h
  rw [List.take_succ, h]
  simp only [Option.toList]
  rw [List.zip_append (by rw [List.length_take, hv]; omega)]
  rfl
theorem ss_fld {x name : Str} {px fpos : Pos} {C n : Nat} (hK : X.K = G.K) (i : Nat) (hN : X.N[i]? = some x) (hv : Vis X.env.scope x) (ok : NthFld G C n name) (he : SE X G W e f)
    (hs : swapsWith e (some (.Attribute (.Name x px) name fpos)) pos.line X.env = pure false := by rfl) (hd : (x == ("__debug__" : Str)) = false := by decide) (hcd : (x == ("__classdict__" : Str)) = false := by decide) :
    SS X G W (.Assign [.Attribute (.Name x px) name fpos] e pos) (qFld i C n f) := fun w0 H0 =>
  ps_imp (ps_fld (pe_var hN hv hd hcd) he hs) fun D σ H ⟨w, env, r, a, h⟩ => by
    rw [hK]
    unfold qFld at h
    cases q : env[i]? with
    | none => rw [q] at h; exact h.elim
    | some sl =>
      rw [q] at h
      cases sl with
      | pv o =>
       cases o with
       | ins C' ts =>
        have h : FlowP G W w0 H0 D (if C' = C ∧ ts.length = n then ofM env (fun t r => .nx (env.set i (.ins C (ts ++ [t]))) r) (f env r) else .bad) := h
        by_cases hCn : C' = C ∧ ts.length = n
        · rw [if_pos hCn] at h
          obtain ⟨hCC, hn⟩ := hCn
          subst hCC
          refine at_e a h fun t r1 w1 H1 v a1 d h1 => ?_
          obtain ⟨p, cA, dx, vs, e1, c1, e2, l1, l2, go⟩ := a1.ins q
          have hl : ts.length < (G.fl C').length := by
            rw [hn]
            exact (List.getElem?_eq_some_iff.mp ok.at_).1
          have a2 := go v t d hl
          refine ⟨_, e1, p, cA, dx, _, rfl, e2, (ok.cl cA c1).1, (ok.cl cA c1).2, ?_, ?_⟩
          · rw [List.length_zip, List.length_take]
            have := ok.few
            omega
          · rw [putF_new (lookup_zip_none (by rw [hn]; exact ok.new)), zip_snoc (by rw [hn]; exact ok.at_) l1]
            have e3 : ts.length + 1 = (ts ++ [t]).length := by simp
            rw [e3]
            exact h1 _ _ _ a2.st a2.g a2.s
        · rw [if_neg hCn] at h; exact h.elim
       | _ => exact h.elim
      | _ => exact h.elim
end
end Ep
namespace Ep
open PySem PySem.Spec L2
/-! ### another base -/
theorem Slots.base {G : Gm} {w : Wd} {H0 Hb H : Hp} {σ : L2.St} {env : Env} (h : ∀ a, ¬ Vs Hb a → ¬ Vs H0 a) (s : Slots G w Hb H σ env) : Slots G w H0 H σ env := by
  obtain ⟨oa, h1, h2⟩ := s.ex
  refine ⟨s.len, oa, fun i sl hi => ?_, h2⟩
  have := h1 i sl hi
  cases sl with
  | un => trivial
  | fn => exact this
  | val t => exact this
  | pv o =>
    obtain ⟨a1, a2, a3, a4, a5⟩ := this
    exact ⟨a1, a2, a3, h _ a4, a5⟩
theorem FlowP.base {G : Gm} {W : WX} {w0 w : Wd} {H0 Hb : Hp} {D : Ends} {o : SO} (h : FlowP G W w0 H0 D o) (st : Step w0 H0 w Hb) : FlowP G W w Hb D o := by
  have b : ∀ a, ¬ Vs Hb a → ¬ Vs H0 a := fun a ha z => ha (st.keep a z)
  cases o with
  | nx env r => exact fun w' H' σ' s g sl => h w' H' σ' (st.trans s) g (sl.base b)
  | rt t r => exact fun w' H' v s g d => h w' H' v (st.trans s) g d
  | bk env r => exact fun w' H' σ' s g sl => h w' H' σ' (st.trans s) g (sl.base b)
  | ct env r => exact fun w' H' σ' s g sl => h w' H' σ' (st.trans s) g (sl.base b)
  | exn c p env r => exact fun w' H' σ' cls d s g sl x => h w' H' σ' cls d (st.trans s) g (sl.base b) x
  | bad => exact h
open Classical in
/-- the world as it is, the def's own things left out -/
theorem Slots.rebase {G : Gm} {w : Wd} {H0 H : Hp} {σ : L2.St} {env : Env} {r : RS} (s : Slots G w H0 H σ env) (g : Good G w H r) : ∃ Hb, At G w Hb w H σ env r ∧ ∀ w0, Step w0 H0 w H → Step w0 H0 w Hb := by
  obtain ⟨oa, h1, h2⟩ := s.ex
  let own : Addr → Prop := fun b => ∃ i sl, env[i]? = some sl ∧ Slot.priv sl = true ∧ oa i = b
  have hown : ∀ b, own b → ¬ Vs H0 b ∧ w.P b = none ∧ b ∉ w.R := fun b ⟨i, sl, e1, p1, e2⟩ => by
    have := h1 i sl e1
    subst e2
    cases sl with
    | un => cases p1
    | fn => cases p1
    | val _ => cases p1
    | pv o =>
      obtain ⟨a1, a2, a3, a4, a5⟩ := this
      exact ⟨a4, a2, a3⟩
  let Hb : Hp := fun b => if own b then none else H b
  have hb1 : ∀ b, own b → Hb b = none := fun b h => if_pos h
  have hb2 : ∀ b, ¬ own b → Hb b = H b := fun b h => if_neg h
  refine ⟨Hb, ⟨⟨Same.refl _, fun b o e1 e2 _ => ?_, fun b e => ?_, fun b _ _ e => e, ⟨[], by simp, by simp⟩, rfl⟩, g, s.len, oa, fun i sl hi => ?_, h2⟩, fun w0 st => ⟨st.pub, fun b o e1 e2 e3 => ?_, fun b e => ?_, fun b e1 e2 e3 => st.hid b e1 e2 e3, st.refs, st.me⟩⟩
  · by_cases q : own b
    · rw [hb1 b q] at e2; cases e2
    · rw [hb2 b q] at e2; exact e2
  · by_cases q : own b
    · exact absurd e (nvs (hb1 b q))
    · obtain ⟨o, e1, e2⟩ := e
      rw [hb2 b q] at e1
      exact ⟨o, e1, e2⟩
  · have := h1 i sl hi
    cases sl with
    | un => trivial
    | fn => exact this
    | val t => exact this
    | pv o =>
      obtain ⟨a1, a2, a3, a4, a5⟩ := this
      exact ⟨a1, a2, a3, nvs (hb1 _ ⟨i, _, hi, rfl, rfl⟩), a5⟩
  · rw [hb2 b (fun q => (hown b q).1 ⟨o, e2, e3⟩)]
    exact st.fr b o e1 e2 e3
  · obtain ⟨o, e1, e2⟩ := st.keep b e
    exact ⟨o, by rw [hb2 b (fun q => (hown b q).1 e)]; exact e1, e2⟩
theorem At.rebase {G : Gm} {w0 w : Wd} {H0 H : Hp} {σ : L2.St} {env : Env} {r : RS} (a : At G w0 H0 w H σ env r) : ∃ Hb, Step w0 H0 w Hb ∧ At G w Hb w H σ env r := by
  obtain ⟨Hb, h1, h2⟩ := a.s.rebase a.g
  exact ⟨Hb, h2 w0 a.st, h1⟩
/-! ### what is walked -/
def ItOk (G : Gm) (w : Wd) (J : It) (xs : List T) : Prop := ∃ Gd Y, Walk J xs.length Gd Y ∧ (∀ w' H' r', Later w w' → Good G w' H' r' → Gd H') ∧
  ∀ i H1 v H2 w1 r1, Later w w1 → Good G w1 H1 r1 → i < xs.length → Y i H1 v H2 → ∃ t w2, xs[i]? = some t ∧ Step w1 H1 w2 H2 ∧ Good G w2 H2 r1 ∧ Den G w2 v t
def tSI (G : Gm) (W : WX) (f : Env → M (List T)) : TI := fun σ H R => ∃ w H0 env r, Good G w H r ∧ Slots G w H0 H σ env ∧ OutP G w H (WE0 W σ) (fun xs _ w' H' => ∀ J, ItOk G w' J xs → R J H') (f env r)
abbrev SI (X : Cx) (G : Gm) (W : WX) (tg e : Expr) (f : Env → M (List T)) : Prop := PI X tg e (tSI G W f)
/-- a def's own names in the target change the environment so -/
def loopF (h : T → Env → Option Env) (g : Sm) : List T → Sm
  | [], env, r => .nx env r
  | x :: xs, env, r => match h x env with
    | none => .bad
    | some env1 => match g env1 r with
      | .nx e r' => loopF h g xs e r'
      | .ct e r' => loopF h g xs e r'
      | .bk e r' => .nx e r'
      | .rt t r' => .rt t r'
      | .exn c p e r' => .exn c p e r'
      | .bad => .bad
def qFor (f : Env → M (List T)) (h : T → Env → Option Env) (g : Sm) : Sm := fun env r => ofM env (fun xs r => loopF h g xs env r) (f env r)
section
variable {X : Cx} {G : Gm} {W : WX} {pos : Pos}
def tSSx (G : Gm) (W : WX) (g : Sm) : TS := fun D σ H => ∃ w0 H0, tSS G W w0 H0 g D σ H
theorem pss_x {body : List Stmt} {g : Sm} (hb : SSs X G W body g) : PSs X body (tSSx G W g) := ⟨fun pins s σ H D I ⟨w0, H0, q⟩ => (hb w0 H0).run pins s σ H D I q⟩
def tGx (G : Gm) (us : List Nat) (h : T → Env → Option Env) : TG := fun v σ H Q => ∃ w0 H0, tG G us w0 H0 h v σ H Q
theorem pg_x {us : List Nat} {tg : Expr} {h : T → Env → Option Env} (hg : SG X G us tg h) : PG X tg (tGx G us h) := ⟨fun pins s σ H v u Q I r ⟨w0, H0, q⟩ => (hg w0 H0).run pins s σ H v u Q I r q⟩
theorem ss_for {us : List Nat} {iter tg : Expr} {body : List Stmt} {f : Env → M (List T)} {h : T → Env → Option Env} {g : Sm} (hp : PassesOwn (model X.prog X.w) X.A X.env X.xe) (hc : X.calm = true) (hi : SI X G W tg iter f) (hg : SG X G us tg h) (hb : SSs X G W body g)
    (hs : ∀ x, foldedSetIterable iter X.env x = pure x := by intro _; rfl) : SS X G W (.For tg iter body [] pos) (qFor f h g) := by
  intro w0 H0
  refine ⟨fun pins s σ H D I ⟨w, env, r, a, hq⟩ => ?_⟩
  refine (ps_for hp hc hi (pg_x hg) (pss_x hb) hs).run pins s σ H D I ?_
  refine ⟨w, H0, env, r, a.g, a.s, (FlowP.ofM a hq).imp fun xs r1 w1 H1 st1 g1 q J it => ?_⟩
  obtain ⟨a1, hf⟩ := q
  obtain ⟨Gd, Y, wk, hG, hY⟩ := it
  obtain ⟨Hc, stc, ac⟩ := a1.rebase
  refine for_it wk (fun i σ H => ∃ w' env r, At G w1 Hc w' H σ env r ∧ FlowP G W w1 Hc D (loopF h g (xs.drop i) env r)) ⟨w1, env, r1, ac, hf.base stc⟩ (fun i σ' H' _ ⟨w', env', r', a', _⟩ => hG w' H' r' a'.st.later a'.g) ?_ ?_
  · rintro i x σ' H2 H3 hlt ⟨w', env', r', a', hl⟩ y
    obtain ⟨t, w2, ht, st2, g2, d⟩ := hY i H2 x H3 w' r' a'.st.later a'.g hlt y
    have a2 := a'.step st2 g2
    have ed : xs.drop i = t :: xs.drop (i + 1) := by
      rw [List.drop_eq_getElem_cons hlt]
      rw [List.getElem?_eq_getElem hlt] at ht
      cases ht
      rfl
    rw [ed] at hl
    unfold loopF at hl
    cases q : h t env' with
    | none => rw [q] at hl; exact hl.elim
    | some env1 =>
      rw [q] at hl
      refine ⟨w1, Hc, w2, env', r', t, env1, a2, d, q, fun σ2 s2 _ => ⟨w1, Hc, w2, env1, r', ⟨a2.st, a2.g, s2⟩, ?_⟩⟩
      simp only at hl
      cases o : g env1 r' with
      | nx e r2 => rw [o] at hl; exact fun w3 H4 σ3 st g s => ⟨w3, e, r2, ⟨st, g, s⟩, hl⟩
      | ct e r2 => rw [o] at hl; exact fun w3 H4 σ3 st g s => ⟨w3, e, r2, ⟨st, g, s⟩, hl⟩
      | bk e r2 => rw [o] at hl; exact hl
      | rt u r2 => rw [o] at hl; exact hl
      | exn c p e r2 => rw [o] at hl; exact hl
      | bad => rw [o] at hl; exact hl
  · rintro σ' H2 ⟨w', env', r', a', hl⟩
    rw [List.drop_length] at hl
    exact hl w' H2 σ' a'.st a'.g a'.s
end
end Ep
namespace Ep
open PySem PySem.Spec L2
/-! ### what can be walked -/
def iSeqA (K : PySem.W.Frag) (te : TE) : TI := fun σ H R => te σ H fun x H1 => (∃ a xs, x = .ref a ∧ SqL K H1 a xs ∧ R (Itl K a) H1) ∨ (∃ a xs, x = .ref a ∧ SqT K H1 a xs ∧ R (Itt K a) H1) ∨ ∃ z, x = .str z ∧ R (Its z) H1
section
variable {X : Cx} {G : Gm} {W : WX} {pos : Pos} {tg e : Expr} {f : Env → M T}
theorem pi_seqA {te : TE} (he : PE X e te) : PI X tg e (iSeqA X.K te) := by
  refine ⟨fun pins s σ H R I h => ?_⟩
  refine thn (he.run pins s σ H _ I h) fun v s1 ⟨x, H1, I1, r1, q1⟩ => ?_
  have one : ∀ {b : Addr}, b ∈ [s1.heap.objs.size] → FpOk X pins H1 b := fun {b} hb => by
    obtain rfl : b = s1.heap.objs.size := by simpa using hb
    exact I1.fpOk (Nat.le_refl _) (I1.hok.fresh (Nat.le_refl _))
  rcases q1 with ⟨a, xs, ex, hq, q⟩ | ⟨a, xs, ex, hq, q⟩ | ⟨z, ex, q⟩
  · subst ex
    cases r1
    obtain ⟨its, rv, p, hz⟩ := I1.list hq
    exact wpAny_pyIter_list p.isList ⟨s1.heap.objs.size, [s1.heap.objs.size], _, _, H1, rfl, I1.kept (t' := s1.toks) fun b o ho => Heap.get?_push_of_some _ ho, turn_list a _, ⟨_, Heap.get?_push_size _ rfl, rfl, rfl⟩, fun b hb => one hb, q⟩
  · subst ex
    cases r1
    obtain ⟨its, rv, p, hz⟩ := I1.tuple hq
    exact wpAny_pyIter_tuple (show s1.heap.IsTuple a its.toArray from p) ⟨s1.heap.objs.size, [s1.heap.objs.size], _, _, H1, rfl, I1.kept (t' := s1.toks) fun b o ho => Heap.get?_push_of_some _ ho, turn_tuple a _, ⟨_, Heap.get?_push_size _ rfl, rfl, rfl⟩, fun b hb => one hb, q⟩
  · subst ex
    obtain ⟨t, rfl⟩ := r1
    cases ha : z.cps.all (· < 128) with
    | false => exact wpAny_pyIter_wide ha (pi_one (tk := s1.toks) I1 _ (turn_str _ z t "str_iterator" (.inr rfl)) ⟨_, Heap.get?_push_size _ rfl, rfl, rfl⟩ q)
    | true => exact wpAny_pyIter_ascii ha (pi_one (tk := s1.toks) I1 _ (turn_str _ z t "str_ascii_iterator" (.inl rfl)) ⟨_, Heap.get?_push_size _ rfl, rfl, rfl⟩ q)
def chrT (z : Str) : List T := z.cps.toList.map fun c => .str ⟨#[c]⟩
def iterT : T → Option (List T)
  | .lst xs => some xs
  | .kls xs => some xs
  | .tup xs => some xs
  | .str z => some (chrT z)
  | _ => none
def fIter (f : Env → M T) : Env → M (List T) := fun env => f env >>= fun t => M.lift (iterT t)
theorem pi_imp {t t' : TI} (h : PI X tg e t) (i : ∀ σ H Q, t' σ H Q → t σ H Q) : PI X tg e t' := ⟨fun pins s σ H Q I q => h.run pins s σ H Q I (i σ H Q q)⟩
theorem it_l {w : Wd} {a : Addr} {vs : List V} {xs : List T} (h : SqL G.K w.P a vs) (d : Dens G w vs xs) : ItOk G w (Itl G.K a) xs := by
  refine ⟨_, _, by rw [← d.length]; exact walk_list (xs := vs), fun w' H' r' L g => g.sub.seq (L.pub.seq h), fun i H1 v H2 w1 r1 L g hi y => ?_⟩
  obtain ⟨e, y⟩ := y
  subst e
  obtain ⟨t, ht, hd⟩ := d.getV y
  exact ⟨t, w1, ht, Step.refl _ _, g, hd.mono L⟩
theorem it_t {w : Wd} {a : Addr} {vs : List V} {xs : List T} (h : TupAt G.K w.P a vs) (d : Dens G w vs xs) : ItOk G w (Itt G.K a) xs := by
  refine ⟨_, _, by rw [← d.length]; exact walk_tup (xs := vs), fun w' H' r' L g => tup_sq g.sub (h.mono L.pub), fun i H1 v H2 w1 r1 L g hi y => ?_⟩
  obtain ⟨e, y⟩ := y
  subst e
  obtain ⟨t, ht, hd⟩ := d.getV y
  exact ⟨t, w1, ht, Step.refl _ _, g, hd.mono L⟩
theorem it_s {w : Wd} {z : Str} : ItOk G w (Its z) (chrT z) := by
  refine ⟨_, _, by rw [show (chrT z).length = z.cps.size by simp [chrT]]; exact walk_str, fun _ _ _ _ _ => trivial, fun i H1 v H2 w1 r1 L g hi y => ?_⟩
  obtain ⟨e, c, hc, y⟩ := y
  subst e y
  exact ⟨.str ⟨#[c]⟩, w1, by simp [chrT, hc], Step.refl _ _, g, .str _⟩
theorem i_seq (hK : X.K = G.K) (he : SE X G W e f) : SI X G W tg e (fIter f) :=
  pi_imp (pi_seqA he) fun σ H R ⟨w, H0, env, r, g, s, h⟩ => by
    refine seqE g s h fun t r1 w1 H1 v g1 s1 st1 d1 h1 => ?_
    obtain ⟨xs, e1, h2⟩ := liftP h1
    have h3 := h2 w1 H1 (Step.refl _ _) g1
    rw [hK]
    cases d1 with
    | lst h z d => cases e1; exact .inl ⟨_, _, rfl, .inl (.inl (g1.sub _ _ h)), h3 _ (it_l (.inl (.inl h)) d)⟩
    | kls h z d => cases e1; exact .inl ⟨_, _, rfl, g1.sub.seq h, h3 _ (it_l h d)⟩
    | tup h z d => cases e1; exact .inr (.inl ⟨_, _, rfl, tup_sq g1.sub h, h3 _ (it_t h d)⟩)
    | str z => cases e1; exact .inr (.inr ⟨z, rfl, h3 _ it_s⟩)
    | _ => cases e1
/-! ### ranges -/
def rngL (lo : Int) (n : Nat) : List T := (List.range n).map fun i => .int (lo + (i : Nat))
theorem it_r {w : Wd} {lo : Int} {n : Nat} : ItOk G w (Itr lo n) (rngL lo n) := by
  refine ⟨_, _, by rw [show (rngL lo n).length = n by simp [rngL]]; exact walk_range, fun _ _ _ _ _ => trivial, fun i H1 v H2 w1 r1 L g hi y => ?_⟩
  obtain ⟨e, y⟩ := y
  subst e y
  have hi : i < n := by simpa [rngL] using hi
  exact ⟨.int (lo + (i : Nat)), w1, by simp [rngL, hi], Step.refl _ _, g, .int _⟩
def rng1T : List T → Option (List T)
  | [.int j] => if -(2 ^ 62) ≤ j ∧ j < 2 ^ 62 then some (rngL 0 j.toNat) else none
  | _ => none
def rng2T : List T → Option (List T)
  | [.int i, .int j] => if -(2 ^ 62) ≤ i ∧ i < 2 ^ 62 ∧ -(2 ^ 62) ≤ j ∧ j < 2 ^ 62 then some (rngL i (j - i).toNat) else none
  | _ => none
def fRng1 (f : Env → M T) : Env → M (List T) := fun env => fAll [f] env >>= fun ts => M.lift (rng1T ts)
def fRng2 (f g : Env → M T) : Env → M (List T) := fun env => fAll [f, g] env >>= fun ts => M.lift (rng2T ts)
theorem i_range1 {a : Expr} {p : Pos} (hg : Gl X "range") (hm : X.mg "range" = none) (ha : SE X G W a f) (hs : starEach [a] X.env = [(false, eval a X.env)] := by rfl) : SI X G W tg (.Call (.Name "range" p) [a] [] pos) (fRng1 f) :=
  pi_imp (pi_range1 hg hm (a_cons ha a_nil hs) hs) fun σ H R ⟨w, H0, env, r, g, s, h⟩ => by
    refine seqA g s h fun ts r1 w1 H1 vs g1 s1 st1 d1 l h1 => ?_
    obtain ⟨xs, e1, h2⟩ := liftP h1
    have h3 := h2 w1 H1 (Step.refl _ _) g1
    cases d1 with
    | nil => cases e1
    | cons d d' =>
      cases d' with
      | cons _ _ => cases l
      | nil =>
        cases d with
        | int j =>
          have e1 : (if -(2 ^ 62) ≤ j ∧ j < 2 ^ 62 then some (rngL 0 j.toNat) else none) = some xs := e1
          split at e1
          · cases e1
            rename_i q
            exact ⟨j, rfl, q.1, q.2, h3 _ it_r⟩
          · cases e1
        | _ => cases e1
theorem i_range2 {a b : Expr} {f' : Env → M T} {p : Pos} (hg : Gl X "range") (hm : X.mg "range" = none) (ha : SE X G W a f) (hb : SE X G W b f') (hs : starEach [a, b] X.env = [(false, eval a X.env), (false, eval b X.env)] := by rfl) (hs2 : starEach [b] X.env = [(false, eval b X.env)] := by rfl) :
    SI X G W tg (.Call (.Name "range" p) [a, b] [] pos) (fRng2 f f') :=
  pi_imp (pi_range2 hg hm (a_cons ha (a_cons hb a_nil hs2) (hs.trans (by rw [hs2]))) hs hs2) fun σ H R ⟨w, H0, env, r, g, s, h⟩ => by
    refine seqA g s h fun ts r1 w1 H1 vs g1 s1 st1 d1 l h1 => ?_
    obtain ⟨xs, e1, h2⟩ := liftP h1
    have h3 := h2 w1 H1 (Step.refl _ _) g1
    cases d1 with
    | nil => cases e1
    | cons d d' =>
      cases d' with
      | nil => cases l
      | cons d2 d' =>
        cases d' with
        | cons _ _ => cases l
        | nil =>
          cases d with
          | int i =>
            cases d2 with
            | int j =>
              have e1 : (if -(2 ^ 62) ≤ i ∧ i < 2 ^ 62 ∧ -(2 ^ 62) ≤ j ∧ j < 2 ^ 62 then some (rngL i (j - i).toNat) else none) = some xs := e1
              split at e1
              · cases e1
                rename_i q
                exact ⟨i, j, rfl, q, h3 _ it_r⟩
              · cases e1
            | _ => cases e1
          | _ => cases e1
/-! ### pairs: enumerate, zip -/
theorem pair_new {w1 : Wd} {H1 H2 : Hp} {r1 : RS} {x y : V} {t u : T} {p : Addr} (g : Good G w1 H1 r1) (hp : H1 p = none) (e : H2 = upd H1 p (.tup [x, y])) (d1 : Den G w1 x t) (d2 : Den G w1 y u) : ∃ w2, Step w1 H1 w2 H2 ∧ Good G w2 H2 r1 ∧ Den G w2 (.ref p) (.tup [t, u]) := by
  subst e
  obtain ⟨st, g2⟩ := g.new (o := .tup [x, y]) hp
  exact ⟨_, st, g2, .tup (.inl upd_same) (by rw [sizeLine_eq]; exact Nat.le_of_lt (by simp)) (.cons (d1.mono st.later) (.cons (d2.mono st.later) .nil))⟩
def enumL : Nat → List T → List T
  | _, [] => []
  | n, x :: xs => .tup [.int (n : Nat), x] :: enumL (n + 1) xs
theorem enumL_len : ∀ (xs : List T) (n : Nat), (enumL n xs).length = xs.length
  | [], _ => rfl
  | x :: xs, n => by simp [enumL, enumL_len xs]
theorem enumL_at : ∀ (xs : List T) (n i : Nat) (x : T), xs[i]? = some x → (enumL n xs)[i]? = some (.tup [.int ((n + i : Nat) : Int), x])
  | [], _, _, _, e => by simp at e
  | x :: xs, n, 0, y, e => by
    simp at e; subst e; rfl
  | x :: xs, n, i + 1, y, e => by
    have := enumL_at xs (n + 1) i y (by simpa using e)
    simp only [enumL, List.getElem?_cons_succ]
    rw [this, show n + 1 + i = n + (i + 1) by omega]
theorem it_e {w : Wd} {a : Addr} {vs : List V} {xs : List T} (h : SqL G.K w.P a vs) (d : Dens G w vs xs) : ItOk G w (Ite G.K a) (enumL 0 xs) := by
  refine ⟨_, _, by rw [enumL_len, ← d.length]; exact walk_enum (xs := vs), fun w' H' r' L g => g.sub.seq (L.pub.seq h), fun i H1 v H2 w1 r1 L g hi y => ?_⟩
  obtain ⟨p, x, y, ev, hp, e2, ex, ey⟩ := y
  subst ev
  cases ex
  obtain ⟨t, ht, hd⟩ := d.getV ey
  obtain ⟨w2, st, g2, d2⟩ := pair_new g hp e2 (.int (i : Nat)) (hd.mono L)
  exact ⟨_, w2, by rw [enumL_at xs 0 i t ht, Nat.zero_add], st, g2, d2⟩
end
end Ep
namespace Ep
open PySem PySem.Spec L2
/-! ### comprehensions -/
def wipeE (env : Env) : List Nat → Env
  | [] => env
  | v :: vs => (wipeE env vs).set v .un
section
variable {G : Gm} {w : Wd} {H0 H : Hp} {σ : L2.St} {env : Env} {r : RS}
theorem Slots.setUn {o : Option V} (s : Slots G w H0 H σ env) (i : Nat) : Slots G w H0 H (σ.set i o) (env.set i .un) := by
  obtain ⟨oa, h1, h2⟩ := s.ex
  have old : ∀ {m : Nat} {x : Slot}, (env.set i .un)[m]? = some x → x ≠ .un → i ≠ m ∧ env[m]? = some x := fun {m x} hm px => by
    by_cases him : i = m
    · subst him
      by_cases hl : i < env.length
      · rw [List.getElem?_set_self hl] at hm
        cases hm
        exact absurd rfl px
      · rw [List.getElem?_eq_none (by simpa using hl)] at hm
        cases hm
    · rw [List.getElem?_set_ne him] at hm
      exact ⟨him, hm⟩
  have np : ∀ {x : Slot}, x.priv = true → x ≠ .un := fun {x} p e => by subst e; cases p
  refine ⟨by simp [s.len], oa, fun j sl hj => ?_, fun j k u u' hj hk pj pk e => h2 j k u u' (old hj (np pj)).2 (old hk (np pk)).2 pj pk e⟩
  cases sl with
  | un => trivial
  | fn =>
    obtain ⟨ne, e⟩ := old hj (by simp)
    obtain ⟨a, c, q, cv, ct, e1, e2, r⟩ := h1 j _ e
    exact ⟨a, c, q, cv, ct, e1, by rw [List.getElem?_set_ne ne]; exact e2, r⟩
  | val t =>
    obtain ⟨ne, e⟩ := old hj (by simp)
    obtain ⟨v, e1, d⟩ := h1 j _ e
    exact ⟨v, by rw [List.getElem?_set_ne ne]; exact e1, d⟩
  | pv q =>
    obtain ⟨ne, e⟩ := old hj (by simp)
    obtain ⟨b1, b2⟩ := h1 j _ e
    exact ⟨by rw [List.getElem?_set_ne ne]; exact b1, b2⟩
theorem Slots.wiped (s : Slots G w H0 H σ env) : ∀ vs : List Nat, Slots G w H0 H (wipe σ vs) (wipeE env vs)
  | [] => s
  | v :: vs => (s.wiped vs).setUn v
theorem wipe_at : ∀ (vs : List Nat) (j : Nat), (wipe σ vs)[j]? = if j ∈ vs then (σ[j]?).map fun _ => none else σ[j]?
  | [], j => by simp [wipe]
  | v :: vs, j => by
    unfold wipe
    by_cases e : v = j
    · subst e
      rw [List.getElem?_set]
      simp only [wipe_length]
      by_cases hl : v < σ.length
      · simp [hl]
      · simp [hl]
    · rw [List.getElem?_set_ne e, wipe_at vs j]
      by_cases hj : j ∈ vs
      · simp [hj]
      · have : ¬ j = v := fun q => e q.symm
        simp [hj, this]
theorem wipe_but {us vs : List Nat} {σ2 : L2.St} (b : But us (wipe σ vs) σ2) (h : ∀ j ∈ us, j ∈ vs) : wipe σ2 vs = wipe σ vs := by
  apply List.ext_getElem?
  intro j
  rw [wipe_at, wipe_at]
  by_cases hj : j ∈ vs
  · rw [if_pos hj, if_pos hj]
    have := b.1
    rw [wipe_length] at this
    by_cases hl : j < σ.length
    · have h2 : j < σ2.length := by omega
      simp [hl, h2]
    · have h2 : ¬ j < σ2.length := by omega
      simp [hl, h2]
  · rw [if_neg hj, if_neg hj]
    rw [b.2 j (fun q => hj (h j q)), wipe_at, if_neg hj]
end
def noEx {α : Type} (m : M α) : M α := fun r => match m r with
  | .ok a r => .ok a r
  | _ => .bad
def W0 : WX := fun _ _ _ _ => False
def compF (vs : List Nat) (h : T → Env → Option Env) (p : Env → M Bool) (f : Env → M T) : List T → List T → Env → M (List T)
  | [], acc, _ => pure acc
  | x :: xs, acc, env => match h x (wipeE env vs) with
    | none => M.bad
    | some env1 => noEx (p env1) >>= fun b => if b = true then noEx (f env1) >>= fun y => if acc.length < sizeLine then compF vs h p f xs (acc ++ [y]) env else M.bad else compF vs h p f xs acc env
def fComp (vs : List Nat) (h : T → Env → Option Env) (p : Env → M Bool) (f : Env → M T) (fi : Env → M (List T)) : Env → M (List T) := fun env => fi env >>= fun xs => compF vs h p f xs [] env
def fYes : Env → M Bool := fun _ => pure true
abbrev STs (X : Cx) (G : Gm) (ifs : List Expr) (p : Env → M Bool) : Prop := PTs X ifs (tSB G W0 p)
section
variable {X : Cx} {G : Gm} {W : WX} {pos : Pos} {f : Env → M T} {p : Env → M Bool} {env : Env} {r : RS} {w : Wd} {H0 H : Hp} {σ : L2.St}
theorem pts_imp {ifs : List Expr} {t t' : TT} (h : PTs X ifs t) (i : ∀ σ H Q, t' σ H Q → t σ H Q) : PTs X ifs t' := ⟨fun pins s σ H Q I q => h.run pins s σ H Q I (i σ H Q q)⟩
theorem ts_nil : STs X G [] fYes := pts_imp pts_nil fun σ H Q ⟨w, H0, env, r, g, s, h⟩ => OutP.here g h
theorem ts_one {c : Expr} (h : SB X G W0 c p) : STs X G [c] p := pts_one h
theorem seqI {α : Type} {fi : Env → M (List T)} {k : List T → M α} {P : α → RS → Wd → Hp → Prop} {R : It → Hp → Prop} (g : Good G w H r) (s : Slots G w H0 H σ env) (h : OutP G w H (WE0 W σ) P ((fi env >>= k) r))
    (n : ∀ xs r1 w1 H1 J, Good G w1 H1 r1 → Slots G w1 H0 H1 σ env → Step w H w1 H1 → ItOk G w1 J xs → OutP G w1 H1 (WE0 W σ) P (k xs r1) → R J H1) : tSI G W fi σ H R :=
  ⟨w, H0, env, r, g, s, h.bind.imp fun xs r1 w1 H1 st g1 q J it => n xs r1 w1 H1 J g1 (s.step st) st it q⟩
theorem noEx_use {α β : Type} {w' : Wd} {H' : Hp} {E E' : XK} {m : M α} {k : α → M β} {P : β → RS → Wd → Hp → Prop} (h : OutP G w H E P ((noEx m >>= k) r)) : OutP G w' H' E' (fun a r2 _ _ => OutP G w H E P (k a r2)) (m r) := by
  have e : (noEx m >>= k) r = M.bind (noEx m) k r := rfl
  rw [e] at h
  unfold M.bind noEx at h
  cases q : m r with
  | ok a r' => rw [q] at h; exact fun _ _ _ _ => h
  | exn c p r' => rw [q] at h; exact h.elim
  | bad => rw [q] at h; exact h.elim
theorem comp_use {us vs : List Nat} {h : T → Env → Option Env} {fi : Env → M (List T)} {Q : VK} (hu : ∀ j ∈ us, j ∈ vs) (hq : tSL G W (fComp vs h p f fi) σ H Q) : tLc (tSI G W fi) (tGx G us h) (tSB G W0 p) (tS G W0 f) vs σ H Q := by
  obtain ⟨w, H0, env, r, g, s, hq⟩ := hq
  refine seqI g s hq fun xs r1 w1 H1 J g1 s1 st1 it h1 => ?_
  intro D hD
  obtain ⟨Gd, Y, wk, hG, hY⟩ := it
  have hD0 : ¬ Vs H D := st1.before hD
  have stD : Step w1 H1 w1 (upd H1 D (.lst [])) := (Step.refl w1 H1).priv hD
  refine lc_it wk (fun i H' => ∃ w' r' acc vs', Step w1 H1 w' H' ∧ Good G w' H' r' ∧ w'.P D = none ∧ D ∉ w'.R ∧ H' D = some (.lst vs') ∧ Dens G w' vs' acc ∧ OutP G w1 H1 (WE0 W σ) (fun xs _ w' H' => ∀ p vs, ¬ Vs H p → w'.P p = none → p ∉ w'.R → H' p = some (.lst vs) → Dens G w' vs xs → xs.length ≤ sizeLine → Q (.ref p) H') (compF vs h p f (xs.drop i) acc env r') ∧ acc.length ≤ sizeLine)
    ⟨w1, r1, [], [], stD, g1.priv (g1.nopub hD) (g1.noref hD) (.inl hD), g1.nopub hD, g1.noref hD, upd_same, .nil, h1, Nat.zero_le _⟩
    (fun i H' _ ⟨w', r', _, _, st, g', _⟩ => hG w' H' r' st.later g') ?_ ?_
  · rintro i x H2 H3 hlt ⟨w', r', acc, us', st, g', hP, hR, hh, d, hc, hz⟩ y
    obtain ⟨t, w2, ht, st2, g2, dx⟩ := hY i H2 x H3 w' r' st.later g' hlt y
    have hP2 := st2.hid D hR (vs_of hh) hP
    have nr : ∀ {wa wb : Wd} {Ha Hb : Hp}, Step wa Ha wb Hb → D ∉ wa.R → Vs Ha D → D ∉ wb.R := fun {wa wb Ha Hb} s h1 h2 h3 => by
      obtain ⟨m, e, hm⟩ := s.refs
      rw [e] at h3
      rcases List.mem_append.mp h3 with z | z
      · exact h1 z
      · exact hm D z h2
    have hR2 := nr st2 hR (vs_of hh)
    have hh2 := st2.fr D _ hR hh (by intro _ e; cases e)
    have d2 := d.mono st2.later
    have s2 := ((s1.step st).step st2).wiped vs
    obtain ⟨Hb, aB, _⟩ := s2.rebase g2
    have ed : xs.drop i = t :: xs.drop (i + 1) := by
      rw [List.drop_eq_getElem_cons hlt]
      rw [List.getElem?_eq_getElem hlt] at ht
      cases ht
      rfl
    rw [ed] at hc
    unfold compF at hc
    cases q : h t (wipeE env vs) with
    | none => rw [q] at hc; exact hc.elim
    | some env1 =>
      rw [q] at hc
      refine ⟨w2, Hb, w2, _, r', t, env1, aB, dx, q, fun σ2 sl b => ⟨wipe_but b hu, ?_⟩⟩
      refine ⟨w2, Hb, env1, r', g2, sl, (noEx_use hc).imp fun b r3 w3 H4 st3 g3 hc => ?_⟩
      have hP3 := st3.hid D hR2 (vs_of hh2) hP2
      have hR3 := nr st3 hR2 (vs_of hh2)
      have hh3 := st3.fr D _ hR2 hh2 (by intro _ e; cases e)
      have d3 := d2.mono st3.later
      have stA := (st.trans st2).trans st3
      cases b with
      | false => exact ⟨w3, r3, acc, us', stA, g3, hP3, hR3, hh3, d3, hc, hz⟩
      | true =>
        have hc : OutP G w1 H1 (WE0 W σ) (fun xs _ w' H' => ∀ p vs, ¬ Vs H p → w'.P p = none → p ∉ w'.R → H' p = some (.lst vs) → Dens G w' vs xs → xs.length ≤ sizeLine → Q (.ref p) H') ((noEx (f env1) >>= fun y => if acc.length < sizeLine then compF vs h p f (xs.drop (i + 1)) (acc ++ [y]) env else M.bad) r3) := hc
        refine ⟨w3, Hb, env1, r3, g3, sl.step st3, (noEx_use hc).imp fun y r4 w4 H5 st4 g4 hc v dv => ?_⟩
        have hP4 := st4.hid D hR3 (vs_of hh3) hP3
        have hR4 := nr st4 hR3 (vs_of hh3)
        have hh4 := st4.fr D _ hR3 hh3 (by intro _ e; cases e)
        have d4 := d3.mono st4.later
        have stB := stA.trans st4
        by_cases hl : acc.length < sizeLine
        · rw [if_pos hl] at hc
          exact ⟨us', hh4, by rw [d4.length]; exact hl, w4, r4, acc ++ [y], us' ++ [v], stB.chg (nvs hD), g4.priv hP4 hR4 (.inr ⟨_, hh4, ⟨fun _ e => (by cases e), fun _ e => (by cases e)⟩⟩), hP4, hR4, upd_same, d4.append (.cons dv .nil), hc, by rw [List.length_append, List.length_singleton]; exact hl⟩
        · rw [if_neg hl] at hc
          exact hc.elim
  · rintro H2 ⟨w', r', acc, us', st, g', hP, hR, hh, d, hc, hz⟩
    rw [List.drop_length] at hc
    exact hc w' H2 st g' D us' hD0 hP hR hh d hz
variable {elt tg iter : Expr} {ifs : List Expr} {scope : Scope} {own : List (Str × Nat)} {us : List Nat} {h : T → Env → Option Env} {fi : Env → M (List T)}
theorem l_comp (hc : X.calm = true) (hN : X.N.Nodup) (hi : SI X G W tg iter fi) (ok : BlkOk X.N X.env.scope scope own) (hu : ∀ j ∈ us, j ∈ own.map (·.2))
    (hg : ∀ (s : Shared) (H : Hp) (C : Addr) (cl : List (Str × Addr)) (fp : List Addr), SG (X.blk s H scope (compEnvC scope cl C X.env) fp) G us tg h) (ht : ∀ (s : Shared) (H : Hp) (C : Addr) (cl : List (Str × Addr)) (fp : List Addr), STs (X.blk s H scope (compEnvC scope cl C X.env) fp) G ifs p)
    (he : ∀ (s : Shared) (H : Hp) (C : Addr) (cl : List (Str × Addr)) (fp : List Addr), SE (X.blk s H scope (compEnvC scope cl C X.env) fp) G W0 elt f) (hs : ∀ x, foldedSetIterable iter X.env x = pure x := by intro _; rfl) : SL X G W (.ListComp elt [⟨tg, iter, ifs, 0⟩] scope pos) (fComp (own.map (·.2)) h p f fi) :=
  pe_imp (pe_lc hc hN hi ok (fun s H C cl fp => pg_x (hg s H C cl fp)) ht he hs) fun σ H Q q => comp_use hu q
theorem ss_compV {i : Nat} {y : Str} {py spos : Pos} (hc : X.calm = true) (hN : X.N.Nodup) (hy : X.N[i]? = some y) (hyl : X.env.scope.names.lookup y = some .local)
    (hsw : swapsWith (.ListComp elt [⟨tg, iter, ifs, 0⟩] scope pos) (some (.Name y py)) spos.line X.env = pure true) (hi : SI X G W tg iter fi) (ok : BlkOk X.N X.env.scope scope own) (hu : ∀ j ∈ us, j ∈ own.map (·.2))
    (hg : ∀ (s : Shared) (H : Hp) (C : Addr) (cl : List (Str × Addr)) (fp : List Addr), SG (X.blk s H scope (compEnvC scope cl C X.env) fp) G us tg h) (ht : ∀ (s : Shared) (H : Hp) (C : Addr) (cl : List (Str × Addr)) (fp : List Addr), STs (X.blk s H scope (compEnvC scope cl C X.env) fp) G ifs p)
    (he : ∀ (s : Shared) (H : Hp) (C : Addr) (cl : List (Str × Addr)) (fp : List Addr), SE (X.blk s H scope (compEnvC scope cl C X.env) fp) G W0 elt f) (hs : ∀ x, foldedSetIterable iter X.env x = pure x := by intro _; rfl) : SS X G W (.Assign [.Name y py] (.ListComp elt [⟨tg, iter, ifs, 0⟩] scope pos) spos) (qSet i (fOwn (fComp (own.map (·.2)) h p f fi))) := fun w0 H0 =>
  ps_imp (ps_setLc hc hN hy hyl hsw hi ok (fun s H C cl fp => pg_x (hg s H C cl fp)) ht he hs) fun D σ H ⟨w, env, r, a, q⟩ => comp_use hu (own_read (at_e a q fun t r1 w1 H1 v a1 d h1 => h1 w1 H1 _ a1.st a1.g (a1.s.setVal i d)))
end
end Ep
namespace Ep
open PySem PySem.Spec L2
open PyProof.Rows (envOfC)
/-! ### defs -/
def WD (E : XK) : WX := fun cls d _ H => E cls d H
def envOf (m : Nat) (ts : List T) : Env := ts.map .val ++ List.replicate m .un
/-- what a def computes: m slots beyond its parameters -/
def fnS (m : Nat) (g : Sm) : List T → M T := fun ts r => match g (envOf m ts) r with
  | .nx _ r => .ok .non r
  | .rt t r => .ok t r
  | .exn c p _ r => .exn c p r
  | _ => .bad
def insOf : Option Slot → Option (Nat × List T)
  | some (.pv (.ins D fs)) => some (D, fs)
  | _ => none
def fnI (G : Gm) (C m : Nat) (g : Sm) : List T → M (List T) := fun ts r => match g (.ins C [] :: envOf m ts) r with
  | .nx env r => match insOf env[0]? with
    | some (D, fs) => if D = C ∧ fs.length = (G.fl C).length then .ok fs r else .bad
    | none => .bad
  | .exn c p _ r => .exn c p r
  | _ => .bad
/-- another instance in the making -/
def Wd.re (w : Wd) (b : Addr) : Wd := ⟨w.P, w.R, { w.fx with me := b }⟩
theorem Later.re (w : Wd) (b : Addr) : Later w (w.re b) := ⟨Same.refl _, [], by simp [Wd.re]⟩
theorem Later.er (w : Wd) (b : Addr) : Later (w.re b) w := ⟨Same.refl _, [], by simp [Wd.re]⟩
theorem Step.re {w w' : Wd} {H H' : Hp} {b : Addr} (s : Step (w.re b) H w' H') : Step w H (w'.re w.fx.me) H' := ⟨s.pub, s.fr, s.keep, s.hid, s.refs, by show { w'.fx with me := w.fx.me } = w.fx; rw [s.me]; rfl⟩
theorem Good.re {G : Gm} {w : Wd} {H : Hp} {r : RS} (g : Good G w H r) (b : Addr) : Good G (w.re b) H r := ⟨g.sub, ⟨g.refs.nd, g.refs.len, g.refs.out, fun k xs hk => by
  obtain ⟨a, vs, h1, h2, h3, h4⟩ := g.refs.at_ k xs hk
  exact ⟨a, vs, h1, h2, h3.mono (Later.re w b), h4⟩⟩, g.tabs, g.nt⟩
theorem ExcIs.re {G : Gm} {w : Wd} {H : Hp} {c : Nat} {p : T} {cls : Value} {d : Option Addr} (x : ExcIs G w H c p cls d) (b : Addr) : ExcIs G (w.re b) H c p cls d := by
  obtain ⟨cA, dd, v, f, h1, h2, h3, h4, h5, h6⟩ := x.ex
  exact ⟨cA, dd, v, f, h1, h2, h3, h4, h5, h6.mono (Later.re w b)⟩
/-- a body's context -/
abbrev cxB (P : Program) (wd : World) (G : Gm) (base : Heap) (N : List Str) (qual : Str) (st : Stmt) (f : Addr) (cdv : Value) (A : Around) (outer : List PySem.Env) (s : Shared) (H : Hp) (E : XK) : Cx := cxOf (L2.CX P wd) P wd G.K G.mg base N qual (defScope st) f cdv A outer s H E
section
variable {P : Program} {wd : World} {base : Heap} {G : Gm} {k : Nat} {x qual : Str} {st : Stmt} {f : Addr} {fd : FuncData} {N ps : List Str} {n m : Nat} {g : Sm} {dv : List V} {kw : List (Str × V)}
theorem start_slots {w : Wd} {H : Hp} {vs : List V} {ts : List T} (d : Dens G w vs ts) (m : Nat) (hN : N.length - vs.length = m) : Slots G w H H (L2.start N vs) (envOf m ts) := by
  have np : ∀ (i : Nat) (s : Slot), (envOf m ts)[i]? = some s → s = .un ∨ ∃ t, s = .val t ∧ ts[i]? = some t := fun i s hi => by
    unfold envOf at hi
    by_cases hl : i < ts.length
    · rw [List.getElem?_append_left (by simpa using hl)] at hi
      rw [List.getElem?_map] at hi
      cases q : ts[i]? with
      | none => rw [q] at hi; cases hi
      | some t => rw [q] at hi; cases hi; exact .inr ⟨t, rfl, rfl⟩
    · rw [List.getElem?_append_right (by simpa using Nat.le_of_not_lt hl)] at hi
      exact .inl (List.eq_of_mem_replicate (List.mem_of_getElem? hi))
  refine ⟨by simp [L2.start, envOf, d.length, ← hN], fun _ => 0, fun i s hi => ?_, fun i j s u hi hj pi pj _ => ?_⟩
  · rcases np i s hi with e | ⟨t, e, ht⟩
    · subst e; trivial
    · subst e
      obtain ⟨v, hv, dv⟩ := d.get ht
      refine ⟨v, ?_, dv⟩
      unfold L2.start
      rw [List.getElem?_append_left (by rw [List.length_map]; exact (List.getElem?_eq_some_iff.mp hv).1), List.getElem?_map, hv]
      rfl
  · rcases np i s hi with e | ⟨t, e, ht⟩ <;> (subst e; cases pi)
theorem fn_run (F : FunD G.K x qual (defArgs st) (defBody st) (defScope st) dv kw f fd) (S : FnScope N ps (defScope st)) (hps : ps.length = n) (hm : N.length - n = m)
    (hb : ∀ cdv A outer s H E, Room k (A.deeper (envOfC qual (defScope st) s.heap.objs.size f cdv)) → SSs (cxB P wd G base N qual st f cdv A outer s H E) G (WD E) (defBody st) g) :
    FnOk P wd G.K G.mg base (L2.CX P wd) (k + 1) f fd ps (spF G n (fnS m g)) := by
  refine F.ok (CX := L2.CX P wd) S (spF_len hps) fun cdv A outer s H vs Q E hr ⟨w, r, ts, gd, d, l, h⟩ => ?_
  refine ⟨_, hb cdv A outer s H E hr w H, w, _, r, ⟨Step.refl _ _, gd, start_slots d m (by rw [d.length, l]; exact hm)⟩, ?_⟩
  have h : OutP G w H E (fun t _ w' H' => ∀ v, Den G w' v t → Q v H') (fnS m g ts r) := h
  unfold fnS at h
  cases o : g (envOf m ts) r with
  | nx env' r' => rw [o] at h; exact fun w' H' σ' st g' _ => h w' H' st g' _ .non
  | rt t r' => rw [o] at h; exact fun w' H' v st g' dv => h w' H' st g' v dv
  | bk e r' => rw [o] at h; exact h.elim
  | ct e r' => rw [o] at h; exact h.elim
  | exn c p e r' => rw [o] at h; exact fun w' H' σ' cls dd st g' _ x => h w' H' cls dd st g' x
  | bad => rw [o] at h; exact h.elim
theorem meth_ok {C : Nat} {cA : Addr} {ds : List T} {dvs : List V} {dus : List Value} (F : FunD G.K x qual (defArgs st) (defBody st) (defScope st) dv kw f fd) (S : FnScope N ps (defScope st)) (hps : ps.length = n) (hm : N.length - n = m) (hc : G.mg (G.cn C) = some (.ref cA)) (hC : Cls G.K cA) (hM : Meth G.K cA x f) (hB : Binds G.K fd ps dus) (hv : Vals dvs dus) (hd : ∀ w, Dens G w dvs ds) (nof : x ∉ G.fl C)
    (hb : ∀ cdv A outer s H E, Room k (A.deeper (envOfC qual (defScope st) s.heap.objs.size f cdv)) → SSs (cxB P wd G base N qual st f cdv A outer s H E) G (WD E) (defBody st) g) : MethOk P wd base G (k + 1) C x n ds (fnS m g) :=
  ⟨⟨cA, f, fd, ps, dvs, dus, hc, hC, hM, fn_run F S hps hm hb, hB, hv, hd⟩, nof⟩
theorem make_run {C : Nat} (F : FunD G.K x qual (defArgs st) (defBody st) (defScope st) dv kw f fd) (S : FnScope N ps (defScope st)) (hps : ps.length = n + 1) (hm : N.length - (n + 1) = m)
    (hb : ∀ cdv A outer s H E, Room k (A.deeper (envOfC qual (defScope st) s.heap.objs.size f cdv)) → SSs (cxB P wd G base N qual st f cdv A outer s H E) G (WD E) (defBody st) g) :
    FnOk P wd G.K G.mg base (L2.CX P wd) (k + 1) f fd ps (spI G C n (fnI G C m g)) := by
  refine F.ok (CX := L2.CX P wd) S (spI_len hps) fun cdv A outer s H vs Q E hr ⟨w, r, ts, xx, rest, cA, dx, H1, ev, c, hx, hdx, ne, eH, gd, d, l, h⟩ => ?_
  subst ev
  subst eH
  have hdx' : (upd H1 dx (.own xx)) xx = none := by rw [upd_ne (Ne.symm ne)]; exact hx
  have st1 : Step (w.re xx) H1 (w.re xx) (upd (upd H1 dx (.own xx)) xx (.ins cA dx [])) := ((Step.refl (w.re xx) H1).priv hdx).priv hdx'
  have g1 : Good G (w.re xx) (upd (upd H1 dx (.own xx)) xx (.ins cA dx [])) r := ((gd.re xx).priv (gd.nopub hdx) (gd.noref hdx) (.inl hdx)).priv (gd.nopub hx) (gd.noref hx) (.inl hdx')
  have sl : Slots G (w.re xx) H1 (upd (upd H1 dx (.own xx)) xx (.ins cA dx [])) (L2.start N (.ref xx :: rest)) (.ins C [] :: envOf m ts) := by
    have s0 : Slots G (w.re xx) H1 H1 (rest.map some ++ List.replicate (N.length - (rest.length + 1)) none) (envOf m ts) := by
      have := start_slots (N := N.drop 1) (H := H1) (d.mono (Later.re w xx)) m (by rw [List.length_drop, d.length, l]; omega)
      unfold L2.start at this
      rw [List.length_drop, show N.length - 1 - rest.length = N.length - (rest.length + 1) by omega] at this
      exact this
    obtain ⟨oa, k1, k2⟩ := s0.ex
    have nv : ∀ (j : Nat) (u : Slot), (envOf m ts)[j]? = some u → u.priv = false := fun j u hj => by
      unfold envOf at hj
      rcases List.mem_append.mp (List.mem_of_getElem? hj) with z | z
      · obtain ⟨t, _, rfl⟩ := List.mem_map.mp z; rfl
      · rw [List.eq_of_mem_replicate z]; rfl
    refine ⟨by have := s0.len; simp [L2.start] at this ⊢; omega, fun _ => xx, fun i u hi => ?_, fun i j u u' hi hj pi pj _ => ?_⟩
    · cases i with
      | zero =>
        cases hi
        exact ⟨rfl, gd.nopub hx, gd.noref hx, nvs hx, .ins cA dx [], upd_same, .ins (vs := []) rfl c (Nat.zero_le _) .nil⟩
      | succ i =>
        have hi : (envOf m ts)[i]? = some u := by simpa using hi
        have := k1 i u hi
        have np := nv i u hi
        cases u with
        | un => trivial
        | fn => exact absurd hi (fun z => by
          unfold envOf at z
          rcases List.mem_append.mp (List.mem_of_getElem? z) with q | q
          · obtain ⟨t, _, e⟩ := List.mem_map.mp q; cases e
          · cases List.eq_of_mem_replicate q)
        | val t =>
          obtain ⟨v, e1, d1⟩ := this
          exact ⟨v, by simpa [L2.start] using e1, d1⟩
        | pv q => cases np
    · cases i with
      | zero =>
        cases j with
        | zero => rfl
        | succ j => rw [nv j u' (by simpa using hj)] at pj; cases pj
      | succ i => rw [nv i u (by simpa using hi)] at pi; cases pi
  refine ⟨_, hb cdv A outer s _ E hr (w.re xx) H1, w.re xx, _, r, ⟨st1, g1, sl⟩, ?_⟩
  unfold fnI at h
  cases o : g (.ins C [] :: envOf m ts) r with
  | nx env' r' =>
    rw [o] at h
    intro w' H' σ' st g' s'
    simp only at h
    cases q : env'[0]? with
    | none => rw [q] at h; exact h.elim
    | some u =>
      rw [q] at h
      cases u with
      | un => exact h.elim
      | fn => exact h.elim
      | val _ => exact h.elim
      | pv o =>
        cases o with
        | ins D fs =>
          have h : OutP G w H1 E (fun fs _ w' H' => ∀ us dx', H' xx = some (.ins cA dx' ((G.fl C).zip us)) → us.length = (G.fl C).length → Dens G w' us fs → w'.P xx = none → xx ∉ w'.R → Q .non H') (if D = C ∧ fs.length = (G.fl C).length then .ok fs r' else .bad) := h
          by_cases hC : D = C ∧ fs.length = (G.fl C).length
          · rw [if_pos hC] at h
            obtain ⟨e1, e2⟩ := hC
            subst e1
            have g2 := g'.re w.fx.me
            obtain ⟨oa, k1, k2⟩ := s'.ex
            obtain ⟨b1, b2, b3, b4, o, b5, b6⟩ := k1 0 _ q
            cases b6 with
            | @ins _ cA' dx' vs _ hm c' l' d' =>
              have ea : oa 0 = xx := hm.trans (by rw [st.me]; rfl)
              rw [ea] at b2 b3 b5
              have ez : (G.fl D).take fs.length = G.fl D := by rw [e2, List.take_length]
              rw [ez] at b5
              rw [c] at c'
              cases c'
              exact h (w'.re w.fx.me) H' st.re g2 vs dx' b5 (by rw [d'.length]; exact e2) (d'.mono (Later.re w' w.fx.me)) b2 b3
          · rw [if_neg hC] at h; exact h.elim
        | _ => exact h.elim
  | rt t r' => rw [o] at h; exact h.elim
  | bk e r' => rw [o] at h; exact h.elim
  | ct e r' => rw [o] at h; exact h.elim
  | exn c p e r' => rw [o] at h; exact fun w' H' σ' cls dd st g' _ x => h _ H' cls dd st.re (g'.re _) (x.re _)
  | bad => rw [o] at h; exact h.elim
end
end Ep
namespace Ep
open PySem PySem.Spec L2
/-! ### dicts as two lists -/
section
variable {κ α : Type} [DecidableEq κ]
def gK : List κ → List α → κ → Option α
  | k' :: ks, t :: ts, k => if k' = k then some t else gK ks ts k
  | _, _, _ => none
def repK : List κ → List α → κ → α → List α
  | k' :: ks, t' :: ts, k, t => (if k' = k then t else t') :: repK ks ts k t
  | _, ts, _, _ => ts
def hasK (ks : List κ) (k : κ) : Bool := ks.any fun k' => decide (k' = k)
def putVs (ks : List κ) (ts : List α) (k : κ) (t : α) : List α := if hasK ks k = true then repK ks ts k t else ts ++ [t]
end
theorem Dens.gK {κ : Type} [DecidableEq κ] {G : Gm} {w : Wd} {k : κ} : ∀ {ks : List κ} {vs : List V} {ts : List T} {t : T}, Dens G w vs ts → Ep.gK ks ts k = some t → ∃ v, Ep.gK ks vs k = some v ∧ Den G w v t
  | [], _, _, _, _, e => by cases e
  | _ :: _, _, _, _, .nil, e => by cases e
  | k' :: ks, _, _, t, .cons h r, e => by
    unfold Ep.gK at e ⊢
    by_cases q : k' = k
    · rw [if_pos q] at e ⊢
      cases e
      exact ⟨_, rfl, h⟩
    · rw [if_neg q] at e ⊢
      exact Dens.gK r e
theorem Dens.gKn {κ : Type} [DecidableEq κ] {G : Gm} {w : Wd} {k : κ} : ∀ {ks : List κ} {vs : List V} {ts : List T}, Dens G w vs ts → Ep.gK ks ts k = none → Ep.gK ks vs k = none
  | [], _, _, _, e => rfl
  | _ :: _, _, _, .nil, e => rfl
  | k' :: ks, _, _, .cons h r, e => by
    unfold Ep.gK at e ⊢
    by_cases q : k' = k
    · rw [if_pos q] at e; cases e
    · rw [if_neg q] at e ⊢
      exact Dens.gKn r e
theorem Dens.rep {κ : Type} [DecidableEq κ] {G : Gm} {w : Wd} {k : κ} {v : V} {t : T} (d : Den G w v t) : ∀ {ks : List κ} {vs : List V} {ts : List T}, Dens G w vs ts → Dens G w (repK ks vs k v) (repK ks ts k t)
  | [], _, _, h => h
  | _ :: _, _, _, .nil => .nil
  | k' :: ks, _, _, .cons h r => by
    unfold repK
    by_cases q : k' = k
    · rw [if_pos q, if_pos q]; exact .cons d (Dens.rep d r)
    · rw [if_neg q, if_neg q]; exact .cons h (Dens.rep d r)
theorem Dens.put {κ : Type} [DecidableEq κ] {G : Gm} {w : Wd} {k : κ} {v : V} {t : T} (d : Den G w v t) {ks : List κ} {vs : List V} {ts : List T} (h : Dens G w vs ts) : Dens G w (putVs ks vs k v) (putVs ks ts k t) := by
  unfold putVs
  split
  · exact h.rep d
  · exact h.append (.cons d .nil)
def keyT : T → Option Key
  | .int i => some (.inl i)
  | .str x => some (.inr x)
  | _ => none
theorem key_of' {G : Gm} {w : Wd} {v : V} {t : T} {k : Key} (d : Den G w v t) (e : keyT t = some k) : v = kV k := by
  cases d <;> first | (cases e; rfl) | cases e
def keysT : List T → Option (List Key)
  | [] => some []
  | t :: ts => (keyT t).bind fun k => (keysT ts).map fun ks => k :: ks
theorem keys_of {G : Gm} {w : Wd} : ∀ {vs : List V} {ts : List T} {ks : List Key}, Dens G w vs ts → keysT ts = some ks → vs = ks.map kV
  | _, _, _, .nil, e => by cases e; rfl
  | _, _, ks, .cons (t := t) (ts := ts) h r, e => by
    unfold keysT at e
    cases q : keyT t with
    | none => rw [q] at e; cases e
    | some k =>
      rw [q] at e
      cases q2 : keysT ts with
      | none => simp [q2] at e
      | some ks' =>
        simp [q2] at e
        subst e
        rw [List.map_cons, key_of' h q, keys_of r q2]
/-! ### a dict to be looked into -/
/-- ks at ts: the dict at v, its keys, its values; of either kind of keys -/
inductive DenD (G : Gm) (w : Wd) (H : Hp) : V → T → Prop
  | k {a : Addr} {ks : List Key} {vs : List V} {ts : List T} (h : H a = some (.dK (ks.zip vs))) (n : a ∉ w.R) (l : ks.length = ts.length) (d : Dens G w vs ts) : DenD G w H (.ref a) (.dct ks ts)
  | t {a : Addr} {ks : List (List Key)} {vs : List V} {ts : List T} (h : H a = some (.dT (ks.zip vs))) (n : a ∉ w.R) (l : ks.length = ts.length) (d : Dens G w vs ts) : DenD G w H (.ref a) (.dtt ks ts)
section
variable {X : Cx} {G : Gm} {W : WX} {pos : Pos} {a b e ix : Expr} {f g : Env → M T} {w w' : Wd} {H H' H0 : Hp} {r : RS} {σ : L2.St} {env : Env} {v : V} {t : T}
theorem Step.noR {a : Addr} (s : Step w H w' H') (h1 : a ∉ w.R) (h2 : Vs H a) : a ∉ w'.R := fun h3 => by
  obtain ⟨m, e, hm⟩ := s.refs
  rw [e] at h3
  rcases List.mem_append.mp h3 with z | z
  · exact h1 z
  · exact hm a z h2
theorem DenD.step (d : DenD G w H v t) (s : Step w H w' H') : DenD G w' H' v t := by
  cases d with
  | k h n l d => exact .k (s.fr _ _ n h (by intro _ e; cases e)) (s.noR n (vs_of h)) l (d.mono s.later)
  | t h n l d => exact .t (s.fr _ _ n h (by intro _ e; cases e)) (s.noR n (vs_of h)) l (d.mono s.later)
theorem DenD.of (g : Good G w H r) (d : Den G w v t) : (∃ ks ts, t = .dct ks ts) ∨ (∃ ks ts, t = .dtt ks ts) → DenD G w H v t := fun h => by
  have nr : ∀ {a : Addr} {o : HO}, w.P a = some o → a ∉ w.R := fun {a o} h hm => by rw [g.refs.out a hm] at h; cases h
  cases d with
  | dct q l d => exact .k (g.sub _ _ q) (nr q) l d
  | dtt q l d => exact .t (g.sub _ _ q) (nr q) l d
  | _ => rcases h with ⟨_, _, e⟩ | ⟨_, _, e⟩ <;> cases e
/-- a new dict -/
def tSN (G : Gm) (W : WX) (f : Env → M (List Key × List T)) : TE := fun σ H Q => ∃ w H0 env r, Good G w H r ∧ Slots G w H0 H σ env ∧
  OutP G w H (WE0 W σ) (fun p _ w' H' => ∀ a vs, ¬ Vs H a → w'.P a = none → a ∉ w'.R → H' a = some (.dK (p.1.zip vs)) → p.1.length = p.2.length → p.1.length ≤ sizeLine → Dens G w' vs p.2 → Q (.ref a) H') (f env r)
abbrev SN (X : Cx) (G : Gm) (W : WX) (e : Expr) (f : Env → M (List Key × List T)) : Prop := PE X e (tSN G W f)
def qOwnD (i : Nat) (f : Env → M (List Key × List T)) : Sm := fun env r => ofM env (fun p r => .nx (env.set i (.pv (.dk p.1 p.2))) r) (f env r)
theorem ss_ownD {i : Nat} {x : Str} {pos' : Pos} {f : Env → M (List Key × List T)} (hN : X.N.Nodup) (hi : X.N[i]? = some x) (hx : Loc X.env.scope x) (he : SN X G W e f) (hs : swapsWith e (some (.Name x pos')) pos.line X.env = pure false := by rfl) (hf : X.fn x = true ∨ X.env.scope.names.lookup x = some .local := by first | exact .inl rfl | exact .inr rfl | assumption) :
    SS X G W (.Assign [.Name x pos'] e pos) (qOwnD i f) := fun w0 H0 => ps_imp (ps_set hN hi hx he hs hf) fun D σ H ⟨w, env, r, a, h⟩ => by
  refine ⟨w, H0, env, r, a.g, a.s, (FlowP.ofM a h).imp fun xs r1 w1 H1 st g1 q p vs hp hP hR hh hl hz d => ?_⟩
  obtain ⟨a1, h1⟩ := q
  exact h1 w1 H1 _ a1.st a1.g (a1.s.setOwn i (fun j sl b hj pj hb => a.notNew hj pj hb hp) hP hR (fun z => hp (a.st.keep _ z)) hh (.dk hl hz d))
/-! ### stores into an own dict -/
/-! ### targets that are places -/
/-! ### dicts of the top, str keys -/
structure GdOk (wd : World) (G : Gm) (x : Str) (tb : Str → Option T) : Prop where
  ex : ∃ p es n, G.mg x = some (.ref p) ∧ G.K.lookup p = some ⟨.type "dict", none, .dict es n, #[]⟩ ∧ PySem.W.KeysLit wd.params es.toList ∧ (p == sysModules) = false ∧ ∀ z, (∀ t, tb z = some t → ∃ u v, PySem.W.nsIn G.K p z = some (some u) ∧ RelV v u ∧ ∀ w, Den G w v t)
def fGd (tb : Str → Option T) (f : Env → M T) : Env → M T := fun env => f env >>= fun t => match t with
  | .str z => M.lift (tb z)
  | _ => M.bad
theorem s_gd {x : Str} {px : Pos} {tb : Str → Option T} (ok : GdOk X.w G x tb) (hK : X.K = G.K) (hM : X.mg = G.mg) (hg : Gl X x) (hi : SE X G W ix f) (hs : PlainIx ix) (hd : (x == ("__debug__" : Str)) = false := by decide) : SE X G W (.Subscript (.Name x px) ix pos) (fGd tb f) := by
  obtain ⟨p, es, n, h1, h2, h3, _, h4⟩ := ok.ex
  refine pe_imp (pe_ix ix_kdict (pe_glob (v := .ref p) hg (by rw [hM]; exact h1) rfl hd) hi hs) fun σ H Q ⟨w, H0, env, r, g0, s, h0⟩ => ?_
  refine seqE g0 s h0 fun t r1 w1 H1 y g1 s1 st1 d1 hq => ?_
  cases d1 with
  | str z =>
    obtain ⟨u, eu, h5⟩ := liftP hq
    obtain ⟨uu, v, e1, e2, e3⟩ := h4 z u eu
    rw [hK]
    exact ⟨p, z, v, rfl, rfl, ⟨es, n, uu, h2, h3, e1, e2⟩, h5 w1 H1 (Step.refl _ _) g1 v (e3 w1)⟩
  | _ => exact hq.elim
end
end Ep
namespace Ep
open PySem PySem.Spec L2
/-! ### operators by a class's own defs -/
def own2 (C : Nat) (F : List T → M T) : T → T → M T := fun x y => match x with
  | .obj D vs => if D = C then noEx (F [.obj D vs, y]) else M.bad
  | _ => M.bad
def r2own (G : Gm) (C : Nat) (h : T → T → M T) : R2 := fun x y H Q => ∃ w r t u, Good G w H r ∧ Den G w x t ∧ Den G w y u ∧ OutP G w H (fun _ _ _ => False) (fun t _ w' H' => ∀ v, Den G w' v t → Q v H') (h t u r)
section
variable {X : Cx} {G : Gm} {W : WX} {pos : Pos} {a b : Expr} {f g : Env → M T} {C j k : Nat} {F : List T → M T} {m : Str}
theorem own_use {h : T → T → M T} {σ : L2.St} {H : Hp} {Q : VK} (hne : ∀ t u r c p r', h t u r ≠ .exn c p r') (hq : tS G W (fun env => f env >>= fun x => g env >>= fun y => h x y) σ H Q) : tOp (r2own G C h) (tS G W f) (tS G W g) σ H Q := by
  obtain ⟨w, H0, env, r, g0, s, h0⟩ := hq
  refine seqE g0 s h0 fun t r1 w1 H1 x g1 s1 st1 d1 h1 => ?_
  refine seqE g1 s1 h1 fun u r2 w2 H2 y g2 s2 st2 d2 h2 => ?_
  refine ⟨w2, r2, t, u, g2, d1.mono st2.later, d2, ?_⟩
  cases o : h t u r2 with
  | ok z r3 => rw [o] at h2; exact h2
  | exn c p r3 => exact absurd o (hne t u r2 c p r3)
  | bad => rw [o] at h2; exact h2
theorem noEx_ne {α : Type} (m : M α) (r : RS) (c : Nat) (p : T) (r' : RS) : noEx m r ≠ .exn c p r' := by
  unfold noEx
  cases m r <;> simp
theorem own2_ne (t u : T) (r : RS) (c : Nat) (p : T) (r' : RS) : own2 C F t u r ≠ .exn c p r' := by
  unfold own2
  split
  · split
    · exact noEx_ne _ _ _ _ _
    · simp
  · simp
/-- the two operands, the def that is called -/
theorem own_args {x y : V} {v u : Value} {pins : List (Addr × Obj)} {s : Shared} {σ : L2.St} {H : Hp} {Q : VK} (D : MethOk X.prog X.w X.base G k C m 2 [] F) (hK : X.K = G.K) (hM : X.mg = G.mg) (hr : Room j X.A) (hk : k ≤ j) (I : L2.Inv X pins σ H s) (rx : RelV x v) (ry : RelV y u)
    (h : r2own G C (own2 C F) x y H Q) : ∃ (p cA fn : Addr) (od : Obj × Option Obj), v = .ref p ∧ G.mg (G.cn C) = some (.ref cA) ∧ PySem.W.InstAt s.heap p od.1 cA od.2 ∧ PySem.W.findIn X.K (.ref cA) m = some (some (.ref fn)) ∧ PySem.W.isFn X.K (.ref fn) = true ∧
      ∀ A : Around, Room k A → Env0 X.prog X.w X.K X.mg X.base A X.stack s H → wpAny (model X.prog X.w) A (call (.ref fn) [.ref p, u]) (EP X pins σ Q) X.xe s := by
  obtain ⟨w, r, t, u', g0, d1, d2, h⟩ := h
  obtain ⟨cA, fn, fd, ps, dvs, dus, c1, c2, c3, h1, h4, h5, h6⟩ := D.ex
  rw [← hK, ← hM] at h1
  cases d1 with
  | @obj p cA' dx C' vs ts c hh l d =>
    by_cases hC : C' = C
    · subst hC
      have h : OutP G w H (fun _ _ _ => False) (fun t _ w' H' => ∀ v, Den G w' v t → Q v H') (noEx (F [.obj C' ts, u']) r) := by simpa [own2] using h
      rw [c1] at c
      cases c
      obtain rfl : v = Value.ref p := rx
      obtain ⟨mA, J, _⟩ := ins_get I.hok (g0.sub _ _ hh)
      obtain ⟨od, J, _⟩ := J.look
      have hd0 : dvs = [] := by
        have := h6 w
        generalize dvs = q at this
        cases this; rfl
      subst hd0
      cases h5
      refine ⟨p, cA, fn, (_, _), rfl, c1, J, by rw [hK]; exact c3.at_, by rw [hK]; exact c3.fn, fun A hrA e0 => ?_⟩
      have hsp : spF G 2 F [.ref p, y] H Q (fun _ _ _ => False) := by
        refine ⟨w, r, [.obj C' ts, u'], g0, .cons (.obj c1 hh l d) (.cons d2 .nil), rfl, ?_⟩
        unfold noEx at h
        cases o : F [.obj C' ts, u'] r with
        | ok z r' => rw [o] at h; exact h
        | exn c p r' => rw [o] at h; exact h.elim
        | bad => rw [o] at h; exact h.elim
      have hl := h1.len _ _ _ _ hsp
      refine wpAny_call (codeAny_mono (h1.run A X.stack s H ⟨[.ref p, u], []⟩ [.ref p, u] [.ref p, y] Q (fun _ _ _ => False) hrA e0 (by
        have := h4 s [.ref p, u] (by rw [← hK]; exact I.kIn) (by simpa using hl)
        simpa using this) (.cons rfl (.cons ry .nil)) hsp) fun res s' hq => ?_)
      cases res with
      | error e => exact passAt (W := fun _ _ _ _ => False) takes0 σ pins H s e s' I hq
      | ok fl =>
        cases fl with
        | ret u => exact I.after hq
        | next => exact False.elim hq
        | brk => exact False.elim hq
        | cont => exact False.elim hq
    · have h : OutP G w H (fun _ _ _ => False) (fun t _ w' H' => ∀ v, Den G w' v t → Q v H') ((M.bad : M T) r) := by simpa [own2, hC] using h
      exact h.elim
  | _ => exact h.elim
/-- y is of the same class -/
def sameT (C : Nat) : T → T → Bool
  | _, .obj D _ => decide (D = C)
  | _, _ => false
def own2s (C : Nat) (F : List T → M T) : T → T → M T := fun x y => if sameT C x y = true then own2 C F x y else M.bad
theorem own2s_ne (t u : T) (r : RS) (c : Nat) (p : T) (r' : RS) : own2s C F t u r ≠ .exn c p r' := by
  unfold own2s
  split
  · exact own2_ne _ _ _ _ _ _
  · simp
theorem same_of {x y : V} {H : Hp} {Q : VK} (h : r2own G C (own2s C F) x y H Q) : r2own G C (own2 C F) x y H Q ∧ ∃ p cA dx fs, y = .ref p ∧ G.mg (G.cn C) = some (.ref cA) ∧ H p = some (.ins cA dx fs) := by
  obtain ⟨w, r, t, u, g0, d1, d2, h⟩ := h
  unfold own2s at h
  by_cases hs : sameT C t u = true
  · rw [if_pos hs] at h
    refine ⟨⟨w, r, t, u, g0, d1, d2, h⟩, ?_⟩
    cases d2 with
    | obj c hh l d =>
      have := of_decide_eq_true hs
      subst this
      exact ⟨_, _, _, _, rfl, c, g0.sub _ _ hh⟩
    | _ => simp [sameT] at hs
  · rw [if_neg hs] at h; exact h.elim
theorem op_ownC {op : CmpOp} (hop : ∀ a b, compareOp op a b = richCompare op a b) (D : MethOk X.prog X.w X.base G k C (cmpInfo op).2.1 2 [] F) (hK : X.K = G.K) (hM : X.mg = G.mg) (hr : Room j X.A) (hk : k ≤ j) : OpR X (compareOp op) (r2own G C (own2s C F)) := by
  intro pins s σ H x y v u Q I rx ry h
  obtain ⟨h, q, cA', dx, fs, e, c', hq⟩ := same_of h
  obtain ⟨p, cA, fn, od, rfl, c, J, fi, ff, run⟩ := own_args D hK hM hr hk I rx ry h
  rw [c] at c'
  cases c'
  subst e
  obtain rfl : u = Value.ref q := ry
  obtain ⟨mA, J', _⟩ := ins_get I.hok hq
  obtain ⟨od', J', _⟩ := J'.look
  obtain ⟨m, hF⟩ := I.fr
  rw [hop]
  refine PySem.W.cmp_K (op := op) (tb := .ref cA') hr.units0 hF I.ok.mod.kin J J'.type (by simp [PySem.W.notFirst]) fi ff (wpAny_mono (run X.A (hr.mono hk) I.env0) (fun w s' z => ?_) fun _ _ e => e)
  obtain ⟨z', H', I', rz, qz⟩ := z
  exact SlX.cmpback rz ⟨z', H', I', rz, qz⟩
theorem s_ownC {op : CmpOp} (hop : ∀ a b, compareOp op a b = richCompare op a b) (D : MethOk X.prog X.w X.base G k C (cmpInfo op).2.1 2 [] F) (hK : X.K = G.K) (hM : X.mg = G.mg) (hr : Room j X.A) (hk : k ≤ j) (ha : SE X G W a f) (hb : SE X G W b g) (hm : behindInMarks op b = false) :
    SE X G W (.Compare a [op] [b] pos) (fun env => f env >>= fun x => g env >>= fun y => own2s C F x y) := pe_imp (pe_cmpR (op_ownC hop D hK hM hr hk) ha hb hm) fun σ H Q hq => own_use own2s_ne hq
/-- a != b, the class with an own == and no own != -/
structure NeOk (G : Gm) (C : Nat) : Prop where
  ok : ∀ cA, G.mg (G.cn C) = some (.ref cA) → PySem.W.findIn G.K (.ref cA) "__ne__" = some (some (.builtin "object.__ne__")) ∧ PySem.W.mroIn G.K cA (.type "object") = some true
end
end Ep
namespace Ep
open PySem PySem.Spec L2
open PyProof.Rows (envOfC)
/-! ### NotImplemented by an own == -/
/-- the def of == gives NotImplemented where p says so -/
def NiRun (P : Program) (wd : World) (base : Heap) (G : Gm) (k : Nat) (f : Addr) (fd : FuncData) (ps : List Str) (p : List T → RS → Option RS) : Prop :=
  ∀ (A : Around) (outer : List PySem.Env) (s : Shared) (H : Hp) (args : Args) (us : List Value) (vs : List V) (Q : Hp → Prop), Room k A → Env0 P wd G.K G.mg base A outer s H → BindsTo s fd args (ps.zip us) → Vals vs us →
    (∃ w r ts r', Good G w H r ∧ Dens G w vs ts ∧ ts.length = ps.length ∧ p ts r = some r' ∧ ∀ w' H', Step w H w' H' → Good G w' H' r' → Q H') →
    codeAny (model P wd) A (.call (.ref f) args) (fun r s' => match r with
      | .ok (.ret u) => u = .notImplemented ∧ CE outer P wd H s (fun _ H' => Q H') .none s'
      | .ok _ => False
      | .error e => L2.CX P wd outer H s (fun _ _ _ => False) e s') s
structure NiOk (P : Program) (wd : World) (base : Heap) (G : Gm) (k C : Nat) (p : List T → RS → Option RS) : Prop where
  ex : ∃ cA f fd ps, G.mg (G.cn C) = some (.ref cA) ∧ Meth G.K cA "__eq__" f ∧ NiRun P wd base G k f fd ps p ∧ Binds G.K fd ps [] ∧ ps.length = 2 ∧ PySem.W.subIn G.K (.type "tuple") (.ref cA) = some false ∧ PySem.W.mroIn G.K cA (.type "tuple") = some false
section
variable {X : Cx} {G : Gm} {W : WX} {pos : Pos} {a b : Expr} {f g : Env → M T} {C j k k' : Nat} {F : List T → M T} {p : List T → RS → Option RS}
end
end Ep
namespace Ep
open PySem PySem.Spec L2
/-! ### index -/
section
variable {X : Cx} {G : Gm} {W : WX} {pos apos : Pos} {a b e : Expr} {f g : Env → M T}
/-- a tuple of the top -/
structure GtOk (G : Gm) (x : Str) (xs : List T) : Prop where
  ex : ∃ p o its n us, G.mg x = some (.ref p) ∧ G.K.lookup p = some o ∧ o.cls = .type "tuple" ∧ o.dict = none ∧ o.data = .seq its n ∧ its.size ≤ sizeLine ∧ Vals us its.toList ∧ ∀ w, Dens G w us xs
theorem GtOk.den {x : Str} {xs : List T} (ok : GtOk G x xs) : ∃ v u, G.mg x = some u ∧ RelV v u ∧ ∀ w, Den G w v (.tup xs) := by
  obtain ⟨p, o, its, n, us, h1, h2, h3, h4, h5, h6, h7, h8⟩ := ok.ex
  refine ⟨.ref p, .ref p, h1, rfl, fun w => .tup (.inr ⟨o, its, n, h2, h3, h5, h6, h7⟩) ?_ (h8 w)⟩
  rw [← (h8 w).length, h7.length, Array.length_toList]
  exact h6
theorem s_gt {x : Str} {xs : List T} (ok : GtOk G x xs) (hM : X.mg = G.mg) (hg : Gl X x) (hd : (x == ("__debug__" : Str)) = false := by decide) : SE X G W (.Name x pos) (fC (.tup xs)) := by
  obtain ⟨v, u, h1, h2, h3⟩ := ok.den
  exact s_glob hg (by rw [hM]; exact h1) h2 h3 hd
/-! ### d.get(k, x) of a dict of the top -/
structure GgOk (wd : World) (G : Gm) (x : Str) (tb : Str → Option (Option T)) : Prop where
  ex : ∃ p es n, G.mg x = some (.ref p) ∧ G.K.lookup p = some ⟨.type "dict", none, .dict es n, #[]⟩ ∧ PySem.W.KeysLit wd.params es.toList ∧ (p == sysModules) = false ∧ ∀ z, (∀ t, tb z = some (some t) → ∃ u v, PySem.W.nsIn G.K p z = some (some u) ∧ RelV v u ∧ ∀ w, Den G w v t) ∧ (tb z = some none → PySem.W.nsIn G.K p z = some none)
end
end Ep
namespace Ep
open PySem PySem.Spec L2 He
/-! ### what the head tells -/
/-- a written value is t -/
def denB (K : PySem.W.Frag) : Nat → Value → T → Bool
  | _, .none, .non => true
  | _, .bool b, .bl c => b == c
  | _, .int i _, .int j => decide (i = j)
  | _, .str x _, .str y => decide (x = y)
  | n + 1, .ref a, .tup ts => match K.lookup a with
    | some ⟨.type c, _, .seq its _, _⟩ => decide (c = "tuple") && (decide (its.size ≤ sizeLine) && go n its.toList ts)
    | _ => false
  | _, _, _ => false
where go (n : Nat) : List Value → List T → Bool
  | [], [] => true
  | u :: us, t :: ts => denB K n u t && go n us ts
  | _, _ => false
theorem and2 {a b : Bool} (h : (a && b) = true) : a = true ∧ b = true := Bool.and_eq_true_iff.mp h
section
variable {G : Gm} {wd : World} {K : PySem.W.Frag} {mg : Str → Option Value}
/-- a tuple of the top -/
def gtB (K : PySem.W.Frag) (x : Str) (ts : List T) : Bool := match K.lookup (ga K x) with
  | some ⟨.type c, none, .seq its _, _⟩ => decide (c = "tuple") && (decide (its.size ≤ sizeLine) && denB.go K 6 its.toList ts)
  | _ => false
theorem GgOk.gd {x : Str} {tb : Str → Option (Option T)} (ok : GgOk wd G x tb) : GdOk wd G x (fun z => (tb z).bind id) := by
  obtain ⟨p, es, n, h1, h2, h3, h4, h5⟩ := ok.ex
  refine ⟨p, es, n, h1, h2, h3, h4, fun z t e => (h5 z).1 t ?_⟩
  cases q : tb z with
  | none => rw [q] at e; cases e
  | some o => rw [q] at e; rw [show o = some t from e]
/-- isinstance -/
def kvB (K : PySem.W.Frag) (cn : Nat → Str) : Kd → Value
  | .b s => .type s
  | .o C => .ref (ga K (cn C))
def clB (K : PySem.W.Frag) (cn : Nat → Str) : Cl → Value
  | .ty s => .type s
  | .cl C => .ref (ga K (cn C))
def insB (K : PySem.W.Frag) (x : Str) : Bool := (Fa.cls x).ok K && (decide (PySem.W.findIn K (.ref (ga K x)) "__class__" = some (some (.builtin "object.__class__"))) && (decide (PySem.W.specialIn K (.builtin "object.__class__") "__get__" = some (some (.builtin "getset_descriptor.__get__"))) &&
  (decide (PySem.W.takesIn K (.builtin "object.__class__") = some true) && decide (PySem.W.mroIn K (ga K x) (.type "object") = some true))))
theorem insB_ok {x : Str} (h : insB K x = true) : InsTy K (ga K x) := by
  obtain ⟨h1, h2⟩ := and2 h
  obtain ⟨h2, h3⟩ := and2 h2
  obtain ⟨h3, h4⟩ := and2 h3
  obtain ⟨h4, h5⟩ := and2 h4
  exact ⟨cls_ok h1, of_decide_eq_true h2, of_decide_eq_true h3, of_decide_eq_true h4, of_decide_eq_true h5⟩
def tabB (K : PySem.W.Frag) (cn : Nat → Str) : List (Kd × Cl × Bool) → Bool
  | [] => true
  | (k, c, b) :: r => (decide (PySem.W.kitOne K (kvB K cn k) (clB K cn c) = some b) && (match k with
    | .o C => insB K (cn C)
    | _ => true)) && tabB K cn r
def tabF (rows : List (Kd × Cl × Bool)) (k : Kd) (c : Cl) : Option Bool := (rows.find? fun p => decide (p.1 = k ∧ p.2.1 = c)).map fun p => p.2.2
theorem tabB_all {cn : Nat → Str} : ∀ {rows : List (Kd × Cl × Bool)}, tabB K cn rows = true → ∀ p ∈ rows, PySem.W.kitOne K (kvB K cn p.1) (clB K cn p.2.1) = some p.2.2 ∧ ∀ C, p.1 = .o C → InsTy K (ga K (cn C))
  | [], _, _, hp => by cases hp
  | (k, c, b) :: r, h, p, hp => by
    obtain ⟨h1, h2⟩ := and2 h
    rcases List.mem_cons.mp hp with e | hp
    · subst e
      obtain ⟨h3, h4⟩ := and2 h1
      refine ⟨of_decide_eq_true h3, fun C e => ?_⟩
      have e : k = .o C := e
      subst e
      exact insB_ok h4
    · exact tabB_all h2 p hp
theorem tabB_ok {rows : List (Kd × Cl × Bool)} (hK : G.K = K) (hg : ∀ C cA, G.mg (G.cn C) = some (.ref cA) → cA = ga K (G.cn C)) (h : tabB K G.cn rows = true) : TabOk G (tabF rows) := by
  intro k c b e
  unfold tabF at e
  cases q : rows.find? fun p => decide (p.1 = k ∧ p.2.1 = c) with
  | none => rw [q] at e; cases e
  | some p =>
    rw [q] at e
    cases e
    obtain ⟨h1, h2⟩ := tabB_all h p (List.mem_of_find?_eq_some q)
    have hp : p.1 = k ∧ p.2.1 = c := by
      have := List.find?_some q
      simpa using this
    obtain ⟨e1, e2⟩ := hp
    subst e1 e2
    subst hK
    refine ⟨fun C ek cA hc => ?_, fun u z hu hz => ?_⟩
    · rw [hg C cA hc]; exact h2 C ek
    · have eu : u = kvB G.K G.cn p.1 := by
        cases ek : p.1 with
        | b s => rw [ek] at hu; exact hu
        | o C =>
          rw [ek] at hu
          obtain ⟨cA, hc, e, _⟩ := hu
          rw [e, hg C cA hc]; rfl
      have ez : z = clB G.K G.cn p.2.1 := by
        cases ek : p.2.1 with
        | ty s => rw [ek] at hz; exact hz
        | cl C =>
          rw [ek] at hz
          obtain ⟨cA, hc, e⟩ := hz
          rw [e, hg C cA hc]; rfl
      rw [eu, ez]
      exact h1
end
end Ep
namespace Ep
open PySem PySem.Spec L2 He
end Ep
namespace Ep
open PySem PySem.Spec L2 He
/-! ### short words for generated derivations -/
structure Bd (X : Cx) (G : Gm) (W : WX) (j : Nat) : Prop where
  eK : X.K = G.K
  eM : X.mg = G.mg
  tk : Takes X W
  rm : Room j X.A
  nd : X.N.Nodup
  calm : X.calm = true
theorem Bd.blk {X : Cx} {G : Gm} {W : WX} {j : Nat} (B : Bd X G W j) (s : Shared) (H : Hp) (scope : Scope) (cenv : PySem.Env) (fp : List Addr) : Bd (X.blk s H scope cenv fp) G W0 j := ⟨B.eK, B.eM, takes0, B.rm, B.nd, B.calm⟩
theorem bd_of {P : Program} {wd : World} {G : Gm} {base : Heap} {N ps : List Str} {qual : Str} {st : Stmt} {f : Addr} {cdv : Value} {A : Around} {outer : List PySem.Env} {s : Shared} {H : Hp} {E : XK} {k : Nat} (S : FnScope N ps (defScope st)) (hr : Room k (A.deeper (PyProof.Rows.envOfC qual (defScope st) s.heap.objs.size f cdv))) :
    Bd (cxB P wd G base N qual st f cdv A outer s H E) G (WD E) k := ⟨rfl, rfl, takes_of rfl rfl rfl rfl, hr, S.nd, rfl⟩
theorem po_of {P : Program} {wd : World} {G : Gm} {base : Heap} {N : List Str} {qual : Str} {st : Stmt} {f : Addr} {cdv : Value} {A : Around} {outer : List PySem.Env} {s : Shared} {H : Hp} {E : XK} :
    PassesOwn (model P wd) (cxB P wd G base N qual st f cdv A outer s H E).A (cxB P wd G base N qual st f cdv A outer s H E).env (cxB P wd G base N qual st f cdv A outer s H E).xe :=
  passes_of (X := cxB P wd G base N qual st f cdv A outer s H E) (K := fun e s'' => L2.CX P wd outer H s E e s'') (E₁ := fun e' s'' => L2.CX P wd outer H s E e' s'') rfl
section
variable {X : Cx} {G : Gm} {W : WX} {j : Nat} {pos p : Pos} {a b c : Expr} {f g h : Env → M T} {x : Str}
/-! names -/
theorem vr (i : Nat) (hN : X.N[i]? = some x := by rfl) (hv : Vis X.env.scope x := by first | exact Or.inl rfl | exact Or.inr (Or.inl rfl) | exact Or.inr (Or.inr rfl)) (hd : (x == ("__debug__" : Str)) = false := by decide) (hcd : (x == ("__classdict__" : Str)) = false := by decide) : SE X G W (.Name x pos) (fVar i) := s_var i hN hv hd hcd
theorem kv (i : Nat) (hN : X.N[i]? = some x := by rfl) (hv : Vis X.env.scope x := by first | exact Or.inl rfl | exact Or.inr (Or.inl rfl) | exact Or.inr (Or.inr rfl)) (hd : (x == ("__debug__" : Str)) = false := by decide) (hcd : (x == ("__classdict__" : Str)) = false := by decide) : SK X G W (.Name x pos) (fBor i) := k_var i hN hv hd hcd
theorem Bd.cls (B : Bd X G W j) (C : Nat) {cA : Addr} (hm : G.mg x = some (.ref cA)) (hx : x = G.cn C := by rfl) (hg : Gl X x := by rfl) (hd : (x == ("__debug__" : Str)) = false := by decide) : SE X G W (.Name x pos) (fC (.cl C)) := by
  subst hx
  exact s_glob hg (by rw [B.eM]; exact hm) (v := .ref cA) rfl (fun w => .cl hm) hd
theorem Bd.ty (B : Bd X G W j) (n : String) (hm : G.mg x = none) (hb : bootBuiltins x = some (.type n) := by rfl) (hg : Gl X x := by rfl) (hn : x ≠ "__name__" := by decide) (hd : (x == ("__debug__" : Str)) = false := by decide) : SE X G W (.Name x pos) (fC (.ty n)) := s_bltn hg (by rw [B.eM]; exact hm) hb (v := .ty n) rfl (fun w => .ty n) hn hd
theorem Bd.gint (B : Bd X G W j) (i : Int) (hm : ∃ t, G.mg x = some (.int i t)) (hg : Gl X x := by rfl) (hd : (x == ("__debug__" : Str)) = false := by decide) : SE X G W (.Name x pos) (fC (.int i)) := by
  obtain ⟨t, hm⟩ := hm
  exact s_glob hg (by rw [B.eM]; exact hm) (v := .int i) ⟨t, rfl⟩ (fun w => .int i) hd
theorem Bd.gstr (B : Bd X G W j) (z : Str) (hm : ∃ t, G.mg x = some (.str z t)) (hg : Gl X x := by rfl) (hd : (x == ("__debug__" : Str)) = false := by decide) : SE X G W (.Name x pos) (fC (.str z)) := by
  obtain ⟨t, hm⟩ := hm
  exact s_glob hg (by rw [B.eM]; exact hm) (v := .str z) ⟨t, rfl⟩ (fun w => .str z) hd
theorem Bd.gt (B : Bd X G W j) {xs : List T} (ok : GtOk G x xs) (hg : Gl X x := by rfl) (hd : (x == ("__debug__" : Str)) = false := by decide) : SE X G W (.Name x pos) (fC (.tup xs)) := s_gt ok B.eM hg hd
/-! arithmetic -/
theorem Bd.add (B : Bd X G W j) (ha : SE X G W a f) (hb : SE X G W b g) : SE X G W (.BinOp a .Add b pos) (fBin addT f g) := s_bin op_addA (v_add B.eK) ha hb
theorem Bd.sub (B : Bd X G W j) (ha : SE X G W a f) (hb : SE X G W b g) : SE X G W (.BinOp a .Sub b pos) (fBin subT f g) := s_bin op_sub v_sub ha hb
theorem Bd.mul (B : Bd X G W j) (ha : SE X G W a f) (hb : SE X G W b g) : SE X G W (.BinOp a .Mult b pos) (fBin mulT f g) := s_bin op_mulA (v_mul B.eK) ha hb
theorem Bd.div (B : Bd X G W j) (ha : SE X G W a f) (hb : SE X G W b g) : SE X G W (.BinOp a .FloorDiv b pos) (fBin divT f g) := s_bin op_divA v_div ha hb
theorem Bd.mod (B : Bd X G W j) (ha : SE X G W a f) (hb : SE X G W b g) : SE X G W (.BinOp a .Mod b pos) (fBin modT f g) := s_bin op_modA v_mod ha hb
theorem Bd.pow (B : Bd X G W j) (ha : SE X G W a f) (hb : SE X G W b g) : SE X G W (.BinOp a .Pow b pos) (fBin powT f g) := s_bin op_pow v_pow ha hb
theorem Bd.neg (B : Bd X G W j) (ha : SE X G W a f) : SE X G W (.UnaryOp .USub a pos) (fUn negT f) := s_un un_neg v_neg ha
/-! comparisons, as values and as tests -/
variable {p' : Env → M Bool}
theorem Bd.eq (B : Bd X G W j) (ha : SK X G W a f) (hb : SK X G W b g) (hm : behindInMarks .Eq b = false := by rfl) : SE X G W (.Compare a [.Eq] [b] pos) (fCmp eqT f g) := s_cmp (op_eqD B.rm.units) (v_eq B.eK) ha hb hm
theorem Bd.ne (B : Bd X G W j) (ha : SK X G W a f) (hb : SK X G W b g) (hm : behindInMarks .NotEq b = false := by rfl) : SE X G W (.Compare a [.NotEq] [b] pos) (fCmp neT f g) := s_cmp (op_neD B.rm.units) (v_ne B.eK) ha hb hm
theorem Bd.lt (B : Bd X G W j) (ha : SK X G W a f) (hb : SK X G W b g) (hm : behindInMarks .Lt b = false := by rfl) : SE X G W (.Compare a [.Lt] [b] pos) (fCmp ltT f g) := s_cmp op_lt v_lt ha hb hm
theorem Bd.le (B : Bd X G W j) (ha : SK X G W a f) (hb : SK X G W b g) (hm : behindInMarks .LtE b = false := by rfl) : SE X G W (.Compare a [.LtE] [b] pos) (fCmp leT f g) := s_cmp op_le v_le ha hb hm
theorem Bd.ge (B : Bd X G W j) (ha : SK X G W a f) (hb : SK X G W b g) (hm : behindInMarks .GtE b = false := by rfl) : SE X G W (.Compare a [.GtE] [b] pos) (fCmp geT f g) := s_cmp op_ge v_ge ha hb hm
theorem units65 {A : Around} (r : Room j A) : A.units + 65 < cLine := by have := r.un; omega
theorem Bd.in_ (B : Bd X G W j) (ha : SK X G W a f) (hb : SK X G W b g) (hm : behindInMarks .In b = false := by rfl) : SE X G W (.Compare a [.In] [b] pos) (fCmp inT f g) := s_cmp (op_inA (units65 B.rm)) (v_in B.eK) ha hb hm
theorem Bd.eqB (B : Bd X G W j) (ha : SK X G W a f) (hb : SK X G W b g) (hm : behindInMarks .Eq b = false := by rfl) : SB X G W (.Compare a [.Eq] [b] pos) (fCmpB eqT f g) := s_cmpB (op_eqD B.rm.units) (v_eq B.eK) ha hb hm
theorem Bd.neB (B : Bd X G W j) (ha : SK X G W a f) (hb : SK X G W b g) (hm : behindInMarks .NotEq b = false := by rfl) : SB X G W (.Compare a [.NotEq] [b] pos) (fCmpB neT f g) := s_cmpB (op_neD B.rm.units) (v_ne B.eK) ha hb hm
theorem Bd.ltB (B : Bd X G W j) (ha : SK X G W a f) (hb : SK X G W b g) (hm : behindInMarks .Lt b = false := by rfl) : SB X G W (.Compare a [.Lt] [b] pos) (fCmpB ltT f g) := s_cmpB op_lt v_lt ha hb hm
theorem Bd.gtB (B : Bd X G W j) (ha : SK X G W a f) (hb : SK X G W b g) (hm : behindInMarks .Gt b = false := by rfl) : SB X G W (.Compare a [.Gt] [b] pos) (fCmpB gtT f g) := s_cmpB op_gt v_gt ha hb hm
theorem Bd.inB (B : Bd X G W j) (ha : SK X G W a f) (hb : SK X G W b g) (hm : behindInMarks .In b = false := by rfl) : SB X G W (.Compare a [.In] [b] pos) (fCmpB inT f g) := s_cmpB (op_inA (units65 B.rm)) (v_in B.eK) ha hb hm
/-- a value as a test -/
theorem Bd.tru (B : Bd X G W j) (ha : SE X G W a f) (he : ∀ whole, isTrue a X.env whole = (do let v ← whole; standAt a.pos; holding [v] (truthy v)) := by intro _; rfl) : SB X G W a (fTru f) := s_tru B.eK ha he
theorem vb (ha : SE X G W a f) (he : ∀ whole, isTrue a X.env whole = (do let v ← whole; standAt a.pos; holding [v] (truthy v)) := by intro _; rfl) : SB X G W a (fToB f) := s_val ha he
/-! built-ins -/
theorem Bd.len (B : Bd X G W j) (m : G.mg "len" = none) (ha : SK X G W a f) (hg : Gl X "len" := by rfl) (hs : starEach [a] X.env = (false, eval a X.env) :: starEach [] X.env := by rfl) : SE X G W (.Call (.Name "len" p) [a] [] pos) (fB1 lenT f) := s_b1 c_len (v_len B.eK) hg (by rw [B.eM]; exact m) rfl ha hs
theorem Bd.int (B : Bd X G W j) (m : G.mg "int" = none) (ha : SK X G W a f) (hg : Gl X "int" := by rfl) (hs : starEach [a] X.env = (false, eval a X.env) :: starEach [] X.env := by rfl) : SE X G W (.Call (.Name "int" p) [a] [] pos) (fB1 intT f) := s_t1 call_int1 v_int hg (by rw [B.eM]; exact m) rfl ha hs
theorem Bd.abs (B : Bd X G W j) (m : G.mg "abs" = none) (ha : SK X G W a f) (hg : Gl X "abs" := by rfl) (hs : starEach [a] X.env = (false, eval a X.env) :: starEach [] X.env := by rfl) : SE X G W (.Call (.Name "abs" p) [a] [] pos) (fB1 absT f) := s_b1 call_abs v_abs hg (by rw [B.eM]; exact m) rfl ha hs
theorem Bd.sum (B : Bd X G W j) (m : G.mg "sum" = none) (ha : SK X G W a f) (hg : Gl X "sum" := by rfl) (hs : starEach [a] X.env = (false, eval a X.env) :: starEach [] X.env := by rfl) : SE X G W (.Call (.Name "sum" p) [a] [] pos) (fB1 sumT f) := s_b1 (cr_sum B.calm) (v_sum B.eK) hg (by rw [B.eM]; exact m) rfl ha hs
theorem Bd.any (B : Bd X G W j) (m : G.mg "any" = none) (ha : SK X G W a f) (hg : Gl X "any" := by rfl) (hs : starEach [a] X.env = (false, eval a X.env) :: starEach [] X.env := by rfl) : SE X G W (.Call (.Name "any" p) [a] [] pos) (fB1 anyT f) := s_b1 (cr_any B.calm) (v_any B.eK) hg (by rw [B.eM]; exact m) rfl ha hs
theorem Bd.all (B : Bd X G W j) (m : G.mg "all" = none) (ha : SK X G W a f) (hg : Gl X "all" := by rfl) (hs : starEach [a] X.env = (false, eval a X.env) :: starEach [] X.env := by rfl) : SE X G W (.Call (.Name "all" p) [a] [] pos) (fB1 allT f) := s_b1 (cr_all B.calm) (v_all B.eK) hg (by rw [B.eM]; exact m) rfl ha hs
theorem Bd.tuple (B : Bd X G W j) (m : G.mg "tuple" = none) (ha : SK X G W a f) (hg : Gl X "tuple" := by rfl) (hs : starEach [a] X.env = (false, eval a X.env) :: starEach [] X.env := by rfl) : SE X G W (.Call (.Name "tuple" p) [a] [] pos) (fB1 tupT f) := s_t1 call_tuple_of (v_tup B.eK) hg (by rw [B.eM]; exact m) rfl ha hs
theorem Bd.list (B : Bd X G W j) (m : G.mg "list" = none) (ha : SK X G W a f) (hg : Gl X "list" := by rfl) (hs : starEach [a] X.env = (false, eval a X.env) :: starEach [] X.env := by rfl) : SE X G W (.Call (.Name "list" p) [a] [] pos) (fB1 lisT f) := s_t1 call_list_of (v_lis B.eK) hg (by rw [B.eM]; exact m) rfl ha hs
theorem Bd.max2 (B : Bd X G W j) (m : G.mg "max" = none) (ha : SE X G W a f) (hb : SE X G W b g) (hg : Gl X "max" := by rfl) (hs : starEach [a, b] X.env = (false, eval a X.env) :: starEach [b] X.env := by rfl) (hs2 : starEach [b] X.env = (false, eval b X.env) :: starEach [] X.env := by rfl) (hpl : (backTo pos (starEach [b] X.env)).any (·.1) = false := by rfl) : SE X G W (.Call (.Name "max" p) [a, b] [] pos) (fBin max2T f g) := s_b2 (call_max2 B.calm) v_max2 hg (by rw [B.eM]; exact m) rfl ha hb hs hs2 (by decide) (by decide) hpl
theorem Bd.min2 (B : Bd X G W j) (m : G.mg "min" = none) (ha : SE X G W a f) (hb : SE X G W b g) (hg : Gl X "min" := by rfl) (hs : starEach [a, b] X.env = (false, eval a X.env) :: starEach [b] X.env := by rfl) (hs2 : starEach [b] X.env = (false, eval b X.env) :: starEach [] X.env := by rfl) (hpl : (backTo pos (starEach [b] X.env)).any (·.1) = false := by rfl) : SE X G W (.Call (.Name "min" p) [a, b] [] pos) (fBin min2T f g) := s_b2 (call_min2 B.calm) v_min2 hg (by rw [B.eM]; exact m) rfl ha hb hs hs2 (by decide) (by decide) hpl
theorem Bd.isi (B : Bd X G W j) {tb : Kd → Cl → Option Bool} (ok : TabOk G tb) (m : G.mg "isinstance" = none) (ha : SE X G W a f) (hb : SE X G W b g) (hg : Gl X "isinstance" := by rfl) (hs : starEach [a, b] X.env = (false, eval a X.env) :: starEach [b] X.env := by rfl) (hs2 : starEach [b] X.env = (false, eval b X.env) :: starEach [] X.env := by rfl) (hpl : (backTo pos (starEach [b] X.env)).any (·.1) = false := by rfl) : SE X G W (.Call (.Name "isinstance" p) [a, b] [] pos) (fBin (isiT tb) f g) := s_b2 c_isi (v_isi ok B.eK) hg (by rw [B.eM]; exact m) rfl ha hb hs hs2 (by decide) (by decide) hpl
/-! items, fields, dicts -/
theorem Bd.ix (B : Bd X G W j) (ha : SK X G W a f) (hb : SE X G W b g) (hs : PlainIx b := by intro _ _; rfl) : SE X G W (.Subscript a b pos) (fIx f g) := s_ix B.eK ha hb hs
theorem Bd.sl (B : Bd X G W j) {lo hi : Option Expr} {fl fh : Option (Env → M T)} {p2 : Pos} (ha : SK X G W a f) (hl : PO X lo (tSO G W fl)) (hh : PO X hi (tSO G W fh)) : SE X G W (.Subscript a (.Slice lo hi none p2) pos) (fSl f fl fh) := s_sl B.eK ha hl hh
theorem Bd.fld (B : Bd X G W j) {name : Str} (m : Nat → Option Nat) (ok : ∀ C j, m C = some j → FldOk G name C j) (ha : SE X G W a f) (hb : attributeBase a name X.env (eval a X.env) = eval a X.env := by rfl) : SE X G W (.Attribute a name pos) (fFld m f) := s_fld B.eK m ok ha hb
theorem Bd.gd (B : Bd X G W j) {px : Pos} {tb : Str → Option (Option T)} (ok : GgOk X.w G x tb) (hi : SE X G W b f) (hg : Gl X x := by rfl) (hs : PlainIx b := by intro _ _; rfl) (hd : (x == ("__debug__" : Str)) = false := by decide) : SE X G W (.Subscript (.Name x px) b pos) (fGd (fun z => (tb z).bind id) f) := s_gd ok.gd B.eK B.eM hg hi hs hd
/-! calls -/
variable {es : List Expr} {fs : List (Env → M T)} {ds : List T} {k n C : Nat} {apos : Pos}
theorem Bd.call (B : Bd X G W j) {F : List T → M T} (D : DefOk X.prog X.w X.base G k x n ds F) (ha : SA X G W (a :: es) fs) (hk : k ≤ j := by decide) (hn : fs.length + ds.length = n := by rfl) (hg : Gl X x := by rfl)
    (hdb : (x == ("__debug__" : Str)) = false := by decide) (he : starEach (a :: es) X.env = (false, eval a X.env) :: starEach es X.env := by rfl) (hpl : (backTo pos (starEach es X.env)).any (·.1) = false := by rfl) : SE X G W (.Call (.Name x p) (a :: es) [] pos) (fCall F ds fs) := s_call D B.eK B.eM B.tk B.rm hk hg ha hn hdb he hpl
theorem Bd.make (B : Bd X G W j) {F : List T → M (List T)} (D : MakeOk X.prog X.w X.base G k C n ds F) (ha : SA X G W (a :: es) fs) (hk : k + 1 ≤ j := by decide) (hn : fs.length + ds.length = n := by rfl) (hx : x = G.cn C := by rfl) (hg : Gl X x := by rfl)
    (hdb : (x == ("__debug__" : Str)) = false := by decide) (he : starEach (a :: es) X.env = (false, eval a X.env) :: starEach es X.env := by rfl) (hpl : (backTo pos (starEach es X.env)).any (·.1) = false := by rfl) : SE X G W (.Call (.Name x p) (a :: es) [] pos) (fMake C F ds fs) := s_make D hx B.eK B.eM B.tk B.rm hk hg ha hn hdb he hpl
/-! statements -/
variable {st : Stmt} {rest body : List Stmt} {gg : Sm} {i : Nat}
theorem Bd.set (B : Bd X G W j) (i : Nat) {pos' : Pos} (he : SE X G W a f) (hi : X.N[i]? = some x := by rfl) (hx : Loc X.env.scope x := by first | exact Or.inl rfl | exact Or.inr rfl) (hs : swapsWith a (some (.Name x pos')) pos.line X.env = pure false := by rfl) (hf : X.fn x = true ∨ X.env.scope.names.lookup x = some .local := by first | exact .inl rfl | exact .inr rfl) : SS X G W (.Assign [.Name x pos'] a pos) (qSet i f) := ss_set B.nd hi hx he hs hf
theorem Bd.own (B : Bd X G W j) (i : Nat) {pos' : Pos} {f : Env → M (List T)} (he : SL X G W a f) (hi : X.N[i]? = some x := by rfl) (hx : Loc X.env.scope x := by first | exact Or.inl rfl | exact Or.inr rfl) (hs : swapsWith a (some (.Name x pos')) pos.line X.env = pure false := by rfl) (hf : X.fn x = true ∨ X.env.scope.names.lookup x = some .local := by first | exact .inl rfl | exact .inr rfl) : SS X G W (.Assign [.Name x pos'] a pos) (qOwn i f) := ss_own B.nd hi hx he hs hf
theorem Bd.ownD (B : Bd X G W j) (i : Nat) {pos' : Pos} {f : Env → M (List Key × List T)} (he : SN X G W a f) (hi : X.N[i]? = some x := by rfl) (hx : Loc X.env.scope x := by first | exact Or.inl rfl | exact Or.inr rfl) (hs : swapsWith a (some (.Name x pos')) pos.line X.env = pure false := by rfl) (hf : X.fn x = true ∨ X.env.scope.names.lookup x = some .local := by first | exact .inl rfl | exact .inr rfl) : SS X G W (.Assign [.Name x pos'] a pos) (qOwnD i f) := ss_ownD B.nd hi hx he hs hf
theorem Bd.par2 (B : Bd X G W j) (i l : Nat) {y : Str} {e1 e2 : Expr} {px py pt : Pos} {kt k2 pt2} (ha : SA X G W [e1, e2] [f, g]) (hi : X.N[i]? = some x := by rfl) (hj : X.N[l]? = some y := by rfl) (hij : i ≠ l := by decide)
    (hx : X.env.scope.names.lookup x = some .local := by rfl) (hy : X.env.scope.names.lookup y = some .local := by rfl)
    (hw : swappedStores [.Tuple [.Name x px, .Name y py] kt pt] (.Tuple [e1, e2] k2 pt2) X.env = pure (some [x, y]) := by rfl)
    (hs : swapsWithSole [.Tuple [.Name x px, .Name y py] kt pt] (.Tuple [e1, e2] k2 pt2) pos.line X.env = pure false := by rfl) :
    SS X G W (.Assign [.Tuple [.Name x px, .Name y py] kt pt] (.Tuple [e1, e2] k2 pt2) pos) (qPar2 i l f g) := ss_par2 B.calm B.nd hi hj hij hx hy ha hw hs
theorem Bd.nm (B : Bd X G W j) (i : Nat) (hi : X.N[i]? = some x := by rfl) (hx : Loc X.env.scope x := by first | exact Or.inl rfl | exact Or.inr rfl) (hf : X.fn x = true ∨ X.env.scope.names.lookup x = some .local := by first | exact .inl rfl | exact .inr rfl) : SG X G [i] (.Name x pos) (hName i) := g_name B.nd hi hx hf
theorem Bd.tg (B : Bd X G W j) {us : List Nat} {kk : Nat} {hs : List T → Env → Option Env} (n : Nat) (h : SGs X G us es hs) (hn : (assignEach es X.env).length = n := by rfl) (hst : (assignEach es X.env).findIdx? (·.1) = none := by rfl) : SG X G us (.Tuple es kk pos) (hTup n hs) := g_tup B.calm B.eK h hn hst
theorem Bd.put (B : Bd X G W j) (i : Nat) {px spos : Pos} (he : SE X G W a f) (hi : SE X G W b g) (hN : X.N[i]? = some x := by rfl) (hv : Vis X.env.scope x := by first | exact Or.inl rfl | exact Or.inr (Or.inl rfl) | exact Or.inr (Or.inr rfl))
    (ha : ∀ v, assign (.Subscript (.Name x px) b spos) X.env v = (do let ov ← holding [v] (eval (.Name x px) X.env); let iv ← holding [v, ov] (eval b X.env); standAt spos; holding [v, ov, iv] (setItem ov iv v); release [v, ov, iv] []) := by intro _; rfl)
    (hs : swapsWithSole [.Subscript (.Name x px) b spos] a pos.line X.env = pure false := by rfl) (hw : swappedStores [.Subscript (.Name x px) b spos] a X.env = pure none := by rfl) (hd : (x == ("__debug__" : Str)) = false := by decide) (hcd : (x == ("__classdict__" : Str)) = false := by decide) :
    SS X G W (.Assign [.Subscript (.Name x px) b spos] a pos) (qSetIx i f g) := ss_setIx i hN hv he hi ha hs hw (hd := hd) (hcd := hcd)
end
section
variable {X : Cx} {G : Gm} {W : WX} {j : Nat} {pos spos py : Pos} {elt tg iter : Expr} {ifs : List Expr} {scope : Scope} {own : List (Str × Nat)} {us : List Nat} {h : T → Env → Option Env} {fi : Env → M (List T)} {f : Env → M T} {p : Env → M Bool} {y : Str}
theorem Bd.comp (B : Bd X G W j) (own : List (Str × Nat)) (hi : SI X G W tg iter fi)
    (hg : ∀ (s : Shared) (H : Hp) (C : Addr) (cl : List (Str × Addr)) (fp : List Addr), SG (X.blk s H scope (compEnvC scope cl C X.env) fp) G us tg h) (ht : ∀ (s : Shared) (H : Hp) (C : Addr) (cl : List (Str × Addr)) (fp : List Addr), STs (X.blk s H scope (compEnvC scope cl C X.env) fp) G ifs p)
    (he : ∀ (s : Shared) (H : Hp) (C : Addr) (cl : List (Str × Addr)) (fp : List Addr), SE (X.blk s H scope (compEnvC scope cl C X.env) fp) G W0 elt f) (ok : blkC X.N X.env.scope scope own = true := by kernel_rfl) (hu : ∀ j ∈ us, j ∈ own.map (·.2) := by decide) (hs : ∀ x, foldedSetIterable iter X.env x = pure x := by intro _; rfl) : SL X G W (.ListComp elt [⟨tg, iter, ifs, 0⟩] scope pos) (fComp (own.map (·.2)) h p f fi) := l_comp B.calm B.nd hi (blkOk_by ok) hu hg ht he hs
theorem Bd.setC (B : Bd X G W j) (i : Nat) (own : List (Str × Nat)) (hi : SI X G W tg iter fi)
    (hg : ∀ (s : Shared) (H : Hp) (C : Addr) (cl : List (Str × Addr)) (fp : List Addr), SG (X.blk s H scope (compEnvC scope cl C X.env) fp) G us tg h) (ht : ∀ (s : Shared) (H : Hp) (C : Addr) (cl : List (Str × Addr)) (fp : List Addr), STs (X.blk s H scope (compEnvC scope cl C X.env) fp) G ifs p)
    (he : ∀ (s : Shared) (H : Hp) (C : Addr) (cl : List (Str × Addr)) (fp : List Addr), SE (X.blk s H scope (compEnvC scope cl C X.env) fp) G W0 elt f) (ok : blkC X.N X.env.scope scope own = true := by kernel_rfl) (hu : ∀ j ∈ us, j ∈ own.map (·.2) := by decide)
    (hy : X.N[i]? = some y := by rfl) (hyl : X.env.scope.names.lookup y = some .local := by rfl) (hsw : swapsWith (.ListComp elt [⟨tg, iter, ifs, 0⟩] scope pos) (some (.Name y py)) spos.line X.env = pure true := by rfl) (hs : ∀ x, foldedSetIterable iter X.env x = pure x := by intro _; rfl) : SS X G W (.Assign [.Name y py] (.ListComp elt [⟨tg, iter, ifs, 0⟩] scope pos) spos) (qSet i (fOwn (fComp (own.map (·.2)) h p f fi))) := ss_compV B.calm B.nd hy hyl hsw hi (blkOk_by ok) hu hg ht he hs
end
section
variable {X : Cx} {G : Gm} {W : WX} {pos : Pos} {a b : Expr} {f g : Env → M T} {C j k k' : Nat} {F : List T → M T} {p : List T → RS → Option RS}
end
/-! ### the end -/
/-- what stands, the tables left out -/
def noTb (H : Hp) : Hp := fun b => match H b with
  | some (.tbl _) => none
  | o => o
theorem noTb_at {H : Hp} {b : Addr} {o : HO} (h : H b = some o) (n : NoTab o) : noTb H b = some o := by
  unfold noTb
  rw [h]
  cases o <;> first | rfl | exact absurd rfl (n _)
theorem noTb_of {H : Hp} {b : Addr} {o : HO} (h : noTb H b = some o) : H b = some o ∧ NoTab o := by
  unfold noTb at h
  cases e : H b with
  | none => rw [e] at h; cases h
  | some u =>
    rw [e] at h
    cases u <;> first | (cases h; exact ⟨rfl, fun _ z => by cases z⟩) | cases h
theorem noTb_seq {K : PySem.W.Frag} {H : Hp} {a : Addr} {xs : List V} (h : SqL K H a xs) : SqL K (noTb H) a xs := by
  rcases h with (h | ⟨o, h⟩) | h
  · exact .inl (.inl (noTb_at h (fun _ z => by cases z)))
  · exact .inl (.inr ⟨o, noTb_at h (fun _ z => by cases z)⟩)
  · exact .inr h
end Ep
namespace Ep
open PySem PySem.Spec L2
/-! ### computations, step by step -/
section
variable {f g k : Env → M T} {p q : Env → M Bool} {env env' env2 : Env} {r r1 r2 r3 : RS} {x y z t : T} {s s' : Sm} {so : SO} {b c : Bool}
theorem bind_ok {α β : Type} {m : M α} {k : α → M β} {a : α} {o : Out β} (h1 : m r = .ok a r1) (h2 : k a r1 = o) : (m >>= k) r = o := by
  show M.bind m k r = o
  unfold M.bind
  rw [h1]
  exact h2
theorem e_bin {h : T → T → Option T} (h1 : f env r = .ok x r1) (h2 : g env r1 = .ok y r2) (h3 : h x y = some z) : fBin h f g env r = .ok z r2 := bind_ok h1 (bind_ok h2 (by rw [h3]; rfl))
theorem e_cmp {h : T → T → Option Bool} (h1 : f env r = .ok x r1) (h2 : g env r1 = .ok y r2) (h3 : h x y = some b) : fCmp h f g env r = .ok (.bl b) r2 := e_bin h1 h2 (by rw [h3]; rfl)
theorem e_cmpB {h : T → T → Option Bool} (h1 : f env r = .ok x r1) (h2 : g env r1 = .ok y r2) (h3 : h x y = some b) : fCmpB h f g env r = .ok b r2 := bind_ok h1 (bind_ok h2 (by rw [h3]; rfl))
theorem e_b1 {h : RS → T → Option T} (h1 : f env r = .ok x r1) (h3 : h r1 x = some z) : fB1 h f env r = .ok z r1 := bind_ok h1 (by
  show M.lift (h r1 x) r1 = _
  rw [h3]; rfl)
theorem e_ix (h1 : f env r = .ok x r1) (h2 : g env r1 = .ok y r2) (h3 : ixT r2 x y = some z) : fIx f g env r = .ok z r2 := bind_ok h1 (bind_ok h2 (by
  show M.lift (ixT r2 x y) r2 = _
  rw [h3]; rfl))
theorem e_andF (h1 : f env r = .ok (.bl false) r1) : fAnd f g env r = .ok (.bl false) r1 := bind_ok h1 rfl
theorem e_andT {o : Out T} (h1 : f env r = .ok (.bl true) r1) (h2 : g env r1 = o) : fAnd f g env r = o := bind_ok h1 h2
theorem e_orBF {o : Out Bool} (h1 : p env r = .ok false r1) (h2 : q env r1 = o) : fOrB p q env r = o := bind_ok h1 h2
theorem e_notB (h1 : p env r = .ok b r1) : fNotB p env r = .ok (!b) r1 := bind_ok h1 rfl
theorem e_tru (h1 : f env r = .ok x r1) (h2 : truT x = some b) : fTru f env r = .ok b r1 := bind_ok h1 (by rw [h2]; rfl)
theorem e_nil : fAll [] env r = .ok [] r := rfl
theorem e_cons {fs : List (Env → M T)} {ts : List T} (h1 : f env r = .ok x r1) (h2 : fAll fs env r1 = .ok ts r2) : fAll (f :: fs) env r = .ok (x :: ts) r2 := by
  show (f env >>= fun t => fAll fs env >>= fun ts => pure (t :: ts)) r = _
  exact bind_ok h1 (bind_ok h2 rfl)
theorem e_tup {fs : List (Env → M T)} {ts : List T} (h1 : fAll fs env r = .ok ts r1) : fTup fs env r = .ok (.tup ts) r1 := bind_ok h1 rfl
theorem e_lst {fs : List (Env → M T)} {ts : List T} (h1 : fAll fs env r = .ok ts r1) : fLst fs env r = .ok (.lst ts) r1 := bind_ok h1 rfl
theorem e_call {F : List T → M T} {ds ts : List T} {fs : List (Env → M T)} {o : Out T} (h1 : fAll fs env r = .ok ts r1) (h2 : F (ts ++ ds) r1 = o) : fCall F ds fs env r = o := bind_ok h1 h2
theorem e_make {C : Nat} {F : List T → M (List T)} {ds ts us : List T} {fs : List (Env → M T)} (h1 : fAll fs env r = .ok ts r1) (h2 : F (ts ++ ds) r1 = .ok us r2) : fMake C F ds fs env r = .ok (.obj C us) r2 := bind_ok h1 (bind_ok h2 rfl)
theorem e_meth {C : Nat} {F : List T → M T} {ds ts vs : List T} {fs : List (Env → M T)} {o : Out T} (h1 : f env r = .ok (.obj C vs) r1) (h2 : fAll fs env r1 = .ok ts r2) (h3 : F (.obj C vs :: (ts ++ ds)) r2 = o) : fMeth C F ds f fs env r = o := bind_ok h1 (by
  show (if C = C then (fAll fs env >>= fun ts => F (.obj C vs :: (ts ++ ds))) else M.bad : M T) r1 = o
  rw [if_pos rfl]
  exact bind_ok h2 h3)
theorem e_own {f : Env → M (List T)} {xs : List T} (h1 : f env r = .ok xs r1) : fOwn f env r = .ok (.lst xs) r1 := bind_ok h1 rfl
/-! statements -/
theorem n_seq (h1 : s env r = .nx env' r1) (h2 : s' env' r1 = so) : qSeq s s' env r = so := by
  unfold qSeq; rw [h1]; exact h2
theorem n_seqR (h1 : s env r = .rt t r1) : qSeq s s' env r = .rt t r1 := by unfold qSeq; rw [h1]
theorem n_ifT (h1 : p env r = .ok true r1) (h2 : s env r1 = so) : qIf p s s' env r = so := by
  unfold qIf ofM; rw [h1]; exact h2
theorem n_ifF (h1 : p env r = .ok false r1) (h2 : s' env r1 = so) : qIf p s s' env r = so := by
  unfold qIf ofM; rw [h1]; exact h2
theorem n_ret (h1 : f env r = .ok t r1) : qRet f env r = .rt t r1 := by unfold qRet ofM; rw [h1]
theorem n_set {i : Nat} (h1 : f env r = .ok t r1) : qSet i f env r = .nx (env.set i (.val t)) r1 := by unfold qSet ofM; rw [h1]
theorem n_par2 {i j : Nat} (h1 : f env r = .ok x r1) (h2 : g env r1 = .ok y r2) : qPar2 i j f g env r = .nx ((env.set i (.val x)).set j (.val y)) r2 := by
  unfold qPar2 ofM; rw [e_cons h1 (e_cons h2 e_nil)]
theorem n_asg {h : T → Env → Option Env} (h1 : f env r = .ok x r1) (h2 : h x env = some env') : qAsg f h env r = .nx env' r1 := by
  unfold qAsg ofM; rw [h1]; simp only; rw [h2]
theorem n_for {fi : Env → M (List T)} {h : T → Env → Option Env} {xs : List T} (h1 : fi env r = .ok xs r1) (h2 : loopF h s xs env r1 = so) : qFor fi h s env r = so := by
  unfold qFor ofM; rw [h1]; exact h2
theorem n_loop {h : T → Env → Option Env} {xs : List T} (h1 : h x env = some env') (h2 : s env' r = .nx env2 r1) (h3 : loopF h s xs env2 r1 = so) : loopF h s (x :: xs) env r = so := by
  unfold loopF; rw [h1]; simp only; rw [h2]; exact h3
theorem n_loopR {h : T → Env → Option Env} {xs : List T} (h1 : h x env = some env') (h2 : s env' r = .rt t r1) : loopF h s (x :: xs) env r = .rt t r1 := by
  unfold loopF; rw [h1]; simp only; rw [h2]
theorem n_fn {m : Nat} {ts : List T} (h1 : s (envOf m ts) r = .rt t r1) : fnS m s ts r = .ok t r1 := by unfold fnS; rw [h1]
theorem n_fnN {m : Nat} {ts : List T} (h1 : s (envOf m ts) r = .nx env' r1) : fnS m s ts r = .ok .non r1 := by unfold fnS; rw [h1]
end
/-! ### equality -/
theorem eq_ii (a b c d : Int) : eqT (.tup [.int a, .int b]) (.tup [.int c, .int d]) = some ((a == c) && ((b == d) && true)) := rfl
end Ep
/-! an exception class of the program's own whose __init__ says super().__init__(f); self.f = f -/
namespace Ep
namespace SupX
open PySem PySem.W PySem.Calls PyProof.Rows PySem.HandSPX
def iA (f : Str) (p1 p2 : Pos) : Arguments := { posonlyargs := [], args := [{ arg := "self", annotation := none, pos := p1 }, { arg := f, annotation := none, pos := p2 }], vararg := none, kwonlyargs := [], kw_defaults := [], kwarg := none, defaults := [] }
def iB (f : Str) (a1 a2 a3 a4 a5 a6 q1 q2 q3 q4 : Pos) : List Stmt := [.Expr (.Call (.Attribute (.Call (.Name "super" a1) [] [] a2) "__init__" a3) [.Name f a4] [] a5) a6, .Assign [.Attribute (.Name "self" q1) f q2] (.Name f q3) q4]
def iS (f : Str) : Scope := { kind := .function, names := [(PySem.Str.ofString "self", .local), (f, .local), (PySem.Str.ofString "__class__", .free), (PySem.Str.ofString "super", .globalImplicit)], isGenerator := false, isCoroutine := false, more := [] }
/-- a built-in exception below which the program's own ones lie -/
structure XB where
  B : String
  nw : String
  ini : String
  tl : List Value
structure XB.Ok (b : XB) : Prop where
  eb : ExcBaseFacts b.B b.nw b.ini b.tl
  sf : StoreFacts b.B b.tl "object.__setattr__" "object"
  kx : KxsFacts b.B b.ini
  ob : b.tl.contains (.type "object") = true
def xVE : XB := ⟨"ValueError", "ValueError.__new__", "ValueError.__init__", [.type "ValueError", .type "Exception", .type "BaseException", .type "object"]⟩
def xOE : XB := ⟨"OverflowError", "OverflowError.__new__", "OverflowError.__init__", [.type "OverflowError", .type "ArithmeticError", .type "Exception", .type "BaseException", .type "object"]⟩
theorem xVE_ok : xVE.Ok := ⟨F.excBase_ValueError, F.store_ValueError, kxs_ValueError, by decide +kernel⟩
theorem xOE_ok : xOE.Ok := ⟨F.excBase_OverflowError, F.store_OverflowError, kxs_OverflowError, by decide +kernel⟩
/-- what the written part says of the class at C, its __init__ at fI -/
structure Txt (P : Program) (K : Frag) (mg : Str → Option Value) (qn f : Str) (C fI : Addr) : Prop where
  cls : ∃ b : XB, b.Ok ∧ subIn K (.ref C) (.type b.B) = some true ∧ ks_superIn K C C "__init__" = some (some (.builtin b.ini)) ∧
    ∃ nm q N bs bm sn sub ab col dd k0 k1 k2 k3 k5, K.lookup C = some (excClassObj nm q C N bs bm true sn sub ab col dd k0 k1 k2 k3 k5 b.nw) ∧ excTail b.tl bm = true
  sa : findIn K (.ref C) "__setattr__" = some (some (.builtin "object.__setattr__"))
  noN : findIn K (.ref C) f = some none
  iC : findIn K (.ref C) "__init__" = some (some (.ref fI))
  tC : typeIn K (.ref fI) = some (.type "function")
  kC : keepIn K (.ref C) = true
  exC : subIn K (.ref C) (.type "BaseException") = some true
  tyC : typeIn K (.ref C) = some (.type "type")
  mroC : mroIn K C (.ref C) = some true
  nosup : nsIn K mainGlobals "super" = some none
  opq : nsIn K cStatics "thirdparty.any" = some none
  fn : ∃ (oc : Value) (od : Option Addr) (doc pm : Value) (an : Option Addr) (cda : Addr) (ct : Value) (osl : Array (Option Value)) (p1 p2 a1 a2 a3 a4 a5 a6 q1 q2 q3 q4 : Pos) (cc : Addr) (cl : Value) (cld : Option Addr) (csl : Array (Option Value)) (ccl : Value) (cdd : Option Addr) (vs : Array Value) (ccs : Array (Option Value)) (file : Str) (tf : Tok),
    K.lookup fI = some ⟨oc, od, .func (ksFn "__init__" qn (iA f p1 p2) (iB f a1 a2 a3 a4 a5 a6 q1 q2 q3 q4) (iS f) .none .none doc pm an (.ref cda) ct cc), osl⟩ ∧ codeIn K (.ref cda) qn = true ∧
    K.lookup cc = some ⟨cl, cld, .cell (some (.ref C)), csl⟩ ∧ K.lookup cda = some ⟨ccl, cdd, .fields vs, ccs⟩ ∧ vs[2]? = some (.str file tf) ∧ ((P.main.file : Str) == file) = true ∧
    ∀ L : Addr, ∃ pl : Sem Bool, eval (.Call (.Attribute (.Call (.Name "super" a1) [] [] a2) "__init__" a3) [.Name f a4] [] a5) (ksEnv qn (iS f) L fI (.ref cda) cc) = (do
      let ov ← attributeBase (.Call (.Name "super" a1) [] [] a2) "__init__" (ksEnv qn (iS f) L fI (.ref cda) cc) (eval (.Call (.Name "super" a1) [] [] a2) (ksEnv qn (iS f) L fI (.ref cda) cc))
      standAt a3.atName
      let (g, first) ← holding [ov] (getMethod ov "__init__" pl)
      callWith a5 g first (backTo a5 (starEach [.Name f a4] (ksEnv qn (iS f) L fI (.ref cda) cc))) [])
structure FOk (P : Program) (f : Str) : Prop where
  htop : (P.main.scope.names.lookup ("super" : Str)).isSome = false
  nself : ((PySem.Str.ofString "self") == f) = false
  self' : (f == ("self" : Str)) = false
  dbg : (f == ("__debug__" : Str)) = false
  loc : (iS f).names.lookup f = some .local
  slf : (iS f).names.lookup ("self" : Str) = some .local
  sup : (iS f).names.lookup ("super" : Str) = some .globalImplicit
  cls : (iS f).names.lookup ("__class__" : Str) = some .free
  ncell : ∀ x ∈ (iS f).names, x.2 ≠ .cell
  bnd : ∀ (qn : Str) (a1 a2 a3 a4 a5 a6 q1 q2 q3 q4 p1 p2 : Pos) (doc pm : Value) (an : Option Addr) (cdv ct : Value) (cc : Addr) (u v : Value), bindArgs (ksFn "__init__" qn (iA f p1 p2) (iB f a1 a2 a3 a4 a5 a6 q1 q2 q3 q4) (iS f) .none .none doc pm an cdv ct cc) ⟨[u, v], []⟩ = pure [(PySem.Str.ofString "self", u), (f, v)]
theorem one_size (v : Value) : [v].length ≤ sizeLine := by
  rw [sizeLine_eq]
  exact (by decide : 1 ≤ 16777216)
structure InitEnd (f : Str) (h h' : Heap) (x C dx t1 : Addr) (v : Value) : Prop where
  keep : ∀ b o, b ≠ x → h.get? b = some o → h'.get? b = some o
  obj : h'.get? x = some { cls := .ref C, dict := some dx, data := .fields #[.ref t1, .none, .none, .none, .bool false, .none] }
  dbig : h.objs.size ≤ dx
  dne : dx ≠ x
  ns : h'.Ns1 dx (fun y => if y = f then some v else none)
section
variable {prog : Program} {w : World} {A : Around} {E : Value → Shared → Prop} {h : Heap} {g : Array GenState} {d : Drawn} {t : Nat} {os : OsState}
variable {nm q : Str} {C N : Addr} {bs bm bmB : List Value} {hdct : Bool} {sn : List Str} {sub : List Value} {ab : Bool} {col : Option Bool} {dd : Option Addr} {k0 k1 k2 k3 k5 : Option Value} {B newId initId : String}
/-- a built-in bound to a thing (kxs_mw): a call of it is checked, and goes on at the built-in with the thing ahead -/
theorem mw_tree {M : Model} {i : String} {u e : Addr} {args : Args} {Q : Fin → Shared → Prop} {s : Shared} (at_u : s.heap.get? u = some (kxs_mw i e))
    (on : wpAny M A (checkBoundCall i { args with pos := .ref e :: args.pos }) (fun _ s' => Q (.again (.builtin i { args with pos := .ref e :: args.pos })) s') E s) : wpAny M A (callAny (.ref u) args) Q E s := by
  unfold callAny
  refine wpAny_bind (wpAny_load at_u ?_)
  show wpAny M A (checkBoundCall i { args with pos := .ref e :: args.pos } >>= fun _ => _) Q E s
  exact wpAny_bind (wpAny_mono on (fun _ _ z => wpAny_bind (wpAny_pure (wpAny_pure z))) fun _ _ => id)
/-- a built-in exception's __init__ bound to an instance, called: the instance's arguments are told anew, all else stands -/
theorem call_mw (FB : ExcBaseFacts B newId initId bmB) {u e t0 : Addr} {rest : List Value} {Q : Value → Shared → Prop}
    (at_C : h.get? C = some (excClassObj nm q C N bs bm hdct sn sub ab col dd k0 k1 k2 k3 k5 newId)) (at_e : h.get? e = some (HandSPX.excO C t0)) (at_u : h.get? u = some (kxs_mw initId e)) (few : rest.length ≤ sizeLine)
    (told : ∀ h' t1, (∀ b o, b ≠ e → h.get? b = some o → h'.get? b = some o) → h'.get? e = some (HandSPX.excO C t1) → Q .none ⟨h', g, d, t, os⟩) :
    wpAny (model prog w) A (call (.ref u) rest) Q E ⟨h, g, d, t, os⟩ :=
  wpAny_call (codeAny_of_tree (mw_tree at_u (W.check_bound_init FB.toExcCallFacts at_C at_e rfl
    ⟨plainId_quiet FB.init.plain _, codeAny_builtin FB.initEntry (exc_init_tree (cls := .ref C) (t0 := t0) (dv := none) (c2 := .none) (c3 := .none) (b4 := .bool false) at_e few fun h' same now _ => told h' _ same now)⟩)))
end
section
open Builtin Builtin.ObjectAttr
variable {prog : Program} {w : World} {A : Around} {E : Value → Shared → Prop} {R : Result → Shared → Prop} {hp : Heap} {g : Array GenState} {d : Drawn} {t : Nat} {os : OsState}
/-- the first field of an instance of such a class: osa_openX opens the store, instanceDict_exc makes the instance's dict, store_in_new puts the field into it -/
theorem osa_b {b : XB} (ok : b.Ok) {K : Frag} {name : Str} {tk : Tok} {v : Value} {x C t1 : Addr} {bm : List Value} {cd : ClassData} (kin : K.In hp) (at_x : hp.get? x = some (excO C t1)) (at_C : clsIn K C = some cd) (mro : cd.mro = .ref C :: bm) (tail : excTail b.tl bm = true) (dict : cd.hasDict = true) (free : findIn K (.ref C) name = some none)
    (told : ∀ h' tk' dx, (∀ b o, b ≠ x → hp.get? b = some o → h'.get? b = some o) → hp.objs.size ≤ dx → dx ≠ x → h'.get? x = some { cls := .ref C, dict := some dx, data := .fields #[.ref t1, .none, .none, .none, .bool false, .none] } →
      h'.Ns1 dx (fun y => if y = name then some v else none) → R (.ok (.ret .none)) ⟨h', g, d, tk', os⟩) :
    codeAny (model prog w) A (.call (.builtin "object.__setattr__") ⟨[.ref x, .str name tk, v], []⟩) R ⟨hp, g, d, t, os⟩ := by
  have old : x ≠ hp.objs.size := Nat.ne_of_lt (Heap.lt_size at_x)
  have over : excOver K C b.tl = true := by unfold excOver; rw [at_C, Option.any_some, mro]; exact Bool.and_eq_true_iff.mpr ⟨beq_self_eq_true _, tail⟩
  have at_x' : (hp.push (dictOf [] 0)).get? x = some (excO C t1) := Heap.get?_push_of_some _ at_x
  have made : ((hp.push (dictOf [] 0)).update x fun o => { o with dict := some hp.objs.size }).get? hp.objs.size = some (dictOf [] 0) := by rw [Heap.get?_update_ne _ _ _ _ old.symm, Heap.get?_push_size _ rfl]
  refine osa_openX (r := none) ok.sf kin (InstAt.mk (od := none) at_x rfl rfl trivial) over (by unfold takerIn; rw [free]; rfl) fun _ => ?_
  refine wpAny_bind (wpAny_pure (wpAny_bind (instanceDict_exc at_x (looks_clsIn kin at_C) dict ?_)))
  refine store_in_new ⟨_, #[], 0, made, rfl, fun _ z => absurd z (Array.not_mem_empty _), fun _ => rfl⟩ fun h' tk' held but => told h' tk' hp.objs.size (fun a o ne at_a => ?_) (Nat.le_refl _) old.symm ?_ held
  · rw [but.2 a (Nat.ne_of_lt (Heap.lt_size at_a)), Heap.get?_update_ne _ _ _ _ ne]
    exact Heap.get?_push_of_some _ at_a
  · rw [but.2 x old]
    exact Heap.get?_update_self _ at_x' rfl
end
section
variable {prog : Program} {w : World} {A : Around} {E : Value → Shared → Prop} {R : Result → Shared → Prop} {s : Shared} {K : Frag} {mg : Str → Option Value} {C fI : Addr} {qn f : Str} {base : Heap}
theorem init (T : Txt prog K mg qn f C fI) (Y : FOk prog f) {x t0 : Addr} {v : Value} (X : K.In s.heap) (hg : s.heap.Ns mainGlobals mg) (hm : mg "super" = none) (hb : ∃ mb, s.heap.Ns builtinsNs mb ∧ mb "super" = some (.type "super")) (hlim : s.heap.NoLimit) (hx : s.heap.get? x = some (excO C t0)) (hnx : K.lookup x = none) (hroom : A.depth < recursionLimit)
    (hq : ∀ h' tk dx t1, InitEnd f s.heap h' x C dx t1 v → R (.ok (.ret .none)) { s with heap := h', toks := tk }) :
    codeAny (model prog w) A (.call (.ref fI) ⟨[.ref x, v], []⟩) R s := by
  obtain ⟨oc, od, doc, pm, an, cda, ct, osl, p1, p2, a1, a2, a3, a4, a5, a6, q1, q2, q3, q4, cc, cl, cld, csl, ccl, cdd, vs, ccs, file, tf, ho, hcd, hcell, hcode, hvs, hfile, hev⟩ := T.fn
  obtain ⟨pl, hev⟩ := hev s.heap.objs.size
  obtain ⟨xb, xok, veC, sup, nm, q, N, bs, bm, sn, sub, ab, col, dd, k0, k1, k2, k3, k5, hC, hbm⟩ := T.cls
  have hcl : clsIn K C = some { name := nm, bases := bs, mro := .ref C :: bm, ns := N, qualname := q, hasDict := true, slotNames := sn, subclasses := sub, abstract := ab, collection := col, hasDel := false } := by unfold clsIn; rw [hC] <;> rfl
  refine ks_codeAny_call_defAt (binds := [("self", .ref x), (f, v)]) hroom (X _ _ ho) rfl hlim (codeRec_of X hcd) rfl (BindsTo.of_eq (Y.bnd ..)) Y.ncell (fun y hy => ?_) fun h₀ hn kp => ?_
  · rcases List.mem_cons.mp hy with rfl | hy
    · exact Y.slf
    · rcases List.mem_cons.mp hy with rfl | hy
      · exact Y.loc
      · cases hy
  have kC : K.In h₀ := X.keeps kp
  have hx₀ := kp _ _ hx
  have hxC : x ≠ C := fun e => by rw [e, hC] at hnx; cases hnx
  have m1 : (([(PySem.Str.ofString "self", Value.ref x), (f, v)] : List (Str × Value)).reverse.lookup (PySem.Str.ofString "self")) = some (.ref x) := by
    show List.lookup _ [(f, v), (PySem.Str.ofString "self", Value.ref x)] = _
    simp only [List.lookup, Y.nself, beq_self_eq_true]
  have m2 : (([(PySem.Str.ofString "self", Value.ref x), (f, v)] : List (Str × Value)).reverse.lookup f) = some v := by
    show List.lookup _ [(f, v), (PySem.Str.ofString "self", Value.ref x)] = _
    simp only [List.lookup, beq_self_eq_true]
  obtain ⟨mb, hb1, hb2⟩ := hb
  -- super().__init__(f)
  show _root_.PySem.wpAt _ _ _ (execs _ _) _ _ _
  refine ks_wpAt_execs_cons (ks_wpAt_Expr_any (ks_wpAt_MethodCall (pl := pl) ?_ hev))
  refine ks_wpAt_super_base (env := ksEnv qn (iS f) s.heap.objs.size fI (.ref cda) cc) Y.sup Y.cls (by decide) rfl (kC _ _ ho) rfl rfl rfl (kC _ _ hcode) rfl hvs hfile Y.htop ?_
  refine ks_loadName_global rfl Y.sup (loadGlobal_builtin (env := ksEnv qn (iS f) s.heap.objs.size fI (.ref cda) cc) (hg.at fun o e => kp _ _ e) hm (hb1.at fun o e => kp _ _ e) hb2 ⟨rfl, ?_⟩)
  refine wpAny_loadName_free rfl Y.cls (by rfl) ⟨_, kC _ _ hcell, rfl⟩ ?_
  refine wpAny_loadName_local rfl Y.slf hn m1 ?_
  refine ks_wpAny_isType_cls (kC _ _ hC) rfl ⟨rfl, ?_⟩
  refine ks_wpAny_call_super (kC _ _ hC) rfl hx₀ rfl (fun c e => by cases e) (looks_mroIn kC T.mroC) (fun h1 e1 k1 => ?_)
  have kC1 : K.In h1 := kC.keeps k1
  have hx1 := k1 _ _ hx₀
  have hcls1 : Looks (model prog w) h1 (mroOf (.ref C)) (.ref C :: bm) := (looks_clsIn kC1 hcl).andThen .now
  have hI : Looks (model prog w) h1 (isInstance (.ref x) (.type xb.B)) true := (InstAt.type (C := C) (od := none) ⟨hx1, rfl, rfl, trivial⟩).andThen (looks_subIn kC1 veC)
  have hm2 := sup
  unfold ks_superIn at hm2
  rw [hcl] at hm2
  refine kxs_getMethod xok.kx e1 (looks_opaque kC1 T.opq) hcls1 rfl kC1 hm2 hI hxC (by decide) ?_
  refine kxs_callWith (i := xb.ini) (x := x) (by rfl) ?_
  have hmw : (h1.push (kxs_mw xb.ini x)).get? h1.objs.size = some (kxs_mw xb.ini x) := Heap.get?_push_at rfl rfl
  have kk : ∀ b o, h₀.get? b = some o → (h1.push (kxs_mw xb.ini x)).get? b = some o := fun b o e => Heap.get?_push_of_some _ (k1 b o e)
  refine evalArgs_plain ?_
  refine spliced_cons (wpAny_Name (wpAny_loadName_local rfl Y.loc (hn.at fun o e => kk _ _ e) m2 (spliced_nil ⟨hmw, ?_⟩)) Y.dbg)
  refine call_mw xok.eb (kk _ _ (kp _ _ (X _ _ hC))) (kk _ _ hx₀) hmw (one_size v) fun h2 t1 k2 hx2 => ?_
  -- self.f = f
  have hn1 : (h1.push (kxs_mw xb.ini x)).Ns s.heap.objs.size (fun y => ([(PySem.Str.ofString "self", Value.ref x), (f, v)] : List (Str × Value)).reverse.lookup y) := hn.at fun o e => kk _ _ e
  have nL : s.heap.objs.size ≠ x := Nat.ne_of_gt (Heap.lt_size hx)
  have hn2 : h2.Ns s.heap.objs.size (fun y => ([(PySem.Str.ofString "self", Value.ref x), (f, v)] : List (Str × Value)).reverse.lookup y) := hn1.at fun o e => k2 _ _ nL e
  have kC2 : K.In h2 := fun b o e => k2 b o (fun z => by rw [z, hnx] at e; cases e) (kk _ _ (kC _ _ e))
  refine ks_wpAt_execs_cons (ks_wpAt_Assign_Attr ?_)
  refine wpAt_of_wpAny (wpAny_Name (wpAny_loadName_local rfl Y.loc hn2 m2 (wpAny_Name (wpAny_loadName_local rfl Y.slf hn2 m1 ?_) (by decide))) Y.dbg)
  refine set_plain kC2 (ox := excO C t1) (od := none) ⟨hx2, rfl, rfl, trivial⟩ T.sa ?_
  refine osa_b xok kC2 hx2 hcl rfl hbm rfl T.noN (fun h3 tk3 dx k3 dn dne hx3 hn3 => ?_)
  refine wpAt_of_wpAny (wpAny_execs_nil ?_)
  refine hq h3 tk3 dx t1 ⟨fun b o hb e => k3 b o hb (k2 b o hb (kk _ _ (kp _ _ e))), hx3, ?_, dne, hn3⟩
  have z1 : s.heap.objs.size < h2.objs.size := hn2.lt
  exact Nat.le_of_lt (Nat.lt_of_lt_of_le z1 dn)
/-- a made one -/
structure OwnMade (f : Str) (h h' : Heap) (e C d : Addr) (v : Value) : Prop where
  keep : ∀ b o, h.get? b = some o → h'.get? b = some o
  new : h.objs.size ≤ e
  obj : ∃ oe vs, h'.get? e = some oe ∧ oe.cls = .ref C ∧ oe.dict = some d ∧ oe.data = .fields vs ∧ vs[1]? = some .none
  dbig : h.objs.size ≤ d
  dne : d ≠ e
  ns : h'.Ns1 d (fun y => if y = f then some v else none)
theorem made (T : Txt prog K mg qn f C fI) (Y : FOk prog f) {v : Value} (X : K.In s.heap) (hg : s.heap.Ns mainGlobals mg) (hm : mg "super" = none) (hb : ∃ mb, s.heap.Ns builtinsNs mb ∧ mb "super" = some (.type "super")) (hlim : s.heap.NoLimit) (hroom : A.depth + 1 < recursionLimit)
    (hq : ∀ h' tk e d, OwnMade f s.heap h' e C d v → R (.ok (.ret (.ref e))) { s with heap := h', toks := tk }) :
    codeAny (model prog w) A (.call (.ref C) ⟨[v], []⟩) R s := by
  obtain ⟨xb, xok, veC, sup, nm, q, N, bs, bm, sn, sub, ab, col, dd, k0, k1, k2, k3, k5, hC, hbm⟩ := T.cls
  obtain ⟨hp, g, dr, tk, os⟩ := s
  have k : ∀ b o, hp.get? b = some o → ((hp.push (kdv_tup [v])).push (excO C hp.objs.size)).get? b = some o := fun b o e => Heap.get?_push_of_some _ (Heap.get?_push_of_some _ e)
  have hget : ((hp.push (kdv_tup [v])).push (excO C hp.objs.size)).get? (hp.objs.size + 1) = some (excO C hp.objs.size) := by heap_get
  have hnx : K.lookup (hp.objs.size + 1) = none := by
    cases eL : K.lookup (hp.objs.size + 1) with
    | none => rfl
    | some o =>
      have z : hp.get? (hp.objs.size + 1) = some o := X _ _ eL
      exact absurd (Nat.lt_of_succ_lt (Heap.lt_size z)) (Nat.lt_irrefl _)
  obtain ⟨mb, hb1, hb2⟩ := hb
  refine call_own xok.eb (fun X => excTail_contains X bm hbm) (X _ _ hC) (looks_findIn X T.iC) (fun self => bind_fn X self T.tC) (one_size v) ?_
  refine init (s := ⟨(hp.push (kdv_tup [v])).push (excO C hp.objs.size), g, dr, tk, os⟩) T Y (X.keeps k) (hg.at fun o e => k _ _ e) hm ⟨mb, hb1.at fun o e => k _ _ e, hb2⟩ (hlim.keeps k) hget hnx ?_ fun h' tk' dx t1 ⟨k', hx, dn, dne, hns⟩ => ?_
  · show A.depth + 1 < recursionLimit
    exact hroom
  · have old : ∀ b o, hp.get? b = some o → h'.get? b = some o := fun b o e => k' b o (Nat.ne_of_lt (Nat.lt_succ_of_lt (Heap.lt_size e))) (k b o e)
    have z : hp.objs.size + 1 + 1 ≤ dx := by
      first
        | (simpa only [Heap.size_push] using dn)
        | exact dn
        | (have q := dn; rw [Heap.size_push, Heap.size_push] at q; exact q)
    exact ⟨rfl, hq h' tk' (hp.objs.size + 1) dx ⟨old, Nat.le_succ _, ⟨_, _, hx, rfl, rfl, rfl, rfl⟩, Nat.le_trans (Nat.le_trans (Nat.le_succ _) (Nat.le_succ _)) z, dne, hns⟩⟩
end
end SupX
open PySem PySem.Spec L2 PyProof.Rows
theorem relO_one {f : Str} {v : V} {u : Value} (r : RelV v u) (g : Str) : RelO ([(f, v)].lookup g) (if g = f then some u else none) := by
  by_cases hw : g = f
  · subst hw
    rw [if_pos rfl]
    have q : List.lookup g [(g, v)] = some v := by simp [List.lookup]
    rw [q]
    exact r
  · rw [if_neg hw]
    have qw : (g == f) = false := by simpa using hw
    have q2 : List.lookup g [(f, v)] = none := by simp [List.lookup, qw]
    rw [q2]
    trivial
section
variable {X : Cx} {C fI : Addr} {qn f x : Str}
/-- x(e) -/
def tMkX (f : Str) (C : Addr) (ta : TA) : L2.St → Hp → XK → Prop := fun σ H Q => ta σ H fun vs H1 => ∃ v, vs = [v] ∧ ∀ d, H1 d = none → Q (.ref C) (some d) (upd H1 d (.xd [(f, v)]))
theorem pmk_x {a : Expr} {ta : TA} {p pos : Pos} {k : Nat} (T : SupX.Txt X.prog X.K X.mg qn f C fI) (Y : SupX.FOk X.prog f) (hr : Room k X.A) (hk : 2 ≤ k) (gx : X.mg x = some (.ref C)) (ha : PA X [a] ta) (hg : Gl X x)
    (hd : (x == ("__debug__" : Str)) = false := by decide) (he : starEach (a :: []) X.env = (false, eval a X.env) :: starEach [] X.env := by rfl) (hpl : (backTo pos (starEach [] X.env)).any (·.1) = false := by rfl) :
    PMk X (.Call (.Name x p) [a] [] pos) (tMkX f C ta) := by
  intro pins s σ H Q I h
  refine wpAny_Call_Name_kw (ld_glob I hg gx ?_ hd)
  refine PySem.W.callWith_K (h₀ := X.base) I.ok.mod.kin T.kC (thn (ha.run pos pins s σ H _ I h) fun us s1 hh => ?_) he hpl
  obtain ⟨vs, H1, I1, r1, v, ev, q1⟩ := hh
  subst ev
  refine ⟨I1.kIn, ?_⟩
  cases r1 with
  | cons rv rn =>
    rename_i v' us'
    cases rn
    show wpAny _ _ (call (.ref C) [v']) _ _ _
    have hlim := I1.nolimit
    have hgl := I1.mod.glob.keeps I1.bk
    have hsup : X.mg "super" = none := PySem.W.mg_none_of I1.mod.kin I1.mod.glob T.nosup
    obtain ⟨mb, hb1, hb2⟩ := I1.mod.blt
    have hb : ∃ mb, s1.heap.Ns builtinsNs mb ∧ mb "super" = some (.type "super") := ⟨mb, hb1.keeps I1.bk, (hb2 _ (by decide)).trans (by first | rfl | kernel_rfl)⟩
    obtain ⟨hp, g, dr, tk, os⟩ := s1
    refine wpAny_call (SupX.made T Y I1.kIn hgl hsup hb hlim (by have := hr.dp; omega) fun h' tk' e d M => ?_)
    show MkP X pins σ Q (.ref e) ⟨h', g, dr, tk', os⟩
    obtain ⟨oe, fv, hoe, hc, hd, hdat, h1⟩ := M.obj
    have hns := M.ns
    obtain ⟨G', g1, g2⟩ := restrict h' fun b => decide (b ≠ e)
    have gk : ∀ b, b ≠ e → G'.get? b = h'.get? b := fun b hb => g1 b (decide_eq_true hb)
    have ge : G'.get? e = none := g2 e (by simp)
    have old : ∀ b o, hp.get? b = some o → G'.get? b = some o := fun b o q => (gk b (Nat.ne_of_lt (Nat.lt_of_lt_of_le (Heap.lt_size q) M.new))).trans (M.keep b o q)
    have ob : ObjOk X.prog X.w (upd H1 d (.xd [(f, v)])) G' d (.xd [(f, v)]) :=
      ⟨_, hns.at (fun o q => (gk d M.dne).trans q), fun y => relO_one rv y⟩
    have J : Inv X pins σ (upd H1 d (.xd [(f, v)])) ⟨G', g, dr, tk', os⟩ := I1.laid (t' := tk') old M.dbig ob
    refine ⟨e, oe, fv, ⟨G', g, dr, tk', os⟩, _, .ref C, some d, rfl, J, fun b o q => ?_, ge, hoe, ⟨hc, hd⟩, hdat, h1, ?_, rfl, I1.bare, raises_own T.exC T.tyC, q1 d (I1.hok.fresh M.dbig)⟩
    · by_cases hb : b = e
      · have q' : G'.get? b = some o := q
        rw [hb, ge] at q'; cases q'
      · exact (gk b hb).symm.trans q
    · rw [upd_ne (Ne.symm M.dne)]
      exact I1.hok.fresh M.new
/-- raise x(e) -/
def tRaiseX (f : Str) (C : Addr) (W : WX) (ta : TA) : TS := fun _ σ H => tMkX f C ta σ H fun cls d H' => W cls d σ H'
theorem ps_raiseX {a : Expr} {ta : TA} {W : WX} {p pos pos2 : Pos} {k : Nat} (hc : X.calm = true) (T : SupX.Txt X.prog X.K X.mg qn f C fI) (Y : SupX.FOk X.prog f) (hr : Room k X.A) (hk : 2 ≤ k) (tk : Takes X W) (gx : X.mg x = some (.ref C)) (ha : PA X [a] ta) (hg : Gl X x)
    (hd : (x == ("__debug__" : Str)) = false := by decide) (he : starEach (a :: []) X.env = (false, eval a X.env) :: starEach [] X.env := by rfl) (hpl : (backTo pos (starEach [] X.env)).any (·.1) = false := by rfl) :
    PS X (.Raise (some (.Call (.Name x p) [a] [] pos)) none pos2) (tRaiseX f C W ta) := ps_raise hc tk (pmk_x T Y hr hk gx ha hg hd he hpl)
end
end Ep
/-! try with several clauses that note what they caught -/
namespace Ep
open PySem PySem.Spec L2 PyProof.Rows
abbrev HdT := Value × Nat × (Addr → Value → Option Addr → TS)
/-- behind a suite its note is gone -/
def gone (i : Nat) (D : Ends) : Ends := { nx := fun σ H => D.nx (σ.set i none) H, rt := D.rt, bk := fun σ H => D.bk (σ.set i none) H, ct := fun σ H => D.ct (σ.set i none) H }
def wMA (K : PySem.W.Frag) (Wout : WX) (D : Ends) : List HdT → WX
  | [] => Wout
  | p :: r => fun cls d σ H => ∃ b, PySem.W.exmOne K cls p.1 = some b ∧ (b = true → ∀ a, H a = none → p.2.2 a cls d (gone p.2.1 D) (σ.set p.2.1 (some (.ref a))) H) ∧ (b = false → wMA K Wout D r cls d σ H)
inductive HdAs (X : Cx) : List ExceptHandler → List HdT → Prop
  | nil : HdAs X [] []
  | cons {x n : Str} {c : Value} {i : Nat} {ts : Addr → Value → Option Addr → TS} {b₀ : Stmt} {suite : List Stmt} {np pp : Pos} {hds : List ExceptHandler} {l : List HdT} (hc : Names X x c) (hi : X.N[i]? = some n) (hl : X.env.kindOf n = some .local)
      (hsu : ∀ (a : Addr) (oe : Obj) (cls : Value) (d : Option Addr) (pn : List (Addr × Obj)), Zc cls d oe → (∃ vs, oe.data = .fields vs) → PSs (X.suite a ((a, oe) :: pn)) (b₀ :: suite) (ts a cls d)) (r : HdAs X hds l) :
      HdAs X (.ExceptHandler (some (.Name x np)) (some n) (b₀ :: suite) pp :: hds) ((c, i, ts) :: l)
section
variable {X : Cx} {pins : List (Addr × Obj)} {a : Addr} {B : Heap} {sI : Shared} {σ : L2.St} {H : Hp} {cls : Value} {d : Option Addr} {D : Ends} {Wout : WX}
/-- a raised thing is no def's frame -/
theorem no_frame {B h : Heap} {l : List PySem.Env} {o : Obj} {vs : Array Value} (ff : h.FunFrames B l) (at_a : h.get? a = some o) (rec : o.data = .fields vs) : a ∉ frs l := fun of_l => by
  obtain ⟨_, u, at_u, notFields⟩ := ff.mem of_l
  cases at_a.symm.trans at_u
  exact absurd rec (notFields vs)
/-- what is known when an exception has been caught and is looked at -/
structure Got (X : Cx) (pins : List (Addr × Obj)) (a : Addr) (B : Heap) (sI : Shared) (σ : L2.St) (H : Hp) (cls : Value) (d : Option Addr) (s' : Shared) (h3 : Heap) : Prop where
  ok : X.Ok
  J : Inv X pins σ H sI
  nb : ∀ b o, sI.heap.get? b = some o → b ∉ frs X.stack → B.get? b = some o
  up : sI.heap.UpToSlots h3
  fl : HandSPX.FlyingZ B (X.env :: X.outer) a (Zc cls d) h3
  na : H a = none
  os : s'.os = sI.os
  ag : AllBare s'.gens
theorem Got.nfr {s' : Shared} {h3 : Heap} (g : Got X pins a B sI σ H cls d s' h3) : a ∉ frs (X.env :: X.outer) := by
  obtain ⟨oe, vs, he, _, hd⟩ := g.fl.there
  exact no_frame g.fl.2.2.1 he hd
/-- the frames' own list, one deeper -/
theorem frs_deep {e : PySem.Env} {l : List PySem.Env} {b : Addr} (h : b ∈ frs l) : b ∈ frs (e :: l) := by
  cases q : e.frame with
  | none => rw [show frs (e :: l) = frs l from List.filterMap_cons_none q]; exact h
  | some c => rw [show frs (e :: l) = c :: frs l from List.filterMap_cons_some q]; exact List.mem_cons_of_mem _ h
theorem Got.nF {s' : Shared} {h3 : Heap} (g : Got X pins a B sI σ H cls d s' h3) : a ∉ X.fs := fun of_l => g.nfr (frs_deep of_l)
theorem Got.nL {s' : Shared} {h3 : Heap} (g : Got X pins a B sI σ H cls d s' h3) (hf : X.env.frame = some X.env.locals) : a ≠ X.env.locals := fun z => g.nfr (by
  rw [show frs (X.env :: X.outer) = X.env.locals :: frs X.outer from List.filterMap_cons_some hf, z]
  exact List.mem_cons_self)
theorem Got.again {s' : Shared} {h3 h4 : Heap} (g : Got X pins a B sI σ H cls d s' h3) (fl : HandSPX.FlyingZ B (X.env :: X.outer) a (Zc cls d) h4) (up : h3.UpToSlots h4) : Got X pins a B sI σ H cls d s' h4 := ⟨g.ok, g.J, g.nb, g.up.trans up, fl, g.na, g.os, g.ag⟩
theorem Got.inv {s' : Shared} {h3 : Heap} (g : Got X pins a B sI σ H cls d s' h3) : Inv X pins σ H { s' with heap := h3 } := g.J.landed g.nb g.fl.1 g.up g.os g.ag
theorem Got.in_ {s' : Shared} {h3 : Heap} (g : Got X pins a B sI σ H cls d s' h3) (hf : X.env.frame = some X.env.locals) : ∃ (oe : Obj) (vs : Array Value), h3.get? a = some oe ∧ Zc cls d oe ∧ oe.data = .fields vs ∧ Inv (X.suite a ((a, oe) :: (X.pn ++ pins))) [] σ H { s' with heap := h3 } := by
  obtain ⟨oe, vs, he, hz, hd⟩ := g.fl.there
  exact ⟨oe, vs, he, hz, hd, g.inv.suite he hd g.na (g.nL hf) g.nF⟩
/-- no clause takes it: it goes on, its frame noted -/
theorem Got.goes_on {s' : Shared} {h3 : Heap} (g : Got X pins a B sI σ H cls d s' h3) (hs : X.stack = X.env :: X.outer) (hf : X.env.frame = some X.env.locals) (tk : Takes X Wout) (hw : Wout cls d σ H) :
    wpAny (model X.prog X.w) X.A (handleBy (.ref a) X.env []) (SP X pins D) X.xe { s' with heap := h3 } := by
  obtain ⟨_, _, _, oe, vs, T, oT, _, at_a, _, rec, tb, _⟩ := id g.fl
  have thrown : wpAny (model X.prog X.w) X.A (setFlight (.ref a) X.env.frame) (fun _ z => wpAny (model X.prog X.w) X.A (throw (.ref a) : Sem Flow) (SP X pins D) X.xe z) X.xe { s' with heap := h3 } := hf ▸ HandSPX.setFlight_upZ g.fl fun h4 sky up =>
    wpAny_throw (tk _ _ ⟨a, B, sI, pins, σ, H, cls, d, rfl, g.J, g.nb, g.up.trans up, .inr (.inr (hs ▸ sky)), g.na, g.os, g.ag, hw⟩)
  have some_tb : ¬ ((Value.ref T == Value.none) = true) := fun z => nomatch eq_of_beq z
  refine wpAny_handleBy_nil (wpAny_bind (wpAny_field at_a rec tb ?_))
  rw [if_neg some_tb]
  first
    | exact wpAny_bind (wpAny_pure (wpAny_bind thrown))
    | exact wpAny_bind thrown
/-- a clause's class is looked up, and whether the caught one is of it -/
theorem Got.asked {s' : Shared} {h3 : Heap} (g : Got X pins a B sI σ H cls d s' h3) (hf : X.env.frame = some X.env.locals) {x : Str} {c : Value} {np : Pos} {b : Bool} (hc : Names X x c) (one : PySem.W.exmOne X.K cls c = some b) {Q : Bool → Shared → Prop} {E E' : Value → Shared → Prop} (h : Q b { s' with heap := h3 }) :
    wpAny (model X.prog X.w) (X.A.mark (some (.ref a))) (eval (.Name x np) X.env) (fun m s1 => wpAny (model X.prog X.w) (X.A.mark (some (.ref a))) (excMatches (.ref a) m) Q E' s1) E { s' with heap := h3 } := by
  obtain ⟨oe, _, at_a, of_, _, S⟩ := g.in_ hf
  have is_one : PySem.W.Looks (model X.prog X.w) h3 (excMatches (.ref a) c) b := PySem.W.exm_one g.inv.kIn (fun _ _ _ _ keep q => wpAny_typeOf_ref (keep _ _ at_a) (by rw [of_.1]; exact q)) one
  obtain ⟨glob, dbg, mine | ⟨none_, built, nn⟩⟩ := hc
  · exact ld_glob (X := X.suite a ((a, oe) :: (X.pn ++ pins))) S glob mine (is_one.here h) dbg
  · exact ld_blt (X := X.suite a ((a, oe) :: (X.pn ++ pins))) S glob none_ built (is_one.here h) nn dbg
/-- the clause that takes it: its note is laid, the suite runs, the note goes -/
theorem Got.taken {s' : Shared} {h4 : Heap} (g : Got X pins a B sI σ H cls d s' h4) (hf : X.env.frame = some X.env.locals) (hN : X.N.Nodup) {n : Str} {i : Nat} {ts : Addr → Value → Option Addr → TS} {suite : List Stmt} {pp : Pos} (hi : X.N[i]? = some n) (hl : X.env.kindOf n = some .local)
    (hsu : ∀ (a : Addr) (oe : Obj) (cls : Value) (d : Option Addr) (pn : List (Addr × Obj)), Zc cls d oe → (∃ vs, oe.data = .fields vs) → PSs (X.suite a ((a, oe) :: pn)) suite (ts a cls d)) (yes : ts a cls d (gone i D) (σ.set i (some (.ref a))) H) {E1 E2 : Value → Shared → Prop} :
    wpAny (model X.prog X.w) (X.A.mark (some (.ref a))) (storeName X.env n (.ref a)) (fun _ s1 => wpAny (model X.prog X.w) (X.A.mark (some (.ref a))) (execs suite X.env) (fun f s2 => wpAny (model X.prog X.w) X.A (do bindName X.env n .none; unbindBehindTheSuite X.env n pp) (fun _ s3 => SP X pins D f s3) X.xe s2) E2 s1) E1 { s' with heap := h4 } := by
  obtain ⟨oe, vs, _, of_, rec, S⟩ := g.in_ hf
  have behind : ∀ {σ6 : L2.St} {H6 : Hp} {s6 : Shared} {Q : Shared → Prop}, Inv (X.suite a ((a, oe) :: (X.pn ++ pins))) [] σ6 H6 s6 → (∀ s7, Inv X pins (σ6.set i none) H6 s7 → Q s7) → wpAny (model X.prog X.w) X.A (do bindName X.env n .none; unbindBehindTheSuite X.env n pp) (fun _ s7 => Q s7) X.xe s6 :=
    fun S6 q => gone_ok (S6.unsuite g.ok) hN hi hl q
  refine store_ok (X := X.suite a ((a, oe) :: (X.pn ++ pins))) (v := .ref a) S hN hi (.inl hl) rfl (fun s5 S5 => wpAny_mono ((hsu a oe cls d (X.pn ++ pins) of_ ⟨vs, rec⟩).run [] s5 _ H _ S5 yes) (fun f s6 ran => ?_) fun _ _ => False.elim) (.inr hl)
  cases f <;> dsimp only [SP, gone] at ran ⊢
  case ret u =>
    obtain ⟨v, σ6, H6, S6, rel, q⟩ := ran
    exact behind S6 fun s7 J => ⟨v, _, H6, J, rel, q⟩
  all_goals
    obtain ⟨σ6, H6, S6, q⟩ := ran
    exact behind S6 fun s7 J => ⟨_, H6, J, q⟩
theorem clauses {s' : Shared} (hs : X.stack = X.env :: X.outer) (hf : X.env.frame = some X.env.locals) (hN : X.N.Nodup) (tk : Takes X Wout) : ∀ {hds : List ExceptHandler} {l : List HdT}, HdAs X hds l → ∀ {h3 : Heap}, Got X pins a B sI σ H cls d s' h3 → wMA X.K Wout D l cls d σ H →
    wpAny (model X.prog X.w) X.A (handleBy (.ref a) X.env hds) (SP X pins D) X.xe { s' with heap := h3 }
  | _, _, .nil, _, g, hw => g.goes_on hs hf tk hw
  | _, _, .cons hc hi hl hsu r, h3, g, ⟨true, one, yes, _⟩ => by
    refine wpAny_handleBy_cons (codeAny_handlers_test (g.asked hf hc one (codeAny_handlers_suite_as (HandSPX.lands_againZ g.fl fun h4 fl up => ?_)))) (fun q => nomatch q)
    refine (g.again fl up).taken hf hN hi hl hsu (yes rfl a g.na)
  | _, _, .cons hc hi hl hsu r, h3, g, ⟨false, one, _, no⟩ => wpAny_handleBy_cons (codeAny_handlers_test (g.asked hf hc one (clauses hs hf hN tk r g (no rfl)))) (fun q => nomatch q)
/-- a flow out of a try's body is one of the whole statement -/
theorem flow_out {xe : Value → Shared → Prop} (ok : X.Ok) {f : Flow} {s1 : Shared} (h : SP (X.tr (X.pn ++ pins) xe) [] D f s1) : SP X pins D f s1 := by
  cases f <;> dsimp only [SP] at h ⊢
  case ret u => exact h.imp fun _ => Exists.imp fun _ => Exists.imp fun _ => And.imp_left fun J => J.ofTry ok
  all_goals exact h.imp fun _ => Exists.imp fun _ => And.imp_left fun J => J.ofTry ok
theorem ps_tryMA {body : List Stmt} {h₀ : ExceptHandler} {hds : List ExceptHandler} {l : List HdT} {pos : Pos} {tb : WX → TS} (hs : X.stack = X.env :: X.outer) (hf : X.env.frame = some X.env.locals) (hN : X.N.Nodup) (tk : Takes X Wout)
    (hb : ∀ (W : WX) (pn : List (Addr × Obj)) (xe : Value → Shared → Prop), Takes (X.tr pn xe) W → PassesOwn (model X.prog X.w) X.A X.env xe → PSs (X.tr pn xe) body (tb W)) (hh : HdAs X (h₀ :: hds) l) :
    PS X (.Try body (h₀ :: hds) [] [] pos) (fun D σ H => tb (wMA X.K Wout D l) D σ H) := by
  refine ⟨fun pins s σ H D I h => wpAny_Try_except ?_⟩
  have takes : Takes (X.tr (X.pn ++ pins) (fun e s₁ => wpAny (model X.prog X.w) X.A (noteFrame e X.env) (fun _ s₂ => wpAny (model X.prog X.w) X.A (setFlight e none) (fun _ s₃ => wpAny (model X.prog X.w) X.A (handleBy e X.env (h₀ :: hds)) (SP X pins D) X.xe s₃) X.xe s₂) X.xe s₁)) (wMA X.K Wout D l) := by
    rintro _ s' ⟨a, B, sI, pins', σ', H', cls, d, rfl, J, nb, up, sky, na, os, ag, hw⟩
    exact Sky.land Zc.steady (I.ok.frames.trans (congrArg some hs)) hf (hs ▸ sky) fun h3 fl up3 => clauses hs hf hN tk hh (Got.mk I.ok (J.ofTry I.ok) nb (up.trans up3) fl na os ag) hw
  refine wpAny_mono ((hb _ _ _ takes PassesOwn.looking).run [] s σ H D (I.toTry _) h) (fun f s1 ran => ?_) fun _ _ => id
  cases f with
  | next => exact wpAny_execs_nil (flow_out I.ok ran)
  | _ => exact flow_out I.ok ran
end
/-! ### raise -/
def qRaise (c : Nat) (f : Env → M T) : Sm := fun env r => ofM env (fun t r => .exn c t env r) (f env r)
/-- an exception class of the top, by its number -/
structure XcOk (P : Program) (G : Gm) (c : Nat) (fld : Str) : Prop where
  fl : G.fl c = [fld]
  cl : ∃ qn cA fI, G.mg (G.cn c) = some (.ref cA) ∧ SupX.Txt P G.K G.mg qn fld cA fI
  ok : SupX.FOk P fld
theorem ss_raise {X : Cx} {G : Gm} {W : WX} {a : Expr} {f : Env → M T} {c k : Nat} {x fld : Str} {p pos pos2 : Pos} (hc : X.calm = true) (hK : X.K = G.K) (hM : X.mg = G.mg) (tk : Takes X W) (hr : Room k X.A) (hk : 2 ≤ k) (xc : XcOk X.prog G c fld) (hx : x = G.cn c) (he : SE X G W a f) (hg : Gl X x)
    (hd : (x == ("__debug__" : Str)) = false := by decide) (hs : starEach (a :: []) X.env = (false, eval a X.env) :: starEach [] X.env := by rfl) (hpl : (backTo pos (starEach [] X.env)).any (·.1) = false := by rfl) :
    SS X G W (.Raise (some (.Call (.Name x p) [a] [] pos)) none pos2) (qRaise c f) := fun w0 H0 => by
  obtain ⟨qn, cA, fI, h1, h2⟩ := xc.cl
  rw [← hK, ← hM] at h2
  refine ps_imp (ps_raiseX hc h2 xc.ok hr hk tk (by rw [hM, hx]; exact h1) (pa_cons he pa_nil hs) hg hd hs hpl) fun D σ H ⟨w, env, r, a0, h⟩ => ?_
  refine at_e a0 h fun t r1 w1 H1 v a1 d h3 => ⟨v, rfl, fun dd hdd => ?_⟩
  have st : Step w1 H1 w1 (upd H1 dd (.xd [(fld, v)])) := (Step.refl w1 H1).priv hdd
  have g2 : Good G w1 (upd H1 dd (.xd [(fld, v)])) r1 := a1.g.priv (a1.g.nopub hdd) (a1.g.noref hdd) (.inl hdd)
  exact h3 w1 _ σ _ _ (a1.st.trans st) g2 (a1.s.step st) ⟨cA, dd, v, fld, h1, rfl, rfl, xc.fl, upd_same, d⟩
/-! ### what was caught -/
structure EI (G : Gm) (w : Wd) (H : Hp) (c : Nat) (p : T) (cls : Value) (d : Option Addr) : Prop where
  ex : ∃ cA dd v f, G.mg (G.cn c) = some (.ref cA) ∧ cls = .ref cA ∧ d = some dd ∧ G.fl c = [f] ∧ H dd = some (.xd [(f, v)]) ∧ dd ∉ w.R ∧ Den G w v p
theorem ExcIs.ei {G : Gm} {w : Wd} {H : Hp} {r : RS} {c : Nat} {p : T} {cls : Value} {d : Option Addr} (x : ExcIs G w H c p cls d) (g : Good G w H r) : EI G w H c p cls d := by
  obtain ⟨cA, dd, v, f, h1, h2, h3, h4, h5, h6⟩ := x.ex
  refine ⟨cA, dd, v, f, h1, h2, h3, h4, h5, fun hm => ?_, h6⟩
  obtain ⟨vs, e⟩ := g.refs.there hm
  rw [h5] at e
  cases e
theorem EI.step {G : Gm} {w w' : Wd} {H H' : Hp} {c : Nat} {p : T} {cls : Value} {d : Option Addr} (x : EI G w H c p cls d) (s : Step w H w' H') : EI G w' H' c p cls d := by
  obtain ⟨cA, dd, v, f, h1, h2, h3, h4, h5, h6, h7⟩ := x.ex
  exact ⟨cA, dd, v, f, h1, h2, h3, h4, s.fr _ _ h6 h5 (by intro _ e; cases e), s.noR h6 (vs_of h5), h7.mono s.later⟩
abbrev XF : XK := fun _ _ _ => False
theorem OutP.noW {α : Type} {G : Gm} {w : Wd} {H : Hp} {σ : L2.St} {P : α → RS → Wd → Hp → Prop} {o : Out α} (h : OutP G w H (WE0 W0 σ) P o) : OutP G w H XF P o := by
  cases o with
  | ok a r => exact h
  | exn c p r => exact h
  | bad => exact h
abbrev HM (α : Type) := Nat → T → Env → M α
section
variable {X : Cx} {G : Gm} {a : Addr} {cls : Value} {d : Option Addr} {i : Nat} {pos : Pos}
def tHE (G : Gm) (a : Addr) (cls : Value) (d : Option Addr) (i : Nat) (f : HM T) : TE := fun σ H Q => ∃ w H0 env r c p, Good G w H r ∧ Slots G w H0 H σ env ∧ σ[i]? = some (some (.ref a)) ∧ EI G w H c p cls d ∧ OutP G w H XF (fun t _ w' H' => ∀ v, Den G w' v t → Q v H') (f c p env r)
def tHA (G : Gm) (a : Addr) (cls : Value) (d : Option Addr) (i : Nat) (fs : List (HM T)) : TA := fun σ H Q => ∃ w H0 env r c p, Good G w H r ∧ Slots G w H0 H σ env ∧ σ[i]? = some (some (.ref a)) ∧ EI G w H c p cls d ∧ OutP G w H XF (fun ts _ w' H' => ∀ vs, Dens G w' vs ts → ts.length = fs.length → Q vs H') (fAll (fs.map fun f => f c p) env r)
def tHS (G : Gm) (a : Addr) (cls : Value) (d : Option Addr) (i : Nat) (hb : Nat → T → Sm) : TS := fun D σ H => ∃ w0 H0 w env r c p, At G w0 H0 w H σ env r ∧ σ[i]? = some (some (.ref a)) ∧ EI G w H c p cls d ∧ FlowP G W0 w0 H0 D (hb c p env r)
theorem he_of {e : Expr} {f : Env → M T} (h : SE X G W0 e f) : PE X e (tHE G a cls d i fun _ _ => f) := pe_imp h fun σ H Q ⟨w, H0, env, r, c, p, g, s, _, _, h⟩ => ⟨w, H0, env, r, g, s, h⟩
theorem ha_nil : PA X [] (tHA G a cls d i []) := pa_imp pa_nil fun σ H Q ⟨w, H0, env, r, c, p, g, s, _, _, h⟩ => OutP.here g h [] .nil rfl
theorem ha_cons {e : Expr} {es : List Expr} {f : HM T} {fs : List (HM T)} (h1 : PE X e (tHE G a cls d i f)) (h2 : PA X es (tHA G a cls d i fs)) (hs : starEach (e :: es) X.env = (false, eval e X.env) :: starEach es X.env := by rfl) : PA X (e :: es) (tHA G a cls d i (f :: fs)) :=
  pa_imp (pa_cons h1 h2 hs) fun σ H Q ⟨w, H0, env, r, c, p, g, s, e1, ei, h⟩ => by
    have h : OutP G w H XF (fun ts _ w' H' => ∀ vs, Dens G w' vs ts → ts.length = (f :: fs).length → Q vs H') ((f c p env >>= fun x => fAll (fs.map fun f => f c p) env >>= fun xs => pure (x :: xs)) r) := h
    refine ⟨w, H0, env, r, c, p, g, s, e1, ei, h.bind.imp fun t r1 w1 H1 st1 g1 o v dv => ?_⟩
    refine ⟨w1, H0, env, r1, c, p, g1, s.step st1, e1, ei.step st1, o.bind.imp fun ts r2 w2 H2 st2 g2 o2 vs dvs l => ?_⟩
    exact OutP.here g2 o2 (v :: vs) (.cons (dv.mono st2.later) dvs) (by rw [List.length_cons, List.length_cons, l])
theorem he_lst {es : List Expr} {fs : List (HM T)} (ha : PA X es (tHA G a cls d i fs)) (hl : fs.length ≤ 1000 := by decide) : PE X (.List es pos) (tHE G a cls d i fun c p => fLst (fs.map fun f => f c p)) :=
  pe_imp (pe_lst ha) fun σ H Q ⟨w, H0, env, r, c, p, g, s, e1, ei, h⟩ => by
    refine ⟨w, H0, env, r, c, p, g, s, e1, ei, h.bind.imp fun ts r1 w1 H1 st1 g1 o vs d1 l => ?_⟩
    have hz : ts.length ≤ sizeLine := by rw [l]; exact Nat.le_trans hl (by decide)
    refine ⟨by rw [d1.length]; exact hz, fun q hq => ?_⟩
    obtain ⟨st, g2⟩ := g1.new (o := .lst vs) hq
    exact o _ _ st g2 _ (.lst upd_same hz (d1.mono st.later))
/-- what must be known of a class, that a field of its exceptions be read -/
structure XgOk (G : Gm) (c : Nat) (fld : Str) : Prop where
  fl : G.fl c = [fld]
  ga : ∀ cA, G.mg (G.cn c) = some (.ref cA) → PySem.W.findIn G.K (.ref cA) "__getattribute__" = some (some (.builtin "BaseException.__getattribute__")) ∧ PySem.W.findIn G.K (.ref cA) "__getattr__" = some none ∧ PySem.W.subIn G.K (.ref cA) (.type "BaseException") = some true ∧ PySem.W.hasDictIn G.K cA = true ∧ PySem.W.findIn G.K (.ref cA) fld = some none
def hFld (xf : Nat → Bool) : HM T := fun c p _ => if xf c = true then pure p else M.bad
theorem he_fld {oe : Obj} {pn : List (Addr × Obj)} {n fld : Str} {np : Pos} (hK : X.K = G.K) (hz : Zc cls d oe) (hf : ∃ vs, oe.data = .fields vs) (xf : Nat → Bool) (ok : ∀ c, xf c = true → XgOk G c fld) (hN : X.N[i]? = some n) (hv : Vis X.env.scope n)
    (hb : attributeBase (.Name n np) fld (X.suite a ((a, oe) :: pn)).env (eval (.Name n np) (X.suite a ((a, oe) :: pn)).env) = eval (.Name n np) (X.suite a ((a, oe) :: pn)).env := by rfl) (hd : (n == ("__debug__" : Str)) = false := by decide) (hcd : (n == ("__classdict__" : Str)) = false := by decide) :
    PE (X.suite a ((a, oe) :: pn)) (.Attribute (.Name n np) fld pos) (tHE G a cls d i (hFld xf)) := by
  refine ⟨fun pins s σ H Q I ⟨w, H0, env, r, c, p, g, sl, e1, ei, h⟩ => ?_⟩
  refine attr_of hb (thn ((pe_var (X := X.suite a ((a, oe) :: pn)) (pos := np) (i := i) hN hv hd hcd).run pins s σ H (fun v H1 => v = .ref a ∧ H1 = H) I ⟨.ref a, e1, rfl, rfl⟩) fun u s1 ⟨v, H1, I1, r1, q1⟩ => ?_)
  obtain ⟨ev, eH⟩ := q1
  subst ev
  rw [eH] at I1
  obtain rfl : u = Value.ref a := r1
  unfold hFld at h
  by_cases hx : xf c = true
  · rw [if_pos hx] at h
    obtain ⟨fl, ga⟩ := ok c hx
    obtain ⟨cA, dd, v, f, k1, k2, k3, k4, k5, k6, k7⟩ := ei.ex
    rw [fl] at k4
    cases k4
    obtain ⟨ga1, ga2, ga3, ga4, ga5⟩ := ga cA k1
    rw [← hK] at ga1 ga2 ga3 ga4 ga5
    subst k2
    subst k3
    obtain ⟨ha, _⟩ := I1.pin (a, oe) (List.mem_append_left _ List.mem_cons_self)
    obtain ⟨vs, hd'⟩ := hf
    have hxd : ObjOk X.prog X.w H s1.heap dd (.xd [(fld, v)]) := I1.hok dd _ k5
    obtain ⟨mA, hns, hr⟩ := hxd
    obtain ⟨od, ho, hl⟩ := lookIn_ns hns
    have l : List.lookup fld [(fld, v)] = some v := by simp [List.lookup]
    obtain ⟨u, hu, ru⟩ := RelO.some_of (v := v) (o := mA fld) (by rw [← l]; exact hr fld)
    have J : PySem.W.InstAt s1.heap a oe cA (some od) := ⟨ha, hz.1, by unfold PySem.W.notCls; rw [hd'] <;> rfl, by rw [hz.2]; exact ho⟩
    exact HandSPX.exc_get I1.kIn J ga1 ga2 ga3 (PySem.W.findObj_own ga4 ga5 rfl (by rw [hl, hu])) (handed_of ru) ⟨v, H, I1.tok _, ru, OutP.here g h v k7⟩
  · rw [if_neg hx] at h
    exact h.elim
/-- return e, in a suite -/
def hRet (f : HM T) : Nat → T → Sm := fun c p env r => ofM env (fun t r => .rt t r) (f c p env r)
theorem hs_ret {e : Expr} {f : HM T} (h : PE X e (tHE G a cls d i f)) : PSs X [.Return (some e) pos] (tHS G a cls d i (hRet f)) := pss_imp (pss_one (ps_ret h)) fun D σ H ⟨w0, H0, w, env, r, c, p, a0, e1, ei, hq⟩ => by
  refine ⟨w, H0, env, r, c, p, a0.g, a0.s, e1, ei, ((FlowP.ofM a0 hq).imp fun t r1 w1 H1 _ _ q v dv => ?_).noW⟩
  exact q.2 w1 H1 v q.1.st q.1.g dv
end
end Ep
namespace Ep
open PySem PySem.Spec L2 PyProof.Rows
/-! ### try -/
abbrev HdS := (Nat → Option Bool) × Nat × (Nat → T → Sm)
def unS (i : Nat) : SO → SO
  | .nx env r => .nx (env.set i .un) r
  | .bk env r => .bk (env.set i .un) r
  | .ct env r => .ct (env.set i .un) r
  | .rt t r => .rt t r
  | .exn _ _ _ _ => .bad
  | .bad => .bad
def pickH : List HdS → Nat → T → Sm
  | [], c, p, env, r => .exn c p env r
  | (m, i, hb) :: rest, c, p, env, r => match m c with
    | some true => if i < env.length then unS i (hb c p (env.set i .un) r) else .bad
    | some false => pickH rest c p env r
    | none => .bad
def qTry (g : Sm) (hs : List HdS) : Sm := fun env r => match g env r with
  | .exn c p e r' => pickH hs c p e r'
  | o => o
section
variable {X : Cx} {G : Gm} {W : WX}
/-- clauses compute hs -/
def HG (X : Cx) (G : Gm) (W : WX) (hds : List ExceptHandler) (hs : List HdS) : Prop := ∃ l, HdAs X hds l ∧ ∀ (w0 : Wd) (H0 : Hp) (D : Ends) (c : Nat) (p : T) (env : Env) (r : RS), FlowP G W w0 H0 D (pickH hs c p env r) →
  ∀ w' H' σ' cls d, Step w0 H0 w' H' → Good G w' H' r → Slots G w' H0 H' σ' env → ExcIs G w' H' c p cls d → wMA X.K W D l cls d σ' H'
theorem hg_nil : HG X G W [] [] := ⟨[], .nil, fun w0 H0 D c p env r h => h⟩
/-- the classes that a clause takes -/
structure XmOk (K : PySem.W.Frag) (G : Gm) (u : Value) (m : Nat → Option Bool) : Prop where
  ok : ∀ c cA b, G.mg (G.cn c) = some (.ref cA) → m c = some b → PySem.W.exmOne K (.ref cA) u = some b
theorem unS_gone {w0 : Wd} {H0 : Hp} {D : Ends} {i : Nat} {o : SO} (h : FlowP G W w0 H0 D (unS i o)) : FlowP G W0 w0 H0 (gone i D) o := by
  cases o with
  | nx env r => exact fun w' H' σ' st g s => h w' H' _ st g (s.setUn i)
  | bk env r => exact fun w' H' σ' st g s => h w' H' _ st g (s.setUn i)
  | ct env r => exact fun w' H' σ' st g s => h w' H' _ st g (s.setUn i)
  | rt t r => exact fun w' H' v st g dv => h w' H' v st g dv
  | exn c p e r => exact h.elim
  | bad => exact h.elim
theorem hg_cons {x n : Str} {c : Value} {i : Nat} {b₀ : Stmt} {suite : List Stmt} {np pp : Pos} {hds : List ExceptHandler} {m : Nat → Option Bool} {hb : Nat → T → Sm} {hs : List HdS} (hc : Names X x c) (hi : X.N[i]? = some n) (hl : X.env.kindOf n = some .local) (xm : XmOk X.K G c m)
    (hsu : ∀ (a : Addr) (oe : Obj) (cls : Value) (d : Option Addr) (pn : List (Addr × Obj)), Zc cls d oe → (∃ vs, oe.data = .fields vs) → PSs (X.suite a ((a, oe) :: pn)) (b₀ :: suite) (tHS G a cls d i hb)) (r : HG X G W hds hs) :
    HG X G W (.ExceptHandler (some (.Name x np)) (some n) (b₀ :: suite) pp :: hds) ((m, i, hb) :: hs) := by
  obtain ⟨l, h1, h2⟩ := r
  refine ⟨(c, i, fun a cls d => tHS G a cls d i hb) :: l, .cons hc hi hl hsu h1, fun w0 H0 D k p env r h w' H' σ' cls d st g s ex => ?_⟩
  obtain ⟨cA, dd, v, f, k1, k2, k3⟩ := ex.ex
  have h : FlowP G W w0 H0 D (match m k with
    | some true => if i < env.length then unS i (hb k p (env.set i .un) r) else .bad
    | some false => pickH hs k p env r
    | none => .bad) := h
  cases q : m k with
  | none => rw [q] at h; exact h.elim
  | some b =>
    rw [q] at h
    have hm := xm.ok k cA b k1 q
    rw [← k2] at hm
    refine ⟨b, hm, fun hb1 a na => ?_, fun hb1 => ?_⟩
    · subst hb1
      have h : FlowP G W w0 H0 D (if i < env.length then unS i (hb k p (env.set i .un) r) else .bad) := h
      by_cases hl : i < env.length
      · rw [if_pos hl] at h
        exact ⟨w0, H0, w', env.set i .un, r, k, p, ⟨st, g, s.setUn i⟩, by rw [List.getElem?_set_self (by rw [s.len]; exact hl)], ex.ei g, unS_gone h⟩
      · rw [if_neg hl] at h; exact h.elim
    · subst hb1
      exact h2 w0 H0 D k p env r h w' H' σ' cls d st g s ex
end
/-! ### a lambda handed to a def that tries it -/
/-- a def of n slots that tries what it got, then goes on -/
def heardS (n : Nat) (hs : List HdS) (rest : Sm) (act : M T) : M T := fun r => match qSeq (qTry (fun env r => ofM env (fun _ r => .nx env r) (act r)) hs) rest (List.replicate n .un) r with
  | .nx _ r => .ok .non r
  | .rt t r => .ok t r
  | _ => .bad
abbrev D0 (Q : VK) : Ends := { nx := fun _ H' => Q .non H', rt := Q }
theorem Slots.noneAt {G : Gm} {w : Wd} {H0 H : Hp} {σ : L2.St} (n : Nat) (h : σ.length = n) : Slots G w H0 H σ (List.replicate n .un) :=
  ⟨by rw [h, List.length_replicate], fun _ => 0, fun i s hi => by
    rw [List.eq_of_mem_replicate (List.mem_of_getElem? hi)]; trivial, fun i j s u hi hj ps pu _ => by
    rw [List.eq_of_mem_replicate (List.mem_of_getElem? hi)] at ps; cases ps⟩
/-- what the def that tries makes of the reading of what it got -/
def TTh (G : Gm) (n : Nat) (hs : List HdS) (rest : Sm) : (XK → Hp → VK → Prop) → Hp → VK → Prop := fun tl H Q => ∃ w r, Good G w H r ∧ ∀ (E' : XK) (Q' : VK),
  (∀ cls d H', (∃ w' r' c p, Step w H w' H' ∧ Good G w' H' r' ∧ ExcIs G w' H' c p cls d ∧ FlowP G W0 w H (D0 Q) (match pickH hs c p (List.replicate n .un) r' with | .nx env r => rest env r | o => o)) → E' cls d H') →
  (∀ v H', (∃ w' r', Step w H w' H' ∧ Good G w' H' r' ∧ FlowP G W0 w H (D0 Q) (rest (List.replicate n .un) r')) → Q' v H') → tl E' H Q'
theorem takes_len {X : Cx} {W : WX} (tk : Takes X W) : Takes X (fun cls d σ H => σ.length = X.N.length → W cls d σ H) := fun u s' ⟨a, B, sI, pins, σ, H, cls, d, e, I, nb, up, sky, na, os, ag, w⟩ =>
  tk u s' ⟨a, B, sI, pins, σ, H, cls, d, e, I, nb, up, sky, na, os, ag, w I.len⟩
section
variable {X : Cx} {G : Gm} {Ng : List Str} {x a q : Str} {sg : Scope} {g : Addr} {cdg : Value} {n : Nat} {h₀ : ExceptHandler} {hds : List ExceptHandler} {hs : List HdS} {restB : List Stmt} {rest : Sm} {p1 p2 p3 p4 : Pos}
theorem heard_gives (hn : Ng.length = n) (h1 : 1 ≤ n) (nd : Ng.Nodup)
    (hh : ∀ (A : Around) (outer stk : List PySem.Env) (s : Shared) (H : Hp), HG (cxOf C8.CX0 X.prog X.w X.K X.mg X.base Ng x sg g cdg X.A X.stack s H C8.E0).nox G W0 (h₀ :: hds) hs)
    (hr : ∀ (s : Shared) (H : Hp), SSs (cxOf C8.CX0 X.prog X.w X.K X.mg X.base Ng x sg g cdg X.A X.stack s H C8.E0).nox G W0 restB rest) :
    LamX.GivesTo X Ng x sg g cdg (.Try [.Expr (.Call (.Name a p1) [] [] p2) p3] (h₀ :: hds) [] [] p4 :: restB) a q (TTh G n hs rest) := by
  intro f c' s H Q tl act hc ⟨w, r, gd, ht⟩
  obtain ⟨l, k1, k2⟩ := hh X.A [] [] s H
  refine ⟨_, pss_cons (ps_tryMA (X := (cxOf C8.CX0 X.prog X.w X.K X.mg X.base Ng x sg g cdg X.A X.stack s H C8.E0).nox) (tb := fun W' => fun D σ H => ∃ Ech : XK, (∀ cls d σ' H', Ech cls d H' → σ'.length = Ng.length → W' cls d σ' H') ∧ σ[0]? = some (some (.ref f)) ∧ H c' = some (LamX.CodeO c' q) ∧ tl Ech H fun _ H' => D.nx σ H')
    rfl rfl nd LamX.takes0 (fun W' pn xe tk _ => ?_) k1) (hr s H w H), ?_⟩
  · refine ⟨fun pins s' σ H' D I h' => ?_⟩
    obtain ⟨Ech, hW, e1, e2, e3⟩ := h'
    have hp := act (fun cls d σ' H' => σ'.length = Ng.length → W' cls d σ' H') pn xe Ech p1 p2 (takes_len tk) hW
    exact (pss_one (ps_expr (pos := p3) hp)).run pins s' σ H' D I ⟨e1, e2, e3⟩
  · have st : ∀ f : Addr, (L2.start Ng [V.ref f])[0]? = some (some (V.ref f)) := fun f => by
      unfold L2.start
      rfl
    have sl : ∀ f : Addr, (L2.start Ng [V.ref f]).length = n := fun f => by
      unfold L2.start
      simp
      omega
    refine ⟨fun cls d H' => ∃ w' r' c p, Step w H w' H' ∧ Good G w' H' r' ∧ ExcIs G w' H' c p cls d ∧ FlowP G W0 w H (D0 Q) (match pickH hs c p (List.replicate n .un) r' with | .nx env r => rest env r | o => o), ?_, st f, hc, ht _ _ (fun cls d H' z => z) fun v H' ⟨w', r', s1, g1, hq⟩ => ⟨w', List.replicate n .un, r', ⟨s1, g1, Slots.noneAt n (sl f)⟩, hq⟩⟩
    · rintro cls d σ' H' ⟨w', r', c, p, s1, g1, ex, hq⟩ hl
      refine k2 w H _ c p (List.replicate n .un) r' ?_ w' H' σ' cls d s1 g1 (Slots.noneAt n (hl.trans hn)) ex
      cases o : pickH hs c p (List.replicate n .un) r' with
      | nx env r2 => rw [o] at hq; exact fun w2 H2 σ2 st g s => ⟨w2, env, r2, ⟨st, g, s⟩, hq⟩
      | rt t r2 => rw [o] at hq; exact hq
      | bk e r2 => rw [o] at hq; exact fun w2 H2 σ2 st g s => hq w2 H2 σ2 st g s
      | ct e r2 => rw [o] at hq; exact fun w2 H2 σ2 st g s => hq w2 H2 σ2 st g s
      | exn c2 p2 e r2 => rw [o] at hq; exact hq
      | bad => rw [o] at hq; exact hq
end
section
variable {X : Cx} {G : Gm} {W : WX}
theorem ext_step {w : Wd} {H H1 : Hp} (e : LamX.ExtN H H1) : Step w H w H1 := ⟨Same.refl _, fun a o _ h n => e a o h n, fun a ⟨o, h, n⟩ => ⟨o, e a o h n, n⟩, fun _ _ _ h => h, ⟨[], by simp, by simp⟩, rfl⟩
theorem ext_good {w : Wd} {H H1 : Hp} {r : RS} (g : Good G w H r) (e : LamX.ExtN H H1) (t : LamX.Tabs G.tb H1) : Good G w H1 r := ⟨fun a o h => e a o (g.sub a o h) (g.nt a o h), ⟨g.refs.nd, g.refs.len, g.refs.out, fun k xs hk => by
  obtain ⟨a, vs, h1, h2, h3, h4⟩ := g.refs.at_ k xs hk
  exact ⟨a, vs, h1, e a _ h2 (by intro _ z; cases z), h3, h4⟩⟩, t, g.nt⟩
/-- x(lambda: body), x a def that tries what it got -/
theorem s_lam {Ng : List Str} {x a : Str} {stg : Stmt} {g c P : Addr} {fdg : FuncData} {n k : Nat} {h₀ : ExceptHandler} {hds : List ExceptHandler} {hs : List HdS} {restB : List Stmt} {rest : Sm} {p1 p2 p3 p4 : Pos} {params : Arguments} {body : Expr} {scope : Scope} {f : Env → M T} {p lpos pos : Pos}
    (hK : X.K = G.K) (hM : X.mg = G.mg) (hg : Gl X x) (hm : G.mg x = some (.ref g)) (F : FunD G.K x x (defArgs stg) (defBody stg) (defScope stg) [] [] g fdg) (hb : L2.Binds G.K fdg [a] []) (Sg : FnScope Ng [a] (defScope stg)) (hNg : Ng[0]? = some a) (hva : Vis (defScope stg) a)
    (eb : defBody stg = .Try [.Expr (.Call (.Name a p1) [] [] p2) p3] (h₀ :: hds) [] [] p4 :: restB) (hn : Ng.length = n) (h1 : 1 ≤ n)
    (hh : ∀ (cdg : Value) (s : Shared) (H : Hp), HG (cxOf C8.CX0 X.prog X.w X.K X.mg X.base Ng x (defScope stg) g cdg X.A X.stack s H C8.E0).nox G W0 (h₀ :: hds) hs)
    (hr : ∀ (cdg : Value) (s : Shared) (H : Hp), SSs (cxOf C8.CX0 X.prog X.w X.K X.mg X.base Ng x (defScope stg) g cdg X.A X.stack s H C8.E0).nox G W0 restB rest)
    (TB : LamX.TabB X.base X.mg c P) (hcode : X.env.code = .ref c) (hmT : (P, X.env.qual ++ "<lambda>") ∈ G.tb) (hu : ∀ p ∈ G.tb, p.1 = P → p.2 = X.env.qual ++ "<lambda>") (rm : Room (k + 2) X.A) (L : LamX.LamS X.env.scope scope) (tk : Takes X W)
    (hbody : ∀ (A : Around) (outer : List PySem.Env) (s : Shared) (H : Hp) (E : XK) (f' c' : Addr), Room k (A.deeper (LamX.lamEnv X scope s.heap.objs.size f' c')) → SE (LamX.lamCx X A outer s H E scope f' c') G (WD E) body f)
    (hdef : defaultsOf params X.env = ([], []) := by rfl) (hbind : ∀ (q : Str) (cl : List (Str × Addr)) (pm cv ctv : Value), bindArgs (PySem.W.kla_fn "<lambda>" q params body scope cl pm cv ctv) ⟨[], []⟩ = pure [] := by intros; rfl)
    (hdb : (x == ("__debug__" : Str)) = false := by decide) (hd : (a == ("__debug__" : Str)) = false := by decide) (hcd : (a == ("__classdict__" : Str)) = false := by decide) :
    SE X G W (.Call (.Name x p) [.Lambda params body scope lpos] [] pos) (fun env => heardS n hs rest (f env)) := by
  obtain ⟨oc, od, dV, kV, doc, pm, an, cdg, ct, osl, efd, lk, hcg, _, _⟩ := F.ex
  rw [← hK] at lk hcg
  subst efd
  have hb' : L2.Binds X.K (PySem.W.fnOf x x (defArgs stg) (defBody stg) (defScope stg) dV kV doc pm an cdg ct) [a] [] := by rw [hK]; exact hb
  rw [eb] at lk hb'
  refine pe_imp (LamX.pe_lamcall (T := G.tb) (TT := TTh G n hs rest) (t := fun E => tS G (WD E) f) hg (by rw [hM]; exact hm) (by rw [hK]; exact F.kp) lk hcg hb' Sg hNg hva (heard_gives hn h1 Sg.nd (fun A outer stk s H => hh cdg s H) (fun s H => hr cdg s H)) TB hcode hmT hu rm L hdef hbind
    (fun A outer s H E f' c' hr' => hbody A outer s H E f' c' hr') hdb hd hcd) fun σ H Q ⟨w, H0, env, r, gd, sl, h⟩ => ?_
  refine ⟨gd.tabs, fun H1 eN T1 => ⟨w, r, ext_good gd eN T1, fun E' Q' hE hQ => ⟨w, H0, env, r, ext_good gd eN T1, sl.step (ext_step eN), ?_⟩⟩⟩
  have h2 : OutP G w H1 (WE0 W σ) (fun t _ w' H' => ∀ v, Den G w' v t → Q v H') (heardS n hs rest (f env) r) := h.mono (ext_step (w := w) eN)
  unfold heardS at h2
  -- what ends, as a flow
  have key : ∀ so : SO, OutP G w H1 (WE0 W σ) (fun t _ w' H' => ∀ v, Den G w' v t → Q v H') (match so with | .nx _ r => .ok .non r | .rt t r => .ok t r | _ => .bad) → FlowP G W0 w H1 (D0 Q) so := fun so z => by
    cases so with
    | nx e r2 => exact fun w' H' σ' st g _ => z w' H' st g _ .non
    | rt t r2 => exact fun w' H' v st g d => z w' H' st g v d
    | bk e r2 => exact z.elim
    | ct e r2 => exact z.elim
    | exn c p e r2 => exact z.elim
    | bad => exact z.elim
  have e0 : (fun env' r => ofM env' (fun _ r => SO.nx env' r) (f env r)) (List.replicate n Slot.un) r = ofM (List.replicate n Slot.un) (fun _ r => SO.nx (List.replicate n Slot.un) r) (f env r) := rfl
  cases q : f env r with
  | ok t r1 =>
    have e : qSeq (qTry (fun env' r => ofM env' (fun _ r => .nx env' r) (f env r)) hs) rest (List.replicate n .un) r = rest (List.replicate n .un) r1 := by
      unfold qSeq qTry
      rw [e0, q]
      rfl
    rw [e] at h2
    exact fun w' H' st g' v d => hQ v H' ⟨w', r1, st, g', key _ h2⟩
  | exn c0 p0 r1 =>
    have e : qSeq (qTry (fun env' r => ofM env' (fun _ r => .nx env' r) (f env r)) hs) rest (List.replicate n .un) r = (match pickH hs c0 p0 (List.replicate n .un) r1 with | .nx env r => rest env r | o => o) := by
      unfold qSeq qTry
      rw [e0, q]
      show (match pickH hs c0 p0 (List.replicate n .un) r1 with | .nx env r => rest env r | o => o) = _
      rfl
    rw [e] at h2
    exact fun w' H' cls d st g' x => hE cls d H' ⟨w', r1, c0, p0, st, g', x, key _ h2⟩
  | bad =>
    have e : qSeq (qTry (fun env' r => ofM env' (fun _ r => .nx env' r) (f env r)) hs) rest (List.replicate n .un) r = .bad := by
      unfold qSeq qTry
      rw [e0, q]
      rfl
    rw [e] at h2
    exact h2.elim
end
/-! ### a def that makes lambdas: its code's address -/
def cdOf (K : PySem.W.Frag) (f : Addr) : Value := match K.lookup f with
  | some ⟨_, _, .func fd, _⟩ => fd.code
  | _ => .none
section
variable {P : Program} {wd : World} {base : Heap} {G : Gm} {k : Nat} {x qual : Str} {st : Stmt} {f : Addr} {fd : FuncData} {N ps : List Str} {n m : Nat} {g : Sm} {dv : List V} {kw : List (Str × V)}
theorem fn_runC (F : FunD G.K x qual (defArgs st) (defBody st) (defScope st) dv kw f fd) (S : FnScope N ps (defScope st)) (hps : ps.length = n) (hm : N.length - n = m)
    (hb : ∀ cdv A outer s H E, cdv = cdOf G.K f → Room k (A.deeper (envOfC qual (defScope st) s.heap.objs.size f cdv)) → SSs (cxB P wd G base N qual st f cdv A outer s H E) G (WD E) (defBody st) g) :
    FnOk P wd G.K G.mg base (L2.CX P wd) (k + 1) f fd ps (spF G n (fnS m g)) := by
  have hcd : ∀ cdv, (∃ oc od dV kV doc pm an ct osl, G.K.lookup f = some ⟨oc, od, .func (PySem.W.fnOf x qual (defArgs st) (defBody st) (defScope st) dV kV doc pm an cdv ct), osl⟩) → cdv = cdOf G.K f := fun cdv ⟨oc, od, dV, kV, doc, pm, an, ct, osl, e⟩ => by
    unfold cdOf
    rw [e]
  obtain ⟨oc, od, dV, kV, doc, pm, an, cdv, ct, osl, efd, lk, hc, hD, hK⟩ := F.ex
  subst efd
  have ec := hcd cdv ⟨oc, od, dV, kV, doc, pm, an, ct, osl, lk⟩
  refine fn_of (CX := L2.CX P wd) lk hc S (spF_len hps) fun A outer s H vs Q E hr ⟨w, r, ts, gd, d, l, h⟩ => ?_
  refine ⟨_, hb cdv A outer s H E ec hr w H, w, _, r, ⟨Step.refl _ _, gd, start_slots d m (by rw [d.length, l]; exact hm)⟩, ?_⟩
  have h : OutP G w H E (fun t _ w' H' => ∀ v, Den G w' v t → Q v H') (fnS m g ts r) := h
  unfold fnS at h
  cases o : g (envOf m ts) r with
  | nx env' r' => rw [o] at h; exact fun w' H' σ' st g' _ => h w' H' st g' _ .non
  | rt t r' => rw [o] at h; exact fun w' H' v st g' dv => h w' H' st g' v dv
  | bk e r' => rw [o] at h; exact h.elim
  | ct e r' => rw [o] at h; exact h.elim
  | exn c p e r' => rw [o] at h; exact fun w' H' σ' cls dd st g' _ x => h w' H' cls dd st g' x
  | bad => rw [o] at h; exact h.elim
end
/-! ### the end, with tables -/
end Ep
namespace Ep
open PySem PySem.Spec L2 PyProof.Rows
/-! ### own __contains__; own comparisons with what is no instance; names of several classes -/
def own2c (C : Nat) (F : List T → M T) : T → T → M T := fun x y => own2 C F y x >>= fun z => match z with
  | .bl b => pure (.bl b)
  | _ => M.bad
theorem bool_ne {m : M T} {k : T → M T} (hm : ∀ r c p r', m r ≠ .exn c p r') (hk : ∀ t r c p r', k t r ≠ .exn c p r') (r : RS) (c : Nat) (p : T) (r' : RS) : (m >>= k) r ≠ .exn c p r' := by
  show M.bind m k r ≠ _
  unfold M.bind
  cases o : m r with
  | ok a r2 => exact hk a r2 c p r'
  | exn c' p' r2 => exact absurd o (hm r c' p' r2)
  | bad => simp
theorem own2c_ne {C : Nat} {F : List T → M T} (t u : T) (r : RS) (c : Nat) (p : T) (r' : RS) : own2c C F t u r ≠ .exn c p r' :=
  bool_ne (fun r c p r' => own2_ne u t r c p r') (fun z r c p r' => by cases z <;> simp [M.bad, pure, M.pure]) r c p r'
section
variable {X : Cx} {G : Gm} {W : WX} {pos : Pos} {a b : Expr} {f g : Env → M T} {C j k : Nat} {F : List T → M T} {m : Str}
/-- turned: the instance is the second operand -/
theorem r2_turn {x y : V} {H : Hp} {Q : VK} {kk : T → M T} {kb : Bool → T} (hk : ∀ z r o, kk z r = o → (∀ b, z = .bl b → o = .ok (kb b) r) ∧ ((∀ b, z ≠ .bl b) → o = .bad)) (h : r2own G C (fun x y => own2 C F y x >>= kk) x y H Q) : r2own G C (own2 C F) y x H (fun v H' => ∃ b, v = .bl b ∧ ∀ v', (∀ w, Den G w v' (kb b)) → Q v' H') := by
  obtain ⟨w, r, t, u, g0, d1, d2, h⟩ := h
  refine ⟨w, r, u, t, g0, d2, d1, ?_⟩
  have h : OutP G w H (fun _ _ _ => False) (fun t _ w' H' => ∀ v, Den G w' v t → Q v H') (M.bind (own2 C F u t) kk r) := h
  unfold M.bind at h
  cases o : own2 C F u t r with
  | ok z r2 =>
    rw [o] at h
    have h : OutP G w H (fun _ _ _ => False) (fun t _ w' H' => ∀ v, Den G w' v t → Q v H') (kk z r2) := h
    obtain ⟨h1, h2⟩ := hk z r2 _ rfl
    intro w' H' st g' v d
    cases d with
    | bl b =>
      rw [h1 b rfl] at h
      exact ⟨b, rfl, fun v' dv => h w' H' st g' v' (dv w')⟩
    | _ => rw [h2 (by intro b e; cases e)] at h; exact h.elim
  | exn c p r2 => exact absurd o (own2_ne u t r c p r2)
  | bad => rw [o] at h; exact h.elim
theorem op_ownIn (D : MethOk X.prog X.w X.base G k C "__contains__" 2 [] F) (hK : X.K = G.K) (hM : X.mg = G.mg) (hr : Room j X.A) (hk : k ≤ j) : OpR X (compareOp .In) (r2own G C (own2c C F)) := by
  intro pins s σ H x y v u Q I rx ry h
  have h := r2_turn (kb := fun b => .bl b) (fun z r o e => ⟨fun b eb => by subst eb; exact e.symm, fun n => by cases z <;> first | exact e.symm | exact absurd rfl (n _)⟩) h
  obtain ⟨p, cA, fn, od, rfl, c, J, fi, ff, run⟩ := own_args D hK hM hr hk I ry rx h
  obtain ⟨mm, hF⟩ := I.fr
  refine PySem.W.in_K hF I.ok.mod.kin J fi ff (wpAny_mono (run X.A (hr.mono hk) I.env0) (fun w s' z => ?_) fun _ _ e => e)
  obtain ⟨z', H', I', rz, b, eb, q⟩ := z
  subst eb
  obtain rfl : w = Value.bool b := rz
  exact wpAny_truthy_bool ⟨.bl b, H', I', rfl, q _ fun w => .bl b⟩
theorem s_ownIn (D : MethOk X.prog X.w X.base G k C "__contains__" 2 [] F) (hK : X.K = G.K) (hM : X.mg = G.mg) (hr : Room j X.A) (hk : k ≤ j) (ha : SE X G W a f) (hb : SE X G W b g) (hm : behindInMarks .In b = false) :
    SE X G W (.Compare a [.In] [b] pos) (fun env => f env >>= fun x => g env >>= fun y => own2c C F x y) := pe_imp (pe_cmpR (op_ownIn D hK hM hr hk) ha hb hm) fun σ H Q hq => own_use own2c_ne hq
/-- no class above the builtin one -/
structure PxOk (G : Gm) (C : Nat) : Prop where
  ok : ∀ cA, G.mg (G.cn C) = some (.ref cA) → PySem.W.notFirst G.K cA (.type "str") = true ∧ PySem.W.notFirst G.K cA (.type "int") = true ∧ PySem.W.notFirst G.K cA (.type "bool") = true ∧ PySem.W.notFirst G.K cA (.type "NoneType") = true ∧
    PySem.W.notFirst G.K cA (.type "list") = true ∧ PySem.W.notFirst G.K cA (.type "tuple") = true
end
/-! ### a list taken apart -/
def hTupL (n : Nat) (hs : List T → Env → Option Env) : T → Env → Option Env := fun t env => match t with
  | .tup ts => if ts.length = n then hs ts env else none
  | .lst ts => if ts.length = n then hs ts env else none
  | _ => none
theorem g_lst {X : Cx} {G : Gm} {pos : Pos} {us : List Nat} {es : List Expr} {k n : Nat} {hs : List T → Env → Option Env} (hc : X.calm = true) (hK : X.K = G.K) (h : SGs X G us es hs) (hn : (assignEach es X.env).length = n := by rfl) (hst : (assignEach es X.env).findIdx? (·.1) = none := by rfl) :
    ∀ w0 H0, PG X (.Tuple es k pos) (fun v σ H Q => ∃ w env r t env', At G w0 H0 w H σ env r ∧ Den G w v t ∧ (∃ ts, t = .lst ts ∧ ts.length = n ∧ hs ts env = some env') ∧ ∀ σ', Slots G w H0 H σ' env' → But us σ σ' → Q σ' H) := fun w0 H0 =>
  pg_imp (pg_lst hc (h w0 H0) hn hst) fun v σ H Q ⟨w, env, r, t, env', a, d, ⟨ts, et, hl, e⟩, q⟩ => by
    subst et
    cases d with
    | @lst p vs ts hh z dd =>
      rw [hK]
      exact ⟨p, vs, rfl, SqL.of (a.g.sub _ _ hh), by rw [dd.length]; exact hl, w, env, r, ts, env', a, dd, e, q⟩
/-- a target that takes tuples or lists -/
theorem pg_or {X : Cx} {tg : Expr} {t1 t2 : TG} (h1 : PG X tg t1) (h2 : PG X tg t2) : PG X tg (fun v σ H Q => t1 v σ H Q ∨ t2 v σ H Q) := ⟨fun pins s σ H v u Q I r q => by
  rcases q with q | q
  · exact h1.run pins s σ H v u Q I r q
  · exact h2.run pins s σ H v u Q I r q⟩
theorem g_tl {X : Cx} {G : Gm} {pos : Pos} {us : List Nat} {es : List Expr} {k n : Nat} {hs : List T → Env → Option Env} (hc : X.calm = true) (hK : X.K = G.K) (h : SGs X G us es hs) (hn : (assignEach es X.env).length = n := by rfl) (hst : (assignEach es X.env).findIdx? (·.1) = none := by rfl) : SG X G us (.Tuple es k pos) (hTupL n hs) := fun w0 H0 =>
  pg_imp (pg_or (g_tup (k := k) (pos := pos) hc hK h hn hst w0 H0) (g_lst (k := k) (pos := pos) hc hK h hn hst w0 H0)) fun v σ H Q ⟨w, env, r, t, env', a, d, e, q⟩ => by
    cases t with
    | tup ts => exact .inl ⟨w, env, r, _, env', a, d, e, q⟩
    | lst ts =>
      have e : (if ts.length = n then hs ts env else none) = some env' := e
      by_cases hl : ts.length = n
      · rw [if_pos hl] at e; exact .inr ⟨w, env, r, _, env', a, d, ⟨ts, rfl, hl, e⟩, q⟩
      · rw [if_neg hl] at e; cases e
    | _ => cases e
theorem Bd.tl {X : Cx} {G : Gm} {W : WX} {j : Nat} {pos : Pos} {es : List Expr} (B : Bd X G W j) {us : List Nat} {kk : Nat} {hs : List T → Env → Option Env} (n : Nat) (h : SGs X G us es hs) (hn : (assignEach es X.env).length = n := by rfl) (hst : (assignEach es X.env).findIdx? (·.1) = none := by rfl) : SG X G us (.Tuple es kk pos) (hTupL n hs) := g_tl B.calm B.eK h hn hst
end Ep
namespace Ep
open PySem PySem.Spec L2 PyProof.Rows
/-! ### comprehensions with two clauses -/
/-- a walk by an invariant, for any turn -/
theorem walk_it {J : It} {n : Nat} {Gd : Hp → Prop} {Y : Nat → Hp → V → Hp → Prop} (w : Walk J n Gd Y) {turn : V → Hp → (Hp → Prop) → Prop} {H : Hp} {Qd : Hp → Prop} (Pv : Nat → Hp → Prop) (h0 : Pv 0 H) (hG : ∀ i H, i ≤ n → Pv i H → Gd H)
    (hs : ∀ i x H H', i < n → Pv i H → Y i H x H' → turn x H' (Pv (i + 1))) (hd : ∀ H, Pv n H → Qd H) :
    ∃ W : Nat → Nat → Hp → Prop, (∃ m, W 0 m H) ∧ ∀ i m H, W i m H → (J.stop i H ∧ Qd H) ∨ (J.go i H ∧ ∃ Nx : Hp → Prop, (∀ H', Nx H' → ∃ m', m' < m ∧ W (i + 1) m' H') ∧ ∀ x H', J.yld i H x H' → turn x H' Nx) := by
  refine ⟨fun i m H => m = n - i ∧ i ≤ n ∧ Pv i H, ⟨n, rfl, Nat.zero_le _, h0⟩, ?_⟩
  rintro i m H ⟨rfl, hi, p⟩
  have q := hG i H hi p
  rcases Nat.lt_or_eq_of_le hi with hlt | e
  · exact .inr ⟨w.goes i H hlt q, Pv (i + 1), fun H' p' => ⟨n - (i + 1), by omega, rfl, hlt, p'⟩, fun x H' y => hs i x H H' hlt p (w.yields i H x H' hlt q y)⟩
  · subst e
    exact .inl ⟨w.stops H q, hd H p⟩
/-- the new list at D holds acc -/
structure CS (G : Gm) (D : Addr) (w1 : Wd) (H1 : Hp) (acc : List T) (w' : Wd) (H' : Hp) (r' : RS) : Prop where
  st : Step w1 H1 w' H'
  g : Good G w' H' r'
  hP : w'.P D = none
  hR : D ∉ w'.R
  at_ : ∃ vs, H' D = some (.lst vs) ∧ Dens G w' vs acc
  z : acc.length ≤ sizeLine
theorem CS.step {G : Gm} {D : Addr} {w1 w' w2 : Wd} {H1 H' H2 : Hp} {acc : List T} {r' r2 : RS} (c : CS G D w1 H1 acc w' H' r') (s : Step w' H' w2 H2) (g : Good G w2 H2 r2) : CS G D w1 H1 acc w2 H2 r2 := by
  obtain ⟨vs, h1, h2⟩ := c.at_
  exact ⟨c.st.trans s, g, s.hid D c.hR (vs_of h1) c.hP, s.noR c.hR (vs_of h1), ⟨vs, s.fr D _ c.hR h1 (by intro _ e; cases e), h2.mono s.later⟩, c.z⟩
theorem CS.app {G : Gm} {D : Addr} {w1 w' : Wd} {H1 H' : Hp} {acc : List T} {r' : RS} {v : V} {t : T} (c : CS G D w1 H1 acc w' H' r') (hD : ¬ Vs H1 D) (d : Den G w' v t) (hl : acc.length < sizeLine) : ∃ vs, H' D = some (.lst vs) ∧ vs.length < sizeLine ∧ CS G D w1 H1 (acc ++ [t]) w' (upd H' D (.lst (vs ++ [v]))) r' := by
  obtain ⟨vs, h1, h2⟩ := c.at_
  exact ⟨vs, h1, by rw [h2.length]; exact hl, c.st.chg hD, c.g.priv c.hP c.hR (.inr ⟨_, h1, ⟨fun _ e => (by cases e), fun _ e => (by cases e)⟩⟩), c.hP, c.hR, ⟨_, upd_same, h2.append (.cons d .nil)⟩, by rw [List.length_append, List.length_singleton]; exact hl⟩
/-- without D -/
def wo (H : Hp) (D : Addr) : Hp := fun b => if b = D then none else H b
theorem wo_ne {H : Hp} {D b : Addr} (h : b ≠ D) : wo H D b = H b := if_neg h
theorem wo_of {H : Hp} {D b : Addr} {o : HO} (h : wo H D b = some o) : b ≠ D ∧ H b = some o := by
  by_cases e : b = D
  · unfold wo at h; rw [if_pos e] at h; cases h
  · exact ⟨e, by rw [wo_ne e] at h; exact h⟩
theorem wo_upd {H : Hp} {D : Addr} {o : HO} : wo (upd H D o) D = wo H D := by
  funext b
  by_cases e : b = D
  · unfold wo; rw [if_pos e, if_pos e]
  · rw [wo_ne e, wo_ne e, upd_ne e]
theorem Step.wo {w w' : Wd} {H H' : Hp} {D : Addr} (s : Step w H w' H') : Step w (wo H D) w' (Ep.wo H' D) := ⟨s.pub, fun a o h1 h2 h3 => by
    obtain ⟨e, h⟩ := wo_of h2
    rw [wo_ne e]
    exact s.fr a o h1 h h3, fun a ⟨o, h1, h2⟩ => by
    obtain ⟨e, h⟩ := wo_of h1
    obtain ⟨u, h3, h4⟩ := s.keep a ⟨o, h, h2⟩
    exact ⟨u, by rw [wo_ne e]; exact h3, h4⟩, fun a h1 ⟨o, h2, h3⟩ h4 => s.hid a h1 ⟨o, (wo_of h2).2, h3⟩ h4, by
    obtain ⟨m, e, hm⟩ := s.refs
    exact ⟨m, e, fun a ha ⟨o, h2, h3⟩ => hm a ha ⟨o, (wo_of h2).2, h3⟩⟩, s.me⟩
theorem Slots.wo {G : Gm} {w : Wd} {Hb H : Hp} {σ : L2.St} {env : Env} {D : Addr} (s : Slots G w Hb H σ env) (h : Vs Hb D) (hp : ∀ q, H D ≠ some (LamX.CodeO D q)) : Slots G w Hb (wo H D) σ env := by
  obtain ⟨oa, h1, h2⟩ := s.ex
  refine ⟨s.len, oa, fun i u hi => ?_, h2⟩
  have := h1 i u hi
  cases u with
  | un => trivial
  | fn =>
    obtain ⟨a, c, q, cv, ct, e1, e2, d, n, hc⟩ := this
    exact ⟨a, c, q, cv, ct, e1, e2, d, n, by rw [wo_ne (fun e => hp q (by rw [← e]; exact hc))]; exact hc⟩
  | val t => exact this
  | pv q =>
    obtain ⟨a1, a2, a3, a4, o, a5, a6⟩ := this
    exact ⟨a1, a2, a3, a4, o, by rw [wo_ne (fun e => a4 (by rw [e]; exact h))]; exact a5, a6⟩
theorem Slots.ow {G : Gm} {w : Wd} {Hb H : Hp} {σ : L2.St} {env : Env} {D : Addr} (s : Slots G w Hb (Ep.wo H D) σ env) : Slots G w Hb H σ env := by
  obtain ⟨oa, h1, h2⟩ := s.ex
  refine ⟨s.len, oa, fun i u hi => ?_, h2⟩
  have := h1 i u hi
  cases u with
  | un => trivial
  | fn =>
    obtain ⟨a, c, q, cv, ct, e1, e2, d, n, hc⟩ := this
    exact ⟨a, c, q, cv, ct, e1, e2, d, n, (wo_of hc).2⟩
  | val t => exact this
  | pv q =>
    obtain ⟨a1, a2, a3, a4, o, a5, a6⟩ := this
    exact ⟨a1, a2, a3, a4, o, (wo_of a5).2, a6⟩
open Classical in
/-- another base, in which D is seen -/
theorem Slots.rebaseD {G : Gm} {w : Wd} {H0 H : Hp} {σ : L2.St} {env : Env} {r : RS} {D : Addr} (s : Slots G w H0 (Ep.wo H D) σ env) (g : Good G w H r) (hD : Vs H D) : ∃ Hb, At G w Hb w H σ env r ∧ Vs Hb D := by
  obtain ⟨oa, h1, h2⟩ := s.ex
  let own : Addr → Prop := fun b => ∃ i sl, env[i]? = some sl ∧ Slot.priv sl = true ∧ oa i = b
  have ownD : ¬ own D := fun ⟨i, sl, e1, p1, e2⟩ => by
    have := h1 i sl e1
    cases sl with
    | un => cases p1
    | fn => cases p1
    | val _ => cases p1
    | pv o =>
      obtain ⟨_, _, _, _, o, a5, _⟩ := this
      exact (wo_of a5).1 e2
  let Hb : Hp := fun b => if own b then none else H b
  have b1 : ∀ b, own b → Hb b = none := fun b h => if_pos h
  have b2 : ∀ b, ¬ own b → Hb b = H b := fun b h => if_neg h
  have b3 : ∀ b o, Hb b = some o → H b = some o := fun b o e => by
    by_cases q : own b
    · rw [b1 b q] at e; cases e
    · rw [b2 b q] at e; exact e
  refine ⟨Hb, ⟨⟨Same.refl _, fun b o _ e _ => b3 b o e, fun b ⟨o, e, n⟩ => ⟨o, b3 b o e, n⟩, fun _ _ _ e => e, ⟨[], by simp, by simp⟩, rfl⟩, g, s.len, oa, fun i sl hi => ?_, h2⟩, ?_⟩
  · have := h1 i sl hi
    cases sl with
    | un => trivial
    | fn =>
      obtain ⟨a, c, q, cv, ct, e1, e2, d, n, hc⟩ := this
      exact ⟨a, c, q, cv, ct, e1, e2, d, n, (wo_of hc).2⟩
    | val t => exact this
    | pv q =>
      obtain ⟨a1, a2, a3, a4, o, a5, a6⟩ := this
      exact ⟨a1, a2, a3, nvs (b1 _ ⟨i, _, hi, rfl, rfl⟩), o, (wo_of a5).2, a6⟩
  · obtain ⟨o, e, n⟩ := hD
    exact ⟨o, by rw [b2 D ownD]; exact e, n⟩
section
variable {G : Gm} {w w1 : Wd} {Hb H1 : Hp} {σ : L2.St} {D : Addr} {f : Env → M T} {p : Env → M Bool} {h : T → Env → Option Env} {us vs : List Nat}
/-- the loop of one clause, whatever follows it -/
theorem one_use {E : XK} {β : Type} {P : β → RS → Wd → Hp → Prop} {k : List T → M β} {J : It} {ys acc : List T} {env : Env} {w4 : Wd} {H4 : Hp} {r4 : RS} (hu : ∀ j ∈ us, j ∈ vs) (hD : ¬ Vs H1 D) (it : ItOk G w4 J ys) (cs : CS G D w1 H1 acc w4 H4 r4) (sl : Slots G w4 Hb H4 σ env) (hb : Vs Hb D)
    (ho : OutP G w1 H1 E P ((compF vs h p f ys acc env >>= k) r4)) :
    ∃ W : Nat → Nat → Hp → Prop, (∃ m, W 0 m H4) ∧ ∀ i m H, W i m H → (J.stop i H ∧ ∃ acc' w5 r5, CS G D w1 H1 acc' w5 H r5 ∧ OutP G w1 H1 E P (k acc' r5)) ∨ (J.go i H ∧ ∃ Nx : Hp → Prop, (∀ H', Nx H' → ∃ m', m' < m ∧ W (i + 1) m' H') ∧
      ∀ x H', J.yld i H x H' → tGx G us h x (wipe σ vs) H' fun σ2 H2 => wipe σ2 vs = wipe σ vs ∧ tSB G W0 p σ2 H2 fun b H3 => if b = true then tS G W0 f σ2 H3 fun y H4 => ∃ acc, H4 D = some (.lst acc) ∧ acc.length < sizeLine ∧ Nx (upd H4 D (.lst (acc ++ [y]))) else Nx H3) := by
  obtain ⟨Gd, Y, wk, hG, hY⟩ := it
  refine walk_it wk (turn := fun x H' Nx => tGx G us h x (wipe σ vs) H' fun σ2 H2 => wipe σ2 vs = wipe σ vs ∧ tSB G W0 p σ2 H2 fun b H3 => if b = true then tS G W0 f σ2 H3 fun y H4 => ∃ acc, H4 D = some (.lst acc) ∧ acc.length < sizeLine ∧ Nx (upd H4 D (.lst (acc ++ [y]))) else Nx H3)
    (fun i H' => ∃ acc' w' r', CS G D w1 H1 acc' w' H' r' ∧ Step w4 (wo H4 D) w' (wo H' D) ∧ OutP G w1 H1 E P ((compF vs h p f (ys.drop i) acc' env >>= k) r')) ⟨acc, w4, r4, cs, Step.refl _ _, ho⟩ (fun i H' _ ⟨acc', w', r', c, s, _⟩ => hG w' H' r' s.later c.g) ?_ ?_
  · rintro i x H2 H3 hlt ⟨acc', w', r', c, s, ho⟩ y
    obtain ⟨t, w2, ht, st2, g2, dx⟩ := hY i H2 x H3 w' r' s.later c.g hlt y
    have c2 := c.step st2 g2
    have s2 := s.trans st2.wo
    have sl2 := (((sl.wo hb (fun q e => by
      obtain ⟨us, e2, _⟩ := cs.at_
      rw [e2] at e
      cases e)).step s2).ow).wiped vs
    obtain ⟨Hc, aB, _⟩ := sl2.rebase g2
    have ed : ys.drop i = t :: ys.drop (i + 1) := by
      rw [List.drop_eq_getElem_cons hlt]
      rw [List.getElem?_eq_getElem hlt] at ht
      cases ht
      rfl
    rw [ed] at ho
    have ho : OutP G w1 H1 E P (M.bind (compF vs h p f (t :: ys.drop (i + 1)) acc' env) k r') := ho
    unfold compF at ho
    cases q : h t (wipeE env vs) with
    | none => rw [q] at ho; exact ho.elim
    | some env1 =>
      rw [q] at ho
      have ho : OutP G w1 H1 E P (M.bind (noEx (p env1) >>= fun b => if b = true then noEx (f env1) >>= fun y => if acc'.length < sizeLine then compF vs h p f (ys.drop (i + 1)) (acc' ++ [y]) env else M.bad else compF vs h p f (ys.drop (i + 1)) acc' env) k r') := ho
      rw [show ∀ (m : M Bool) (kk : Bool → M (List T)), M.bind (m >>= kk) k r' = (m >>= fun b => kk b >>= k) r' from fun m kk => by
        show M.bind (M.bind m kk) k r' = M.bind m (fun b => M.bind (kk b) k) r'
        unfold M.bind
        cases m r' <;> rfl] at ho
      refine ⟨w2, Hc, w2, _, r', t, env1, aB, dx, q, fun σ2 sl b => ⟨wipe_but b hu, ?_⟩⟩
      refine ⟨w2, Hc, env1, r', g2, sl, (noEx_use ho).imp fun b r3 w3 H5 st3 g3 ho => ?_⟩
      have c3 := c2.step st3 g3
      have s3 := s2.trans st3.wo
      cases b with
      | false => exact ⟨acc', w3, r3, c3, s3, ho⟩
      | true =>
        have ho : OutP G w1 H1 E P (M.bind (noEx (f env1) >>= fun y => if acc'.length < sizeLine then compF vs h p f (ys.drop (i + 1)) (acc' ++ [y]) env else M.bad) k r3) := ho
        rw [show ∀ (m : M T) (kk : T → M (List T)), M.bind (m >>= kk) k r3 = (m >>= fun b => kk b >>= k) r3 from fun m kk => by
          show M.bind (M.bind m kk) k r3 = M.bind m (fun b => M.bind (kk b) k) r3
          unfold M.bind
          cases m r3 <;> rfl] at ho
        refine ⟨w3, Hc, env1, r3, g3, sl.step st3, (noEx_use ho).imp fun z r6 w6 H6 st6 g6 ho v dv => ?_⟩
        have c6 := c3.step st6 g6
        have s6 := s3.trans st6.wo
        by_cases hl : acc'.length < sizeLine
        · rw [if_pos hl] at ho
          obtain ⟨vs', e1, e2, c7⟩ := c6.app hD dv hl
          exact ⟨vs', e1, e2, acc' ++ [z], w6, r6, c7, by rw [wo_upd]; exact s6, ho⟩
        · rw [if_neg hl] at ho
          exact ho.elim
  · rintro H2 ⟨acc', w', r', c, s, ho⟩
    rw [List.drop_length] at ho
    exact ⟨acc', w', r', c, ho⟩
/-- two clauses -/
def comp2F (vs vs1 : List Nat) (h : T → Env → Option Env) (p : Env → M Bool) (fi1 : Env → M (List T)) (h1 : T → Env → Option Env) (p1 : Env → M Bool) (f : Env → M T) : List T → List T → Env → M (List T)
  | [], acc, _ => pure acc
  | x :: xs, acc, env => match h x (wipeE env vs) with
    | none => M.bad
    | some env1 => noEx (p env1) >>= fun b => if b = true then noEx (fi1 env1) >>= fun ys => compF vs1 h1 p1 f ys acc env1 >>= fun acc' => comp2F vs vs1 h p fi1 h1 p1 f xs acc' env else comp2F vs vs1 h p fi1 h1 p1 f xs acc env
def fComp2 (vs vs1 : List Nat) (h : T → Env → Option Env) (p : Env → M Bool) (fi1 : Env → M (List T)) (h1 : T → Env → Option Env) (p1 : Env → M Bool) (f : Env → M T) (fi : Env → M (List T)) : Env → M (List T) := fun env => fi env >>= fun xs => comp2F vs vs1 h p fi1 h1 p1 f xs [] env
theorem comp2_use {W : WX} {us1 vs1 : List Nat} {h1 : T → Env → Option Env} {p1 : Env → M Bool} {fi fi1 : Env → M (List T)} {H : Hp} {Q : VK} (hu : ∀ j ∈ us, j ∈ vs) (hu1 : ∀ j ∈ us1, j ∈ vs1) (hq : tSL G W (fComp2 vs vs1 h p fi1 h1 p1 f fi) σ H Q) :
    tLc2 (tSI G W fi) (tGx G us h) (tSB G W0 p) (tSI G W0 fi1) (tGx G us1 h1) (tSB G W0 p1) (tS G W0 f) vs vs1 σ H Q := by
  obtain ⟨w, H0, env, r, g, s, hq⟩ := hq
  refine seqI g s hq fun xs r1 w1 H1 J g1 s1 st1 it ho0 => ?_
  intro D hD
  obtain ⟨Gd, Y, wk, hG, hY⟩ := it
  have hD0 : ¬ Vs H D := st1.before hD
  have stD : Step w1 H1 w1 (upd H1 D (.lst [])) := (Step.refl w1 H1).priv hD
  refine walk_it wk (turn := fun x H' Nx => tGx G us h x (wipe σ vs) H' fun σ2 H2 => wipe σ2 vs = wipe σ vs ∧ tSB G W0 p σ2 H2 fun b H3 =>
    if b = true then tSI G W0 fi1 σ2 H3 fun J1 H4 => ∃ W1 : Nat → Nat → Hp → Prop, (∃ m, W1 0 m H4) ∧ ∀ j k H, W1 j k H →
      (J1.stop j H ∧ Nx H) ∨ (J1.go j H ∧ ∃ Nx1 : Hp → Prop, (∀ H', Nx1 H' → ∃ k', k' < k ∧ W1 (j + 1) k' H') ∧ ∀ x H', J1.yld j H x H' → tGx G us1 h1 x (wipe σ2 vs1) H' fun σ3 H5 => wipe σ3 vs1 = wipe σ2 vs1 ∧ tSB G W0 p1 σ3 H5 fun b H6 =>
        if b = true then tS G W0 f σ3 H6 fun y H7 => ∃ acc, H7 D = some (.lst acc) ∧ acc.length < sizeLine ∧ Nx1 (upd H7 D (.lst (acc ++ [y]))) else Nx1 H6)
    else Nx H3)
    (fun i H' => ∃ acc' w' r', CS G D w1 H1 acc' w' H' r' ∧ OutP G w1 H1 (WE0 W σ) (fun xs _ w' H' => ∀ p vs, ¬ Vs H p → w'.P p = none → p ∉ w'.R → H' p = some (.lst vs) → Dens G w' vs xs → xs.length ≤ sizeLine → Q (.ref p) H') (comp2F vs vs1 h p fi1 h1 p1 f (xs.drop i) acc' env r'))
    ⟨[], w1, r1, ⟨stD, g1.priv (g1.nopub hD) (g1.noref hD) (.inl hD), g1.nopub hD, g1.noref hD, ⟨[], upd_same, .nil⟩, Nat.zero_le _⟩, ho0⟩ (fun i H' _ ⟨acc', w', r', c, _⟩ => hG w' H' r' c.st.later c.g) ?_ ?_
  · rintro i x H2 H3 hlt ⟨acc', w', r', c, ho⟩ y
    obtain ⟨t, w2, ht, st2, g2, dx⟩ := hY i H2 x H3 w' r' c.st.later c.g hlt y
    have c2 := c.step st2 g2
    have eD : wo H1 D = H1 := by
      funext b
      by_cases e : b = D
      · unfold wo; rw [if_pos e, e, hD]
      · exact wo_ne e
    have sl2 := (Slots.step (by rw [eD]; exact s1) c2.st.wo).wiped vs
    obtain ⟨vs0, e0, _⟩ := c2.at_
    obtain ⟨Hc, aB, hVc⟩ := sl2.rebaseD g2 (vs_of e0)
    have ed : xs.drop i = t :: xs.drop (i + 1) := by
      rw [List.drop_eq_getElem_cons hlt]
      rw [List.getElem?_eq_getElem hlt] at ht
      cases ht
      rfl
    rw [ed] at ho
    unfold comp2F at ho
    cases q : h t (wipeE env vs) with
    | none => rw [q] at ho; exact ho.elim
    | some env1 =>
      rw [q] at ho
      refine ⟨w2, Hc, w2, _, r', t, env1, aB, dx, q, fun σ2 sl b => ⟨wipe_but b hu, ?_⟩⟩
      refine ⟨w2, Hc, env1, r', g2, sl, (noEx_use ho).imp fun b r3 w3 H5 st3 g3 ho => ?_⟩
      have c3 := c2.step st3 g3
      cases b with
      | false => exact ⟨acc', w3, r3, c3, ho⟩
      | true =>
        refine ⟨w3, Hc, env1, r3, g3, sl.step st3, (noEx_use ho).imp fun ys r6 w6 H6 st6 g6 ho J1 it1 => ?_⟩
        have c6 := c3.step st6 g6
        obtain ⟨W1, k1, k2⟩ := one_use hu1 (nvs hD) it1 c6 ((sl.step st3).step st6) hVc ho
        exact ⟨W1, k1, fun j m H z => (k2 j m H z).imp_left fun ⟨z1, acc2, w5, r5, z2, z3⟩ => ⟨z1, acc2, w5, r5, z2, z3⟩⟩
  · rintro H2 ⟨acc', w', r', c, ho⟩
    rw [List.drop_length] at ho
    obtain ⟨vs', e1, e2⟩ := c.at_
    exact ho w' H2 c.st c.g D vs' hD0 c.hP c.hR e1 e2 c.z
theorem l_comp2 {X : Cx} {W : WX} {us us1 : List Nat} {h1 : T → Env → Option Env} {p1 : Env → M Bool} {fi fi1 : Env → M (List T)} {elt tg iter tg1 iter1 : Expr} {ifs ifs1 : List Expr} {scope : Scope} {own own1 : List (Str × Nat)} {pos : Pos} (hc : X.calm = true) (hN : X.N.Nodup) (hi : SI X G W tg iter fi) (ok : BlkOk X.N X.env.scope scope own) (hu : ∀ j ∈ us, j ∈ own.map (·.2)) (hu1 : ∀ j ∈ us1, j ∈ own1.map (·.2)) (hv : ∀ j ∈ own1.map (·.2), j ∈ own.map (·.2))
    (hg : ∀ (s : Shared) (H : Hp) (C : Addr) (cl : List (Str × Addr)) (fp : List Addr), SG (X.blk s H scope (compEnvC scope cl C X.env) fp) G us tg h) (ht : ∀ (s : Shared) (H : Hp) (C : Addr) (cl : List (Str × Addr)) (fp : List Addr), STs (X.blk s H scope (compEnvC scope cl C X.env) fp) G ifs p)
    (hi1 : ∀ (s : Shared) (H : Hp) (C : Addr) (cl : List (Str × Addr)) (fp : List Addr), SI (X.blk s H scope (compEnvC scope cl C X.env) fp) G W0 tg1 iter1 fi1)
    (hg1 : ∀ (s : Shared) (H : Hp) (C : Addr) (cl : List (Str × Addr)) (fp : List Addr), SG (X.blk s H scope (compEnvC scope cl C X.env) fp) G us1 tg1 h1) (ht1 : ∀ (s : Shared) (H : Hp) (C : Addr) (cl : List (Str × Addr)) (fp : List Addr), STs (X.blk s H scope (compEnvC scope cl C X.env) fp) G ifs1 p1)
    (he : ∀ (s : Shared) (H : Hp) (C : Addr) (cl : List (Str × Addr)) (fp : List Addr), SE (X.blk s H scope (compEnvC scope cl C X.env) fp) G W0 elt f) (hs : ∀ x, foldedSetIterable iter X.env x = pure x := by intro _; rfl) (hs1 : ∀ env x, foldedSetIterable iter1 env x = pure x := by intro _ _; rfl) :
    SL X G W (.ListComp elt [⟨tg, iter, ifs, 0⟩, ⟨tg1, iter1, ifs1, 0⟩] scope pos) (fComp2 (own.map (·.2)) (own1.map (·.2)) h p fi1 h1 p1 f fi) :=
  pe_imp (pe_lc2 hc hN hi ok hv (fun s H C cl fp => pg_x (hg s H C cl fp)) ht hi1 (fun s H C cl fp => pg_x (hg1 s H C cl fp)) ht1 he hs hs1) fun σ H Q q => comp2_use hu hu1 q
theorem Bd.comp2 {X : Cx} {W : WX} {jj : Nat} (B : Bd X G W jj) {us us1 : List Nat} {h1 : T → Env → Option Env} {p1 : Env → M Bool} {fi fi1 : Env → M (List T)} {elt tg iter tg1 iter1 : Expr} {ifs ifs1 : List Expr} {scope : Scope} {pos : Pos} (own own1 : List (Str × Nat)) (hi : SI X G W tg iter fi)
    (hg : ∀ (s : Shared) (H : Hp) (C : Addr) (cl : List (Str × Addr)) (fp : List Addr), SG (X.blk s H scope (compEnvC scope cl C X.env) fp) G us tg h) (ht : ∀ (s : Shared) (H : Hp) (C : Addr) (cl : List (Str × Addr)) (fp : List Addr), STs (X.blk s H scope (compEnvC scope cl C X.env) fp) G ifs p)
    (hi1 : ∀ (s : Shared) (H : Hp) (C : Addr) (cl : List (Str × Addr)) (fp : List Addr), SI (X.blk s H scope (compEnvC scope cl C X.env) fp) G W0 tg1 iter1 fi1)
    (hg1 : ∀ (s : Shared) (H : Hp) (C : Addr) (cl : List (Str × Addr)) (fp : List Addr), SG (X.blk s H scope (compEnvC scope cl C X.env) fp) G us1 tg1 h1) (ht1 : ∀ (s : Shared) (H : Hp) (C : Addr) (cl : List (Str × Addr)) (fp : List Addr), STs (X.blk s H scope (compEnvC scope cl C X.env) fp) G ifs1 p1)
    (he : ∀ (s : Shared) (H : Hp) (C : Addr) (cl : List (Str × Addr)) (fp : List Addr), SE (X.blk s H scope (compEnvC scope cl C X.env) fp) G W0 elt f) (ok : blkC X.N X.env.scope scope own = true := by kernel_rfl) (hu : ∀ j ∈ us, j ∈ own.map (·.2) := by decide) (hu1 : ∀ j ∈ us1, j ∈ own1.map (·.2) := by decide) (hv : ∀ j ∈ own1.map (·.2), j ∈ own.map (·.2) := by decide) (hs : ∀ x, foldedSetIterable iter X.env x = pure x := by intro _; rfl) (hs1 : ∀ env x, foldedSetIterable iter1 env x = pure x := by intro _ _; rfl) :
    SL X G W (.ListComp elt [⟨tg, iter, ifs, 0⟩, ⟨tg1, iter1, ifs1, 0⟩] scope pos) (fComp2 (own.map (·.2)) (own1.map (·.2)) h p fi1 h1 p1 f fi) := l_comp2 B.calm B.nd hi (blkOk_by ok) hu hu1 hv hg ht hi1 hg1 ht1 he hs hs1
end
end Ep
namespace Ep
open PySem PySem.Spec L2 PyProof.Rows He
/-! ### what the head tells of own exceptions -/
abbrev SupW : Type := Option (Str × Str × Arguments × FuncBody × Scope × Addr × Addr)
def supW (K : PySem.W.Frag) (f : Addr) : SupW := match K.lookup f with
  | some ⟨_, _, .func fd, _⟩ => some (fd.name, fd.qualname, fd.params, fd.body, fd.scope, fd.globals, fd.builtins)
  | _ => none
def supV (qn : Str) (st : Stmt) : SupW := some ("__init__", qn, defArgs st, .stmts (defBody st), defScope st, mainGlobals, builtinsNs)
/-- the class at C is written below b: its order of classes begins with itself, the built-in's follow; its maker is b's; its instances have a dict -/
def excCdB (b : SupX.XB) (C : Addr) (cd : ClassData) : Bool := cd.hasDict && (!cd.hasDel && (cd.mro.head? == some (.ref C) && PySem.W.excTail b.tl cd.mro.tail))
def excSlB (b : SupX.XB) (sl : List (Option Value)) : Bool := sl.length == 6 && sl[4]? == some (some (.builtin b.nw))
def excClsB (b : SupX.XB) (K : PySem.W.Frag) (C : Addr) : Bool := match K.lookup C with
  | some o => match o.cls, o.data with
    | .type n, .cls cd => n == "type" && (excSlB b o.slots.toList && excCdB b C cd)
    | _, _ => false
  | none => false
theorem excSlB_ok {b : SupX.XB} : ∀ {sl : Array (Option Value)}, excSlB b sl.toList = true → ∃ k0 k1 k2 k3 k5, sl = #[k0, k1, k2, k3, some (.builtin b.nw), k5]
  | ⟨l⟩, q => by
    obtain ⟨six, fifth⟩ := Bool.and_eq_true_iff.mp q
    match l, six, fifth with
    | [k0, k1, k2, k3, k4, k5], _, fifth => exact ⟨k0, k1, k2, k3, k5, by rw [Option.some.inj (eq_of_beq fifth)]⟩
theorem excCdB_ok {b : SupX.XB} {C : Addr} : ∀ {cd : ClassData}, excCdB b C cd = true → ∃ nm bs bm N qq sn sub ab col, cd = ⟨nm, bs, .ref C :: bm, N, qq, true, sn, sub, ab, col, false⟩ ∧ PySem.W.excTail b.tl bm = true
  | ⟨_, _, _, _, _, false, _, _, _, _, _⟩, q => absurd q Bool.false_ne_true
  | ⟨_, _, _, _, _, true, _, _, _, _, true⟩, q => absurd q Bool.false_ne_true
  | ⟨_, _, [], _, _, true, _, _, _, _, false⟩, q => absurd q Bool.false_ne_true
  | ⟨nm, bs, own :: bm, N, qq, true, sn, sub, ab, col, false⟩, q => by
    obtain ⟨first, tail⟩ := Bool.and_eq_true_iff.mp (show ((some own == some (Value.ref C)) && PySem.W.excTail b.tl bm) = true from q)
    cases Option.some.inj (eq_of_beq first)
    exact ⟨nm, bs, bm, N, qq, sn, sub, ab, col, rfl, tail⟩
theorem excClsB_ok {b : SupX.XB} {K : PySem.W.Frag} {C : Addr} (q : excClsB b K C = true) : ∃ nm qq N bs bm sn sub ab col dd k0 k1 k2 k3 k5, K.lookup C = some (excClassObj nm qq C N bs bm true sn sub ab col dd k0 k1 k2 k3 k5 b.nw) ∧ PySem.W.excTail b.tl bm = true := by
  unfold excClsB at q
  cases look : K.lookup C with
  | none => rw [look] at q; exact absurd q Bool.false_ne_true
  | some o =>
    rw [look] at q
    obtain ⟨ty, dd, dat, sl⟩ := o
    dsimp only at q
    split at q
    · obtain ⟨isT, q⟩ := Bool.and_eq_true_iff.mp q
      obtain ⟨six, q⟩ := Bool.and_eq_true_iff.mp q
      obtain ⟨k0, k1, k2, k3, k5, es⟩ := excSlB_ok six
      obtain ⟨nm, bs, bm, N, qq, sn, sub, ab, col, ec, tail⟩ := excCdB_ok q
      cases eq_of_beq isT
      cases es
      cases ec
      exact ⟨nm, qq, N, bs, bm, sn, sub, ab, col, dd, k0, k1, k2, k3, k5, rfl, tail⟩
    · exact absurd q Bool.false_ne_true
/-- the parts of __init__ that differ from program to program -/
def supFn (P : Program) (K : PySem.W.Frag) (C f : Addr) (qn : Str) : Bool := match K.lookup f with
  | some ⟨_, _, .func fd, _⟩ => decide (fd.defaults = .none) && (decide (fd.kwdefaults = .none) && (PySem.W.codeIn K fd.code qn && ((match fd.closure with
    | [(x, cc)] => decide (x = "__class__") && (match K.lookup cc with
      | some ⟨_, _, .cell (some (.ref D)), _⟩ => D == C
      | _ => false)
    | _ => false) && (match fd.code with
    | .ref cda => (match K.lookup cda with
      | some ⟨_, _, .fields vs, _⟩ => (match (vs[2]? : Option Value) with
        | some (Value.str file _) => (P.main.file : Str) == file
        | _ => false)
      | _ => false)
    | _ => false))))
  | _ => false
def supL (b : SupX.XB) (P : Program) (K : PySem.W.Frag) (C : Addr) (qn f : Str) : List Bool := [excClsB b K C, eqO (PySem.W.findIn K (.ref C) "__setattr__") (some (some (.builtin "object.__setattr__"))), eqO (PySem.W.findIn K (.ref C) f) (some none), eqO (PySem.W.findIn K (.ref C) "__init__") (some (some (.ref (ma K C "__init__")))),
  decide (PySem.W.typeIn K (.ref (ma K C "__init__")) = some (.type "function")), PySem.W.keepIn K (.ref C), decide (PySem.W.subIn K (.ref C) (.type "BaseException") = some true), decide (PySem.W.subIn K (.ref C) (.type b.B) = some true), decide (PySem.W.typeIn K (.ref C) = some (.type "type")),
  eqO (PySem.W.ks_superIn K C C "__init__") (some (some (.builtin b.ini))), decide (PySem.W.mroIn K C (.ref C) = some true), eqO (PySem.W.nsIn K mainGlobals "super") (some none), eqO (PySem.W.nsIn K cStatics "thirdparty.any") (some none), supFn P K C (ma K C "__init__") qn]
theorem all_at {l : List Bool} (h : l.all id = true) (i : Nat) {b : Bool} (e : l[i]? = some b) : b = true := List.all_eq_true.mp h b (List.mem_of_getElem? e)
/-- the text of such an __init__ -/
structure SupT (f : Str) (st : Stmt) : Prop where
  ar : ∃ p1 p2, defArgs st = SupX.iA f p1 p2
  sc : defScope st = SupX.iS f
  bd : ∃ a1 a2 a3 a4 a5 a6 q1 q2 q3 q4, defBody st = SupX.iB f a1 a2 a3 a4 a5 a6 q1 q2 q3 q4 ∧ ∀ (qn : Str) (L fI cc : Addr) (cdv : Value), ∃ pl : Sem Bool, eval (.Call (.Attribute (.Call (.Name "super" a1) [] [] a2) "__init__" a3) [.Name f a4] [] a5) (PySem.W.ksEnv qn (SupX.iS f) L fI cdv cc) = (do
      let ov ← attributeBase (.Call (.Name "super" a1) [] [] a2) "__init__" (PySem.W.ksEnv qn (SupX.iS f) L fI cdv cc) (eval (.Call (.Name "super" a1) [] [] a2) (PySem.W.ksEnv qn (SupX.iS f) L fI cdv cc))
      standAt a3.atName
      let (g, first) ← holding [ov] (getMethod ov "__init__" pl)
      callWith a5 g first (backTo a5 (starEach [.Name f a4] (PySem.W.ksEnv qn (SupX.iS f) L fI cdv cc))) [])
theorem txt_of {P : Program} {K : PySem.W.Frag} {mg : Str → Option Value} {qn f : Str} {C : Addr} {st : Stmt} (e : supW K (ma K C "__init__") = supV qn st) {xb : SupX.XB} (ok : xb.Ok) (b : (supL xb P K C qn f).all id = true) (t : SupT f st) : SupX.Txt P K mg qn f C (ma K C "__init__") := by
  have rest := all_at b 13 rfl
  refine ⟨⟨xb, ok, of_decide_eq_true (all_at b 7 rfl), eqO_ok (all_at b 9 rfl), excClsB_ok (all_at b 0 rfl)⟩, eqO_ok (all_at b 1 rfl), eqO_ok (all_at b 2 rfl), eqO_ok (all_at b 3 rfl), of_decide_eq_true (all_at b 4 rfl), all_at b 5 rfl, of_decide_eq_true (all_at b 6 rfl), of_decide_eq_true (all_at b 8 rfl),
    of_decide_eq_true (all_at b 10 rfl), eqO_ok (all_at b 11 rfl), eqO_ok (all_at b 12 rfl), ?_⟩
  unfold supW supV at e
  unfold supFn at rest
  cases look : K.lookup (ma K C "__init__") with
  | none => rw [look] at e; cases e
  | some o =>
    obtain ⟨oc, od, dat, osl⟩ := o
    rw [look] at e rest
    cases dat with
    | func fd =>
      obtain ⟨nm, qual, par, body, sc, glb, clo, dfl, kwd, doc, pm, an, code, ct, blt⟩ := fd
      have said : (nm, qual, par, body, sc, glb, blt) = (PySem.Str.ofString "__init__", qn, defArgs st, FuncBody.stmts (defBody st), defScope st, mainGlobals, builtinsNs) := Option.some.inj e
      clear e
      cases said
      obtain ⟨noD, rest⟩ := ba rest
      obtain ⟨noK, rest⟩ := ba rest
      obtain ⟨code_ok, rest⟩ := ba rest
      obtain ⟨cell_ok, file_ok⟩ := ba rest
      obtain rfl : dfl = .none := of_decide_eq_true noD
      obtain rfl : kwd = .none := of_decide_eq_true noK
      obtain ⟨p1, p2, ea⟩ := t.ar
      obtain ⟨a1, a2, a3, a4, a5, a6, q1, q2, q3, q4, eb, hev⟩ := t.bd
      have es := t.sc
      split at cell_ok
      · rename_i x cc ecl
        obtain ⟨isCls, cell_ok⟩ := ba cell_ok
        obtain rfl : x = "__class__" := of_decide_eq_true isCls
        dsimp only at ecl
        subst ecl
        split at cell_ok
        · rename_i u1 u2 D u3 lcc
          obtain rfl : D = C := by simpa using cell_ok
          split at file_ok
          · rename_i cda ecd
            dsimp only at ecd
            subst ecd
            split at file_ok
            · rename_i w1 w2 vs w3 lcd
              split at file_ok
              · rename_i file tf hvs
                exact ⟨oc, od, doc, pm, an, cda, ct, osl, p1, p2, a1, a2, a3, a4, a5, a6, q1, q2, q3, q4, cc, _, _, _, _, _, vs, _, file, tf, (by rw [ea, eb, es]), code_ok, lcc, lcd, hvs, file_ok, fun L => hev _ L _ cc _⟩
              · cases file_ok
            · cases file_ok
          · cases file_ok
        · cases cell_ok
      · cases cell_ok
    | _ => cases e
theorem xc_of {P : Program} {G : Gm} {c : Nat} {f qn : Str} {st : Stmt} {C : Addr} (fl : G.fl c = [f]) (hc : G.mg (G.cn c) = some (.ref C)) (e : supW G.K (ma G.K C "__init__") = supV qn st) {xb : SupX.XB} (ok : xb.Ok) (b : (supL xb P G.K C qn f).all id = true) (t : SupT f st) (y : SupX.FOk P f) : XcOk P G c f := ⟨fl, ⟨qn, C, _, hc, txt_of e ok b t⟩, y⟩
/-- reading a field -/
def xgL (K : PySem.W.Frag) (C : Addr) (f : Str) : List Bool := [eqO (PySem.W.findIn K (.ref C) "__getattribute__") (some (some (.builtin "BaseException.__getattribute__"))), eqO (PySem.W.findIn K (.ref C) "__getattr__") (some none), decide (PySem.W.subIn K (.ref C) (.type "BaseException") = some true), PySem.W.hasDictIn K C, eqO (PySem.W.findIn K (.ref C) f) (some none)]
theorem xg_of {G : Gm} {c : Nat} {f : Str} {C : Addr} (fl : G.fl c = [f]) (hc : ∀ cA, G.mg (G.cn c) = some (.ref cA) → cA = C) (b : (xgL G.K C f).all id = true) : XgOk G c f := ⟨fl, fun cA h => by
  have := hc cA h
  subst this
  exact ⟨eqO_ok (all_at b 0 rfl), eqO_ok (all_at b 1 rfl), of_decide_eq_true (all_at b 2 rfl), all_at b 3 rfl, eqO_ok (all_at b 4 rfl)⟩⟩
/-- a clause -/
def xmB (K : PySem.W.Frag) (cn : Nat → Str) (x : Str) (rows : List (Nat × Bool)) : Bool := rows.all fun p => decide (PySem.W.exmOne K (.ref (ga K (cn p.1))) (.ref (ga K x)) = some p.2)
def xmF (rows : List (Nat × Bool)) (c : Nat) : Option Bool := rows.lookup c
theorem mem_lk {α β : Type} [BEq α] [LawfulBEq α] : ∀ {l : List (α × β)} {a : α} {b : β}, l.lookup a = some b → (a, b) ∈ l
  | [], _, _, h => by cases h
  | (x, y) :: r, a, b, h => by
    rw [List.lookup_cons] at h
    cases e : a == x with
    | true => rw [e] at h; cases h; rw [eq_of_beq e]; exact List.mem_cons_self
    | false => rw [e] at h; exact List.mem_cons_of_mem _ (mem_lk h)
theorem xm_of {K : PySem.W.Frag} {G : Gm} {x : Str} {rows : List (Nat × Bool)} (hc : ∀ c cA, G.mg (G.cn c) = some (.ref cA) → cA = ga K (G.cn c)) (b : xmB K G.cn x rows = true) : XmOk K G (.ref (ga K x)) (xmF rows) := ⟨fun c cA z h e => by
  have := hc c cA h
  subst this
  exact of_decide_eq_true (List.all_eq_true.mp b (c, z) (mem_lk e))⟩
/-! ### tables of code -/
def tabW (K : PySem.W.Frag) (x : Str) : Addr × Addr := (PySem.W.tabIn K x).getD (0, 0)
def tabC (K : PySem.W.Frag) (x : Str) : Bool := decide (PySem.W.tabIn K x = some (tabW K x)) && (decide (K.lookup (tabW K x).2 = none) && decide (cdOf K (ga K x) = .ref (tabW K x).1))
end Ep
namespace Ep
open PySem PySem.Spec L2 PyProof.Rows He
/-! ### words for the generator -/
theorem Bd.tr {X : Cx} {G : Gm} {W W' : WX} {j : Nat} {pn : List (Addr × Obj)} {xe : Value → Shared → Prop} (B : Bd X G W j) (tk : Takes (X.tr pn xe) W') : Bd (X.tr pn xe) G W' j := ⟨B.eK, B.eM, tk, B.rm, B.nd, B.calm⟩
theorem bd_lam {X : Cx} {G : Gm} {A : Around} {outer : List PySem.Env} {s : Shared} {H : Hp} {E : XK} {scope : Scope} {f c : Addr} {j : Nat} (nd : X.N.Nodup) (eK : X.K = G.K) (eM : X.mg = G.mg) (hr : Room j (A.deeper (LamX.lamEnv X scope s.heap.objs.size f c))) : Bd (LamX.lamCx X A outer s H E scope f c) G (WD E) j :=
  ⟨eK, eM, takes_of rfl rfl rfl rfl, hr, nd, rfl⟩
theorem tb_un {tb : List (Addr × Str)} {P : Addr} {q : Str} (nd : (tb.map (·.1)).Nodup) (hm : (P, q) ∈ tb) : ∀ p ∈ tb, p.1 = P → p.2 = q := by
  induction tb with
  | nil => cases hm
  | cons x r ih =>
    intro p hp e
    rw [List.map_cons, List.nodup_cons] at nd
    have aux : ∀ (a b : Addr × Str), a ∈ r → b.1 = a.1 → x = b → False := fun a b ha e1 e2 => nd.1 (by rw [e2, e1]; exact List.mem_map_of_mem ha)
    rcases List.mem_cons.mp hm with h1 | h1
    · rcases List.mem_cons.mp hp with h2 | h2
      · rw [h2, ← h1]
      · exact (aux p x h2 (by rw [← h1, e]) rfl).elim
    · rcases List.mem_cons.mp hp with h2 | h2
      · exact (aux _ x h1 (by rw [← h2, e]) rfl).elim
      · exact ih nd.2 h1 p h2 e
def hdsOf : List Stmt → List ExceptHandler
  | .Try _ h _ _ _ :: _ => h
  | _ => []
def restOf : List Stmt → List Stmt
  | _ :: r => r
  | [] => []
theorem tab_ok {K : PySem.W.Frag} {x : Str} (h : tabC K x = true) : PySem.W.tabIn K x = some (tabW K x) ∧ K.lookup (tabW K x).2 = none ∧ cdOf K (ga K x) = .ref (tabW K x).1 := by
  obtain ⟨h1, h2⟩ := ba h
  obtain ⟨h3, h4⟩ := ba h2
  exact ⟨of_decide_eq_true h1, of_decide_eq_true h3, of_decide_eq_true h4⟩
/-- s_lam, the def's name by itself -/
theorem s_lamQ {X : Cx} {G : Gm} {W : WX} {Ng : List Str} {x a : Str} {stg : Stmt} {g c P : Addr} {fdg : FuncData} {n k : Nat} {h₀ : ExceptHandler} {hds : List ExceptHandler} {hs : List HdS} {restB : List Stmt} {rest : Sm} {p1 p2 p3 p4 : Pos} {params : Arguments} {body : Expr} {scope : Scope} {f : Env → M T} {p lpos pos : Pos} (qn : Str)
    (hK : X.K = G.K) (hM : X.mg = G.mg) (hg : Gl X x) (hm : G.mg x = some (.ref g)) (F : FunD G.K x x (defArgs stg) (defBody stg) (defScope stg) [] [] g fdg) (hb : L2.Binds G.K fdg [a] []) (Sg : FnScope Ng [a] (defScope stg)) (hNg : Ng[0]? = some a) (hva : Vis (defScope stg) a)
    (eb : defBody stg = .Try [.Expr (.Call (.Name a p1) [] [] p2) p3] (h₀ :: hds) [] [] p4 :: restB) (hn : Ng.length = n) (h1 : 1 ≤ n)
    (hh : ∀ (cdg : Value) (s : Shared) (H : Hp), HG (cxOf C8.CX0 X.prog X.w X.K X.mg X.base Ng x (defScope stg) g cdg X.A X.stack s H C8.E0).nox G W0 (hdsOf (defBody stg)) hs)
    (hr : ∀ (cdg : Value) (s : Shared) (H : Hp), SSs (cxOf C8.CX0 X.prog X.w X.K X.mg X.base Ng x (defScope stg) g cdg X.A X.stack s H C8.E0).nox G W0 (restOf (defBody stg)) rest)
    (TB : LamX.TabB X.base X.mg c P) (hcode : X.env.code = .ref c) (hqn : X.env.qual = qn) (hmT : (P, qn ++ "<lambda>") ∈ G.tb) (hu : (G.tb.map (·.1)).Nodup) (rm : Room (k + 2) X.A) (L : LamX.lamSB X.env.scope scope = true) (tk : Takes X W)
    (hbody : ∀ (A : Around) (outer : List PySem.Env) (s : Shared) (H : Hp) (E : XK) (f' c' : Addr), Room k (A.deeper (LamX.lamEnv X scope s.heap.objs.size f' c')) → SE (LamX.lamCx X A outer s H E scope f' c') G (WD E) body f)
    (hdef : defaultsOf params X.env = ([], []) := by rfl) (hbind : ∀ (q : Str) (cl : List (Str × Addr)) (pm cv ctv : Value), bindArgs (PySem.W.kla_fn "<lambda>" q params body scope cl pm cv ctv) ⟨[], []⟩ = pure [] := by intros; rfl)
    (hdb : (x == ("__debug__" : Str)) = false := by decide) (hd : (a == ("__debug__" : Str)) = false := by decide) (hcd : (a == ("__classdict__" : Str)) = false := by decide) :
    SE X G W (.Call (.Name x p) [.Lambda params body scope lpos] [] pos) (fun env => heardS n hs rest (f env)) := by
  subst hqn
  rw [eb] at hh hr
  exact s_lam hK hM hg hm F hb Sg hNg hva eb hn h1 hh hr TB hcode hmT (tb_un hu hmT) rm (LamX.lamS_by L) tk hbody hdef hbind hdb hd hcd
end Ep
namespace Ep
open PySem PySem.Spec L2
/-! ### texts: join, count, str and repr of an integer -/
def seqS : T → Option (List T)
  | .lst xs => some xs
  | .kls xs => some xs
  | .tup xs => some xs
  | _ => none
def joinT (a : Str) (t : T) : Option T := (seqS t).bind fun xs => (strsT xs).bind fun ys => if (ys.map (·.length)).sum + ys.length * a.length ≤ 16777216 then some (.str (Txt.join a ys)) else none
def fStr1 (h : Str → T → Option T) (f g : Env → M T) : Env → M T := fun env => f env >>= fun x => match x with
  | .str a => g env >>= fun y => M.lift (h a y)
  | _ => M.bad
def strI (_ : RS) : T → Option T
  | .int i => if i.natAbs.log2 < 1920 then some (.str (toString i)) else none
  | _ => none
section
variable {X : Cx} {G : Gm} {W : WX} {pos apos : Pos} {a b : Expr} {f g : Env → M T}
theorem str1_use {r : V → List V → Hp → VK → Prop} {h : Str → T → Option T} (hu : ∀ w H rs v t a z Q, Good G w H rs → Den G w v t → h a t = some z → (∀ v', Den G w v' z → Q v' H) → r (.str a) [v] H Q)
    {σ : L2.St} {H : Hp} {Q : VK} (q : tS G W (fStr1 h f g) σ H Q) : tM1 r (tS G W f) (tS G W g) σ H Q := by
  obtain ⟨w, H0, env, rs, g0, s, h0⟩ := q
  refine seqE g0 s h0 fun t r1 w1 H1 x g1 s1 st1 d1 h1 => ?_
  cases d1 with
  | str a =>
    refine ⟨⟨a, rfl⟩, seqE g1 s1 h1 fun u r2 w2 H2 y g2 s2 st2 d2 h2 => ?_⟩
    obtain ⟨z, ez, h3⟩ := liftP h2
    exact hu w2 H2 r2 y u a z Q g2 d2 ez fun v' d => h3 w2 H2 (Step.refl _ _) g2 v' d
  | _ => exact h1.elim
theorem s_join (hK : X.K = G.K) (ha : SE X G W a f) (he : SE X G W b g) (hs : starEach [b] X.env = [(false, eval b X.env)] := by rfl) (hbase : attributeBase a "join" X.env (eval a X.env) = eval a X.env := by rfl) (hline : (apos.endLine == pos.line) = true := by rfl) :
    SE X G W (.Call (.Attribute a "join" apos) [b] [] pos) (fStr1 joinT f g) :=
  pe_imp (pe_join ha he hs hbase hline) fun σ H Q q => str1_use (fun w H rs v t a z Q gd d e k => by
    unfold joinT at e
    cases q1 : seqS t with
    | none => rw [q1] at e; cases e
    | some xs =>
      rw [q1] at e
      have e : (strsT xs).bind (fun ys => if (ys.map (·.length)).sum + ys.length * a.length ≤ 16777216 then some (T.str (Txt.join a ys)) else none) = some z := e
      cases q2 : strsT xs with
      | none => rw [q2] at e; cases e
      | some ys =>
        rw [q2] at e
        have e : (if (ys.map (·.length)).sum + ys.length * a.length ≤ 16777216 then some (T.str (Txt.join a ys)) else none) = some z := e
        by_cases h : (ys.map (·.length)).sum + ys.length * a.length ≤ 16777216
        · rw [if_pos h] at e
          cases e
          have hp : ∃ p us, v = .ref p ∧ (SqL X.K H p us ∨ SqT X.K H p us) ∧ Dens G w us xs := by
            rw [hK]
            cases d with
            | lst hh z d => cases q1; exact ⟨_, _, rfl, .inl (SqL.of (gd.sub _ _ hh)), d⟩
            | kls hh z d => cases q1; exact ⟨_, _, rfl, .inl (gd.sub.seq hh), d⟩
            | tup hh z d =>
              cases q1
              rcases hh with hh | hh
              · exact ⟨_, _, rfl, .inr (.inl (Rd.of (gd.sub _ _ hh))), d⟩
              · exact ⟨_, _, rfl, .inr (.inr hh), d⟩
            | _ => cases q1
          obtain ⟨p, us, rfl, hq, ds⟩ := hp
          have := strs_of ds q2
          subst this
          exact ⟨a, p, ys, rfl, rfl, hq, h, k _ (.str _)⟩
        · rw [if_neg h] at e; cases e) q
theorem v_strI : B1 G (fun xs H Q => ∃ i, xs = [.int i] ∧ i.natAbs.log2 < 1920 ∧ Q (.str (toString i)) H) strI := fun w H r v t z Q g d e q => by
  cases t with
  | int i =>
    have e : (if i.natAbs.log2 < 1920 then some (T.str (toString i)) else none) = some z := e
    by_cases h : i.natAbs.log2 < 1920
    · rw [if_pos h] at e; cases e
      exact ⟨i, by rw [d.int], h, q _ w H (Step.refl _ _) g (.str _)⟩
    · rw [if_neg h] at e; cases e
  | _ => cases e
theorem Bd.strI {j : Nat} (B : Bd X G W j) {p : Pos} (m : G.mg "str" = none) (ha : SK X G W a f) (hg : Gl X "str" := by rfl) (hs : starEach [a] X.env = (false, eval a X.env) :: starEach [] X.env := by rfl) : SE X G W (.Call (.Name "str" p) [a] [] pos) (fB1 Ep.strI f) := s_t1 call_str_int v_strI hg (by rw [B.eM]; exact m) rfl ha hs
end
end Ep
namespace Ep
open PySem PySem.Spec L2
/-! ### isinstance(e, C) in a handler, e of an own class with a dict -/
structure XiOk (G : Gm) (c C : Nat) (b : Bool) : Prop where
  ex : ∀ cA, G.mg (G.cn c) = some (.ref cA) → ∃ CA, G.mg (G.cn C) = some (.ref CA) ∧ PySem.W.kitOne G.K (.ref cA) (.ref CA) = some b ∧ (PySem.W.clsIn G.K cA).isSome = true ∧ PySem.W.findIn G.K (.ref cA) "__getattribute__" = some (some (.builtin "BaseException.__getattribute__")) ∧ PySem.W.findIn G.K (.ref cA) "__getattr__" = some none ∧
    PySem.W.subIn G.K (.ref cA) (.type "BaseException") = some true ∧ PySem.W.findIn G.K (.ref cA) "__class__" = some (some (.builtin "object.__class__")) ∧ PySem.W.specialIn G.K (.builtin "object.__class__") "__get__" = some (some (.builtin "getset_descriptor.__get__")) ∧ PySem.W.takesIn G.K (.builtin "object.__class__") = some true ∧ PySem.W.mroIn G.K cA (.type "object") = some true
section
variable {X : Cx} {G : Gm} {a : Addr} {cls : Value} {d : Option Addr} {i : Nat} {pos : Pos}
end
end Ep
namespace Ep
open PySem PySem.Spec L2
/-! ### repr of None, True, an integer, a text -/
def reprV : V → Option Str
  | .int i => if i.natAbs.log2 < 1920 then some (toString i) else none
  | .str x => if (reprText x).length ≤ 16777216 then some (reprText x) else none
  | .bl b => some (if b then "True" else "False")
  | .non => some "None"
  | _ => none
def reprS : T → Option Str
  | .int i => if i.natAbs.log2 < 1920 then some (toString i) else none
  | .str x => if (reprText x).length ≤ 16777216 then some (reprText x) else none
  | .bl b => some (if b then "True" else "False")
  | .non => some "None"
  | _ => none
def reprT (_ : RS) (t : T) : Option T := (reprS t).map .str
theorem call_reprA {X : Cx} : CallR X (.builtin "repr") (fun xs H Q => ∃ v z, xs = [v] ∧ reprV v = some z ∧ Q (.str z) H) := by
  intro pins s σ H xs us Q I r h
  obtain ⟨v, z, rfl, e, q⟩ := h
  obtain ⟨u, rfl, r1⟩ := vals1 r
  cases v with
  | int i =>
    obtain ⟨t, rfl⟩ := r1
    have e : (if i.natAbs.log2 < 1920 then some (toString i : Str) else none) = some z := e
    by_cases h : i.natAbs.log2 < 1920
    · rw [if_pos h] at e; cases e
      exact PySem.P.repr_of_int h ⟨.str _, H, I.tok _, ⟨_, rfl⟩, q⟩
    · rw [if_neg h] at e; cases e
  | str x =>
    obtain ⟨t, rfl⟩ := r1
    have e : (if (reprText x).length ≤ 16777216 then some (reprText x) else none) = some z := e
    by_cases h : (reprText x).length ≤ 16777216
    · rw [if_pos h] at e; cases e
      exact PySem.P.repr_of_str ⟨.str _, H, I.tok _, ⟨_, rfl⟩, q⟩ (by rw [sizeLine_eq]; exact h)
    · rw [if_neg h] at e; cases e
  | bl b =>
    cases r1
    cases e
    exact PySem.P.repr_of_bool ⟨.str _, H, I.tok _, ⟨_, rfl⟩, q⟩
  | non =>
    cases r1
    cases e
    exact PySem.P.repr_of_none ⟨.str _, H, I.tok _, ⟨_, rfl⟩, q⟩
  | _ => cases e
theorem repr_den {G : Gm} {w : Wd} {v : V} {t : T} {z : Str} (d : Den G w v t) (e : reprS t = some z) : reprV v = some z := by
  cases d <;> first | exact e | cases e
section
variable {X : Cx} {G : Gm} {W : WX} {a : Addr} {cls : Value} {d : Option Addr} {i j : Nat} {pos p : Pos} {e : Expr} {f : Env → M T} {h : HM T}
theorem he_repr (h1 : PE X e (tHE G a cls d i h)) (hm : X.mg "repr" = none) (hg : Gl X "repr" := by rfl) (hs : starEach [e] X.env = (false, eval e X.env) :: starEach [] X.env := by rfl) (hpl : (backTo pos (starEach [] X.env)).any (·.1) = false := by rfl) :
    PE X (.Call (.Name "repr" p) [e] [] pos) (tHE G a cls d i fun c q => fB1 reprT (h c q)) :=
  pe_imp (pe_callB call_reprA hg hm rfl (pa_cons h1 pa_nil hs) (by decide) (by decide) hs hpl) fun σ H Q ⟨w, H0, env, r, c, q, g, s, e1, ei, ho⟩ => by
    refine ⟨w, H0, env, r, c, q, g, s, e1, ei, ho.bind.imp fun t r1 w1 H1 st1 g1 o v dv => ?_⟩
    have o : OutP G w1 H1 XF (fun t _ w' H' => ∀ v, Den G w' v t → Q v H') (M.lift (reprT r1 t) r1) := o
    cases hs : reprS t with
    | none => rw [show reprT r1 t = none by unfold reprT; rw [hs]; rfl] at o; exact o.elim
    | some y =>
      rw [show reprT r1 t = some (.str y) by unfold reprT; rw [hs]; rfl] at o
      exact ⟨v, y, rfl, repr_den dv hs, OutP.here g1 o (.str y) (.str y)⟩
end
/-! ### isinstance of a caught exception, by the head -/
end Ep
namespace Ep
open PySem PySem.Spec L2
/-! ### list(e) as a new list of the def's own, or a changed one -/
/-! ### own lists that become values ahead of a statement -/
def qFrz (is : List Nat) (g : Sm) : Sm := fun env r => g (frz is env) r
theorem ss_frzq {X : Cx} {G : Gm} {W : WX} {st : Stmt} {g : Sm} (is : List Nat) (h : SS X G W st g) : SS X G W st (qFrz is g) := ss_frz is h
theorem n_frz {is : List Nat} {g : Sm} {env : Env} {r : RS} {so : SO} (h : g (frz is env) r = so) : qFrz is g env r = so := h
end Ep
namespace Ep
open PySem PySem.Spec L2
/-! ### {} -/
end Ep
namespace Ep
open PySem PySem.Spec L2 PyProof.Rows
/-! ### e[::-1] of a text or a list -/
/-- the bounds of [::-1] as the slice's object holds them -/
structure Back (h : Heap) (p : Addr) (l u m : Value) : Prop where
  obj : h.IsSliceOf p l u m
  lo : IsPart l none
  up : IsPart u none
  by_ : IsPart m (some (-1))
end Ep
namespace Ep
open PySem PySem.Spec L2
/-! ### a, b, c = [], e, e' with a a list of the def's own -/
section
variable {X : Cx} {G : Gm} {W : WX} {pos : Pos}
end
end Ep
namespace Ep
namespace EnT
open PySem PySem.Spec L2 PyProof.Rows
section
variable {prog : Program} {w : World} {A : Around} {E : Value → Shared → Prop} {s : Shared} {v : Value} {o : Obj} {HB : Heap → Prop}
/-- enumerate's object, over the iterator at it -/
def eObj (it : Addr) : Obj := { cls := .type "enumerate", data := .fields #[.none, .bool false, .ref it, rawInt 0, .none, .none] }
/-- enumerate.__new__ of one thing that begins to be walked (Begins) -/
theorem new_one (B : Begins v o HB) (now : HB s.heap) {Q : Fin → Shared → Prop} (told : Q (.done (.ret (.ref (s.heap.push o).objs.size))) { s with heap := (s.heap.push o).push (eObj s.heap.objs.size) }) :
    wpAny (model prog w) A (Builtin.«enumerate.__new__» ⟨[.type "enumerate", v], []⟩) Q E s := by
  have cls : Builtin.SmallTypes.newClass "enumerate" ⟨[.type "enumerate", v], []⟩ = pure (.type "enumerate", [v]) := by
    unfold Builtin.SmallTypes.newClass
    show (isSubtype (.type "enumerate") (.type "enumerate") >>= fun b => _) = _
    rw [sub_enumerate]
    rfl
  unfold Builtin.«enumerate.__new__»
  refine wpAny_bind (wpAny_of_eq cls ?_)
  have last : wpAny (model prog w) A (pyIter v >>= fun i => Builtin.SmallTypes.newRecord (.type "enumerate") (Builtin.SmallTypes.ownedTupleFields ++ [i, rawInt 0, .none, .none]) >>= fun r => PySem.ret r) Q E s := by
    refine wpAny_bind (B.iter prog w A E s _ now ?_)
    show wpAny _ A (newObj (.type "enumerate") (.fields #[.none, .bool false, .ref s.heap.objs.size, rawInt 0, .none, .none]) >>= fun r => PySem.ret r) Q E _
    exact wpAny_bind (wpAny_newObj_type (wpAny_pure told))
  dsimp only
  rw [if_pos (beq_self_eq_true _)]
  have how : wpAny (model prog w) A (Builtin.SmallTypes.calledThroughType (.type "enumerate")) (fun _ z => z = s) E s := wpAny_bind (wpAny_stack_any fun _ => wpAny_pure rfl)
  refine wpAny_bind (wpAny_mono how (fun short z same => ?_) fun _ _ => id)
  subst same
  cases short with
  | false => exact last
  | true => exact last
/-- .. and the call of the class -/
theorem call_one (B : Begins v o HB) (now : HB s.heap) {Q : Value → Shared → Prop} (told : ∀ h', IsEnum h' (s.heap.objs.size + 1) s.heap.objs.size 0 .none → h'.get? s.heap.objs.size = some o → (∀ b z, s.heap.get? b = some z → h'.get? b = some z) → Q (.ref (s.heap.objs.size + 1)) { s with heap := h' }) :
    wpAny (model prog w) A (call (.type "enumerate") [v]) Q E s := by
  have one_on : (s.heap.push o).objs.size = s.heap.objs.size + 1 := Heap.size_push ..
  have at_e := Heap.get?_push_size (s.heap.push o) (o := eObj s.heap.objs.size) rfl
  refine callType_new (S := fun _ R z => HB z.heap ∧ R (.ok (.ret (.ref (z.heap.push o).objs.size))) { z with heap := (z.heap.push o).push (eObj z.heap.objs.size) }) F.called_enumerate (by decide) (F.typeCall_enumerate_1 _) (F.newCall_enumerate_1 _) (fun obj => F.args_object_init_2 obj _) F.entry_enumerate_new
    (fun prog w A R z both => new_one B both.1 both.2) ⟨now, ?_⟩
  rw [one_on] at at_e
  show _ ∧ _
  rw [one_on]
  exact ⟨⟨_, at_e, rfl⟩, told _ at_e (Heap.get?_push_of_some _ (Heap.get?_push_size _ B.free)) fun b z q => Heap.get?_push_of_some _ (Heap.get?_push_of_some _ q)⟩
end
/-- the tuple at a as it stands at each turn, each item in a new pair -/
def IteT (K : PySem.W.Frag) (a : Addr) : It :=
  ⟨fun i H => ∃ (xs : List V) (x : V), SqT K H a xs ∧ xs[i]? = some x, fun i H v H' => ∃ T x, v = .ref T ∧ H T = none ∧ H' = upd H T (.tup [.int (i : Nat), x]) ∧ ∀ xs, SqT K H a xs → xs[i]? = some x, fun i H => ∃ xs : List V, SqT K H a xs ∧ xs.length = i⟩
/-- the two records stand, i turns done -/
def At (a e it : Addr) (i : Nat) (h : Heap) : Prop := (∃ old, IsEnum h e it ((i : Nat) : Int) old) ∧ h.IsTupleIter it a i ∧ e ≠ it
theorem apart {h : Heap} {a b : Addr} {S T : String} (x : ∃ o, h.get? a = some o ∧ o.cls = .type S) (y : ∃ o, h.get? b = some o ∧ o.cls = .type T) (n : S ≠ T) : a ≠ b := by
  rintro rfl
  obtain ⟨o, p, c⟩ := x
  obtain ⟨o', p', c'⟩ := y
  cases p.symm.trans p'
  exact n (Value.type.inj (c.symm.trans c'))
/-- as long as the tuple stands, its walk is the library's (Draws.tuple, WalksT.enumerateD) -/
theorem walks {X : Cx} {pins : List (Addr × Obj)} {s : Shared} {σ : L2.St} {H : Hp} {a e it : Addr} {i : Nat} {xs : List V} (hc : X.calm = true) (I : Inv X pins σ H s) (st : At a e it i s.heap) (hq : SqT X.K H a xs) : ∃ its : List Value, Vals xs its ∧ s.heap.IsTuple a its.toArray ∧
    WalksT X.prog X.w X.A e (e :: [it, a]) [e, it] its.toArray.size (fun i vals => ∃ t x, its.toArray[i]? = some x ∧ vals = #[.int i t, x]) (fun i h => (∃ old, IsEnum h e it i old) ∧ h.IsTupleIter it a i ∧ h.IsTuple a its.toArray)
      (fun i T h => (∃ x, IsEnumOut h e it ((i : Int) + 1) x T) ∧ (h.IsTupleIter it a (i + 1) ∧ h.IsTuple a its.toArray) ∧ T ≠ e ∧ T ≠ it) := by
  obtain ⟨⟨old, at_e⟩, at_it, ne⟩ := st
  obtain ⟨its, vals, at_a, _⟩ := I.tuple hq
  have ca : ∃ o, s.heap.get? a = some o ∧ o.cls = .type "tuple" := at_a.imp fun _ z => ⟨z.1, z.2.1⟩
  have ci : ∃ o, s.heap.get? it = some o ∧ o.cls = .type "tuple_iterator" := at_it.imp fun _ z => ⟨z.1, z.2.1⟩
  have ce : ∃ o, s.heap.get? e = some o ∧ o.cls = .type "enumerate" := ⟨_, at_e, rfl⟩
  have nea := apart ce ca (by decide)
  exact ⟨its, vals, at_a, .enumerateD (.tuple (show X.A.in1.handled = none from I.ok.hd hc) it a (apart ca ci (by decide)) its.toArray) e ne (by simp [ne, nea]) (by simp)⟩
theorem at_obj {a e it : Addr} {i : Nat} {h : Heap} (st : At a e it i h) {b : Addr} (of_ : b ∈ [e, it]) : ∃ o, h.get? b = some o ∧ ∀ v, o.data ≠ .cell v := by
  obtain ⟨⟨old, at_e⟩, ⟨o, at_it, _, rec⟩, _⟩ := st
  rcases List.mem_cons.mp of_ with rfl | of_
  · exact ⟨_, at_e, fun _ z => nomatch z⟩
  · cases List.mem_singleton.mp of_
    exact ⟨o, at_it, fun _ z => nomatch rec.symm.trans z⟩
theorem turn {P : Program} {w : World} {K : PySem.W.Frag} {elts : List Expr} {kk : Nat} {tpos : Pos} (a e it : Addr) : Turn P w K (.Tuple elts kk tpos) (IteT K a) [e, it] e (At a e it) where
  mem := List.mem_cons_self
  obj i h st b of_ := at_obj st of_
  keep i h h' st same := ⟨st.1.imp fun _ z => same e (by simp) _ z, st.2.1.at fun o z => same it (by simp) o z, st.2.2⟩
  self A i s Q E st q := st.1.elim fun _ z => wpAny_pyIter_enum z q
  done := by
    rintro X rfl rfl rfl hc i pins s σ H E I hf st ⟨xs, hq, rfl⟩
    obtain ⟨its, vals, at_a, W⟩ := walks hc I st hq
    refine W.done s _ E (by rw [List.size_toArray, ← vals.length]; exact ⟨st.1, st.2.1, at_a⟩) fun h' tk same => ⟨rfl, I.turnedL same hf⟩
  item := by
    rintro X rfl rfl rfl hc i pins s σ H E I hf st ⟨xs, x, hq, hx⟩
    obtain ⟨its, vals, at_a, W⟩ := walks hc I st hq
    obtain ⟨u, at_u, rel⟩ := vals.get hx
    have now : i < its.toArray.size := by simpa using (List.getElem?_eq_some_iff.mp at_u).1
    refine W.item i s _ E now ⟨st.1, st.2.1, at_a⟩ fun T _ h' tk ⟨t, y, at_y, ev⟩ new at_T mid same => ⟨_, rfl, W.go elts kk tpos i T _ _ _ mid fun h'' st' same' => ?_⟩
    subst ev
    obtain rfl : y = u := by
      rw [show its.toArray[i]? = its[i]? from by simp, at_u] at at_y
      exact (Option.some.inj at_y).symm
    have put : h''.IsTuple T #[.int i t, y] := at_T.at fun o z => same' T o (W.apart i T h' mid) z
    have pair : ObjOk X.prog X.w (upd H T (.tup [.int (i : Nat), x])) h'' T (.tup [.int (i : Nat), x]) := ⟨show 2 ≤ sizeLine by decide, [.int i t, y], .cons ⟨t, rfl⟩ (.cons rel .nil), put⟩
    refine ⟨.ref T, _, I.turnedNew (fun b o out z => same' b o out (same b o out z)) hf new pair, rfl, ⟨T, x, rfl, I.hok.fresh new, rfl, fun ys hy => by rw [I.tuple_inj hy hq]; exact hx⟩, ⟨st'.1, st'.2.1, st.2.2⟩, fun b of_ => ?_⟩
    have before : b < s.heap.objs.size := (at_obj st of_).elim fun _ z => Heap.lt_size z.1
    rw [upd_ne (Nat.ne_of_lt (Nat.lt_of_lt_of_le before new))]
    exact (hf b of_).1
/-- enumerate of a list or a tuple -/
def iEnumA (K : PySem.W.Frag) (ta : TA) : TI := fun σ H R => ta σ H fun vs H1 => ∃ a xs, vs = [.ref a] ∧ ((SqL K H1 a xs ∧ R (Ite K a) H1) ∨ (SqT K H1 a xs ∧ R (IteT K a) H1))
theorem pi_enumA {X : Cx} {e : Expr} {ta : TA} {p pos tpos : Pos} {elts : List Expr} {kk : Nat} (hg : Gl X "enumerate") (hm : X.mg "enumerate" = none) (ha : PA X [e] ta) (hs : starEach [e] X.env = [(false, eval e X.env)] := by rfl) :
    PI X (.Tuple elts kk tpos) (.Call (.Name "enumerate" p) [e] [] pos) (iEnumA X.K ta) := by
  have laid : ∀ {pins : List (Addr × Obj)} {s1 : Shared} {H1 : Hp} {σ : L2.St}, Inv X pins σ H1 s1 → ∀ b ∈ [s1.heap.objs.size + 1, s1.heap.objs.size], FpOk X pins H1 b := fun {pins s1 H1 σ} I1 b hb => by
    have new : s1.heap.objs.size ≤ b := by
      rcases List.mem_cons.mp hb with rfl | hb
      · exact Nat.le_succ _
      · exact Nat.le_of_eq (List.mem_singleton.mp hb).symm
    exact I1.fpOk new (I1.hok.fresh new)
  refine ⟨fun pins s σ H R I h => Call_ (ld_blt I hg hm boot_enumerate (PyProof.Rows.callWith_type1 (thn (ha.run pos pins s σ H _ I h) fun us s1 came => ?_) hs rfl))⟩
  obtain ⟨_, H1, I1, rels, a, xs, rfl, q⟩ := came
  cases rels with
  | cons rel none_ =>
    cases none_
    cases rel
    rcases q with ⟨hq, q⟩ | ⟨hq, q⟩
    · obtain ⟨its, _, at_a, _⟩ := I1.list hq
      exact call_enumerate_list at_a.isList fun h' at_e at_it _ same => wpAny_pyIter_enum at_e ⟨_, _, _, _, H1, rfl, I1.kept (t' := s1.toks) same, turn_enum a _ s1.heap.objs.size, ⟨⟨.none, at_e⟩, at_it, Nat.succ_ne_self _⟩, laid I1, q⟩
    · obtain ⟨its, _, at_a, _⟩ := I1.tuple hq
      exact call_one (begins_tuple a its.toArray) at_a fun h' at_e at_it same => wpAny_pyIter_enum at_e ⟨_, _, _, _, H1, rfl, I1.kept (t' := s1.toks) same, turn a _ s1.heap.objs.size, ⟨⟨.none, at_e⟩, ⟨_, at_it, rfl, rfl⟩, Nat.succ_ne_self _⟩, laid I1, q⟩
theorem walk {K : PySem.W.Frag} {a : Addr} {xs : List V} : Walk (IteT K a) xs.length (fun H => SqT K H a xs) (YPair (fun i => some (.int (i : Nat))) (fun i => xs[i]?)) where
  goes i H lt hq := ⟨xs, _, hq, List.getElem?_eq_getElem lt⟩
  stops H hq := ⟨xs, hq, rfl⟩
  yields i H v H' lt hq := fun ⟨p, x, ev, new, eH, item⟩ => ⟨p, .int (i : Nat), x, ev, new, eH, rfl, item xs hq⟩
end EnT
open PySem PySem.Spec L2
section
variable {X : Cx} {G : Gm} {W : WX} {f : Env → M T} {pos : Pos}
theorem it_eT {w : Wd} {a : Addr} {vs : List V} {xs : List T} (h : TupAt G.K w.P a vs) (d : Dens G w vs xs) : ItOk G w (EnT.IteT G.K a) (enumL 0 xs) := by
  refine ⟨_, _, by rw [enumL_len, ← d.length]; exact EnT.walk (xs := vs), fun w' H' r' L g => tup_sq g.sub (h.mono L.pub), fun i H1 v H2 w1 r1 L g hi y => ?_⟩
  obtain ⟨p, x, y, ev, hp, e2, ex, ey⟩ := y
  subst ev
  cases ex
  obtain ⟨t, ht, hd⟩ := d.getV ey
  obtain ⟨w2, st, g2, d2⟩ := pair_new g hp e2 (.int (i : Nat)) (hd.mono L)
  exact ⟨_, w2, by rw [enumL_at xs 0 i t ht, Nat.zero_add], st, g2, d2⟩
end
end Ep
namespace Ep
open PySem PySem.Spec L2
/-! ### self.f in an __init__, of the fields that are there already -/
def fFldS (m : Nat → Option Nat) (i : Nat) : Env → M T := fun env => match env[i]? with
  | some (.pv (.ins C vs)) => M.lift ((m C).bind fun j => vs[j]?)
  | some (.val (.obj C vs)) => M.lift ((m C).bind fun j => vs[j]?)
  | _ => M.bad
theorem find_take {p : Str → Bool} : ∀ {l : List Str} {n j : Nat}, l.findIdx? p = some j → j < n → (l.take n).findIdx? p = some j
  | [], _, _, h, _ => by simp at h
  | x :: l, 0, _, _, hn => by omega
  | x :: l, n + 1, j, h, hn => by
    rw [List.findIdx?_cons] at h
    rw [List.take_succ_cons, List.findIdx?_cons]
    by_cases c : p x = true
    · rw [if_pos c] at h ⊢; exact h
    · rw [if_neg c] at h ⊢
      cases q : l.findIdx? p with
      | none => rw [q] at h; cases h
      | some k =>
        rw [q] at h
        have hk : k + 1 = j := by simpa using h
        rw [find_take q (by omega)]
        simp [hk]
theorem s_fldS {X : Cx} {G : Gm} {W : WX} {pos p : Pos} {name x : Str} (hK : X.K = G.K) (i : Nat) (m : Nat → Option Nat) (ok : ∀ C j, m C = some j → FldOk G name C j) (hN : X.N[i]? = some x) (hv : Vis X.env.scope x)
    (hb : attributeBase (.Name x p) name X.env (eval (.Name x p) X.env) = eval (.Name x p) X.env := by rfl) (hd : (x == ("__debug__" : Str)) = false := by decide) (hcd : (x == ("__classdict__" : Str)) = false := by decide) : SE X G W (.Attribute (.Name x p) name pos) (fFldS m i) :=
  pe_imp (pe_fld (pe_var hN hv hd hcd) hb) fun σ H Q ⟨w, H0, env, r, g, s, h⟩ => by
    unfold fFldS at h
    cases e : env[i]? with
    | none => rw [e] at h; exact h.elim
    | some sl =>
      rw [e] at h
      obtain ⟨oa, k1, k2⟩ := s.ex
      have := k1 i sl e
      cases sl with
      | un => exact h.elim
      | fn => exact h.elim
      | val t =>
        obtain ⟨v, e1, d1⟩ := this
        cases d1 with
        | @obj p cA dx C vs ts c h0 l d =>
          obtain ⟨z, ez, h2⟩ := liftP h
          cases q : m C with
          | none => rw [q] at ez; cases ez
          | some j =>
            rw [q] at ez
            have o := ok C j q
            obtain ⟨v, e3, e2⟩ := d.get (i := j) ez
            refine ⟨_, e1, p, cA, dx, _, v, rfl, g.sub _ _ h0, ?_, ?_, by rw [lookup_zip o.at_ l]; exact e3, h2 w H (Step.refl _ _) g v e2⟩
            · rw [hK]; exact (o.cl cA c).1
            · rw [hK]; exact (o.cl cA c).2
        | _ => exact h.elim
      | pv q =>
        cases q with
        | ins C ts =>
          obtain ⟨e1, a2, a3, a4, u, a6, a7⟩ := this
          cases a7 with
          | @ins C cA dx vs ts hm c l d =>
            obtain ⟨z, ez, h2⟩ := liftP h
            cases q : m C with
            | none => rw [q] at ez; cases ez
            | some j =>
              rw [q] at ez
              have o := ok C j q
              obtain ⟨v, e3, e2⟩ := d.get (i := j) ez
              have hj : j < ts.length := (List.getElem?_eq_some_iff.mp ez).1
              refine ⟨_, e1, oa i, cA, dx, _, v, rfl, a6, ?_, ?_, by rw [lookup_zip (find_take o.at_ hj) (by rw [d.length, List.length_take]; omega)]; exact e3, h2 w H (Step.refl _ _) g v e2⟩
              · rw [hK]; exact (o.cl cA c).1
              · rw [hK]; exact (o.cl cA c).2
        | _ => exact h.elim
end Ep
namespace Ep
open PySem PySem.Spec L2
/-! ### a, b = e, e' where one of both is a new list of the def's own -/
def qPar2vo (i j : Nat) (f : Env → M T) (g : Env → M (List T)) : Sm := fun env r => ofM env (fun u r => ofM env (fun xs r => .nx ((env.set j (.own xs)).set i (.val u)) r) (g env r)) (f env r)
section
variable {X : Cx} {G : Gm} {W : WX} {pos : Pos}
theorem set_comm {α : Type} (l : List α) {i j : Nat} (h : i ≠ j) (a b : α) : (l.set i a).set j b = (l.set j b).set i a := List.set_comm a b h
theorem ss_par2vo {i j : Nat} {x y : Str} {e1 e2 : Expr} {f : Env → M T} {g : Env → M (List T)} {px py pt : Pos} {kt k2 pt2} (hc : X.calm = true) (hN : X.N.Nodup) (hi : X.N[i]? = some x) (hj : X.N[j]? = some y) (hij : i ≠ j)
    (hx : X.env.scope.names.lookup x = some .local) (hy : X.env.scope.names.lookup y = some .local) (h1 : SE X G W e1 f) (h2 : SL X G W e2 g)
    (hw : swappedStores [.Tuple [.Name x px, .Name y py] kt pt] (.Tuple [e1, e2] k2 pt2) X.env = pure (some [x, y]))
    (hs : swapsWithSole [.Tuple [.Name x px, .Name y py] kt pt] (.Tuple [e1, e2] k2 pt2) pos.line X.env = pure false)
    (a1 : starEach [e1, e2] X.env = (false, eval e1 X.env) :: starEach [e2] X.env) (a2 : starEach [e2] X.env = (false, eval e2 X.env) :: starEach [] X.env) :
    SS X G W (.Assign [.Tuple [.Name x px, .Name y py] kt pt] (.Tuple [e1, e2] k2 pt2) pos) (qPar2vo i j f g) := fun w0 H0 => ps_imp (ps_par hc hN hi hj hij hx hy (pa_cons h1 (pa_cons h2 pa_nil a2) a1) hw hs) fun D σ H ⟨w, env, r, a, h⟩ => by
  refine ⟨w, H0, env, r, a.g, a.s, (FlowP.ofM a h).imp fun t r1 w1 H1 st g1 q v dv => ?_⟩
  obtain ⟨b1, h1⟩ := q
  refine ⟨w1, H0, env, r1, b1.g, b1.s, (FlowP.ofM b1 h1).imp fun xs r2 w2 H2 st2 g2 q p vs hp hP hR hh d z => ?_⟩
  obtain ⟨b2, h2⟩ := q
  have s2 := b2.s.setOwn j (fun j sl b hj pj hb => b1.notNew hj pj hb hp) hP hR (fun z => hp (b1.st.keep _ z)) hh (.lst z d)
  refine ⟨_, _, rfl, ?_⟩
  rw [set_comm _ hij]
  exact h2 w2 H2 _ b2.st b2.g (s2.setVal i (dv.mono st2.later))
theorem Bd.par2vo {jj : Nat} (B : Bd X G W jj) (i j : Nat) {x y : Str} {e1 e2 : Expr} {f : Env → M T} {g : Env → M (List T)} {px py pt : Pos} {kt k2 pt2} (h1 : SE X G W e1 f) (h2 : SL X G W e2 g) (hi : X.N[i]? = some x := by rfl) (hj : X.N[j]? = some y := by rfl) (hij : i ≠ j := by decide)
    (hx : X.env.scope.names.lookup x = some .local := by rfl) (hy : X.env.scope.names.lookup y = some .local := by rfl)
    (hw : swappedStores [.Tuple [.Name x px, .Name y py] kt pt] (.Tuple [e1, e2] k2 pt2) X.env = pure (some [x, y]) := by rfl)
    (hs : swapsWithSole [.Tuple [.Name x px, .Name y py] kt pt] (.Tuple [e1, e2] k2 pt2) pos.line X.env = pure false := by rfl)
    (a1 : starEach [e1, e2] X.env = (false, eval e1 X.env) :: starEach [e2] X.env := by rfl) (a2 : starEach [e2] X.env = (false, eval e2 X.env) :: starEach [] X.env := by rfl) :
    SS X G W (.Assign [.Tuple [.Name x px, .Name y py] kt pt] (.Tuple [e1, e2] k2 pt2) pos) (qPar2vo i j f g) := ss_par2vo B.calm B.nd hi hj hij hx hy h1 h2 hw hs a1 a2
end
end Ep
namespace Ep
open PySem PySem.Spec L2
/-! ### a walk through a list that is changed by several defs, as long as it stays as it is -/
def chkR (c : Option (Nat × List T)) (r : RS) : Prop := match c with
  | none => True
  | some (k, ys) => r[k]? = some ys
open Classical in
noncomputable def loopG (c : Option (Nat × List T)) (h : T → Env → Option Env) (g : Sm) : List T → Sm
  | [], env, r => if chkR c r then .nx env r else .bad
  | x :: xs, env, r => if chkR c r then (match h x env with
    | none => .bad
    | some env1 => match g env1 r with
      | .nx e r' => loopG c h g xs e r'
      | .ct e r' => loopG c h g xs e r'
      | .bk e r' => .nx e r'
      | .rt t r' => .rt t r'
      | .exn c p e r' => .exn c p e r'
      | .bad => .bad) else .bad
noncomputable def qForG (f : Env → M (List T × Option (Nat × List T))) (h : T → Env → Option Env) (g : Sm) : Sm := fun env r => ofM env (fun p r => loopG p.2 h g p.1 env r) (f env r)
theorem loopG_nil {c : Option (Nat × List T)} {h : T → Env → Option Env} {g : Sm} {env : Env} {r : RS} (hc : chkR c r) : loopG c h g [] env r = .nx env r := by unfold loopG; rw [if_pos hc]
theorem loopG_cons {c : Option (Nat × List T)} {h : T → Env → Option Env} {g : Sm} {x : T} {xs : List T} {env : Env} {r : RS} (hc : chkR c r) : loopG c h g (x :: xs) env r = (match h x env with
    | none => .bad
    | some env1 => match g env1 r with
      | .nx e r' => loopG c h g xs e r'
      | .ct e r' => loopG c h g xs e r'
      | .bk e r' => .nx e r'
      | .rt t r' => .rt t r'
      | .exn c p e r' => .exn c p e r'
      | .bad => .bad) := by rw [loopG, if_pos hc]
theorem loopG_chk {G : Gm} {W : WX} {w0 : Wd} {H0 : Hp} {D : Ends} {c : Option (Nat × List T)} {h : T → Env → Option Env} {g : Sm} : ∀ {xs : List T} {env : Env} {r : RS}, FlowP G W w0 H0 D (loopG c h g xs env r) → chkR c r
  | [], env, r, q => by
    unfold loopG at q
    by_cases hc : chkR c r
    · exact hc
    · rw [if_neg hc] at q; exact q.elim
  | x :: xs, env, r, q => by
    rw [loopG] at q
    by_cases hc : chkR c r
    · exact hc
    · rw [if_neg hc] at q; exact q.elim
def ItOkG (G : Gm) (w : Wd) (J : It) (xs : List T) (c : Option (Nat × List T)) : Prop := ∃ Gd Y, Walk J xs.length Gd Y ∧ (∀ w' H' r', Later w w' → Good G w' H' r' → chkR c r' → Gd H') ∧
  ∀ i H1 v H2 w1 r1, Later w w1 → Good G w1 H1 r1 → chkR c r1 → i < xs.length → Y i H1 v H2 → ∃ t w2, xs[i]? = some t ∧ Step w1 H1 w2 H2 ∧ Good G w2 H2 r1 ∧ Den G w2 v t
theorem ItOk.g {G : Gm} {w : Wd} {J : It} {xs : List T} (h : ItOk G w J xs) (c : Option (Nat × List T)) : ItOkG G w J xs c := by
  obtain ⟨Gd, Y, h1, h2, h3⟩ := h
  exact ⟨Gd, Y, h1, fun w' H' r' a b _ => h2 w' H' r' a b, fun i H1 v H2 w1 r1 a b _ => h3 i H1 v H2 w1 r1 a b⟩
def tSIG (G : Gm) (W : WX) (f : Env → M (List T × Option (Nat × List T))) : TI := fun σ H R => ∃ w H0 env r, Good G w H r ∧ Slots G w H0 H σ env ∧ OutP G w H (WE0 W σ) (fun p _ w' H' => ∀ J, ItOkG G w' J p.1 p.2 → R J H') (f env r)
abbrev SIG (X : Cx) (G : Gm) (W : WX) (tg e : Expr) (f : Env → M (List T × Option (Nat × List T))) : Prop := PI X tg e (tSIG G W f)
section
variable {X : Cx} {G : Gm} {W : WX} {pos : Pos}
theorem ss_forG {us : List Nat} {iter tg : Expr} {body : List Stmt} {f : Env → M (List T × Option (Nat × List T))} {h : T → Env → Option Env} {g : Sm} (hp : PassesOwn (model X.prog X.w) X.A X.env X.xe) (hc : X.calm = true) (hi : SIG X G W tg iter f) (hg : SG X G us tg h) (hb : SSs X G W body g)
    (hs : ∀ x, foldedSetIterable iter X.env x = pure x := by intro _; rfl) : SS X G W (.For tg iter body [] pos) (qForG f h g) := by
  intro w0 H0
  refine ⟨fun pins s σ H D I ⟨w, env, r, a, hq⟩ => ?_⟩
  refine (ps_for hp hc hi (pg_x hg) (pss_x hb) hs).run pins s σ H D I ?_
  refine ⟨w, H0, env, r, a.g, a.s, (FlowP.ofM a hq).imp fun xc r1 w1 H1 st1 g1 q J it => ?_⟩
  obtain ⟨xs, c⟩ := xc
  obtain ⟨a1, hf⟩ := q
  obtain ⟨Gd, Y, wk, hG, hY⟩ := it
  obtain ⟨Hc, stc, ac⟩ := a1.rebase
  have hf : FlowP G W w0 H0 D (loopG c h g xs env r1) := hf
  refine for_it wk (fun i σ H => ∃ w' env r, At G w1 Hc w' H σ env r ∧ FlowP G W w1 Hc D (loopG c h g (xs.drop i) env r)) ⟨w1, env, r1, ac, hf.base stc⟩ (fun i σ' H' _ ⟨w', env', r', a', hl⟩ => hG w' H' r' a'.st.later a'.g (loopG_chk hl)) ?_ ?_
  · rintro i x σ' H2 H3 hlt ⟨w', env', r', a', hl⟩ y
    have ck := loopG_chk hl
    obtain ⟨t, w2, ht, st2, g2, d⟩ := hY i H2 x H3 w' r' a'.st.later a'.g ck hlt y
    have a2 := a'.step st2 g2
    have ed : xs.drop i = t :: xs.drop (i + 1) := by
      rw [List.drop_eq_getElem_cons hlt]
      rw [List.getElem?_eq_getElem hlt] at ht
      cases ht
      rfl
    rw [ed, loopG_cons ck] at hl
    cases q : h t env' with
    | none => rw [q] at hl; exact hl.elim
    | some env1 =>
      rw [q] at hl
      refine ⟨w1, Hc, w2, env', r', t, env1, a2, d, q, fun σ2 s2 _ => ⟨w1, Hc, w2, env1, r', ⟨a2.st, a2.g, s2⟩, ?_⟩⟩
      simp only at hl
      cases o : g env1 r' with
      | nx e r2 => rw [o] at hl; exact fun w3 H4 σ3 st g s => ⟨w3, e, r2, ⟨st, g, s⟩, hl⟩
      | ct e r2 => rw [o] at hl; exact fun w3 H4 σ3 st g s => ⟨w3, e, r2, ⟨st, g, s⟩, hl⟩
      | bk e r2 => rw [o] at hl; exact hl
      | rt u r2 => rw [o] at hl; exact hl
      | exn c p e r2 => rw [o] at hl; exact hl
      | bad => rw [o] at hl; exact hl
  · rintro σ' H2 ⟨w', env', r', a', hl⟩
    have hl : FlowP G W w1 Hc D (loopG c h g (xs.drop xs.length) env' r') := hl
    rw [List.drop_length] at hl
    have ck := loopG_chk hl
    rw [loopG_nil ck] at hl
    exact hl w' H2 σ' a'.st a'.g a'.s
theorem walk_enumR {K : PySem.W.Frag} {a : Addr} {n : Nat} : Walk (Ite K a) n (fun H => ∃ vs : List V, vs.length = n ∧ SqL K H a vs) (fun i H v H' => ∃ (T : Addr) (x : V), v = .ref T ∧ H T = none ∧ H' = upd H T (.tup [.int (i : Nat), x]) ∧ ∀ vs, SqL K H a vs → vs[i]? = some x) := by
  refine ⟨fun i H hi q => ?_, fun H q => ?_, fun i H v H' _ q y => ?_⟩
  · obtain ⟨vs, hl, h⟩ := q
    exact ⟨vs, vs[i], h, by simp [hl, hi]⟩
  · obtain ⟨vs, hl, h⟩ := q
    exact ⟨vs, h, by omega⟩
  · obtain ⟨T, x, h1, h2, h3, h4⟩ := y
    exact ⟨T, x, h1, h2, h3, h4⟩
theorem it_eR {w : Wd} {a : Addr} {k : Nat} {ys : List T} (hk : w.R[k]? = some a) : ItOkG G w (Ite G.K a) (enumL 0 ys) (some (k, ys)) := by
  have same : ∀ w' H' r', Later w w' → Good G w' H' r' → r'[k]? = some ys → ∃ vs, H' a = some (.lst vs) ∧ Dens G w' vs ys := fun w' H' r' L g c => by
    obtain ⟨a', vs, h1, h2, h3, h4⟩ := g.refs.at_ k ys c
    obtain ⟨more, e⟩ := L.refs
    have : w'.R[k]? = some a := by
      rw [e, List.getElem?_append_left (List.getElem?_eq_some_iff.mp hk).1]; exact hk
    rw [this] at h1
    cases h1
    exact ⟨vs, h2, h3⟩
  refine ⟨_, _, by rw [enumL_len]; exact walk_enumR, fun w' H' r' L g c => ?_, fun i H1 v H2 w1 r1 L g c hi y => ?_⟩
  · obtain ⟨vs, h1, h2⟩ := same w' H' r' L g c
    exact ⟨vs, h2.length, SqL.of h1⟩
  · obtain ⟨p, x, ev, hp, e2, hx⟩ := y
    subst ev
    obtain ⟨vs, h1, h2⟩ := same w1 H1 r1 L g c
    have ey := hx vs (SqL.of h1)
    obtain ⟨t, ht, hd⟩ := h2.getV ey
    obtain ⟨w2, st, g2, d2⟩ := pair_new g hp e2 (.int (i : Nat)) hd
    exact ⟨_, w2, by rw [enumL_at ys 0 i t ht, Nat.zero_add], st, g2, d2⟩
def EnTltR (r : RS) : T → Option (List T × Option (Nat × List T))
  | .lst xs => some (xs, none)
  | .kls xs => some (xs, none)
  | .tup xs => some (xs, none)
  | .ref k => (r[k]?).map fun ys => (ys, some (k, ys))
  | _ => none
def fEnumG (f : Env → M T) : Env → M (List T × Option (Nat × List T)) := fun env => f env >>= fun t => fun r => M.lift ((EnTltR r t).map fun p => (enumL 0 p.1, p.2)) r
theorem i_enumG {a : Expr} {f : Env → M T} {p tpos : Pos} {elts : List Expr} {kk : Nat} (hK : X.K = G.K) (hg : Gl X "enumerate") (hm : X.mg "enumerate" = none) (ha : SE X G W a f) (hs : starEach [a] X.env = [(false, eval a X.env)] := by rfl) :
    SIG X G W (.Tuple elts kk tpos) (.Call (.Name "enumerate" p) [a] [] pos) (fEnumG f) :=
  pi_imp (EnT.pi_enumA hg hm (pa_cons ha pa_nil hs) hs) fun σ H R ⟨w, H0, env, r, g, s, h⟩ => by
    refine seqE g s h fun t r1 w1 H1 v g1 s1 st1 d h1 => ?_
    have h1 : OutP G w1 H1 (WE0 W σ) (fun p _ w' H' => ∀ J, ItOkG G w' J p.1 p.2 → R J H') (M.lift ((EnTltR r1 t).map fun p => (enumL 0 p.1, p.2)) r1) := h1
    show ∃ a xs, [v] = [V.ref a] ∧ _
    rw [hK]
    cases d with
    | lst h z dd => exact ⟨_, _, rfl, .inl ⟨g1.sub.seq (.inl (.inl h)), OutP.here g1 h1 _ ((it_e (.inl (.inl h)) dd).g _)⟩⟩
    | kls h z dd => exact ⟨_, _, rfl, .inl ⟨g1.sub.seq h, OutP.here g1 h1 _ ((it_e h dd).g _)⟩⟩
    | tup h z dd => exact ⟨_, _, rfl, .inr ⟨tup_sq g1.sub h, OutP.here g1 h1 _ ((it_eT h dd).g _)⟩⟩
    | @ref k b h =>
      cases q : r1[k]? with
      | none =>
        have e : EnTltR r1 (.ref k) = none := by show (r1[k]?).map _ = none; rw [q]; rfl
        rw [e] at h1
        exact h1.elim
      | some ys =>
        have e : EnTltR r1 (.ref k) = some (ys, some (k, ys)) := by show (r1[k]?).map _ = _; rw [q]; rfl
        rw [e] at h1
        obtain ⟨b', vs, k1, k2, k3, k4⟩ := g1.refs.at_ k ys q
        rw [h] at k1
        cases k1
        exact ⟨_, _, rfl, .inl ⟨SqL.of k2, OutP.here g1 h1 _ (it_eR h)⟩⟩
    | _ => exact h1.elim
end
end Ep
/-! int of a whole number, a truth or a short text of figures -/
namespace Ep
open PySem PySem.Spec L2 PyProof.Rows
def intTS (r : RS) (t : T) : Option T := match t with
  | .str z => if z.length ≤ 640 then (PySem.intText? z).map .int else none
  | t => intT r t
section
variable {X : Cx} {G : Gm} {W : WX} {pos : Pos} {a : Expr} {f : Env → M T}
abbrev rIntTS : List V → Hp → VK → Prop := fun xs H Q => ((∃ i, xs = [.int i] ∧ Q (.int i) H) ∨ ∃ k, xs = [.bl k] ∧ Q (.int (if k then 1 else 0)) H) ∨ ∃ a n, xs = [.str a] ∧ PySem.intText? a = some n ∧ a.length ≤ 640 ∧ Q (.int n) H
theorem v_intTS : B1 G rIntTS intTS := fun w H r v t z Q g d e q => by
  cases t with
  | str y =>
    obtain rfl : v = .str y := d.str
    have e : (if y.length ≤ 640 then (PySem.intText? y).map T.int else none) = some z := e
    by_cases short : y.length ≤ 640
    · rw [if_pos short] at e
      obtain ⟨n, en, rfl⟩ := Option.map_eq_some_iff.mp e
      exact .inr ⟨y, n, rfl, en, short, q _ w H (Step.refl _ _) g (.int _)⟩
    · rw [if_neg short] at e; cases e
  | _ => exact .inl (v_int w H r v _ z Q g d e q)
theorem Bd.intTS {j : Nat} (B : Bd X G W j) {p : Pos} (m : G.mg "int" = none) (ha : SK X G W a f) (hg : Gl X "int" := by rfl) (hs : starEach [a] X.env = (false, eval a X.env) :: starEach [] X.env := by rfl) : SE X G W (.Call (.Name "int" p) [a] [] pos) (fB1 Ep.intTS f) :=
  s_t1 (call_int1.or call_int_str) v_intTS hg (by rw [B.eM]; exact m) rfl ha hs
end
end Ep
namespace Ep
open PySem PySem.Spec L2
/-! ### steps, for the walker (wk.hd) -/
section
variable {f g k : Env → M T} {p q : Env → M Bool} {env env' env2 e : Env} {r r1 r2 r3 : RS} {x y z t u : T} {s s' : Sm} {so : SO} {b c : Bool} {n C : Nat} {F : List T → M T} {ts vs us : List T} {fs : List (Env → M T)}
theorem x_call {o : Out T} (h1 : fAll fs env r = .ok ts r1) (h2 : F ts r1 = o) : fCall F [] fs env r = o := bind_ok h1 (by rw [List.append_nil]; exact h2)
theorem x_make {F : List T → M (List T)} (h1 : fAll fs env r = .ok ts r1) (h2 : F ts r1 = .ok us r2) : fMake C F [] fs env r = .ok (.obj C us) r2 := bind_ok h1 (by rw [List.append_nil]; exact bind_ok h2 rfl)
theorem x_meth {o : Out T} (h1 : f env r = .ok (.obj C vs) r1) (h2 : fAll fs env r1 = .ok ts r2) (h3 : F (.obj C vs :: ts) r2 = o) : fMeth C F [] f fs env r = o := e_meth h1 h2 (by rw [List.append_nil]; exact h3)
theorem x_fld {m : Nat → Option Nat} {j : Nat} (h1 : f env r = .ok (.obj C vs) r1) (h2 : m C = some j) (h3 : vs[j]? = some t) : fFld m f env r = .ok t r1 := bind_ok h1 (by
  show M.lift ((m C).bind fun j => vs[j]?) r1 = _
  rw [h2]
  show M.lift (vs[j]?) r1 = _
  rw [h3]; rfl)
theorem x_seqX {c : Nat} {p : T} (h : s env r = .exn c p e r1) : qSeq s s' env r = .exn c p e r1 := by unfold qSeq; rw [h]
theorem x_notF (h1 : p env r = .ok true r1) : fNotB p env r = .ok false r1 := e_notB h1
theorem x_it {xs : List T} (h : f env r = .ok t r1) (h2 : iterT t = some xs) : fIter f env r = .ok xs r1 := bind_ok h (by rw [h2]; rfl)
theorem x_comp {ws : List Nat} {h : T → Env → Option Env} {fi : Env → M (List T)} {xs ys : List T} (h1 : fi env r = .ok xs r1) (h2 : compF ws h p f xs [] env r1 = .ok ys r2) : fComp ws h p f fi env r = .ok ys r2 := bind_ok h1 h2
/-! own comparisons -/
theorem x_own2s {o : Out T} (h1 : f env r = .ok x r1) (h2 : g env r1 = .ok y r2) (h3 : own2s C F x y r2 = o) : (f env >>= fun x => g env >>= fun y => own2s C F x y) r = o := bind_ok h1 (bind_ok h2 h3)
theorem x_own2c {o : Out T} (h1 : f env r = .ok x r1) (h2 : g env r1 = .ok y r2) (h3 : own2c C F x y r2 = o) : (f env >>= fun x => g env >>= fun y => own2c C F x y) r = o := bind_ok h1 (bind_ok h2 h3)
theorem y_own2 (h : F [.obj C vs, y] r = .ok t r1) : own2 C F (.obj C vs) y r = .ok t r1 := by
  show (if C = C then noEx (F [.obj C vs, y]) else M.bad : M T) r = _
  rw [if_pos rfl]
  unfold noEx
  rw [h]
theorem y_own2s (h : F [.obj C vs, .obj C us] r = .ok t r1) : own2s C F (.obj C vs) (.obj C us) r = .ok t r1 := by
  unfold own2s
  rw [if_pos (show sameT C (.obj C vs) (.obj C us) = true from decide_eq_true rfl)]
  exact y_own2 h
theorem y_own2c (h : F [.obj C vs, x] r = .ok (.bl b) r1) : own2c C F x (.obj C vs) r = .ok (.bl b) r1 := bind_ok (y_own2 h) rfl
end
/-! loops, by what stands of the slots -/
theorem x_passR {h : T → Env → Option Env} {s : Sm} {P : Env → RS → Prop} : ∀ (xs : List T) (env : Env) (r : RS), P env r → (∀ x ∈ xs, ∀ env r, P env r → ∃ e1 e2 r2, h x env = some e1 ∧ s e1 r = .nx e2 r2 ∧ P e2 r2) → ∃ e2 r2, loopF h s xs env r = .nx e2 r2 ∧ P e2 r2
  | [], env, r, f, _ => ⟨env, r, rfl, f⟩
  | x :: xs, env, r, f, G => by
    obtain ⟨e1, e2, r2, h1, h2, f2⟩ := G x List.mem_cons_self env r f
    obtain ⟨e3, r3, h3, f3⟩ := x_passR xs e2 r2 f2 fun y hy => G y (List.mem_cons_of_mem _ hy)
    exact ⟨e3, r3, n_loop h1 h2 h3, f3⟩
theorem n_forR {fi : Env → M (List T)} {h : T → Env → Option Env} {s : Sm} {env : Env} {r r1 : RS} {xs : List T} (P : Env → RS → Prop) (h1 : fi env r = .ok xs r1) (hp : P env r1) (st : ∀ x ∈ xs, ∀ env r, P env r → ∃ e1 e2 r2, h x env = some e1 ∧ s e1 r = .nx e2 r2 ∧ P e2 r2) : ∃ e2 r2, qFor fi h s env r = .nx e2 r2 ∧ P e2 r2 := by
  obtain ⟨e2, r2, l, p⟩ := x_passR xs env r1 hp st
  exact ⟨e2, r2, n_for h1 l, p⟩
/-! what holds of a run's end -/
def Ho (Q : SO → Prop) (so : SO) : Prop := Q so
section
variable {s s' : Sm} {env env' : Env} {r r1 : RS} {t : T} {Q : SO → Prop}
theorem ho_seq (h1 : s env r = .nx env' r1) (h2 : Ho Q (s' env' r1)) : Ho Q (qSeq s s' env r) := by unfold Ho at h2 ⊢; rw [n_seq h1 rfl]; exact h2
theorem ho_ret (h1 : s env r = .rt t r1) (h2 : Q (.rt t r1)) : Ho Q (qSeq s s' env r) := by unfold Ho; rw [n_seqR h1]; exact h2
theorem ho_nil (h : Q (.nx env r)) : Ho Q (qNil env r) := h
theorem ho_if {p : Env → M Bool} {b : Bool} {sa sb s' : Sm} (h1 : p env r = .ok b r1) (h2 : b = true → Ho Q (qSeq sa s' env r1)) (h3 : b = false → Ho Q (qSeq sb s' env r1)) : Ho Q (qSeq (qIf p sa sb) s' env r) := by
  cases b with
  | true =>
    have e : qIf p sa sb env r = sa env r1 := n_ifT h1 rfl
    have := h2 rfl
    unfold Ho qSeq at this ⊢
    rw [e]; exact this
  | false =>
    have e : qIf p sa sb env r = sb env r1 := n_ifF h1 rfl
    have := h3 rfl
    unfold Ho qSeq at this ⊢
    rw [e]; exact this
/-- a loop by what stands behind each turn -/
theorem ho_for {fi : Env → M (List T)} {h : T → Env → Option Env} {g : Sm} {xs : List T} (P : Env → RS → Prop) (h1 : fi env r = .ok xs r1) (hp : P env r1) (st : ∀ x ∈ xs, ∀ env r, P env r → ∃ e1, h x env = some e1 ∧ Ho (fun so => ∃ e2 r2, so = .nx e2 r2 ∧ P e2 r2) (g e1 r))
    (h2 : ∀ env r, P env r → Ho Q (s' env r)) : Ho Q (qSeq (qFor fi h g) s' env r) := by
  obtain ⟨e2, r2, l, p⟩ := n_forR (s := g) (h := h) P h1 hp fun x hx env r p => by
    obtain ⟨e1, a1, e2, r2, a2, a3⟩ := st x hx env r p
    exact ⟨e1, e2, r2, a1, a2, a3⟩
  exact ho_seq l (h2 e2 r2 p)
theorem ho_fnB {m : Nat} {ts : List T} {P : RS → Prop} (h : Ho (fun so => ∃ r', so = .rt (.bl true) r' ∧ P r') (s (envOf m ts) r)) : ∃ r', fnS m s ts r = .ok (.bl true) r' ∧ P r' := by
  obtain ⟨r', e, p⟩ := h
  exact ⟨r', n_fn e, p⟩
end
/-! leaves -/
theorem lf_mod {i j : Int} (h : 0 < j) : modT (.int i) (.int j) = some (.int (i % j)) := if_pos h
theorem lf_div {i j : Int} (h : 0 < j) (h2 : j.natAbs < 2 ^ 1000) : divT (.int i) (.int j) = some (.int (i / j)) := by
  refine if_pos ⟨h, ?_⟩
  have := (Nat.log2_lt (by omega : j.natAbs ≠ 0)).mpr h2
  omega
end Ep
local macro_rules | `(tactic| infer_instance) => `(tactic| first
  | with_reducible assumption
  | with_reducible exact Ep.e_nil
  | (with_reducible apply Ep.e_cons) <;> infer_instance
  | (with_reducible apply Ep.e_bin) <;> infer_instance
  | (with_reducible apply Ep.e_un) <;> infer_instance
  | (with_reducible apply Ep.e_b1) <;> infer_instance
  | (with_reducible apply Ep.e_ix) <;> infer_instance
  | (with_reducible apply Ep.e_tup) <;> infer_instance
  | (with_reducible apply Ep.e_lst) <;> infer_instance
  | (with_reducible apply Ep.e_own) <;> infer_instance
  | (with_reducible apply Ep.x_call) <;> infer_instance
  | (with_reducible apply Ep.x_make) <;> infer_instance
  | (with_reducible apply Ep.x_meth) <;> infer_instance
  | (with_reducible apply Ep.x_fld) <;> infer_instance
  | (with_reducible apply Ep.e_cmpB) <;> infer_instance
  | (with_reducible apply Ep.e_cmp) <;> infer_instance
  | (with_reducible apply Ep.e_tru) <;> infer_instance
  | (with_reducible apply Ep.e_toB) <;> infer_instance
  | (with_reducible apply Ep.x_ref) <;> infer_instance
  | (with_reducible apply Ep.x_seqL) <;> infer_instance
  | (with_reducible apply Ep.x_it) <;> infer_instance
  | (with_reducible apply Ep.x_sl2) <;> infer_instance
  | (with_reducible apply Ep.x_sl1) <;> infer_instance
  | (with_reducible apply Ep.x_sl0) <;> infer_instance
  | (with_reducible apply Ep.x_str1) <;> infer_instance
  | (with_reducible apply Ep.x_rng1) <;> infer_instance
  | (with_reducible apply Ep.x_rng2) <;> infer_instance
  | exact rfl)
local macro_rules | `(tactic| infer_instance) => `(tactic| first
  | (with_reducible apply Ep.x_own2s) <;> infer_instance
  | (with_reducible apply Ep.x_own2n) <;> infer_instance
  | (with_reducible apply Ep.x_own2x) <;> infer_instance
  | (with_reducible apply Ep.x_own2c) <;> infer_instance
  | (with_reducible apply Ep.x_own2nc) <;> infer_instance
  | (with_reducible apply Ep.x_notF) <;> infer_instance
  | (with_reducible apply Ep.x_notT) <;> infer_instance
  | (with_reducible apply Ep.x_nvF) <;> infer_instance
  | (with_reducible apply Ep.x_nvT) <;> infer_instance
  | (with_reducible apply Ep.e_notB) <;> infer_instance
  | (with_reducible apply Ep.e_not) <;> infer_instance
  | (with_reducible apply Ep.e_orBF) <;> infer_instance
  | (with_reducible apply Ep.e_orBT) <;> infer_instance
  | (with_reducible apply Ep.e_andBF) <;> infer_instance
  | (with_reducible apply Ep.e_andBT) <;> infer_instance
  | (with_reducible apply Ep.e_orF) <;> infer_instance
  | (with_reducible apply Ep.e_orT) <;> infer_instance
  | (with_reducible apply Ep.e_andF) <;> infer_instance
  | (with_reducible apply Ep.e_andT) <;> infer_instance
  | (with_reducible apply Ep.e_ifF) <;> infer_instance
  | (with_reducible apply Ep.e_ifT) <;> infer_instance
  | (with_reducible apply Ep.x_chain) <;> infer_instance
  | (with_reducible apply Ep.x_chainF) <;> infer_instance
  | (with_reducible apply Ep.x_chainB) <;> infer_instance
  | (with_reducible apply Ep.x_chainBF) <;> infer_instance)
local macro_rules | `(tactic| infer_instance) => `(tactic| first
  | (with_reducible apply Ep.n_set) <;> infer_instance
  | (with_reducible apply Ep.n_par2) <;> infer_instance
  | (with_reducible apply Ep.x_par3) <;> infer_instance
  | (with_reducible apply Ep.n_asg) <;> infer_instance
  | (with_reducible apply Ep.x_expr) <;> infer_instance
  | (with_reducible apply Ep.n_ret) <;> infer_instance
  | (with_reducible apply Ep.x_own) <;> infer_instance
  | (with_reducible apply Ep.x_app) <;> infer_instance
  | (with_reducible apply Ep.x_raise) <;> infer_instance
  | (with_reducible apply Ep.n_ifF) <;> infer_instance
  | (with_reducible apply Ep.n_ifT) <;> infer_instance
  | (with_reducible apply Ep.n_seqR) <;> infer_instance
  | (with_reducible apply Ep.n_seq) <;> infer_instance
  | (with_reducible apply Ep.x_seqX) <;> infer_instance)
local macro_rules | `(tactic| infer_instance) => `(tactic| first
  | (with_reducible apply Ep.lf_lt); omega
  | (with_reducible apply Ep.lf_ltF); omega
  | (with_reducible apply Ep.lf_le); omega
  | (with_reducible apply Ep.lf_leF); omega
  | (with_reducible apply Ep.lf_gt); omega
  | (with_reducible apply Ep.lf_gtF); omega
  | (with_reducible apply Ep.lf_ge); omega
  | (with_reducible apply Ep.lf_geF); omega
  | (with_reducible apply Ep.lf_eq); omega
  | (with_reducible apply Ep.lf_eqF); omega
  | (with_reducible apply Ep.lf_ne); omega
  | (with_reducible apply Ep.lf_neF); omega
  | (with_reducible apply Ep.lf_mulL); omega
  | (with_reducible apply Ep.lf_mulR); omega
  | (with_reducible apply Ep.lf_mod); omega
  | (with_reducible apply Ep.lf_div) <;> omega)
namespace Ep
open PySem PySem.Spec L2
/-! ### == and != where a changed list stands on a side -/
section
variable {X : Cx} {G : Gm} {W : WX} {j : Nat} {pos : Pos} {a b : Expr} {f g : Env → M T}
end
/-! ### [x] * n and xs + ys as new lists -/
section
variable {X : Cx} {G : Gm} {W : WX} {pos : Pos} {a b : Expr} {f g : Env → M T}
end
end Ep
namespace Ep
open PySem PySem.Spec L2
/-! ### a def called on instances of several classes; x += an integer -/
section
variable {X : Cx} {G : Gm} {W : WX} {pos apos : Pos} {e : Expr} {es : List Expr} {f : Env → M T} {fs : List (Env → M T)} {ds : List T} {j k n : Nat} {Cs : List Nat}
end
end Ep
/-! zip of two sources of any kind: lists, tuples, texts. -/
namespace Ep
open PySem PySem.Spec PyProof.Rows L2
theorem vals_back {xs : List V} {us : List Value} (rel : Vals xs us) {i : Nat} {v : Value} (e : us[i]? = some v) : ∃ x, xs[i]? = some x ∧ RelV x v := by
  have lt : i < xs.length := by rw [rel.length]; exact (List.getElem?_eq_some_iff.mp e).1
  obtain ⟨u, eu, r⟩ := rel.get (List.getElem?_eq_getElem lt)
  rw [e] at eu
  cases eu
  exact ⟨_, List.getElem?_eq_getElem lt, r⟩
inductive Src where
  | l (a : Addr)
  | t (a : Addr)
  | s (z : Str) (tk : Tok)
namespace Src
def val : Src → Value
  | .l a => .ref a
  | .t a => .ref a
  | .s z tk => .str z tk
def fp (it : Addr) : Src → List Addr
  | .l a => [it, a]
  | .t a => [it, a]
  | .s _ _ => [it]
def At (K : PySem.W.Frag) (H : Hp) : Src → List V → Prop
  | .l a, xs => SqL K H a xs
  | .t a, xs => SqT K H a xs
  | .s z _, xs => xs = z.cps.toList.map fun c => V.str ⟨#[c]⟩
def Cur (it : Addr) : Src → Nat → Heap → Prop
  | .l a, i, h => h.IsListIter it a i
  | .t a, i, h => h.IsTupleIter it a i
  | .s z tk, i, h => h.IsStrIter it (strIterType z) z tk i
def ob : Src → Obj
  | .l a => { cls := .type "list_iterator", data := .fields #[.ref a, .int 0 0] }
  | .t a => { cls := .type "tuple_iterator", data := .fields #[.ref a, .int 0 0] }
  | .s z tk => { cls := .type (strIterType z), data := .fields #[.str z tk, .int 0 0] }
theorem cur_ob : ∀ (o : Src) {it : Addr} {i : Nat} {h : Heap}, o.Cur it i h → ∃ b, h.get? it = some b ∧ ∀ v, b.data ≠ .cell v
  | .l _, _, _, _, ⟨b, e, _, d⟩ => ⟨b, e, fun v q => by rw [d] at q; nomatch q⟩
  | .t _, _, _, _, ⟨b, e, _, d⟩ => ⟨b, e, fun v q => by rw [d] at q; nomatch q⟩
  | .s _ _, _, _, _, ⟨b, e, _, d⟩ => ⟨b, e, fun v q => by rw [d] at q; nomatch q⟩
theorem cur_keep : ∀ (o : Src) {it : Addr} {i : Nat} {h h' : Heap}, o.Cur it i h → (∀ b, h.get? it = some b → h'.get? it = some b) → o.Cur it i h'
  | .l _, _, _, _, _, ⟨b, e, r⟩, k => ⟨b, k b e, r⟩
  | .t _, _, _, _, _, ⟨b, e, r⟩, k => ⟨b, k b e, r⟩
  | .s _ _, _, _, _, _, ⟨b, e, r⟩, k => ⟨b, k b e, r⟩
variable {s : Shared} {H : Hp} {σ : L2.St} {X : Cx} {pins : List (Addr × Obj)}
theorem draws {A : Around} (hh : A.handled = none) (I : Inv X pins σ H s) (it : Addr) : ∀ {o : Src} {xs : List V}, o.At X.K H xs → (∀ a, o.val = .ref a → a ≠ it) →
    ∃ Pd Sd, Draws X.prog X.w A it (o.fp it) xs.length Pd Sd ∧ (∀ i v, Pd i v → ∃ x, xs[i]? = some x ∧ RelV x v) ∧ (∀ i h, Sd i h → o.Cur it i h) ∧ ∀ i, o.Cur it i s.heap → Sd i s.heap
  | .l a, xs, h, ne => by
    obtain ⟨us, rel, pl, _⟩ := I.list h
    have D := Draws.list (prog := X.prog) (w := X.w) hh it a (ne a rfl) us.toArray
    rw [show us.toArray.size = xs.length by rw [rel.length]; rfl] at D
    exact ⟨_, _, D, fun i v q => vals_back rel (by simpa using q), fun i h q => q.1, fun i q => ⟨q, pl.isList⟩⟩
  | .t a, xs, h, ne => by
    obtain ⟨us, rel, pl, _⟩ := I.tuple h
    have D := Draws.tuple (prog := X.prog) (w := X.w) hh it a (ne a rfl) us.toArray
    rw [show us.toArray.size = xs.length by rw [rel.length]; rfl] at D
    exact ⟨_, _, D, fun i v q => vals_back rel (by simpa using q), fun i h q => q.1, fun i q => ⟨q, pl⟩⟩
  | .s z tk, xs, h, _ => by
    have D := Draws.text (prog := X.prog) (w := X.w) hh it z tk
    have h : xs = z.cps.toList.map fun c => V.str ⟨#[c]⟩ := h
    rw [show z.cps.size = xs.length by rw [h]; simp] at D
    exact ⟨_, _, D, fun i v ⟨c, u, e, ev⟩ => ⟨.str ⟨#[c]⟩, by rw [h]; simp [e], u, ev⟩, fun _ _ q => q, fun _ q => q⟩
theorem begins (I : Inv X pins σ H s) : ∀ {o : Src} {xs : List V}, o.At X.K H xs → ∃ Hb, Begins o.val o.ob Hb ∧ Hb s.heap
  | .l a, xs, h => by
    obtain ⟨us, rel, pl, _⟩ := I.list h
    exact ⟨_, begins_list a us.toArray, pl.isList⟩
  | .t a, xs, h => by
    obtain ⟨us, rel, pl, _⟩ := I.tuple h
    exact ⟨_, begins_tuple a us.toArray, pl⟩
  | .s z tk, _, _ => ⟨_, begins_text z tk, trivial⟩
end Src
section
variable {P : Program} {w : World} {K : PySem.W.Frag} {elts : List Expr} {kk : Nat} {tpos : Pos}
structure Five (o p : Src) (z TI TO i1 i2 : Addr) : Prop where
  sep : ZipSep2 z TI TO i1 i2 (o.fp i1) (p.fp i2)
  ne1 : ∀ a, o.val = .ref a → a ≠ i1
  ne2 : ∀ a, p.val = .ref a → a ≠ i2
theorem Src.below {X : Cx} {pins : List (Addr × Obj)} {σ : L2.St} {H : Hp} {s : Shared} (I : Inv X pins σ H s) : ∀ {o : Src} {xs : List V} {a : Addr}, o.At X.K H xs → o.val = .ref a → a < s.heap.objs.size
  | .l _, _, _, h, e => by cases e; obtain ⟨_, _, pl, _⟩ := I.list h; exact pl.lt
  | .t _, _, _, h, e => by cases e; obtain ⟨_, _, ⟨_, q, _⟩, _⟩ := I.tuple h; exact Heap.lt_size q
  | .s _ _, _, _, _, e => nomatch e
structure SrcOf (K : PySem.W.Frag) (H : Hp) (x : V) (xs : List V) (o : Tok → Src) : Prop where
  val : ∀ u, RelV x u → ∃ tk, u = (o tk).val
  at_ : ∀ tk, (o tk).At K H xs
end
section
variable {X : Cx} {G : Gm} {W : WX} {pos : Pos} {f : Env → M T}
end
/-! e[::-1] of a tuple -/
section
variable {s : Shared} {w : World} {prog : Program} {E : Value → Shared → Prop} {A : Around}
end
end Ep
/-! a tuple of any length times any small integer -/
namespace Ep
open PySem PySem.Spec PyProof.Rows L2
section
variable {l : Addr} {us : Array Value} {n : Nat} {dd : Option Addr} {sl : Array (Option Value)} {k : Int} {tk : Tok}
end
end Ep
/-! displays with stars, list(range(..)), sorted(ints), walks over a new dict of a comprehension. -/
namespace Ep
open PySem PySem.Spec PyProof.Rows L2
/-! ### arguments with stars -/
section
variable {X : Cx} {G : Gm} {W : WX} {pos : Pos} {a e : Expr} {es : List Expr} {f : Env → M T} {g : Env → M (List T)} {fs : List (Env → M T)}
end
/-! ### list(range(..)) -/
section
variable {X : Cx} {G : Gm} {W : WX} {pos pos2 p p2 : Pos} {a b : Expr} {f g : Env → M T}
end
/-! ### sorted(ints) -/
def sortI (ns : List Int) : List Int := ns.mergeSort (fun a b => decide (a ≤ b))
theorem sortI_perm (ns : List Int) : (sortI ns).Perm ns := List.mergeSort_perm _ _
theorem sortI_le (ns : List Int) : (sortI ns).Pairwise (· ≤ ·) :=
  (List.pairwise_mergeSort (le := fun a b : Int => decide (a ≤ b)) (fun a b c h1 h2 => by simp at *; omega) (fun a b => by simp; omega) ns).imp fun h => by simpa using h
theorem sort_one : ∀ {xs ys : List Int}, xs.Perm ys → xs.Pairwise (· ≤ ·) → ys.Pairwise (· ≤ ·) → xs = ys
  | [], ys, p, _, _ => (List.nil_perm.mp p).symm ▸ rfl
  | x :: xs, [], p, _, _ => absurd p.length_eq (by simp)
  | x :: xs, y :: ys, p, hx, hy => by
    have h1 := List.pairwise_cons.mp hx
    have h2 := List.pairwise_cons.mp hy
    have e : x = y := by
      have a : y ∈ x :: xs := p.mem_iff.mpr (List.mem_cons_self ..)
      have b : x ∈ y :: ys := p.mem_iff.mp (List.mem_cons_self ..)
      rcases List.mem_cons.mp a with q | q
      · exact q.symm
      · rcases List.mem_cons.mp b with q' | q'
        · exact q'
        · have := h1.1 y q; have := h2.1 x q'; omega
    subst e
    rw [sort_one ((List.perm_cons x).mp p) h1.2 h2.2]
def sortT (r : RS) (t : T) : Option T := (lstT r t).bind fun xs => (intsT xs).map fun ns => .lst ((sortI ns).map T.int)
theorem ints_back {G : Gm} {w : Wd} : ∀ ns : List Int, Dens G w (ns.map V.int) (ns.map T.int)
  | [] => .nil
  | _ :: ns => .cons (.int _) (ints_back ns)
theorem ints_len : ∀ {ts : List T} {ns : List Int}, intsT ts = some ns → ns.length = ts.length
  | [], ns, e => by cases e; rfl
  | t :: ts, ns, e => by
    cases t <;> try (cases e)
    rename_i i
    have e : (intsT ts).map (i :: ·) = some ns := e
    cases q : intsT ts with
    | none => rw [q] at e; exact nomatch e
    | some ms => rw [q] at e; cases e; simp [ints_len q]
theorem v_sort {X : Cx} {G : Gm} (hK : X.K = G.K) : B1 G (rSortedI X.K) sortT := fun w H r v t z Q g d e q => by
  unfold sortT at e
  obtain ⟨xs, e1, e⟩ := Option.bind_eq_some_iff.mp e
  obtain ⟨ns, e2, rfl⟩ := Option.map_eq_some_iff.mp e
  obtain ⟨a, vs, rfl, hq, dd, hz⟩ := lst_of g d e1
  have ev := ints_of dd e2
  subst ev
  refine ⟨a, ns, rfl, by rw [hK]; exact hq, fun ns' p hp hs hn => ?_⟩
  obtain rfl : ns' = sortI ns := sort_one (hp.trans (sortI_perm ns).symm) hs (sortI_le ns)
  obtain ⟨st, g2⟩ := g.new (o := .lst ((sortI ns).map V.int)) hn
  exact q _ _ _ st g2 (.lst upd_same (by rw [List.length_map, (sortI_perm ns).length_eq, ints_len e2]; exact hz) (ints_back _))
/-! ### {k: v for x in xs if p}, a new dict -/
section
variable {X : Cx} {G : Gm} {W : WX} {pos : Pos} {fk fv : Env → M T} {p : Env → M Bool} {env : Env} {r : RS} {w : Wd} {H0 H : Hp} {σ : L2.St}
variable {kx vx tg iter : Expr} {ifs : List Expr} {scope : Scope} {own : List (Str × Nat)} {us : List Nat} {h : T → Env → Option Env} {fi : Env → M (List T)}
end
/-! ### walking a new dict -/
section
variable {X : Cx} {G : Gm} {W : WX} {tg e : Expr}
end
section
variable {X : Cx} {G : Gm} {W : WX} {j : Nat} {pos p p2 : Pos} {a b : Expr} {f g : Env → M T}
theorem Bd.sorted (B : Bd X G W j) (m : G.mg "sorted" = none) (ha : SK X G W a f) (hg : Gl X "sorted" := by rfl) (hs : starEach [a] X.env = (false, eval a X.env) :: starEach [] X.env := by rfl) : SE X G W (.Call (.Name "sorted" p) [a] [] pos) (fB1 sortT f) := s_b1 cr_sortedI (v_sort B.eK) hg (by rw [B.eM]; exact m) rfl ha hs
variable {fk fv : Env → M T} {q : Env → M Bool} {kx vx tg iter : Expr} {ifs : List Expr} {scope : Scope} {us : List Nat} {h : T → Env → Option Env} {fi : Env → M (List T)}
end
end Ep
/-! list(zip(a, b)) of two lists. -/
namespace Ep
open PySem PySem.Spec PyProof.Rows L2
/-- two lists and the zip that walks both, i turns on; S: the list that takes the pairs -/
structure ZW (z TI TO i1 i2 l1 l2 S : Addr) (xs ys : Array Value) (i : Nat) (h : Heap) : Prop where
  ti : IsPair h TI (.ref i1) (.ref i2)
  c1 : h.IsListIter i1 l1 i
  c2 : h.IsListIter i2 l2 i
  a1 : h.IsList l1 xs
  a2 : h.IsList l2 ys
  z : (IsZip h z TI TO .none ∧ ∃ a b, IsPair h TO a b) ∨ ∃ T f oT, IsZipHeld h z TI TO T f ∧ h.get? T = some oT ∧ T ≠ z ∧ T ≠ i1 ∧ T ≠ i2 ∧ T ≠ S
section
variable {z TI TO i1 i2 l1 l2 S : Addr} {xs ys : Array Value} {i : Nat}
/-- a write at S alone leaves it -/
theorem ZW.put {h h' : Heap} (w : ZW z TI TO i1 i2 l1 l2 S xs ys i h) (k : ∀ b o, b ≠ S → h.get? b = some o → h'.get? b = some o) (n : ∀ b ∈ [z, TI, TO, i1, i2, l1, l2], b ≠ S) : ZW z TI TO i1 i2 l1 l2 S xs ys i h' := by
  have nz : z ≠ S := n _ (by simp)
  refine ⟨k _ _ (n _ (by simp)) w.ti, w.c1.at fun o e => k _ o (n _ (by simp)) e, w.c2.at fun o e => k _ o (n _ (by simp)) e, w.a1.at fun o e => k _ o (n _ (by simp)) e, w.a2.at fun o e => k _ o (n _ (by simp)) e, ?_⟩
  rcases w.z with ⟨hz, a, b, hT⟩ | ⟨T, f, oT, hz, hT, r1, r2, r3, r4⟩
  · exact .inl ⟨k _ _ nz hz, a, b, k _ _ (n _ (by simp)) hT⟩
  · exact .inr ⟨T, f, oT, k _ _ nz hz, k _ _ r4 hT, r1, r2, r3, r4⟩
variable {s : Shared} {A : Around} {P : Program} {w : World} {E : Value → Shared → Prop}
theorem ZW.item (D : ZipApart z TI TO i1 i2 l1 l2) (st : ZW z TI TO i1 i2 l1 l2 S xs ys i s.heap) (hS : S < s.heap.objs.size) {x y : Value} (ex : xs[i]? = some x) (ey : ys[i]? = some y) {Q : Option Value → Shared → Prop}
    (q : ∀ h', IsPair h' s.heap.objs.size x y → ZW z TI TO i1 i2 l1 l2 S xs ys (i + 1) h' → (∀ c o, c ∉ [z, TO, i1, i2] → s.heap.get? c = some o → h'.get? c = some o) → Q (some (.ref s.heap.objs.size)) { s with heap := h' }) : wpAny (model P w) A (pyNext (.ref z)) Q E s := by
  have gone : ∀ {c o}, s.heap.get? c = some o → s.heap.objs.size ≠ c := fun e => Nat.ne_of_gt (Heap.lt_size e)
  have g1 : s.heap.objs.size ≠ i1 := let ⟨_, e, _⟩ := st.c1; gone e
  have g2 : s.heap.objs.size ≠ i2 := let ⟨_, e, _⟩ := st.c2; gone e
  rcases st.z with ⟨hz, a, b, hT⟩ | ⟨T, f, oT, hz, hT, r1, r2, r3, r4⟩
  · refine wpAny_pyNext_zip_item D hz st.ti hT st.c1 st.c2 st.a1 st.a2 ex ey fun h' b1 _ b3 b4 b5 _ k => q h' b5 ⟨k _ _ D.TIz D.TITO D.TIi1 D.TIi2 st.ti, b3, b4, st.a1.at fun o e => k _ o D.l1z D.l1TO D.l1i1 D.l1i2 e, st.a2.at fun o e => k _ o D.l2z D.l2TO D.l2i1 D.l2i2 e, .inr ⟨_, false, _, b1, b5, gone hz, g1, g2, Nat.ne_of_gt hS⟩⟩ fun c o hc e => ?_
    simp only [List.mem_cons, List.not_mem_nil, or_false, not_or] at hc
    exact k c o hc.1 hc.2.1 hc.2.2.1 hc.2.2.2 e
  · refine wpAny_pyNext_zip_item_held D hz hT st.ti st.c1 st.c2 st.a1 st.a2 ex ey fun h' b1 b3 b4 b5 _ k => q h' b5 ⟨k _ _ D.TIz D.TIi1 D.TIi2 st.ti, b3, b4, st.a1.at fun o e => k _ o D.l1z D.l1i1 D.l1i2 e, st.a2.at fun o e => k _ o D.l2z D.l2i1 D.l2i2 e, .inr ⟨T, true, oT, b1, k _ _ r1 r2 r3 hT, r1, r2, r3, r4⟩⟩ fun c o hc e => ?_
    simp only [List.mem_cons, List.not_mem_nil, or_false, not_or] at hc
    exact k c o hc.1 hc.2.2.1 hc.2.2.2 e
theorem ZW.done (hh : A.handled = none) (D : ZipApart z TI TO i1 i2 l1 l2) (st : ZW z TI TO i1 i2 l1 l2 S xs ys (min xs.size ys.size) s.heap) {Q : Option Value → Shared → Prop}
    (q : ∀ h', (∀ c o, c ∉ [z, TO, i1, i2] → s.heap.get? c = some o → h'.get? c = some o) → Q none { s with heap := h' }) : wpAny (model P w) A (pyNext (.ref z)) Q E s := by
  have en : xs[min xs.size ys.size]? = none ∨ ys[min xs.size ys.size]? = none := by
    rw [Array.getElem?_eq_none_iff, Array.getElem?_eq_none_iff]
    omega
  rcases st.z with ⟨hz, a, b, hT⟩ | ⟨T, f, oT, hz, hT, r1, r2, r3, r4⟩
  · refine wpAny_pyNext_zip_end hh D hz st.ti hT st.c1 st.c2 st.a1 st.a2 en fun h' k => q h' fun c o hc e => ?_
    simp only [List.mem_cons, List.not_mem_nil, or_false, not_or] at hc
    exact k c o hc.1 hc.2.1 hc.2.2.1 hc.2.2.2 e
  · refine wpAny_pyNext_zip_end_held hh D hz hT st.ti st.c1 st.c2 st.a1 st.a2 en fun h' k => q h' fun c o hc e => ?_
    simp only [List.mem_cons, List.not_mem_nil, or_false, not_or] at hc
    exact k c o hc.1 hc.2.2.1 hc.2.2.2 e
end
/-- the pairs of two rows, drawn one by one into new tuples: what a world keeps of it -/
structure ZJ (us vs : List V) (J : Nat → List V → Hp → Prop) : Prop where
  step : ∀ i ws H q x y, J i ws H → H q = none → us[i]? = some x → vs[i]? = some y → J (i + 1) (ws ++ [.ref q]) (upd H q (.tup [x, y]))
section
variable {X : Cx} {pins : List (Addr × Obj)} {σ : L2.St} {H0 : Hp} {s0 : Shared} {z TI TO i1 i2 l1 l2 S : Addr} {us vs : List V} {xs ys : Array Value}
/-- the list S as it stands; s0: ahead of the zip's making -/
structure ZE (X : Cx) (pins : List (Addr × Obj)) (σ : L2.St) (S : Addr) (H0 : Hp) (s0 : Shared) (i : Nat) (H : Hp) (s : Shared) (ws : List V) (acc : Array Value) (c : Nat) : Prop where
  I : Inv X pins σ H s
  own : s.heap.get? S = some (lstObj acc c)
  rel : Vals ws acc.toList
  len : ws.length = i
  free : H S = none
  gt : s0.heap.objs.size ≤ S
  old : ∀ b o, s0.heap.get? b = some o → s.heap.get? b = some o
  hp : ∀ b, b < s0.heap.objs.size → H b = H0 b
  os : s.os = s0.os
/-- the loop amid its turns -/
structure ZL (X : Cx) (pins : List (Addr × Obj)) (σ : L2.St) (z TI TO i1 i2 l1 l2 S : Addr) (H0 : Hp) (s0 : Shared) (J : Nat → List V → Hp → Prop) (i : Nat) (H : Hp) (s : Shared) (ws : List V) (acc : Array Value) (c : Nat) : Prop where
  e : ZE X pins σ S H0 s0 i H s ws acc c
  fr : ∀ b ∈ [z, TO, i1, i2, S], FpOk X pins H b ∧ s0.heap.objs.size ≤ b ∧ b < s.heap.objs.size
  j : J i ws H
  ne : ∀ b ∈ [z, TI, TO, i1, i2, l1, l2], b ≠ S
variable {J : Nat → List V → Hp → Prop} {i : Nat} {H : Hp} {s : Shared} {ws : List V} {acc : Array Value} {c : Nat}
theorem in5 {b : Addr} (m : b ∈ [z, TO, i1, i2]) : b ∈ [z, TO, i1, i2, S] := by
  simp only [List.mem_cons, List.not_mem_nil, or_false] at m ⊢
  rcases m with h | h | h | h <;> simp [h]
theorem in7 {b : Addr} (m : b ∈ [z, TO, i1, i2]) : b ∈ [z, TI, TO, i1, i2, l1, l2] := by
  simp only [List.mem_cons, List.not_mem_nil, or_false] at m ⊢
  rcases m with h | h | h | h <;> simp [h]
/-- the end: the list is known -/
theorem ZE.known (L : ZE X pins σ S H0 s0 i H s ws acc c) (I0 : Inv X pins σ H0 s0) (few : i ≤ sizeLine) : Inv X pins σ (upd H S (.lst ws)) s := by
  have lt : ∀ b u, H0 b = some u → b < s0.heap.objs.size := fun b u e => by
    rcases Nat.lt_or_ge b s0.heap.objs.size with h | h
    · exact h
    · rw [I0.hok.fresh h] at e; cases e
  have at_ : ∀ b, b < s0.heap.objs.size → upd H S (.lst ws) b = H0 b := fun b h => by rw [upd_ne (Nat.ne_of_lt (Nat.lt_of_lt_of_le h L.gt)), L.hp b h]
  refine I0.call' (ch := []) L.os ⟨fun b o e _ _ _ => L.old b o e, fun b o e _ _ _ => ⟨o.slots, L.old b o e⟩, fun b o e n _ => (at_ b (Heap.lt_size e)).trans n, fun b o e _ => ⟨o, L.old b o e⟩, fun b xs e => (at_ b (lt b _ e)).trans e, fun b o u e => (at_ b (lt b _ e)).trans e, fun b ps e => ⟨#[], by rw [at_ b (lt b _ e), e]; simp⟩⟩ (fun b u e => ?_) L.I.bare (fun b hb => absurd hb List.not_mem_nil)
  by_cases q : b = S
  · subst q
    rw [upd_same] at e
    cases e
    exact ⟨by rw [L.len]; exact few, acc.toList, c, L.rel, L.own⟩
  · rw [upd_ne q] at e
    refine (L.I.hok b u e).stay (fun _ _ _ h => h) (fun d h => ?_) (fun d v h => ?_)
    · rw [upd_ne (ne_of_none h L.free)]; exact h
    · rw [upd_ne (ne_of_none h L.free)]; exact h
theorem ZL.turned {h' : Heap} (L : ZL X pins σ z TI TO i1 i2 l1 l2 S H0 s0 J i H s ws acc c) (kp : ∀ c o, c ∉ [z, TO, i1, i2] → s.heap.get? c = some o → h'.get? c = some o) : ZE X pins σ S H0 s0 i H { s with heap := h' } ws acc c where
  I := L.e.I.turnedL (t' := s.toks) (ch := [z, TO, i1, i2]) kp fun b hb => (L.fr b (in5 hb)).1
  own := kp S _ (fun m => L.ne S (in7 m) rfl) L.e.own
  rel := L.e.rel
  len := L.e.len
  free := L.e.free
  gt := L.e.gt
  old := fun b o q => kp b o (fun m => absurd (L.fr b (in5 m)).2.1 (Nat.not_le.mpr (Heap.lt_size q))) (L.e.old b o q)
  hp := L.e.hp
  os := L.e.os
end
/-! ### the call -/
section
variable {X : Cx} {pins : List (Addr × Obj)} {σ : L2.St} {H0 : Hp} {s0 s : Shared} {z : Addr} {A : Around} {E : Value → Shared → Prop} {Q : Value → Shared → Prop} {P : Program} {w : World}
end
section
variable {X : Cx}
end
section
variable {X : Cx} {G : Gm} {W : WX} {pos pos2 p np : Pos} {a b : Expr} {f g : Env → M T}
end
end Ep
/-! a comprehension over a list that is changed by several defs, as long as it stays as it is. -/
namespace Ep
open PySem PySem.Spec PyProof.Rows L2
section
variable {X : Cx} {G : Gm} {W : WX} {pos : Pos} {tg e : Expr}
end
open Classical in
section
variable {X : Cx} {G : Gm} {W : WX} {pos : Pos} {f : Env → M T} {p : Env → M Bool}
variable {elt tg iter : Expr} {ifs : List Expr} {scope : Scope} {us : List Nat} {h : T → Env → Option Env} {fi : Env → M (List T × Option (Nat × List T))} {j : Nat}
end
end Ep
/-! what comprehensions compute, told for rows of any kind. -/
namespace Ep
open PySem PySem.Spec L2
section
variable {α β : Type} {vs vs1 : List Nat} {h h1 : T → Env → Option Env} {p p1 : Env → M Bool} {f fk fv : Env → M T} {env : Env} {r r1 : RS}
end
end Ep
/-! == of plain trees: tuples and lists of leaves that are told apart. -/
namespace Ep
open PySem PySem.Spec L2
/-- leaves: told apart by their data, unlike tuples and lists -/
structure LeafOk (L : T → Prop) : Prop where
  two : ∀ t u, L t → L u → ∃ d e, pyT t = some d ∧ pyT u = some e ∧ (PyData.eqv d e = true ↔ t = u)
  one : ∀ t, L t → ∃ d, pyT t = some d ∧ d.canLay0 = true ∧ d.depth = 0 ∧ (∀ ds, PyData.eqv d (.tuple ds) = false ∧ PyData.eqv (.tuple ds) d = false ∧ PyData.eqv d (.list ds) = false ∧ PyData.eqv (.list ds) d = false) ∧ ∀ xs, t ≠ .tup xs ∧ t ≠ .lst xs
def LfI (t : T) : Prop := t = .non ∨ (∃ i, t = .int i) ∨ ∃ x, t = .str x ∧ PyData.strOk x = true
theorem lfI : LeafOk LfI := by
  refine ⟨fun t u ht hu => ?_, fun t ht => ?_⟩
  · rcases ht with rfl | ⟨i, rfl⟩ | ⟨x, rfl, _⟩ <;> rcases hu with rfl | ⟨j, rfl⟩ | ⟨y, rfl, _⟩
    · exact ⟨_, _, rfl, rfl, Iff.intro (fun _ => rfl) fun _ => rfl⟩
    · exact ⟨_, _, rfl, rfl, ⟨fun h => Bool.noConfusion (show false = true from h), fun h => T.noConfusion h⟩⟩
    · exact ⟨_, _, rfl, rfl, ⟨fun h => Bool.noConfusion (show false = true from h), fun h => T.noConfusion h⟩⟩
    · exact ⟨_, _, rfl, rfl, ⟨fun h => Bool.noConfusion (show false = true from h), fun h => T.noConfusion h⟩⟩
    · exact ⟨_, _, rfl, rfl, ⟨fun h => by have : (i == j) = true := h; rw [eq_of_beq this], fun h => by cases h; show (i == i) = true; exact beq_self_eq_true i⟩⟩
    · exact ⟨_, _, rfl, rfl, ⟨fun h => Bool.noConfusion (show false = true from h), fun h => T.noConfusion h⟩⟩
    · exact ⟨_, _, rfl, rfl, ⟨fun h => Bool.noConfusion (show false = true from h), fun h => T.noConfusion h⟩⟩
    · exact ⟨_, _, rfl, rfl, ⟨fun h => Bool.noConfusion (show false = true from h), fun h => T.noConfusion h⟩⟩
    · exact ⟨_, _, rfl, rfl, ⟨fun h => by have : (x == y) = true := h; rw [eq_of_beq this], fun h => by cases h; show (x == x) = true; exact beq_self_eq_true x⟩⟩
  · rcases ht with rfl | ⟨i, rfl⟩ | ⟨x, rfl, hx⟩
    · exact ⟨.none, rfl, rfl, rfl, fun ds => ⟨rfl, rfl, rfl, rfl⟩, fun xs => ⟨fun h => T.noConfusion h, fun h => T.noConfusion h⟩⟩
    · exact ⟨.int i, rfl, rfl, rfl, fun ds => ⟨rfl, rfl, rfl, rfl⟩, fun xs => ⟨fun h => T.noConfusion h, fun h => T.noConfusion h⟩⟩
    · exact ⟨.str x, rfl, hx, rfl, fun ds => ⟨rfl, rfl, rfl, rfl⟩, fun xs => ⟨fun h => T.noConfusion h, fun h => T.noConfusion h⟩⟩
/-- a plain tree over leaves, of some depth -/
def Pt (L : T → Prop) : Nat → T → Prop
  | 0, t => L t
  | n + 1, t => L t ∨ (∃ ts, t = .tup ts ∧ ∀ x ∈ ts, Pt L n x) ∨ ∃ ts, t = .lst ts ∧ ∀ x ∈ ts, Pt L n x
theorem Pt.leaf {L : T → Prop} {t : T} (h : L t) : ∀ n, Pt L n t
  | 0 => h
  | _ + 1 => .inl h
theorem Pt.tup {L : T → Prop} {n : Nat} {ts : List T} (h : ∀ x ∈ ts, Pt L n x) : Pt L (n + 1) (.tup ts) := .inr (.inl ⟨ts, rfl, h⟩)
theorem Pt.lst {L : T → Prop} {n : Nat} {ts : List T} (h : ∀ x ∈ ts, Pt L n x) : Pt L (n + 1) (.lst ts) := .inr (.inr ⟨ts, rfl, h⟩)
structure Dt (n : Nat) (t : T) (d : PyData) : Prop where
  py : pyT t = some d
  lay : d.canLay0 = true
  dep : d.depth ≤ n
theorem dts {L : T → Prop} {n : Nat} (h : ∀ t, Pt L n t → ∃ d, Dt n t d) : ∀ {ts : List T}, (∀ x ∈ ts, Pt L n x) → ∃ ds, pyTs ts = some ds ∧ PyData.canLayAll0 ds = true ∧ PyData.depthAll ds ≤ n
  | [], _ => ⟨[], rfl, rfl, Nat.zero_le _⟩
  | t :: ts, hh => by
    obtain ⟨d, e⟩ := h t (hh t (List.mem_cons_self ..))
    obtain ⟨ds, f1, f2, f3⟩ := dts h fun x m => hh x (List.mem_cons_of_mem _ m)
    refine ⟨d :: ds, ?_, ?_, ?_⟩
    · show (pyT t).bind (fun d => (pyTs ts).map (d :: ·)) = _
      rw [e.py, f1]; rfl
    · show (d.canLay0 && PyData.canLayAll0 ds) = true
      rw [e.lay, f2]; rfl
    · have := e.dep
      show max d.depth (PyData.depthAll ds) ≤ n
      omega
theorem dt_of {L : T → Prop} (ok : LeafOk L) : ∀ {n : Nat} {t : T}, Pt L n t → ∃ d, Dt n t d
  | 0, t, h => by
    obtain ⟨d, h1, h2, h3, _⟩ := ok.one t h
    exact ⟨d, h1, h2, by omega⟩
  | n + 1, t, h => by
    rcases h with h | ⟨ts, rfl, h⟩ | ⟨ts, rfl, h⟩
    · obtain ⟨d, h1, h2, h3, _⟩ := ok.one t h
      exact ⟨d, h1, h2, by omega⟩
    · obtain ⟨ds, f1, f2, f3⟩ := dts (fun t ht => dt_of ok ht) h
      refine ⟨.tuple ds, ?_, f2, ?_⟩
      · show (pyTs ts).map PyData.tuple = _
        rw [f1]; rfl
      · show PyData.depthAll ds + 1 ≤ n + 1
        omega
    · obtain ⟨ds, f1, f2, f3⟩ := dts (fun t ht => dt_of ok ht) h
      refine ⟨.list ds, ?_, f2, ?_⟩
      · show (pyTs ts).map PyData.list = _
        rw [f1]; rfl
      · show PyData.depthAll ds + 1 ≤ n + 1
        omega
theorem eqvs {L : T → Prop} {n : Nat} (h : ∀ t u d e, Pt L n t → Pt L n u → pyT t = some d → pyT u = some e → (PyData.eqv d e = true ↔ t = u)) : ∀ {ts us : List T} {ds es : List PyData}, (∀ x ∈ ts, Pt L n x) → (∀ x ∈ us, Pt L n x) → pyTs ts = some ds → pyTs us = some es → (PyData.eqvAll ds es = true ↔ ts = us)
  | [], [], ds, es, _, _, e1, e2 => by cases e1; cases e2; exact ⟨fun _ => rfl, fun _ => rfl⟩
  | [], u :: us, ds, es, _, _, e1, e2 => by
    cases e1
    obtain ⟨d, _, e2⟩ := Option.bind_eq_some_iff.mp (show (pyT u).bind (fun d => (pyTs us).map (d :: ·)) = some es from e2)
    obtain ⟨l, _, rfl⟩ := Option.map_eq_some_iff.mp e2
    exact ⟨fun q => Bool.noConfusion (show false = true from q), fun q => nomatch q⟩
  | t :: ts, [], ds, es, _, _, e1, e2 => by
    cases e2
    obtain ⟨d, _, e1⟩ := Option.bind_eq_some_iff.mp (show (pyT t).bind (fun d => (pyTs ts).map (d :: ·)) = some ds from e1)
    obtain ⟨l, _, rfl⟩ := Option.map_eq_some_iff.mp e1
    exact ⟨fun q => Bool.noConfusion (show false = true from q), fun q => nomatch q⟩
  | t :: ts, u :: us, ds, es, ht, hu, e1, e2 => by
    obtain ⟨d, k1, e1⟩ := Option.bind_eq_some_iff.mp (show (pyT t).bind (fun d => (pyTs ts).map (d :: ·)) = some ds from e1)
    obtain ⟨l, k2, rfl⟩ := Option.map_eq_some_iff.mp e1
    obtain ⟨e, k3, e2⟩ := Option.bind_eq_some_iff.mp (show (pyT u).bind (fun d => (pyTs us).map (d :: ·)) = some es from e2)
    obtain ⟨m, k4, rfl⟩ := Option.map_eq_some_iff.mp e2
    have a := h t u d e (ht t (List.mem_cons_self ..)) (hu u (List.mem_cons_self ..)) k1 k3
    have b := eqvs h (fun x q => ht x (List.mem_cons_of_mem _ q)) (fun x q => hu x (List.mem_cons_of_mem _ q)) k2 k4
    show (PyData.eqv d e && PyData.eqvAll l m) = true ↔ _
    rw [Bool.and_eq_true, a, b]
    exact ⟨fun ⟨x, y⟩ => by rw [x, y], fun q => by cases q; exact ⟨rfl, rfl⟩⟩
theorem eqv_of {L : T → Prop} (ok : LeafOk L) : ∀ {n : Nat} (t u : T) (d e : PyData), Pt L n t → Pt L n u → pyT t = some d → pyT u = some e → (PyData.eqv d e = true ↔ t = u)
  | 0, t, u, d, e, h, h', e1, e2 => by
    obtain ⟨d', e', k1, k2, k3⟩ := ok.two t u h h'
    rw [e1] at k1; rw [e2] at k2
    cases k1; cases k2
    exact k3
  | n + 1, t, u, d, e, h, h', e1, e2 => by
    rcases h with h | ⟨ts, rfl, h⟩ | ⟨ts, rfl, h⟩
    · obtain ⟨d1, k1, _, _, k4, k5⟩ := ok.one t h
      rw [e1] at k1
      cases k1
      rcases h' with h' | ⟨us, rfl, h'⟩ | ⟨us, rfl, h'⟩
      · obtain ⟨d', e', j1, j2, j3⟩ := ok.two t u h h'
        rw [e1] at j1; rw [e2] at j2
        cases j1; cases j2
        exact j3
      · obtain ⟨l, _, rfl⟩ := Option.map_eq_some_iff.mp (show (pyTs us).map PyData.tuple = some e from e2)
        exact ⟨fun q => (by rw [(k4 l).1] at q; cases q), fun q => absurd q (k5 us).1⟩
      · obtain ⟨l, _, rfl⟩ := Option.map_eq_some_iff.mp (show (pyTs us).map PyData.list = some e from e2)
        exact ⟨fun q => (by rw [(k4 l).2.2.1] at q; cases q), fun q => absurd q (k5 us).2⟩
    · obtain ⟨m, m1, rfl⟩ := Option.map_eq_some_iff.mp (show (pyTs ts).map PyData.tuple = some d from e1)
      rcases h' with h' | ⟨us, rfl, h'⟩ | ⟨us, rfl, h'⟩
      · obtain ⟨d1, k1, _, _, k4, k5⟩ := ok.one u h'
        rw [e2] at k1
        cases k1
        exact ⟨fun q => (by rw [(k4 m).2.1] at q; cases q), fun q => absurd q.symm (k5 ts).1⟩
      · obtain ⟨l, l1, rfl⟩ := Option.map_eq_some_iff.mp (show (pyTs us).map PyData.tuple = some e from e2)
        have := eqvs (fun t u d e => eqv_of ok t u d e) h h' m1 l1
        show PyData.eqvAll m l = true ↔ _
        rw [this]
        exact ⟨fun q => by rw [q], fun q => by cases q; rfl⟩
      · obtain ⟨l, _, rfl⟩ := Option.map_eq_some_iff.mp (show (pyTs us).map PyData.list = some e from e2)
        exact ⟨fun q => Bool.noConfusion (show false = true from q), fun q => T.noConfusion q⟩
    · obtain ⟨m, m1, rfl⟩ := Option.map_eq_some_iff.mp (show (pyTs ts).map PyData.list = some d from e1)
      rcases h' with h' | ⟨us, rfl, h'⟩ | ⟨us, rfl, h'⟩
      · obtain ⟨d1, k1, _, _, k4, k5⟩ := ok.one u h'
        rw [e2] at k1
        cases k1
        exact ⟨fun q => (by rw [(k4 m).2.2.2] at q; cases q), fun q => absurd q.symm (k5 ts).2⟩
      · obtain ⟨l, _, rfl⟩ := Option.map_eq_some_iff.mp (show (pyTs us).map PyData.tuple = some e from e2)
        exact ⟨fun q => Bool.noConfusion (show false = true from q), fun q => T.noConfusion q⟩
      · obtain ⟨l, l1, rfl⟩ := Option.map_eq_some_iff.mp (show (pyTs us).map PyData.list = some e from e2)
        have := eqvs (fun t u d e => eqv_of ok t u d e) h h' m1 l1
        show PyData.eqvAll m l = true ↔ _
        rw [this]
        exact ⟨fun q => by rw [q], fun q => by cases q; rfl⟩
end Ep
/-! steps for a def's own list: its last item, that exchanged, a loop that keeps it. -/
namespace Ep
open PySem PySem.Spec L2
section
variable {env : Env} {r r1 r2 : RS} {i : Nat} {f g : Env → M T} {t : T} {xs : List T}
end
end Ep
/-! drawing from a pool of two numbers. -/
namespace Dr
open PySem Ep L2
theorem ltI (i j : Int) : ltT (.int i) (.int j) = some (decide (i < j)) := rfl
theorem n_setIx {f g : Ep.Env → M T} {env : Ep.Env} {r r1 r2 : RS} {t : T} {i k j : Nat} {x : Int} {xs : List T} (hi : env[i]? = some (.val (.ref k))) (h1 : f env r = .ok t r1) (h2 : g env r1 = .ok (.int x) r2) (hk : r2[k]? = some xs) (hx : L2.ixN xs.length x = some j) : qSetIx i f g env r = .nx env (r2.set k (xs.set j t)) := by
  have e1 : isMut env i = true := by unfold isMut; rw [hi]
  have e2 : mutGet env i r2 = some xs := by unfold mutGet; rw [hi]; exact hk
  have e3 : mutSet env i r2 (xs.set j t) = .nx env (r2.set k (xs.set j t)) := by unfold mutSet; rw [hi]
  unfold qSetIx
  rw [if_pos e1, h1]
  show ofM env (fun u r => match mutGet env i r, u with
    | some xs, .int k => match L2.ixN xs.length k with
      | some j => mutSet env i r (xs.set j t)
      | none => .bad
    | _, _ => .bad) (g env r1) = _
  rw [h2]
  show (match mutGet env i r2, T.int x with
    | some xs, .int k => match L2.ixN xs.length k with
      | some j => mutSet env i r2 (xs.set j t)
      | none => .bad
    | _, _ => .bad) = _
  rw [e2]
  show (match L2.ixN xs.length x with
      | some j => mutSet env i r2 (xs.set j t)
      | none => .bad) = _
  rw [hx]
  exact e3
theorem ix_ref {r : RS} {k : Nat} {xs : List T} {i : Int} {t : T} (hk : r[k]? = some xs) (h : L2.atI xs i = some t) : ixT r (.ref k) (.int i) = some t := by
  show (r[k]?).bind (fun xs => L2.atI xs i) = some t
  rw [hk]
  exact h
theorem gt_ii (i j : Int) : gtT (.int i) (.int j) = some (decide (j < i)) := rfl
theorem fst_ref {r : RS} {k : Nat} {a b : Int} (hk : r[k]? = some [.int a, .int b]) : ixT r (.ref k) (.int 0) = some (.int a) := ix_ref hk rfl
theorem snd_ref {r : RS} {k : Nat} {a b : Int} (hk : r[k]? = some [.int a, .int b]) : ixT r (.ref k) (.int 1) = some (.int b) := ix_ref hk rfl
theorem rng1s {f : Ep.Env → M T} {env : Ep.Env} {r r1 : RS} {i : Int} (h1 : f env r = .ok (.int i) r1) (h : -(2 ^ 62) ≤ i ∧ i < 2 ^ 62) : fRng1 f env r = .ok (rngL 0 i.toNat) r1 := by
  refine bind_ok (a := [.int i]) (r1 := r1) (e_cons (x := .int i) (r1 := r1) h1 rfl) ?_
  show M.lift (if -(2 ^ 62) ≤ i ∧ i < 2 ^ 62 then some (rngL 0 i.toNat) else none) r1 = _
  rw [if_pos h]; rfl
theorem e_ref {f : Ep.Env → M (List T)} {env : Ep.Env} {r r1 : RS} {xs : List T} (h : f env r = .ok xs r1) : fRef f env r = .ok (.ref r1.length) (r1 ++ [xs]) := by
  unfold fRef; rw [h]
section
variable {s s' : Sm} {env e : Ep.Env} {r r1 r2 : RS} {c : Nat} {p t : T} {f : Ep.Env → M T}
end
def Pool (k : Nat) (r : RS) : Prop := ∃ a b : Int, r[k]? = some [.int a, .int b]
theorem Pool.app {k : Nat} {r : RS} (h : Pool k r) (x : RS) : Pool k (r ++ x) := by
  obtain ⟨a, b, h⟩ := h
  exact ⟨a, b, by rw [List.getElem?_append_left (List.getElem?_eq_some_iff.mp h).1]; exact h⟩
theorem Pool.at_ {k j : Nat} {r : RS} (h : Pool k r) (x : List T) (hj : j ≠ k) : Pool k (r.set j x) := by
  obtain ⟨a, b, h⟩ := h
  exact ⟨a, b, by rw [List.getElem?_set_ne hj]; exact h⟩
def gTake : Sm := (qSeq (qIf (fCmpB gtT (fIx (fVar 0) (fC (.int 0))) (fC (.int 0))) (qSeq (qSet 2 (fBin modT (fB1 intT (fIx (fVar 0) (fC (.int 0)))) (fVar 1)))
    (qSeq (qSetIx 0 (fBin divT (fIx (fVar 0) (fC (.int 0))) (fVar 1)) (fC (.int 0)))
    (qSeq (qRet (fVar 2))
    qNil))) qNil)
    (qSeq (qSetIx 0 (fBin modT (fB1 intT (fBin addT (fBin mulT (fIx (fVar 0) (fC (.int 1))) (fC (.int 39373))) (fC (.int 7)))) (fC (.int 2147483647))) (fC (.int 1)))
    (qSeq (qRet (fBin modT (fB1 intT (fBin divT (fBin modT (fB1 intT (fBin mulT (fIx (fVar 0) (fC (.int 1))) (fIx (fVar 0) (fC (.int 1))))) (fC (.int 2147483629))) (fC (.int 32)))) (fVar 1)))
    qNil)))
def FTake : List T → M T := fnS 1 gTake
def gPool : Sm := (qSeq (qSet 2 (fC (.int 0)))
    (qSeq (qIf (fCmpB ltT (fVar 1) (fB1 lenT (fVar 0))) (qSeq (qSet 2 (fIx (fVar 0) (fVar 1)))
    qNil) qNil)
    (qSeq (qSet 3 (fBin max2T (fB1 intT (fVar 2)) (fB1 intT (fBin subT (fUn negT (fC (.int 1))) (fVar 2)))))
    (qSeq (qSet 4 (fBin modT (fB1 intT (fBin mulT (fBin addT (fBin addT (fBin addT (fBin modT (fB1 intT (fVar 3)) (fC (.int 2147483629))) (fBin mulT (fBin mulT (fC (.int 7919)) (fVar 1)) (fVar 1))) (fBin mulT (fC (.int 31)) (fVar 1))) (fC (.int 17))) (fC (.int 48271)))) (fC (.int 2147483647))))
    (qSeq (qRet (fRef (fAll [(fBin mulT (fVar 3) (fB1 intT (fCmp geT (fVar 3) (fBin powT (fC (.int 10)) (fC (.int 18)))))), (fVar 4)])))
    qNil)))))
def FPool : List T → M T := fnS 3 gPool
theorem mulR {i j : Int} (h1 : -(2 ^ 64) < j) (h2 : j < 2 ^ 64) : mulT (.int i) (.int j) = some (.int (i * j)) := by
  show (if mulOk i j = true then some (T.int (i * j)) else none) = _
  rw [if_pos]
  unfold mulOk
  rw [decide_eq_true h1, decide_eq_true h2]
  simp
theorem mulL {i j : Int} (h1 : -(2 ^ 64) < i) (h2 : i < 2 ^ 64) : mulT (.int i) (.int j) = some (.int (i * j)) := by
  show (if mulOk i j = true then some (T.int (i * j)) else none) = _
  rw [if_pos]
  unfold mulOk
  rw [decide_eq_true h1, decide_eq_true h2]
  simp
theorem modP {i j : Int} (h : 0 < j) : modT (.int i) (.int j) = some (.int (i % j)) := lf_mod h
theorem divB {i j : Int} (h : 0 < j) (h2 : j.natAbs < 2 ^ 1000) : divT (.int i) (.int j) = some (.int (i / j)) := lf_div h h2
theorem take {k : Nat} {n : Int} {r : RS} (h : Pool k r) (hn : 0 < n) (hn2 : n.natAbs < 2 ^ 1000) : ∃ v r', FTake [.ref k, .int n] r = .ok (.int v) r' ∧ Pool k r' ∧ 0 ≤ v ∧ v < n := by
  obtain ⟨a, b, hk⟩ := h
  have hl : k < r.length := (List.getElem?_eq_some_iff.mp hk).1
  by_cases h : 0 < a
  · refine ⟨a % n, r.set k [.int (a / n), .int b], ?_, ⟨_, _, List.getElem?_set_self hl⟩, Int.emod_nonneg _ (by omega), Int.emod_lt_of_pos _ hn⟩
    refine n_fn (n_seqR (n_ifT (r1 := r) (e_cmpB (x := .int a) (y := .int 0) (r1 := r) (r2 := r) (e_ix rfl rfl (fst_ref hk)) rfl ?_) (n_seq (n_set (t := .int (a % n)) (r1 := r) (e_bin (r1 := r) (r2 := r) (x := .int a) (y := .int n) (e_b1 (x := .int a) (e_ix rfl rfl (fst_ref hk)) rfl) rfl (modP hn)))
      (n_seq (n_setIx (k := k) (j := 0) (x := 0) (xs := [.int a, .int b]) (t := .int (a / n)) (r1 := r) (r2 := r) rfl (e_bin (r1 := r) (x := .int a) (y := .int n) (e_ix rfl rfl (fst_ref hk)) rfl (divB hn hn2)) rfl hk rfl) (n_seqR (n_ret (t := .int (a % n)) (r1 := r.set k [.int (a / n), .int b]) rfl))))))
    rw [gt_ii, decide_eq_true h]
  · have m1 : 0 ≤ (b * 39373 + 7) % 2147483647 := Int.emod_nonneg _ (by omega)
    have m2 : (b * 39373 + 7) % 2147483647 < 2147483647 := Int.emod_lt_of_pos _ (by omega)
    generalize e : (b * 39373 + 7) % 2147483647 = c at m1 m2
    have hk2 : (r.set k [.int a, .int c])[k]? = some [.int a, .int c] := List.getElem?_set_self hl
    refine ⟨(c * c) % 2147483629 / 32 % n, r.set k [.int a, .int c], ?_, ⟨_, _, hk2⟩, Int.emod_nonneg _ (by omega), Int.emod_lt_of_pos _ hn⟩
    refine n_fn (n_seq (env' := envOf 1 [.ref k, .int n]) (r1 := r) (n_ifF (r1 := r) (e_cmpB (x := .int a) (y := .int 0) (r1 := r) (r2 := r) (e_ix rfl rfl (fst_ref hk)) rfl ?_) rfl)
      (n_seq (n_setIx (k := k) (j := 1) (x := 1) (xs := [.int a, .int b]) (t := .int c) (r1 := r) (r2 := r) rfl
        (e_bin (x := .int (b * 39373 + 7)) (y := .int 2147483647) (r1 := r) (e_b1 (x := .int (b * 39373 + 7)) (e_bin (x := .int (b * 39373)) (y := .int 7) (r1 := r) (e_bin (x := .int b) (y := .int 39373) (r1 := r) (e_ix rfl rfl (snd_ref hk)) rfl (mulR (by decide) (by decide))) rfl rfl) rfl) rfl ?_) rfl hk rfl)
      (n_seqR (n_ret (t := .int ((c * c) % 2147483629 / 32 % n)) (r1 := r.set k [.int a, .int c])
        (e_bin (x := .int ((c * c) % 2147483629 / 32)) (y := .int n) (r1 := r.set k [.int a, .int c]) (e_b1 (x := .int ((c * c) % 2147483629 / 32)) (r1 := r.set k [.int a, .int c]) (e_bin (x := .int ((c * c) % 2147483629)) (y := .int 32) (r1 := r.set k [.int a, .int c]) (e_bin (x := .int (c * c)) (y := .int 2147483629) (r1 := r.set k [.int a, .int c])
          (e_b1 (x := .int (c * c)) (e_bin (x := .int c) (y := .int c) (r1 := r.set k [.int a, .int c]) (e_ix rfl rfl (snd_ref hk2)) (e_ix rfl rfl (snd_ref hk2)) (mulR (by omega) (by omega))) rfl) rfl (modP (by decide))) rfl (divB (by decide) (by decide))) rfl) rfl (modP hn))))))
    · rw [gt_ii, decide_eq_false h]
    · rw [modP (by decide), e]
theorem pool (ns : List Int) (h : ns.length ≤ 63) (k : Nat) (k1 : k < 64) (r : RS) : ∃ a b, FPool [.kls (ns.map T.int), .int (k : Int)] r = .ok (.ref r.length) (r ++ [[.int a, .int b]]) := by
  obtain ⟨c, hc⟩ : ∃ c : Int, ∀ so, (∀ s3 s4 : Slot, (qSeq (qSet 3 (fBin max2T (fB1 intT (fVar 2)) (fB1 intT (fBin subT (fUn negT (fC (.int 1))) (fVar 2)))))
    (qSeq (qSet 4 (fBin modT (fB1 intT (fBin mulT (fBin addT (fBin addT (fBin addT (fBin modT (fB1 intT (fVar 3)) (fC (.int 2147483629))) (fBin mulT (fBin mulT (fC (.int 7919)) (fVar 1)) (fVar 1))) (fBin mulT (fC (.int 31)) (fVar 1))) (fC (.int 17))) (fC (.int 48271)))) (fC (.int 2147483647))))
    (qSeq (qRet (fRef (fAll [(fBin mulT (fVar 3) (fB1 intT (fCmp geT (fVar 3) (fBin powT (fC (.int 10)) (fC (.int 18)))))), (fVar 4)])))
    qNil))) [.val (.kls (ns.map T.int)), .val (.int (k : Int)), .val (.int c), s3, s4] r = so) → gPool (envOf 3 [.kls (ns.map T.int), .int (k : Int)]) r = so := by
    have ln : lenT r (.kls (ns.map T.int)) = some (.int (ns.length : Int)) := by
      show some (T.int ((ns.map T.int).length : Nat)) = _
      rw [List.length_map]
    by_cases q : k < ns.length
    · refine ⟨ns[k], fun so hso => n_seq (n_set (t := .int 0) (r1 := r) rfl) (n_seq (n_ifT (r1 := r) (e_cmpB (x := .int (k : Int)) (y := .int (ns.length : Int)) (r1 := r) (r2 := r) rfl (e_b1 (x := .kls (ns.map T.int)) (r1 := r) rfl ln) (by rw [ltI, decide_eq_true (by omega)])) (n_seq (n_set (t := .int ns[k]) (r1 := r) (e_ix (x := .kls (ns.map T.int)) (y := .int (k : Int)) (r1 := r) (r2 := r) rfl rfl ?_)) rfl)) (hso _ _))⟩
      exact atI_nat (by rw [List.getElem?_map, List.getElem?_eq_getElem q]; rfl)
    · exact ⟨0, fun so hso => n_seq (n_set (t := .int 0) (r1 := r) rfl) (n_seq (n_ifF (r1 := r) (e_cmpB (x := .int (k : Int)) (y := .int (ns.length : Int)) (r1 := r) (r2 := r) rfl (e_b1 (x := .kls (ns.map T.int)) (r1 := r) rfl ln) (by rw [ltI, decide_eq_false (by omega)])) rfl) (hso _ _))⟩
  obtain ⟨w, ew⟩ : ∃ w, w = (if -1 - c > c then -1 - c else c) := ⟨_, rfl⟩
  have e3 : max2T (.int c) (.int (-1 - c)) = some (.int w) := by rw [ew]; rfl
  obtain ⟨s, es⟩ : ∃ s, s = (w % 2147483629 + 7919 * (k : Int) * k + 31 * k + 17) * 48271 % 2147483647 := ⟨_, rfl⟩
  have m1 : mulT (.int 7919) (.int (k : Int)) = some (.int (7919 * (k : Int))) := mulL (by decide) (by decide)
  have m2 : mulT (.int (7919 * (k : Int))) (.int (k : Int)) = some (.int (7919 * (k : Int) * k)) := mulR (by omega) (by omega)
  have m3 : mulT (.int 31) (.int (k : Int)) = some (.int (31 * (k : Int))) := mulL (by decide) (by decide)
  have m4 : mulT (.int (w % 2147483629 + 7919 * (k : Int) * k + 31 * k + 17)) (.int 48271) = some (.int ((w % 2147483629 + 7919 * (k : Int) * k + 31 * k + 17) * 48271)) := mulR (by decide) (by decide)
  have d1 : modT (.int w) (.int 2147483629) = some (.int (w % 2147483629)) := modP (by decide)
  have d2 : modT (.int ((w % 2147483629 + 7919 * (k : Int) * k + 31 * k + 17) * 48271)) (.int 2147483647) = some (.int s) := by rw [es]; exact modP (by decide)
  have w1 : powT (.int 10) (.int 18) = some (.int (10 ^ 18)) := rfl
  have g1 : geT (.int w) (.int (10 ^ 18)) = some (decide (10 ^ 18 ≤ w)) := rfl
  have i1 : ∀ r, intT r (.bl (decide (10 ^ 18 ≤ w))) = some (.int (if decide (10 ^ 18 ≤ w) then 1 else 0)) := fun r => rfl
  have m5 : mulT (.int w) (.int (if decide (10 ^ 18 ≤ w) then 1 else 0)) = some (.int (w * (if decide (10 ^ 18 ≤ w) then 1 else 0))) := mulR (by split <;> decide) (by split <;> decide)
  refine ⟨w * (if decide (10 ^ 18 ≤ w) then 1 else 0), s, n_fn (hc _ fun s3 s4 => ?_)⟩
  refine n_seq (n_set (e_bin (x := .int c) (y := .int (-1 - c)) (r1 := r) (e_b1 (x := .int c) (r1 := r) rfl rfl) (e_b1 (x := .int (-1 - c)) (r1 := r) (e_bin (x := .int (-1)) (y := .int c) (r1 := r) rfl rfl rfl) rfl) e3)) ?_
  refine n_seq (n_set (e_bin (x := .int ((w % 2147483629 + 7919 * (k : Int) * k + 31 * k + 17) * 48271)) (y := .int 2147483647) (r1 := r) (e_b1 (x := .int ((w % 2147483629 + 7919 * (k : Int) * k + 31 * k + 17) * 48271)) (r1 := r) (e_bin (x := .int (w % 2147483629 + 7919 * (k : Int) * k + 31 * k + 17)) (y := .int 48271) (r1 := r) (e_bin (x := .int (w % 2147483629 + 7919 * (k : Int) * k + 31 * k)) (y := .int 17) (r1 := r) (e_bin (x := .int (w % 2147483629 + 7919 * (k : Int) * k)) (y := .int (31 * (k : Int))) (r1 := r) (e_bin (x := .int (w % 2147483629)) (y := .int (7919 * (k : Int) * k)) (r1 := r) (e_bin (x := .int w) (y := .int 2147483629) (r1 := r) (e_b1 (x := .int w) (r1 := r) rfl rfl) rfl d1) (e_bin (x := .int (7919 * (k : Int))) (y := .int (k : Int)) (r1 := r) (e_bin (x := .int 7919) (y := .int (k : Int)) (r1 := r) rfl rfl m1) rfl m2) rfl) (e_bin (x := .int 31) (y := .int (k : Int)) (r1 := r) rfl rfl m3) rfl) rfl rfl) rfl m4) rfl) rfl d2)) ?_
  obtain ⟨z, ez⟩ : ∃ z, z = w * (if decide (10 ^ 18 ≤ w) then 1 else 0) := ⟨_, rfl⟩
  rw [← ez] at m5 ⊢
  exact n_seqR (n_ret (e_ref (e_cons (x := .int z) (r1 := r) (e_bin (x := .int w) (y := .int (if decide (10 ^ 18 ≤ w) then 1 else 0)) (r1 := r) rfl (e_b1 (x := .bl (decide (10 ^ 18 ≤ w))) (r1 := r) (e_cmp (x := .int w) rfl (e_bin (x := .int 10) (y := .int 18) rfl rfl w1) g1) (i1 r)) m5) (e_cons (x := .int s) (r1 := r) rfl e_nil))))
theorem cut_take (xs : List T) (k : Nat) : cutT xs none (some (k : Int)) = xs.take k := by
  unfold cutT
  rw [HT.sIx_nat, show HT.sIx xs.length 0 none = 0 from rfl, List.drop_zero, Nat.sub_zero]
  by_cases c : k ≤ xs.length
  · rw [Nat.min_eq_left c]
  · rw [Nat.min_eq_right (by omega), List.take_of_length_le (Nat.le_refl _), List.take_of_length_le (by omega)]
end Dr
namespace Ep
open PySem PySem.Spec L2
/-! ### a, b, c = e, e', e'' where the middle one is a new list of the def's own -/
section
variable {X : Cx} {G : Gm} {W : WX} {pos : Pos}
end
end Ep
namespace Ep
open PySem PySem.Spec L2
/-! ### two new lists of the def's own at once; a.append(b.pop(e)) -/
section
variable {X : Cx} {G : Gm} {W : WX} {pos : Pos}
end
end Ep
namespace Ep
open PySem PySem.Spec L2
/-! ### ~x by a class's own def -/
def own1 (C : Nat) (F : List T → M T) : T → M T := fun x => match x with
  | .obj D vs => if D = C then noEx (F [.obj D vs]) else M.bad
  | _ => M.bad
def fOwn1 (C : Nat) (F : List T → M T) (f : Env → M T) : Env → M T := fun env => f env >>= own1 C F
section
variable {X : Cx} {G : Gm} {W : WX} {pos : Pos} {a : Expr} {f : Env → M T} {C j k : Nat} {F : List T → M T}
theorem own1_ne (t : T) (r : RS) (c : Nat) (p : T) (r' : RS) : own1 C F t r ≠ .exn c p r' := by
  cases t with
  | obj D vs =>
    show (if D = C then noEx (F [.obj D vs]) else M.bad : M T) r ≠ _
    by_cases q : D = C
    · rw [if_pos q]; exact noEx_ne _ _ _ _ _
    · rw [if_neg q]; simp [M.bad]
  | _ => simp [own1, M.bad]
def r1own (G : Gm) (C : Nat) (F : List T → M T) : V → Hp → VK → Prop := fun x H Q => ∃ w r t, Good G w H r ∧ Den G w x t ∧ OutP G w H (fun _ _ _ => False) (fun z _ w' H' => ∀ v, Den G w' v z → Q v H') (own1 C F t r)
theorem un_own {op : UnaryOp} {nm : Str} (hop : ∀ v : Value, unaryOp op v = holding [v] (do
      match ← callSpecial? v nm with
      | some r => pure r
      | none => raiseError "TypeError" s!"bad operand type for unary {(match op with | .Invert => ("~", ("__invert__" : Str)) | .UAdd => ("+", "__pos__") | .USub => ("-", "__neg__") | .Not => ("not", "")).1}: '{← typeNameOf v}'"))
    (D : MethOk X.prog X.w X.base G k C nm 1 [] F) (hK : X.K = G.K) (hM : X.mg = G.mg) (hr : Room j X.A) (hk : k ≤ j) : UnR X (unaryOp op) (r1own G C F) := by
  intro pins s σ H x v Q I rx h
  obtain ⟨w, r, t, g0, d1, h⟩ := h
  obtain ⟨cA, fn, fd, ps, dvs, dus, c1, c2, c3, h1, h4, h5, h6⟩ := D.ex
  rw [← hK, ← hM] at h1
  cases d1 with
  | @obj p cA' dx C' vs ts c hh l d =>
    by_cases hC : C' = C
    · subst hC
      have h : OutP G w H (fun _ _ _ => False) (fun z _ w' H' => ∀ v, Den G w' v z → Q v H') (noEx (F [.obj C' ts]) r) := by simpa [own1] using h
      rw [c1] at c
      cases c
      obtain rfl : v = Value.ref p := rx
      obtain ⟨mA, J, _⟩ := ins_get I.hok (g0.sub _ _ hh)
      obtain ⟨od, J, _⟩ := J.look
      obtain rfl : dvs = [] := by
        cases dvs with
        | nil => rfl
        | cons v vs => cases h6 w
      cases h5
      have fs := c3.at_
      have ff := c3.fn
      rw [← hK] at fs ff
      have hsp : spF G 1 F [.ref p] H Q (fun _ _ _ => False) := by
        refine ⟨w, r, [.obj C' ts], g0, .cons (.obj c1 hh l d) .nil, rfl, ?_⟩
        unfold noEx at h
        cases o : F [.obj C' ts] r with
        | ok z r' => rw [o] at h; exact h
        | exn c p r' => rw [o] at h; exact h.elim
        | bad => rw [o] at h; exact h.elim
      have hb := h4 s [.ref p] (by rw [← hK]; exact I.kIn) (by simpa using h1.len _ _ _ _ hsp)
      rw [hop]
      refine wpAny_holding (wpAny_bind (m := callSpecial? (.ref p) nm) (PySem.W.special_fn I.kIn J fs (beq_iff_eq.mp ff) (wpAny_call (codeAny_mono (h1.run X.A X.stack s H ⟨[.ref p], []⟩ [.ref p] [.ref p] Q (fun _ _ _ => False) (hr.mono hk) I.env0 (by simpa using hb) (.cons rfl .nil) hsp) fun res s' hq => ?_))))
      cases res with
      | error e => exact passAt (W := fun _ _ _ _ => False) takes0 σ pins H s e s' I hq
      | ok fl =>
        cases fl with
        | ret u => exact wpAny_pure (I.after hq)
        | _ => exact hq.elim
    · have h : OutP G w H (fun _ _ _ => False) (fun z _ w' H' => ∀ v, Den G w' v z → Q v H') ((M.bad : M T) r) := by simpa [own1, hC] using h
      exact h.elim
  | _ => exact h.elim
theorem own1_use {σ : L2.St} {H : Hp} {Q : VK} (hq : tS G W (fOwn1 C F f) σ H Q) : tUn (r1own G C F) (tS G W f) σ H Q := by
  obtain ⟨w, H0, env, r, g0, s, h0⟩ := hq
  refine seqE g0 s h0 fun t r1 w1 H1 x g1 s1 st1 d1 h1 => ?_
  refine ⟨w1, r1, t, g1, d1, ?_⟩
  cases o : own1 C F t r1 with
  | ok z r3 => rw [o] at h1; exact h1
  | exn c p r3 => exact absurd o (own1_ne t r1 c p r3)
  | bad => rw [o] at h1; exact h1
theorem Bd.inv {jj : Nat} (B : Bd X G W jj) (D : MethOk X.prog X.w X.base G k C "__invert__" 1 [] F) (ha : SE X G W a f) (hk : k ≤ jj := by decide) : SE X G W (.UnaryOp .Invert a pos) (fOwn1 C F f) :=
  pe_imp (pe_un (un_own (op := .Invert) (nm := "__invert__") (fun v => rfl) D B.eK B.eM B.rm hk) ha) fun σ H Q hq => own1_use hq
end
end Ep
/-! list(zip(a, b)) of two sources of any kind. -/
namespace Ep
open PySem PySem.Spec PyProof.Rows L2
section
variable {P : Program} {w : World} {A : Around} {E : Value → Shared → Prop} {s : Shared} {z TI TO T i1 i2 : Addr} {fp1 fp2 : List Addr} {n1 n2 i : Nat} {P1 P2 : Nat → Value → Prop} {St1 St2 : Nat → Heap → Prop} {f : Bool} {oT : Obj}
/-- one turn of a zip whose last tuple is out: both are asked, a new tuple is made, or one is at its end -/
theorem zipOut_next {Q : Fin → Shared → Prop} (S : ZipSep2 z TI TO i1 i2 fp1 fp2) (D1 : Draws P w A i1 fp1 n1 P1 St1) (D2 : Draws P w A i2 fp2 n2 P2 St2) (hz : IsZipHeld s.heap z TI TO T f) (hT : s.heap.get? T = some oT) (hTI : IsTupOf2 s.heap TI (.ref i1) (.ref i2)) (s1 : St1 i s.heap) (s2 : St2 i s.heap) (l1 : i ≤ n1) (l2 : i ≤ n2)
    (hI : i < n1 → i < n2 → ∀ x y h' tk, P1 i x → P2 i y → IsZipHeld h' z TI TO T true → St1 (i + 1) h' → St2 (i + 1) h' → IsTupOf2 h' s.heap.objs.size x y → h'.objs.size = s.heap.objs.size + 1 → (∀ c o, c ∉ [z, i1, i2] → s.heap.get? c = some o → h'.get? c = some o) → Q (.done (.ret (.ref s.heap.objs.size))) { s with heap := h', toks := tk })
    (hN : i = n1 ∨ i = n2 → ∀ h' tk e, (∀ c o, c ∉ [z, i1, i2] → s.heap.get? c = some o → h'.get? c = some o) → (∃ o, h'.get? e = some o ∧ o.cls = .type "StopIteration") → E (.ref e) { s with heap := h', toks := tk }) :
    wpAny (model P w) A (Builtin.«zip.__next__» ⟨[.ref z], []⟩) Q E s := by
  obtain ⟨hp, gg, dd, tk0, os⟩ := s
  have out : ∀ {c : Addr}, c ∉ [z, i1, i2] → c ≠ z ∧ c ≠ i1 ∧ c ≠ i2 := fun m => by
    simp only [List.mem_cons, List.not_mem_nil, or_false, not_or] at m
    exact m
  refine wpAny_bind (m := field (.ref z) 2) (wpAny_field hz rfl (x := .bool false) rfl (wpAny_bind (m := field (.ref z) 3) (wpAny_field hz rfl (x := .ref TI) rfl (wpAny_bind (wpAny_seqItems hTI rfl (wpAny_bind (m := Builtin.SmallTypes.ownedTupleIsFree (.ref z)) (wpAny_tupleHeld_zip hz hT fun a hza sa => ?_)))))))
  replace sa : Heap.SameBut z hp a := sa
  rw [if_neg (by decide)]
  refine wpAny_bind ?_
  rw [← Array.forIn_toList]
  simp only [List.forIn_nil, List.forIn_cons]
  have t1 : St1 i a := D1.over s1 sa S.zf1
  have t2 : St2 i a := D2.over s2 sa S.zf2
  by_cases q1 : i < n1
  · refine wpAny_bind (wpAny_bind (wpAny_holding (wpAny_bind (m := Builtin.SmallTypes.nextOf (.ref i1)) (D1.item i ⟨a, gg, dd, tk0, os⟩ _ _ q1 t1 fun x b tk1 px u1 sb => wpAny_pure (wpAny_pure (wpAny_bind (wpAny_bind (wpAny_holding ?_))))))))
    replace sb : Heap.SameBut i1 a b := sb
    have t2 : St2 i b := D2.over t2 sb S.sep1_2
    have zb : IsZipHeld b z TI TO T true := sb.extBut _ _ S.zi1 hza
    by_cases q2 : i < n2
    · refine wpAny_bind (D2.item i ⟨b, gg, dd, tk1, os⟩ _ _ q2 t2 fun y c tk2 py u2 sc => wpAny_pure (wpAny_pure (wpAny_pure ?_)))
      replace sc : Heap.SameBut i2 b c := sc
      have sz : c.objs.size = hp.objs.size := sc.1.trans (sb.1.trans sa.1)
      have zc : IsZipHeld c z TI TO T true := sc.extBut _ _ S.zi2 zb
      refine wpAny_bind (m := newTuple [x, y]) (wpAny_newTuple (wpAny_pure ?_))
      have made : IsTupOf2 (c.push { cls := .type "tuple", data := .seq #[x, y] }) c.objs.size x y := Heap.get?_push_size _ rfl
      have more : (c.push { cls := .type "tuple", data := .seq #[x, y] }).objs.size = c.objs.size + 1 := Heap.size_push ..
      show Q (.done (.ret (.ref c.objs.size))) ⟨_, gg, dd, tk2, os⟩
      rw [sz] at made more ⊢
      exact hI q1 q2 x y _ tk2 px py (Heap.get?_push_of_some _ zc) (D1.frame _ _ _ (D1.over u1 sc S.sep2_1) fun _ _ _ e => Heap.get?_push_of_some _ e) (D2.frame _ _ _ u2 fun _ _ _ e => Heap.get?_push_of_some _ e) made more fun e o m k => Heap.get?_push_of_some _ (sc.extBut _ _ (out m).2.2 (sb.extBut _ _ (out m).2.1 (sa.extBut _ _ (out m).1 k)))
    · have e2 : i = n2 := by omega
      exact wpAny_bind (m := Builtin.SmallTypes.nextOf (.ref i2)) (D2.done ⟨b, gg, dd, tk1, os⟩ _ _ (by rw [← e2]; exact t2) fun c e kc he => hN (.inr e2) c tk1 e (fun j o m k => kc _ _ (out m).2.2 (sb.extBut _ _ (out m).2.1 (sa.extBut _ _ (out m).1 k))) he)
  · have e1 : i = n1 := by omega
    exact wpAny_bind (wpAny_bind (wpAny_holding (wpAny_bind (m := Builtin.SmallTypes.nextOf (.ref i1)) (D1.done ⟨a, gg, dd, tk0, os⟩ _ _ (by rw [← e1]; exact t1) fun c e kc he => hN (.inl e1) c tk0 e (fun j o m k => kc _ _ (out m).2.1 (sa.extBut _ _ (out m).1 k)) he))))
theorem zipOut_pyNext {Q : Option Value → Shared → Prop} (S : ZipSep2 z TI TO i1 i2 fp1 fp2) (D1 : Draws P w A.in1 i1 fp1 n1 P1 St1) (D2 : Draws P w A.in1 i2 fp2 n2 P2 St2) (hz : IsZipHeld s.heap z TI TO T f) (hT : s.heap.get? T = some oT) (hTI : IsTupOf2 s.heap TI (.ref i1) (.ref i2)) (s1 : St1 i s.heap) (s2 : St2 i s.heap) (l1 : i ≤ n1) (l2 : i ≤ n2)
    (hI : i < n1 → i < n2 → ∀ x y h' tk, P1 i x → P2 i y → IsZipHeld h' z TI TO T true → St1 (i + 1) h' → St2 (i + 1) h' → IsTupOf2 h' s.heap.objs.size x y → h'.objs.size = s.heap.objs.size + 1 → (∀ c o, c ∉ [z, i1, i2] → s.heap.get? c = some o → h'.get? c = some o) → Q (some (.ref s.heap.objs.size)) { s with heap := h', toks := tk })
    (hN : i = n1 ∨ i = n2 → ∀ h' tk, (∀ c o, c ∉ [z, i1, i2] → s.heap.get? c = some o → h'.get? c = some o) → Q none { s with heap := h', toks := tk }) : wpAny (model P w) A (pyNext (.ref z)) Q E s := by
  have ty : s.TypeIs (.ref z) "zip" := ⟨_, hz, rfl⟩
  unfold pyNext
  refine wpAny_bind (wpAny_attempt (wpAny_callSpecial?_slot (name := Str.ofString "__next__") ty F.slot_zip_next (wpAny_call_entry F.slot_zip_next ty F.entry_zip_next (zipOut_next S D1 D2 hz hT hTI s1 s2 l1 l2 (fun q1 q2 x y h' tk a1 a2 a3 a4 a5 a6 a7 a8 => ⟨_, rfl, wpAny_pure (hI q1 q2 x y h' tk a1 a2 a3 a4 a5 a6 a7 a8)⟩) fun q h' tk e k he => ?_) (F.args_zip_next_1 _))))
  obtain ⟨oe, ge, ce⟩ := he
  exact wpAny_bind (wpAny_isInstance (T := "StopIteration") (b := true) ⟨oe, ge, ce⟩ isSubtype_stop (wpAny_pure (hN q h' tk k)))
end
/-- two iterators and the zip that walks both, i turns on; S: the list that takes the pairs -/
structure ZV (o p : Src) (z TI TO i1 i2 S : Addr) (i : Nat) (h : Heap) : Prop where
  ti : IsTupOf2 h TI (.ref i1) (.ref i2)
  c1 : o.Cur i1 i h
  c2 : p.Cur i2 i h
  z : (IsZip h z TI TO .none ∧ ∃ a b, IsTupOf2 h TO a b) ∨ ∃ T f oT, IsZipHeld h z TI TO T f ∧ h.get? T = some oT ∧ T ∉ [z, i1, i2, S]
section
variable {o p : Src} {z TI TO i1 i2 S : Addr} {i : Nat} {X : Cx} {pins : List (Addr × Obj)} {σ : L2.St} {H H0 : Hp} {s s0 : Shared} {us vs : List V} {B : Around} {E : Value → Shared → Prop}
theorem ZV.put {h h' : Heap} (w : ZV o p z TI TO i1 i2 S i h) (k : ∀ b u, b ≠ S → h.get? b = some u → h'.get? b = some u) (n : ∀ b ∈ [z, TI, TO, i1, i2], b ≠ S) : ZV o p z TI TO i1 i2 S i h' := by
  refine ⟨k _ _ (n TI (by simp)) w.ti, o.cur_keep w.c1 fun u e => k _ u (n i1 (by simp)) e, p.cur_keep w.c2 fun u e => k _ u (n i2 (by simp)) e, ?_⟩
  rcases w.z with ⟨hz, a, b, hT⟩ | ⟨T, f, oT, hz, hT, r⟩
  · exact .inl ⟨k _ _ (n z (by simp)) hz, a, b, k _ _ (n TO (by simp)) hT⟩
  · exact .inr ⟨T, f, oT, k _ _ (n z (by simp)) hz, k _ _ (fun e => r (by simp [e])) hT, r⟩
theorem ZV.next (F : Five o p z TI TO i1 i2) (st : ZV o p z TI TO i1 i2 S i s.heap) (I : Inv X pins σ H s) (hx : o.At X.K H us) (hy : p.At X.K H vs) (hB : B.handled = none) (hS : S < s.heap.objs.size) (le : i ≤ min us.length vs.length) {Q : Option Value → Shared → Prop}
    (q : ∀ h' tk x y u v, us[i]? = some x → vs[i]? = some y → RelV x u → RelV y v → IsTupOf2 h' s.heap.objs.size u v → ZV o p z TI TO i1 i2 S (i + 1) h' → (∀ c b, c ∉ [z, TO, i1, i2] → s.heap.get? c = some b → h'.get? c = some b) → Q (some (.ref s.heap.objs.size)) { s with heap := h', toks := tk })
    (qN : i = min us.length vs.length → ∀ h' tk, (∀ c b, c ∉ [z, TO, i1, i2] → s.heap.get? c = some b → h'.get? c = some b) → Q none { s with heap := h', toks := tk }) : wpAny (model X.prog X.w) B (pyNext (.ref z)) Q E s := by
  obtain ⟨Pa, Sa, Da, va, oa, na⟩ := Src.draws (A := B.in1) hB I i1 hx F.ne1
  obtain ⟨Pb, Sb, Db, vb, ob, nb⟩ := Src.draws (A := B.in1) hB I i2 hy F.ne2
  have there : ∀ c ∈ [z, i1, i2, S], s.heap.objs.size ∉ [c] := fun c m e => by
    have e : s.heap.objs.size = c := List.mem_singleton.mp e
    have lt : c < s.heap.objs.size := by
      simp only [List.mem_cons, List.not_mem_nil, or_false] at m
      rcases m with rfl | rfl | rfl | rfl
      · rcases st.z with ⟨hz, _⟩ | ⟨_, _, _, hz, _⟩ <;> exact Heap.lt_size hz
      · obtain ⟨_, e, _⟩ := o.cur_ob st.c1; exact Heap.lt_size e
      · obtain ⟨_, e, _⟩ := p.cur_ob st.c2; exact Heap.lt_size e
      · exact hS
    rw [← e] at lt
    exact absurd lt (Nat.lt_irrefl _)
  have new : s.heap.objs.size ∉ [z, i1, i2, S] := fun m => there _ m (List.mem_singleton.mpr rfl)
  have out : ∀ {c : Addr}, c ∉ [z, TO, i1, i2] → c ≠ z ∧ c ≠ TO ∧ c ≠ i1 ∧ c ≠ i2 := fun m => by
    simp only [List.mem_cons, List.not_mem_nil, or_false, not_or] at m
    exact m
  have few : ∀ {c : Addr}, c ∉ [z, TO, i1, i2] → c ∉ [z, i1, i2] := fun m h => m (by
    simp only [List.mem_cons, List.not_mem_nil, or_false] at h ⊢
    rcases h with h | h | h <;> simp [h])
  have la : i ≤ us.length := Nat.le_trans le (Nat.min_le_left _ _)
  have lb : i ≤ vs.length := Nat.le_trans le (Nat.min_le_right _ _)
  have ends : i = us.length ∨ i = vs.length → i = min us.length vs.length := fun h => by omega
  have TIn : TI ∉ [z, TO, i1, i2] := fun m => by
    simp only [List.mem_cons, List.not_mem_nil, or_false] at m
    rcases m with h | h | h | h
    · exact F.sep.TIz h
    · exact F.sep.TITO h
    · exact F.sep.TIi1 h
    · exact F.sep.TIi2 h
  rcases st.z with ⟨hz, a, b, hT⟩ | ⟨T, f, oT, hz, hT, r⟩
  · by_cases lt : i < us.length ∧ i < vs.length
    · refine wpAny_pyNext_zipD2_item (A := B) F.sep Da Db hz st.ti hT (na _ st.c1) (nb _ st.c2) lt.1 lt.2 fun u v h' tk pu pv b1 _ u1 u2 b5 _ k => ?_
      obtain ⟨x, ex, rx⟩ := va i u pu
      obtain ⟨y, ey, ry⟩ := vb i v pv
      have kp : ∀ c b, c ∉ [z, TO, i1, i2] → s.heap.get? c = some b → h'.get? c = some b := fun c b m e => k c b (out m).1 (out m).2.1 (out m).2.2.1 (out m).2.2.2 e
      exact q h' tk x y u v ex ey rx ry b5 ⟨kp _ _ TIn st.ti, oa _ _ u1, ob _ _ u2, .inr ⟨_, false, _, b1, b5, new⟩⟩ kp
    · exact wpAny_pyNext_zipD2_end (A := B) F.sep Da Db hz st.ti hT (na _ st.c1) (nb _ st.c2) la lb (by omega) fun h' tk k => qN (ends (by omega)) h' tk fun c b m e => k c b (out m).1 (out m).2.1 (out m).2.2.1 (out m).2.2.2 e
  · refine zipOut_pyNext (A := B) F.sep Da Db hz hT st.ti (na _ st.c1) (nb _ st.c2) la lb (fun _ _ u v h' tk pu pv b1 u1 u2 b5 _ k => ?_) fun e h' tk k => qN (ends e) h' tk fun c b m g => k c b (few m) g
    obtain ⟨x, ex, rx⟩ := va i u pu
    obtain ⟨y, ey, ry⟩ := vb i v pv
    have rT : T ∉ [z, i1, i2] := fun m => r (by
      simp only [List.mem_cons, List.not_mem_nil, or_false] at m ⊢
      rcases m with h | h | h <;> simp [h])
    exact q h' tk x y u v ex ey rx ry b5 ⟨k _ _ (few TIn) st.ti, oa _ _ u1, ob _ _ u2, .inr ⟨T, true, oT, b1, k _ _ rT hT, r⟩⟩ fun c b m g => k c b (few m) g
/-- the loop amid its turns -/
structure ZQ (X : Cx) (pins : List (Addr × Obj)) (σ : L2.St) (z TI TO i1 i2 S : Addr) (H0 : Hp) (s0 : Shared) (J : Nat → List V → Hp → Prop) (i : Nat) (H : Hp) (s : Shared) (ws : List V) (acc : Array Value) (c : Nat) : Prop where
  e : ZE X pins σ S H0 s0 i H s ws acc c
  fr : ∀ b ∈ [z, TO, i1, i2, S], FpOk X pins H b ∧ s0.heap.objs.size ≤ b ∧ b < s.heap.objs.size
  j : J i ws H
  ne : ∀ b ∈ [z, TI, TO, i1, i2], b ≠ S
variable {J : Nat → List V → Hp → Prop} {ws : List V} {acc : Array Value} {c : Nat}
theorem mem45 {b : Addr} (m : b ∈ [z, TO, i1, i2]) : b ∈ [z, TI, TO, i1, i2] := by
  simp only [List.mem_cons, List.not_mem_nil, or_false] at m ⊢
  rcases m with h | h | h | h <;> simp [h]
theorem ZQ.turned {h' : Heap} {tk : Nat} (L : ZQ X pins σ z TI TO i1 i2 S H0 s0 J i H s ws acc c) (kp : ∀ c b, c ∉ [z, TO, i1, i2] → s.heap.get? c = some b → h'.get? c = some b) : ZE X pins σ S H0 s0 i H { s with heap := h', toks := tk } ws acc c where
  I := L.e.I.turnedL (t' := tk) (ch := [z, TO, i1, i2]) kp fun b hb => (L.fr b (in5 hb)).1
  own := kp S _ (fun m => L.ne S (mem45 m) rfl) L.e.own
  rel := L.e.rel
  len := L.e.len
  free := L.e.free
  gt := L.e.gt
  old := fun b u q => kp b u (fun m => absurd (L.fr b (in5 m)).2.1 (Nat.not_le.mpr (Heap.lt_size q))) (L.e.old b u q)
  hp := L.e.hp
  os := L.e.os
theorem ZQ.same (L : ZQ X pins σ z TI TO i1 i2 S H0 s0 J i H s ws acc c) (I0 : Inv X pins σ H0 s0) : Same H0 H := fun b u e => by
  rcases Nat.lt_or_ge b s0.heap.objs.size with g | g
  · rw [L.e.hp b g]; exact e
  · rw [I0.hok.fresh g] at e; cases e
end
section
variable {X : Cx} {G : Gm} {W : WX} {pos pos2 p np : Pos} {a b : Expr} {f g : Env → M T}
end
end Ep
/-! `in` of plain trees; least, greatest, sum of integers. -/
namespace Ep
open PySem PySem.Spec L2
theorem any_eqv {L : T → Prop} (ok : LeafOk L) {n : Nat} {t : T} {d : PyData} (ht : Pt L n t) (e : pyT t = some d) : ∀ {us : List T} {ds : List PyData}, (∀ x ∈ us, Pt L n x) → pyTs us = some ds → ((ds.any fun z => PyData.eqv z d) = true ↔ t ∈ us)
  | [], ds, _, e1 => by cases e1; exact ⟨fun h => Bool.noConfusion h, fun h => absurd h List.not_mem_nil⟩
  | u :: us, ds, hu, e1 => by
    obtain ⟨d1, k1, e1⟩ := Option.bind_eq_some_iff.mp (show (pyT u).bind (fun d => (pyTs us).map (d :: ·)) = some ds from e1)
    obtain ⟨l, k2, rfl⟩ := Option.map_eq_some_iff.mp e1
    have a := eqv_of ok u t d1 d (hu u List.mem_cons_self) ht k1 e
    have b := any_eqv ok ht e (fun x m => hu x (List.mem_cons_of_mem _ m)) k2
    rw [List.any_cons, Bool.or_eq_true, a, b, List.mem_cons]
    exact ⟨fun h => h.imp Eq.symm id, fun h => h.imp Eq.symm id⟩
theorem in_lst {L : T → Prop} (ok : LeafOk L) {n : Nat} {t : T} {us : List T} (ht : Pt L n t) (hu : ∀ x ∈ us, Pt L n x) (l : n < 64) {b : Bool} (hb : b = true ↔ t ∈ us) : inT t (.lst us) = some b := by
  obtain ⟨d, a1, a2, a3⟩ := dt_of ok ht
  obtain ⟨ds, f1, f2, f3⟩ := dts (fun t ht => dt_of ok ht) hu
  have q := any_eqv ok ht a1 hu f1
  have e2 : pyT (.lst us) = some (.list ds) := by
    show (pyTs us).map PyData.list = _
    rw [f1]; rfl
  have x1 : SeqAt.shaped d = true := by unfold SeqAt.shaped; rw [a2, decide_eq_true (by omega)]; rfl
  have x2 : SeqAt.shaped (.list ds) = true := by
    unfold SeqAt.shaped
    rw [show (PyData.list ds).canLay0 = true from f2, decide_eq_true (show (PyData.list ds).depth ≤ 64 from by show PyData.depthAll ds + 1 ≤ 64; omega)]; rfl
  show (match pyT t, pyT (.lst us) with
    | some d, some (.list ds) => if (SeqAt.shaped d && SeqAt.shaped (.list ds)) = true then some (ds.any fun z => PyData.eqv z d) else none
    | _, _ => none) = _
  rw [a1, e2]
  show (if (SeqAt.shaped d && SeqAt.shaped (.list ds)) = true then some (ds.any fun z => PyData.eqv z d) else none) = _
  rw [x1, x2]
  show some (ds.any fun z => PyData.eqv z d) = some b
  rw [show (ds.any fun z => PyData.eqv z d) = b from by rw [Bool.eq_iff_iff, q, hb]]
end Ep
/-! a def's own list that others go on to change: from here on one of the changed lists. -/
namespace Ep
open PySem PySem.Spec L2
section
variable {G : Gm} {w w0 : Wd} {H0 H : Hp} {σ : L2.St} {env : Env} {r : RS}
theorem At.handed (a : At G w0 H0 w H σ env r) {i : Nat} {xs : List T} (he : env[i]? = some (.own xs)) : ∃ w', At G w0 H0 w' H σ (env.set i (.val (.ref r.length))) (r ++ [xs]) := by
  obtain ⟨oa, h1, h2⟩ := a.s.ex
  obtain ⟨a1, a2, a3, a4, o, a6, a7⟩ := h1 i _ he
  have hl : i < env.length := (List.getElem?_eq_some_iff.mp he).1
  have L : Later w ⟨w.P, w.R ++ [oa i], w.fx⟩ := ⟨Same.refl _, [oa i], rfl⟩
  have old : ∀ {m : Nat} {x : Slot}, i ≠ m → (env.set i (.val (.ref r.length)))[m]? = some x → env[m]? = some x := fun {m x} him hm => (List.getElem?_set_ne him).symm.trans hm
  have pr : ∀ {m : Nat} {x : Slot}, (env.set i (.val (.ref r.length)))[m]? = some x → x.priv = true → i ≠ m ∧ env[m]? = some x := fun {m x} hm px => by
    by_cases him : i = m
    · subst him
      rw [List.getElem?_set_self hl] at hm
      cases hm
      cases px
    · exact ⟨him, old him hm⟩
  refine ⟨⟨w.P, w.R ++ [oa i], w.fx⟩, ⟨?_, ?_, ?_⟩⟩
  · obtain ⟨m, e, hm⟩ := a.st.refs
    refine ⟨a.st.pub, a.st.fr, a.st.keep, a.st.hid, ⟨m ++ [oa i], ?_, fun x hx => ?_⟩, a.st.me⟩
    · show w.R ++ [oa i] = _
      rw [e, List.append_assoc]
    · rcases List.mem_append.mp hx with h | h
      · exact hm x h
      · rw [List.mem_singleton.mp h]; exact a4
  · refine ⟨a.g.sub, ⟨?_, ?_, fun x hx => ?_, fun k ys hk => ?_⟩, a.g.tabs, a.g.nt⟩
    · refine List.nodup_append.mpr ⟨a.g.refs.nd, (by simp), fun x hx y hy => ?_⟩
      rw [List.mem_singleton.mp hy]
      exact fun q => a3 (q ▸ hx)
    · show (w.R ++ [oa i]).length = _
      rw [List.length_append, List.length_append, a.g.refs.len]; rfl
    · rcases List.mem_append.mp hx with h | h
      · exact a.g.refs.out x h
      · rw [List.mem_singleton.mp h]; exact a2
    · by_cases q : k < r.length
      · rw [List.getElem?_append_left q] at hk
        obtain ⟨b, vs, e1, e2, e3, e4⟩ := a.g.refs.at_ k ys hk
        exact ⟨b, vs, (List.getElem?_append_left (by rw [a.g.refs.len]; exact q)).trans e1, e2, e3.mono L, e4⟩
      · have qk : k = r.length := by
          have := (List.getElem?_eq_some_iff.mp hk).1
          rw [List.length_append, List.length_singleton] at this
          omega
        subst qk
        rw [List.getElem?_append_right (Nat.le_refl _), Nat.sub_self] at hk
        cases hk
        cases a7 with
        | lst z d => exact ⟨oa i, _, by show (w.R ++ [oa i])[r.length]? = _; rw [← a.g.refs.len, List.getElem?_append_right (Nat.le_refl _), Nat.sub_self]; rfl, a6, d.mono L, z⟩
  · refine ⟨by simp [a.s.len], oa, fun j sl hj => ?_, fun j k u u' hj hk pj pk e => h2 j k u u' (pr hj pj).2 (pr hk pk).2 pj pk e⟩
    by_cases hij : i = j
    · subst hij
      rw [List.getElem?_set_self hl] at hj
      cases hj
      exact ⟨_, a1, .ref (by show (w.R ++ [oa i])[r.length]? = _; rw [← a.g.refs.len, List.getElem?_append_right (Nat.le_refl _), Nat.sub_self]; rfl)⟩
    · have q := old hij hj
      have := h1 j sl q
      cases sl with
      | un => trivial
      | fn =>
        obtain ⟨f, c, z, cv, ct, e1, e2, d, n, hc⟩ := this
        refine ⟨f, c, z, cv, ct, e1, e2, d.mono L, fun hm => ?_, hc⟩
        rcases List.mem_append.mp hm with hm | hm
        · exact n hm
        · obtain ⟨_, _, _, _, u, b6, b7⟩ := h1 i _ he
          exact code_ne hc b6 b7.pl (List.mem_singleton.mp hm)
      | val t =>
        obtain ⟨v, e1, d1⟩ := this
        exact ⟨v, e1, d1.mono L⟩
      | pv zs =>
        obtain ⟨b1, b2, b3, b4, u, b6, b7⟩ := this
        refine ⟨b1, b2, fun hm => ?_, b4, u, b6, b7.mono L rfl⟩
        rcases List.mem_append.mp hm with hm | hm
        · exact b3 hm
        · exact hij (h2 i j _ _ he q rfl rfl (List.mem_singleton.mp hm).symm)
end
end Ep
/-! own dicts: d[k] = e; a, b = {}, e. -/
namespace Ep
open PySem PySem.Spec L2
section
variable {X : Cx} {G : Gm} {W : WX} {pos : Pos}
end
end Ep
/-! a plain tree is == to itself, whatever its leaves. -/
namespace Ep
open PySem PySem.Spec L2
structure LeafS (L : T → Prop) : Prop where
  one : ∀ t, L t → ∃ d, pyT t = some d ∧ d.canLay0 = true ∧ d.depth = 0 ∧ PyData.eqv d d = true
theorem eqvs_refl {L : T → Prop} {n : Nat} (h : ∀ t d, Pt L n t → pyT t = some d → PyData.eqv d d = true) : ∀ {ts : List T} {ds : List PyData}, (∀ x ∈ ts, Pt L n x) → pyTs ts = some ds → PyData.eqvAll ds ds = true
  | [], ds, _, e => by cases e; rfl
  | t :: ts, ds, ht, e => by
    obtain ⟨d, k1, e⟩ := Option.bind_eq_some_iff.mp (show (pyT t).bind (fun d => (pyTs ts).map (d :: ·)) = some ds from e)
    obtain ⟨l, k2, rfl⟩ := Option.map_eq_some_iff.mp e
    show (PyData.eqv d d && PyData.eqvAll l l) = true
    rw [h t d (ht t List.mem_cons_self) k1, eqvs_refl h (fun x m => ht x (List.mem_cons_of_mem _ m)) k2]; rfl
theorem eqv_refl {L : T → Prop} (ok : LeafS L) : ∀ {n : Nat} (t : T) (d : PyData), Pt L n t → pyT t = some d → PyData.eqv d d = true
  | 0, t, d, h, e => by
    obtain ⟨d', h1, _, _, h4⟩ := ok.one t h
    rw [e] at h1; cases h1; exact h4
  | n + 1, t, d, h, e => by
    rcases h with h | ⟨ts, rfl, h⟩ | ⟨ts, rfl, h⟩
    · obtain ⟨d', h1, _, _, h4⟩ := ok.one t h
      rw [e] at h1; cases h1; exact h4
    · obtain ⟨m, m1, rfl⟩ := Option.map_eq_some_iff.mp (show (pyTs ts).map PyData.tuple = some d from e)
      exact eqvs_refl (fun t d => eqv_refl ok t d) h m1
    · obtain ⟨m, m1, rfl⟩ := Option.map_eq_some_iff.mp (show (pyTs ts).map PyData.list = some d from e)
      exact eqvs_refl (fun t d => eqv_refl ok t d) h m1
end Ep
/-! dict(pairs); slices with a step. -/
namespace Ep
open PySem PySem.Spec L2 PyProof.Rows
/-! ### dict(xs) of a list of pairs -/
section
variable {G : Gm} {w : Wd}
end
/-! ### slices with a step -/
end Ep
/-! enumerate of a source of any kind: a list, a tuple, a text. -/
namespace Ep
namespace EnS
open PySem PySem.Spec L2 PyProof.Rows
/-- enumerate's record and the source's own, i turns done -/
def Stands (o : Src) (e it : Addr) (i : Nat) (h : Heap) : Prop := (∃ old, IsEnum h e it ((i : Nat) : Int) old) ∧ o.Cur it i h
theorem two {o : Src} {e it : Addr} {i : Nat} {h : Heap} (st : Stands o e it i h) {b : Addr} (of_ : b ∈ [e, it]) : ∃ x, h.get? b = some x ∧ ∀ v, x.data ≠ .cell v := by
  obtain ⟨⟨old, at_e⟩, c⟩ := st
  rcases List.mem_cons.mp of_ with rfl | of_
  · exact ⟨_, at_e, fun _ z => nomatch z⟩
  · cases List.mem_singleton.mp of_
    exact o.cur_ob c
end EnS
open PySem PySem.Spec L2
section
variable {X : Cx} {G : Gm} {W : WX} {f : Env → M T} {pos : Pos}
end
end Ep
namespace Ep
open PySem PySem.Spec L2 PyProof.Rows
/-! ### the head by one run of the kernel: what is looked at, the end over it -/
abbrev DicW : Type := Option (List (Option (Str × Int)))
abbrev AlS : Type := He.AlD × Bool × List SupW × List DicW
/-- what a law's end leans on: checks, bound makers, dicts of the top -/
structure EndQ where
  ck : PySem.W.Frag → List Bool
  su : PySem.W.Frag → List SupW
  sv : List SupW
  ds : PySem.W.Frag → List DicW
  dv : Params → List DicW
def EndQ.obs (q : EndQ) (fa : List He.Fa) (fn : List He.DefD) (K : PySem.W.Frag) : AlS := (He.obsD fa fn K, (q.ck K).all id, q.su K, q.ds K)
structure EndQ.says (q : EndQ) (fa : List He.Fa) (fn : List He.DefD) (w : World) (K : PySem.W.Frag) : Prop where
  d : He.SaysD fa fn K
  ck : (q.ck K).all id = true
  su : q.su K = q.sv
  ds : q.ds K = q.dv w.params
/-! what the module's names reach, by a mask of the addresses met -/
/-- what an object names; a code object is not gone into -/
def refsH (o : Obj) : List Addr := match o.data with
  | .fields vs => (match Nat.ble 12 vs.size with
    | true => []
    | false => He.refsD o)
  | _ => He.refsD o
noncomputable def metB (m a : Nat) : Bool := Nat.beq (Nat.land (Nat.shiftRight m a) 1) 1
noncomputable def reachF (g : Addr → Option Obj) (k : Nat) : List Addr → Nat → List (Addr × Obj) → List (Addr × Obj) :=
  @Nat.rec (fun _ => List Addr → Nat → List (Addr × Obj) → List (Addr × Obj)) (fun _ _ acc => acc)
    (fun _ ih todo m acc => @List.casesOn Addr (fun _ => List (Addr × Obj)) todo acc fun a rest =>
      @Bool.casesOn (fun _ => List (Addr × Obj)) (metB m a)
        (@Option.casesOn Obj (fun _ => List (Addr × Obj)) (g a) (ih rest m acc) fun o => ih (refsH o ++ rest) (Nat.lor m (Nat.shiftLeft 1 a)) ((a, o) :: acc))
        (ih rest m acc)) k
theorem reachF_in {g : Addr → Option Obj} : ∀ (k : Nat) (todo : List Addr) (m : Nat) (acc : List (Addr × Obj)), (∀ p ∈ acc, g p.1 = some p.2) → ∀ p ∈ reachF g k todo m acc, g p.1 = some p.2
  | 0, _, _, _, h => h
  | k + 1, [], _, _, h => h
  | k + 1, a :: rest, m, acc, h => by
    show ∀ p ∈ (@Bool.casesOn (fun _ => List (Addr × Obj)) (metB m a)
        (@Option.casesOn Obj (fun _ => List (Addr × Obj)) (g a) (reachF g k rest m acc) fun o => reachF g k (refsH o ++ rest) (Nat.lor m (Nat.shiftLeft 1 a)) ((a, o) :: acc))
        (reachF g k rest m acc)), g p.1 = some p.2
    cases metB m a with
    | true => exact reachF_in k rest m acc h
    | false =>
      cases e : g a with
      | none => exact reachF_in k rest m acc h
      | some o =>
        refine reachF_in k _ _ _ fun p hp => ?_
        rcases List.mem_cons.mp hp with rfl | hp
        · exact e
        · exact h p hp
noncomputable def fragF (g : Addr → Option Obj) (n : Nat) : PySem.W.Frag := (reachF g n [mainGlobals, cStatics] 0 []).reverse
theorem fragF_in {h : Heap} (n : Nat) : (fragF h.get? n).In h := fun _ _ e => reachF_in n _ _ [] (fun _ k => nomatch k) _ (List.mem_reverse.mp (He.lookup_mem e))
noncomputable def obsS (q : EndQ) (n : Nat) (fa : List He.Fa) (fn : List He.DefD) (g : Addr → Option Obj) : AlS := q.obs fa fn (fragF g n)
/-- a Hook that tells the defs and facts, the checks, the bound makers -/
noncomputable def hookS (q : EndQ) (n : Nat) (fa : List He.Fa) (fn : List He.DefD) : PySem.W.Hook where
  α := AlS
  obs := fun s => obsS q n fa fn s.heap.get?
  val := fun w => (He.valD fn, true, q.sv, q.dv w.params)
  says := fun w h => ∃ K : PySem.W.Frag, K.In h ∧ q.says fa fn w K
  of := fun _ _ e => ⟨_, fragF_in n, congrArg (fun z : AlS => z.1) e, congrArg (fun z : AlS => z.2.1) e, congrArg (fun z : AlS => z.2.2.1) e, congrArg (fun z : AlS => z.2.2.2) e⟩
  keeps := fun _ _ _ ⟨K, hK, c⟩ k => ⟨K, PySem.W.Frag.In.keeps hK k, c⟩
/-! the run, looked at in parts -/
theorem law_endE {l : PySem.W.OpenLaw} {q : Program} {loose : List Str} {XP : (Str → Option Value) → Heap → Prop} {YP : World → Heap → Prop} {d : DefRec} {x : Str} (k : Nat) (xs : List Str) (hn : l.most = some 63) (hdf : d.params.defaults = []) (hr : Room k callerA)
    (hx : ∀ y ∈ xs, ((recsOf q).find? fun e => e.name == y).isSome = true)
    (F : ∀ (w : World) (mg : Str → Option Value) (fa : Addr) (h : Heap), YP w h → h.Ns mainGlobals mg → mg d.name = some (.ref fa) → ∃ K : PySem.W.Frag, K.In h ∧ ∃ (G : Gm) (f : List T → M T) (fd : FuncData) (cs : List (Addr × Addr)), G.K = K ∧ G.mg = mg ∧ (∀ (s : Shared) (u : Value), BindsTo s fd ⟨[u], []⟩ [(x, u)]) ∧
      (∀ p ∈ cs, ∃ y ∈ xs, PySem.W.tabIn K y = some p) ∧ (∀ p ∈ cs, K.lookup p.2 = none) ∧ (∀ t ∈ G.tb, ∃ c, (c, t.1) ∈ cs) ∧
      (∀ ns : List Int, ns.length ≤ 63 → (∀ z ∈ ns, Builtin.Int.intBits z ≤ 1048576) → ∃ r, f [.kls (ns.map T.int)] [] = .ok (.bl true) r) ∧ ∀ base : Heap, K.In base → base.Ns mainGlobals mg → (∀ p ∈ cs, LamX.TabB base mg p.1 p.2) → FnOk l.prog w G.K G.mg base (L2.CX l.prog w) k fa fd [x] (spF G 1 f)) :
    PySem.W.WalkO q loose XP YP l.row.toRowW d []
      (fun f vs => PySem.call f vs) :=
  by
  refine Att.attach_callB hn hdf fun w s₀ s₁ mg mb fa o pm cd doc a vs ns G Y ho hd hcd hmg hobj hints hlen hbits hg => ?_
  obtain ⟨K, KX, G', f, fd, cs, e1, e2, hb, t1, t2, t4, hv, hF⟩ := F w mg fa _ Y G.T.g hmg
  have hT : ∀ p ∈ cs, PySem.W.CodeHd s₁.heap p.1 p.2 ∧ s₁.heap.get? p.2 = some { cls := .none, data := .fields #[] } := fun p hp => by
    obtain ⟨y, hy, ey⟩ := t1 p hp
    cases e : (recsOf q).find? fun e => e.name == y with
    | none => have := hx y hy; rw [e] at this; cases this
    | some dr => exact PySem.W.tab_of G.T KX e ey
  refine LamX.law_callTs (k := k) (x := x) (CX := L2.CX l.prog w) (sp := spF G' 1 f) KX G.T.g G.T.b G.T.builtins G.T.nolimit hg (fun p hp => (hT p hp).2) t2 (fun p hp => (hT p hp).1) G.T.bmain hobj hints (Nat.le_trans hlen (by decide)) hr (fun base KB NB hTB => ?_) hb (fun H hH hS => ?_) fun H e s' ⟨_, _, _, _, _, _, _, _, _, _, _, _, z⟩ => z
  · have := hF base KB NB hTB
    rw [e1, e2] at this
    exact this
  · obtain ⟨r, er⟩ := hv ns hlen hbits
    have dint : ∀ (ns : List Int) (w : Wd), Dens G' w (ns.map V.int) (ns.map T.int) := fun ns w => by
      induction ns with
      | nil => exact .nil
      | cons n ns ih => exact .cons (.int n) ih
    refine ⟨⟨noTb H, [], ⟨0, 0, 0⟩⟩, [], [.kls (ns.map T.int)], ⟨fun b o e => (noTb_of e).1, ⟨List.nodup_nil, rfl, fun a h => (by cases h), fun k xs h => (by cases h)⟩, fun p hp => ?_, fun b o e => (noTb_of e).2⟩, .cons (.kls (by rw [e1]; exact noTb_seq hS) (by rw [List.length_map, sizeLine_eq]; omega) (dint ns _)) .nil, rfl, ?_⟩
    · obtain ⟨c, hc⟩ := t4 p hp
      exact LamX.TabS.nil (hH _ hc)
    · rw [er]
      intro w' H' st g v d
      cases d
      rfl
end Ep
namespace Ep
open PySem PySem.Spec L2
/-! ### d.get(k, x) of a dict of the def's own -/
section
variable {X : Cx} {G : Gm} {W : WX} {j : Nat} {a b c : Expr} {f g k : Env → M T} {pos apos : Pos}
end
/-! ### range(i, j, -1) -/
section
variable {X : Cx} {G : Gm} {W : WX} {f f' f'' : Env → M T} {tg : Expr} {pos : Pos}
end
/-! ### len(x) by a class's own __len__ -/
section
variable {X : Cx} {G : Gm} {W : WX} {p pos : Pos} {a : Expr} {f : Env → M T} {C j k : Nat} {F : List T → M T}
end
/-! ### a or b, of values of any kind -/
section
variable {X : Cx} {G : Gm} {W : WX} {pos : Pos} {a b : Expr} {rest : List Expr} {f g : Env → M T}
end
end Ep
/-! super().__init__(e) of a plain class: a def with the class's cell. -/
namespace Ep
namespace SupM
open PySem PySem.W PySem.Calls PySem.Spec PyProof.Rows L2 NdefX
/-- a statement, run at its place in the code -/
structure PSA (X : Cx) (c : Code) (st : Stmt) (t : TS) : Prop where
  run : ∀ (pins : List (Addr × Obj)) (s : Shared) (σ : L2.St) (H : Hp) (D : Ends), Inv X pins σ H s → t D σ H → _root_.PySem.wpAt (model X.prog X.w) X.A c (exec st X.env) (SP X pins D) X.xe s
structure PSsA (X : Cx) (c : Code) (st : List Stmt) (t : TS) : Prop where
  run : ∀ (pins : List (Addr × Obj)) (s : Shared) (σ : L2.St) (H : Hp) (D : Ends), Inv X pins σ H s → t D σ H → _root_.PySem.wpAt (model X.prog X.w) X.A c (execs st X.env) (SP X pins D) X.xe s
section
variable {X : Cx} {c : Code} {st : Stmt} {sts rest : List Stmt} {t u : TS}
end
/-- where a call begins all that the head laid still stands -/
theorem stays {P : Program} {w : World} {K : PySem.W.Frag} {mg : Str → Option Value} {base : Heap} {A : Around} {outer : List PySem.Env} {s : Shared} {H : Hp} (e : Env0 P w K mg base A outer s H) : K.In s.heap ∧ s.heap.NoLimit :=
  ⟨e.mod.kin.keeps fun _ _ k => (e.bs _ _ k).1, e.mod.nolimit.keeps fun _ _ k => (e.bs _ _ k).1⟩
section
variable {X : Cx} {G : Gm} {W : WX} {c : Code} {st : Stmt} {rest : List Stmt} {g g' : Sm}
end
/-- what stands of a plain class's __init__ that calls super().__init__(e), C the class, fI its __init__, f2 the base's -/
structure TxtM (P : Program) (K : PySem.W.Frag) (qn : Str) (st : Stmt) (D fI f2 : Addr) (dv : List V) (fd : FuncData) : Prop where
  cls : mroIn K D (.ref D) = some true ∧ ks_superIn K D D "__init__" = some (some (.ref f2)) ∧ ∃ cdD, clsIn K D = some cdD
  nosup : nsIn K mainGlobals "super" = some none
  opq : nsIn K cStatics "thirdparty.any" = some none
  t2 : typeIn K (.ref f2) = some (.type "function")
  fn2 : fnIn K f2 = true
  fn : ∃ (oc : Value) (od : Option Addr) (dV kV doc pm : Value) (an : Option Addr) (cda : Addr) (ct : Value) (osl : Array (Option Value)) (cc : Addr) (cl : Value) (cld : Option Addr) (csl : Array (Option Value)) (ccl : Value) (cdd : Option Addr) (vs : Array Value) (ccs : Array (Option Value)) (file : Str) (tf : Tok),
    fd = ksFn "__init__" qn (defArgs st) (defBody st) (defScope st) dV kV doc pm an (.ref cda) ct cc ∧ K.lookup fI = some ⟨oc, od, .func fd, osl⟩ ∧ codeIn K (.ref cda) qn = true ∧
    K.lookup cc = some ⟨cl, cld, .cell (some (.ref D)), csl⟩ ∧ K.lookup cda = some ⟨ccl, cdd, .fields vs, ccs⟩ ∧ vs[2]? = some (.str file tf) ∧ ((P.main.file : Str) == file) = true ∧ DflV K dV dv
/-- the context of such an __init__ -/
structure IsX (X : Cx) (P : Program) (K : PySem.W.Frag) (qn : Str) (st : Stmt) (D fI f2 : Addr) : Prop where
  prog : X.prog = P
  frag : X.K = K
  env : ∃ (L cda cc : Addr) (oc : Value) (od : Option Addr) (fd : FuncData) (osl : Array (Option Value)) (cl : Value) (cld : Option Addr) (csl : Array (Option Value)) (ccl : Value) (cdd : Option Addr) (vs : Array Value) (ccs : Array (Option Value)) (file : Str) (tf : Tok),
    X.env = ksEnv qn (defScope st) L fI (.ref cda) cc ∧ fd.params = defArgs st ∧ K.lookup fI = some ⟨oc, od, .func fd, osl⟩ ∧ K.lookup cc = some ⟨cl, cld, .cell (some (.ref D)), csl⟩ ∧ K.lookup cda = some ⟨ccl, cdd, .fields vs, ccs⟩ ∧ vs[2]? = some (.str file tf) ∧ ((P.main.file : Str) == file) = true
section
variable {X : Cx} {P : Program} {G : Gm} {W : WX} {qn name : Str} {st : Stmt} {D fI f2 : Addr} {dv : List V} {fd fd0 : FuncData} {k C n i : Nat} {a : Expr} {a1 a2 a3 a5 a6 : Pos} {f : Env → M T} {ar : Arg} {ps : List Str} {body : List Stmt}
end
section
variable {P : Program} {wd : World} {base : Heap} {G : Gm} {k : Nat} {qual : Str} {st : Stmt} {D f f2 : Addr} {fd : FuncData} {N ps : List Str} {n m : Nat} {g : Sm} {dv : List V}
end
end SupM
end Ep
/-! super().__init__(e) of a plain class: what the head tells, binding, making. -/
namespace Ep
namespace SupM
open PySem PySem.W PySem.Calls PySem.Spec PyProof.Rows L2 NdefX He
section
variable {P : Program} {K : PySem.W.Frag} {qn : Str} {st : Stmt} {D fI f2 : Addr} {dv : List V} {fd : FuncData} {ps : List Str}
/-- a tuple that fills up: what it holds behind its first j stands behind the n values of a call -/
theorem fills {T : Addr} {o : Obj} {its : List Value} {m n j : Nat} (lk : K.lookup T = some o) (ho : o.data = .seq its.toArray m) (hn : n + (its.length - j) = ps.length)
    (h : ∀ us : List Value, us.length = n → ∃ k, bindArgs fd ⟨us, []⟩ = seqItems? (.ref T) >>= k ∧ k (some its.toArray) = pure (ps.zip (us ++ its.drop j))) : Binds K fd ps (its.drop j) := by
  intro s us hK hu
  have un : us.length = n := by simp only [List.length_append, List.length_drop] at hu; omega
  rcases h us un with ⟨k, hb, hk⟩
  exact L2.BindsTo.of_looks fun M => by rw [hb]; exact looks_items hK lk ho (PySem.W.Looks.of_pure hk)
/-- nothing fills up -/
theorem TxtM.bindsN (T0 : TxtM P K qn st D fI f2 [] fd) (h : ∀ (kV doc pm : Value) (an : Option Addr) (cdv ct : Value) (cc : Addr) (us : List Value), us.length = ps.length → bindArgs (ksFn "__init__" qn (defArgs st) (defBody st) (defScope st) .none kV doc pm an cdv ct cc) ⟨us, []⟩ = pure (ps.zip us)) : Binds K fd ps [] := by
  obtain ⟨_, _, _, kV, doc, pm, an, cda, ct, _, cc, _, _, _, _, _, _, _, _, _, e, _, _, _, _, _, _, some'⟩ := T0.fn
  subst e
  match some' with
  | .inl none' => have e := none'.2; subst e; exact .all (h kV doc pm an _ ct cc)
  | .inr more => exact (more.1 rfl).elim
end
section
variable {P : Program} {wd : World} {base : Heap} {G : Gm} {k : Nat} {qual : Str} {st : Stmt} {f f2 : Addr} {fd : FuncData} {N ps : List Str} {n m : Nat} {g : Sm} {dv : List V}
end
end SupM
end Ep
/-! range(i, j) of great numbers: the iterator for these, walked. -/
namespace Ep.LR
open PySem PySem.Spec L2
theorem own : Manifest.owners.lookup (String.ofList ['r', 'o', 't', 'a', 'r', 'e', 't', 'i', '_', 'e', 'g', 'n', 'a', 'r', 'g', 'n', 'o', 'l'].reverse) = some Manifest.sig_longrange_iterator := by kernel_rfl
theorem sl_next : PySem.Slot "longrange_iterator" "__next__" "longrange_iterator.__next__" :=
  PySem.Slot.of (owner := "longrange_iterator") (n := "__next__") (by rw [typeLookup_type, builtinLookup_eq_fast]; kernel_rfl) (by decide +kernel) (by decide +kernel) (by decide +kernel) (Or.inl (by decide +kernel)) (by rw [isSubtype_type]; kernel_rfl)
theorem sl_iter : PySem.Slot "longrange_iterator" "__iter__" "longrange_iterator.__iter__" :=
  PySem.Slot.of (owner := "longrange_iterator") (n := "__iter__") (by rw [typeLookup_type, builtinLookup_eq_fast]; kernel_rfl) (by decide +kernel) (by decide +kernel) (by decide +kernel) (Or.inl (by decide +kernel)) (by rw [isSubtype_type]; kernel_rfl)
theorem en_next : entryFor table "longrange_iterator.__next__" = some Builtin.«longrange_iterator.__next__» := entryFor_of_tree (by kernel_rfl)
theorem en_iter : entryFor table "longrange_iterator.__iter__" = some Builtin.«dict_keyiterator.__iter__» :=
  entryFor_alias (id' := "dict_keyiterator.__iter__") (by kernel_rfl) (by decide +kernel) (by decide +kernel) (by kernel_rfl)
theorem sg_next : Manifest.signature? "longrange_iterator.__next__" = some ⟨.exact, "wrapper __next__", "", .self, []⟩ := by
  rw [signature?_of (id := "longrange_iterator.__next__") (n := ['_', '_', 't', 'x', 'e', 'n', '_', '_']) (o := ['r', 'o', 't', 'a', 'r', 'e', 't', 'i', '_', 'e', 'g', 'n', 'a', 'r', 'g', 'n', 'o', 'l']) (by kernel_rfl) own]; kernel_rfl
theorem sg_iter : Manifest.signature? "longrange_iterator.__iter__" = some ⟨.exact, "wrapper __iter__", "", .self, []⟩ := by
  rw [signature?_of (id := "longrange_iterator.__iter__") (n := ['_', '_', 'r', 'e', 't', 'i', '_', '_']) (o := ['r', 'o', 't', 'a', 'r', 'e', 't', 'i', '_', 'e', 'g', 'n', 'a', 'r', 'g', 'n', 'o', 'l']) (by kernel_rfl) own]; kernel_rfl
theorem ar_next (a : Value) : argsOk "longrange_iterator.__next__" ⟨[a], []⟩ := by
  unfold argsOk; rw [sg_next]; kernel_rfl
theorem ar_iter (a : Value) : argsOk "longrange_iterator.__iter__" ⟨[a], []⟩ := by
  unfold argsOk; rw [sg_iter]; kernel_rfl
theorem bd (it : Addr) : bound "longrange_iterator.__next__" ⟨[.ref it], []⟩ = pure #[some (.ref it)] := by
  unfold bound
  rw [sg_next]
  rfl
abbrev IsLong (h : Heap) (it : Addr) (x left : Int) : Prop := h.get? it = some { cls := .type "longrange_iterator", dict := none, data := .fields #[rawInt x, rawInt left, rawInt 1], slots := #[] }
section
variable {prog : Program} {w : World} {A : Around} {E : Value → Shared → Prop} {s : Shared} {it : Addr} {x left : Int}
theorem typ (h : IsLong s.heap it x left) : s.TypeIs (.ref it) "longrange_iterator" := ⟨_, h, rfl⟩
abbrev fld (it : Addr) (i : Nat) : Sem Int := Builtin.Iterators_pickling.intField "longrange_iterator.__next__" (.ref it) i
theorem fld_run {γ : Type} {i : Nat} {v : Int} {k : Int → Sem γ} {Q : γ → Shared → Prop} (h : IsLong s.heap it x left) (hi : #[rawInt x, rawInt left, rawInt 1][i]? = some (rawInt v)) (hk : wpAny (model prog w) A (k v) Q E s) : wpAny (model prog w) A (fld it i >>= k) Q E s := by
  refine wpAny_bind ?_
  show wpAny _ _ (field (.ref it) _ >>= _) _ _ s
  exact wpAny_bind (wpAny_field h rfl hi (wpAny_pure hk))
theorem next_get {Q : Option Value → Shared → Prop} (h : IsLong s.heap it x left)
    (hk : wpAny (model prog w) A.in1 (if left ≤ 0 then (rule (toString "longrange_iterator.__next__" ++ toString ".end") >>= fun _ => newExc (.type "StopIteration") [] >>= fun e => (raiseNew e : Sem PUnit) >>= fun _ => setField (.ref it) 0 (rawInt (x + 1)) >>= fun _ => setField (.ref it) 1 (rawInt (left - 1)) >>= fun _ => retInt x) else (setField (.ref it) 0 (rawInt (x + 1)) >>= fun _ => setField (.ref it) 1 (rawInt (left - 1)) >>= fun _ => retInt x))
      (fun f s1 => ∃ v, f = .done (.ret v) ∧ Q (some v) s1) (fun e s1 => wpAny (model prog w) A (isInstance e (.type "StopIteration") >>= fun b => if b = true then pure none else throw e) Q E s1) s) : wpAny (model prog w) A (pyNext (.ref it)) Q E s := by
  unfold pyNext
  refine wpAny_bind (wpAny_attempt (wpAny_callSpecial?_slot (name := Str.ofString "__next__") (typ h) sl_next (wpAny_call_entry sl_next (typ h) en_next ?_ (ar_next _))))
  show wpAny _ _ (bound "longrange_iterator.__next__" ⟨[.ref it], []⟩ >>= _) _ _ s
  rw [bd it]
  refine wpAny_bind (wpAny_pure ?_)
  show wpAny _ _ (fld it 0 >>= _) _ _ s
  refine fld_run h rfl ?_
  show wpAny _ _ (fld it 1 >>= _) _ _ s
  refine fld_run h rfl ?_
  show wpAny _ _ (fld it 2 >>= _) _ _ s
  refine fld_run h rfl ?_
  refine thn hk fun f s1 ⟨v, e, q⟩ => ?_
  exact ⟨v, e, wpAny_pure q⟩
theorem next_item {Q : Option Value → Shared → Prop} (h : IsLong s.heap it x left) (l : 0 < left)
    (hQ : ∀ h', IsLong h' it (x + 1) (left - 1) → Heap.SameBut it s.heap h' → Q (some (.int x s.toks)) { s with heap := h', toks := s.toks + 1 }) : wpAny (model prog w) A (pyNext (.ref it)) Q E s := by
  refine next_get h ?_
  rw [if_neg (by omega)]
  refine wpAny_bind (wpAny_setField h rfl (show 0 < 3 by decide) ?_)
  refine wpAny_bind (wpAny_setField (Heap.get?_update_self _ h rfl) rfl (show 1 < 3 by decide) ?_)
  refine wpAny_bind (wpAny_mkInt (wpAny_pure ⟨_, rfl, hQ _ ?_ ?_⟩))
  · exact Heap.get?_update_self _ (Heap.get?_update_self _ h rfl) rfl
  · exact (Heap.SameBut.update ..).trans (Heap.SameBut.update ..)
theorem next_end {Q : Option Value → Shared → Prop} (hh : A.handled = none) (h : IsLong s.heap it x left) (l : left ≤ 0)
    (hQ : ∀ h', (∀ b o, s.heap.get? b = some o → h'.get? b = some o) → Q none { s with heap := h' }) : wpAny (model prog w) A (pyNext (.ref it)) Q E s := by
  refine next_get h ?_
  rw [if_pos l]
  refine wpAny_bind (wpAny_rule ?_)
  unfold newExc newTuple
  refine wpAny_bind (wpAny_bind (wpAny_newObj_type ?_ (by size_fits)))
  refine wpAny_bind (wpAny_of_eq (a := Value.none) (by simp only [firstArgMember]; rfl) ?_)
  refine wpAny_newObj_type ?_ (by size_fits)
  refine wpAny_bind (wpAny_raiseNew_none hh ?_)
  refine wpAny_bind (wpAny_isInstance (T := "StopIteration") (b := true) ⟨_, Heap.get?_push_size _ rfl, rfl⟩ isSubtype_stop ?_)
  exact wpAny_pure (hQ _ fun b o e => Heap.get?_push_of_some _ (Heap.get?_push_of_some _ e))
theorem iter_self {Q : Value → Shared → Prop} (h : IsLong s.heap it x left) (q : Q (.ref it) s) : wpAny (model prog w) A (pyIter (.ref it)) Q E s :=
  wpAny_pyIter_slot (typ h) sl_iter (wpAny_call_entry sl_iter (typ h) en_iter (by
    show wpAny _ _ (ret (.ref it)) _ _ s
    exact wpAny_pure ⟨_, rfl, _, _, typ h, sl_next.lookup, q⟩) (ar_iter _))
end
theorem not_small {lo hi : Int} (h : lo < -(2 ^ 63) ∨ 2 ^ 63 ≤ lo) : Builtin.Range.rangeFitsLong lo = false := by
  unfold Builtin.Range.rangeFitsLong
  rcases h with h | h
  · rw [decide_eq_false (by omega), Bool.false_and]
  · rw [decide_eq_false (p := lo < _) (by omega), Bool.and_false]
section
variable {prog : Program} {w : World} {A : Around} {E : Value → Shared → Prop} {s : Shared}
theorem begins {r : Addr} {lo hi : Int} {t u v : Tok} {Q : Value → Shared → Prop} (hr : IsRange s.heap r lo hi 1 t u v) (h : lo < -(2 ^ 63) ∨ 2 ^ 63 ≤ lo)
    (hQ : Q (.ref s.heap.objs.size) { s with heap := s.heap.push { cls := .type "longrange_iterator", data := .fields #[rawInt lo, rawInt (Builtin.Range.rangeSize lo hi 1), rawInt 1] } }) : wpAny (model prog w) A (pyIter (.ref r)) Q E s := by
  have hT : s.TypeIs (.ref r) "range" := ⟨_, hr, rfl⟩
  have n := not_small (hi := hi) h
  refine wpAny_pyIter_slot hT F.slot_range_iter (call_meets F.slot_range_iter hT F.entry_range_iter (F.args_range_iter_1 _) (AutoRange.range___iter___range_0 r lo hi 1 t u v (by rw [n]; rfl)) ⟨hr, ?_⟩)
  rw [n]
  exact ⟨_, _, ⟨_, Heap.get?_push_size _ rfl, rfl⟩, sl_next.lookup, hQ⟩
end
theorem turn {P : Program} {w : World} {K : PySem.W.Frag} {tg : Expr} (it : Addr) (lo : Int) (n : Nat) : Turn P w K tg (Itr lo n) [it] it (fun i h => IsLong h it (lo + (i : Nat)) ((n : Int) - (i : Nat))) where
  mem := List.mem_singleton.mpr rfl
  obj := fun i h st b hb => by
    rw [List.mem_singleton.mp hb]
    exact ⟨_, st, fun v z => nomatch (show Data.fields _ = Data.cell v from z)⟩
  keep := fun i h h' st k => k it (List.mem_singleton.mpr rfl) _ st
  item := fun X hP hw hK hc i pins s σ H E I hf st hg => by
    cases hP; cases hw; cases hK
    obtain ⟨f0, f1, f2, f3, f4, f5⟩ := hf it (List.mem_singleton.mpr rfl)
    have hi : i < n := hg
    refine next_item st (by omega) fun h' st' kk => ?_
    have I1 : Inv X pins σ H { s with heap := h', toks := s.toks + 1 } := I.turned (fun b o hb e => kk.extBut b o hb e) f0 f1 f3 f4 f5
    have st2 : IsLong h' it (lo + ((i + 1 : Nat) : Int)) ((n : Int) - ((i + 1 : Nat) : Int)) := by
      rw [show lo + ((i + 1 : Nat) : Int) = lo + (i : Int) + 1 by omega, show (n : Int) - ((i + 1 : Nat) : Int) = (n : Int) - (i : Int) - 1 by omega]
      exact st'
    exact ⟨_, rfl, go_of (s := { s with heap := h', toks := s.toks + 1 }) (n := "longrange_iterator") st' rfl rfl (by decide) ⟨.int (lo + i), H, I1, ⟨s.toks, rfl⟩, ⟨rfl, rfl⟩, st2, fun b hb => (hf b hb).1⟩⟩
  done := fun X hP hw hK hc i pins s σ H E I hf st hg => by
    cases hP; cases hw; cases hK
    have hi : n ≤ i := hg
    exact next_end (I.ok.hd hc) st (by omega) fun h' k => ⟨rfl, I.kept (t' := s.toks) k⟩
  self := fun A i s Q E st h => iter_self st h
section
variable {X : Cx} {tg : Expr}
theorem walks {pins : List (Addr × Obj)} {σ : St} {H : Hp} {s : Shared} {R : It → Hp → Prop} {E : Value → Shared → Prop} {lo hi : Int} {t u v : Tok} {tk : Nat} (I : Inv X pins σ H s) (h : lo < -(2 ^ 63) ∨ 2 ^ 63 ≤ lo)
    (q : R (Itr lo (hi - lo).toNat) H) : wpAny (model X.prog X.w) X.A (pyIter (.ref s.heap.objs.size)) (PIE X pins σ tg R) E { s with heap := s.heap.push { cls := .type "range", data := .fields #[.int lo t, .int hi u, .int 1 v] }, toks := tk } := by
  refine begins (IsRange.new ..) h ?_
  generalize hh : s.heap.push { cls := .type "range", data := .fields #[.int lo t, .int hi u, .int 1 v] } = h1
  have I1 : Inv X pins σ H { s with heap := h1, toks := tk } := I.kept fun b o e => hh ▸ Heap.get?_push_of_some _ e
  refine ⟨h1.objs.size, [h1.objs.size], _, _, H, rfl, I1.kept (t' := tk) fun b o e => Heap.get?_push_of_some _ e, turn _ lo (hi - lo).toNat, ?_, fun b hb => ?_, q⟩
  · have e2 : (((hi - lo).toNat : Nat) : Int) - ((0 : Nat) : Int) = Builtin.Range.rangeSize lo hi 1 := by rw [rangeSize_one]; split <;> omega
    show IsLong _ _ (lo + ((0 : Nat) : Int)) ((((hi - lo).toNat : Nat) : Int) - ((0 : Nat) : Int))
    rw [e2, show lo + ((0 : Nat) : Int) = lo by omega]
    exact Heap.get?_push_size _ rfl
  · rw [List.mem_singleton.mp hb]
    exact I1.fpOk (Nat.le_refl _) (I1.hok.fresh (Nat.le_refl _))
/-- both ends small, or the first one far out -/
def Far (i j : Int) : Prop := (-(2 ^ 62) ≤ i ∧ i < 2 ^ 62 ∧ -(2 ^ 62) ≤ j ∧ j < 2 ^ 62) ∨ i < -(2 ^ 63) ∨ 2 ^ 63 ≤ i
instance (i j : Int) : Decidable (Far i j) := inferInstanceAs (Decidable (_ ∨ _))
end
end Ep.LR
namespace Ep
open PySem PySem.Spec L2
section
variable {X : Cx} {G : Gm} {W : WX} {f f' : Env → M T} {tg : Expr} {pos : Pos}
end
end Ep
/-! repr of tuples and lists: no repr under way below, carried along by the few defs that lie between the law and repr. -/
namespace Ep
open PySem PySem.Spec L2 PyProof.Rows
/-- no repr of an object under way -/
def Gd (A : Around) : Prop := A.guards = some []
theorem Gd.deeper {A : Around} (h : Gd A) (env : PySem.Env) : Gd (A.deeper env) := h
/-- a def's promise where no repr is under way -/
structure FnOkG (P : Program) (w : World) (K : PySem.W.Frag) (mg : Str → Option Value) (base : Heap) (CX : CXT) (k : Nat) (f : Addr) (fd : FuncData) (ps : List Str) (sp : Sp) : Prop where
  len : ∀ vs H Q E, sp vs H Q E → vs.length = ps.length
  run : ∀ (A : Around), Gd A → Room k A → ∀ (outer : List PySem.Env) (s : Shared) (H : Hp) (args : Args) (us : List Value) (vs : List V) (Q : VK) (E : XK), Env0 P w K mg base A outer s H → BindsTo s fd args (ps.zip us) → Vals vs us → sp vs H Q E →
    codeAny (model P w) A (.call (.ref f) args) (CR CX outer P w H s Q E) s
section
variable {P : Program} {w : World} {K : PySem.W.Frag} {mg : Str → Option Value} {base : Heap} {CX : CXT} {k : Nat} {f : Addr} {fd : FuncData} {ps : List Str} {sp : Sp}
theorem FnOkG.of (F : FnOk P w K mg base CX k f fd ps sp) : FnOkG P w K mg base CX k f fd ps sp := ⟨F.len, fun A _ hr outer s H args us vs Q E => F.run A outer s H args us vs Q E hr⟩
theorem FnOkG.mono {j : Nat} (F : FnOkG P w K mg base CX j f fd ps sp) (h : j ≤ k) : FnOkG P w K mg base CX k f fd ps sp := ⟨F.len, fun A g hr => F.run A g (hr.mono h)⟩
end
/-- what a plain def's body hands back -/
theorem back {CX : CXT} {P : Program} {w : World} {K : PySem.W.Frag} {mg : Str → Option Value} {base : Heap} {N : List Str} {qual : Str} {scope : Scope} {f : Addr} {cdv : Value} {A : Around} {outer : List PySem.Env} {s s' : Shared} {H H' : Hp} {E : XK} {Q : VK} {σ' : L2.St} {v : V} {u : Value}
    (J : Inv (cxOf CX P w K mg base N qual scope f cdv A outer s H E) [] σ' H' s') (rv : L2.RelV v u) (q : Q v H') : CE outer P w H s Q u s' := by
  constructor
  exact ⟨H', J.os, J.bare, J.base, J.hok, rv, q⟩
section
variable {X : Cx} {CX : CXT} {k : Nat} {f : Addr} {fd : FuncData} {ps : List Str} {sp : Sp} {dvs : List V} {ds : List Value} {E : L2.St → XK} {x : Str} {p pos : Pos} {e : Expr} {es : List Expr} {t : TA}
end
/-- a def of the top that may be called where no repr is under way -/
structure DefOkG (P : Program) (wd : World) (base : Heap) (G : Gm) (k : Nat) (x : Str) (n : Nat) (ds : List T) (F : List T → M T) : Prop where
  ex : ∃ f fd ps dvs dus, FnOkG P wd G.K G.mg base (L2.CX P wd) k f fd ps (spF G n F) ∧ G.mg x = some (.ref f) ∧ PySem.W.keepIn G.K (.ref f) = true ∧ Binds G.K fd ps dus ∧ Vals dvs dus ∧ ∀ w, Dens G w dvs ds
section
variable {X : Cx} {G : Gm} {W : WX} {j k n : Nat} {x : Str} {a : Expr} {es : List Expr} {fs : List (Env → M T)} {ds : List T} {p pos : Pos}
end
end Ep
/-! defs, repr and the law's end where no repr is under way. -/
namespace Ep
open PySem PySem.Spec L2 PyProof.Rows
section
variable {P : Program} {wd : World} {base : Heap} {G : Gm} {k : Nat} {x qual : Str} {st : Stmt} {f : Addr} {fd : FuncData} {N ps : List Str} {n m : Nat} {g : Sm} {dv : List V} {kw : List (Str × V)}
end
theorem Bd.un {X : Cx} {G : Gm} {W : WX} {j : Nat} (B : Bd X G W j) : X.A.units + 200 < cLine := by
  have := B.rm.un
  omega
/-! ### repr of what is plain -/
section
variable {X : Cx} {G : Gm} {W : WX} {a : Addr} {cls : Value} {d : Option Addr} {i j : Nat} {pos p : Pos} {e : Expr} {f : Env → M T} {h : HM T}
end
end Ep
/-! the law's call from outside, where no repr is under way. -/
namespace Ep
open PySem PySem.Spec L2 PyProof.Rows
namespace EndG
/-- what is tracked at the law's call: the tables, the script's list if the head has not told it -/
def tr (K : PySem.W.Frag) (ts : List Addr) (a : Addr) (o : Obj) (xs : List V) (b : Addr) : Option HO := if b ∈ ts then some (.tbl #[]) else if b = a ∧ K.lookup a = none then some (.frz o (.lst xs)) else none
section
variable {K : PySem.W.Frag} {ts : List Addr} {a : Addr} {o : Obj} {xs : List V}
end
section
variable {P : Program} {w : World} {K : PySem.W.Frag} {mg mb : Str → Option Value} {CX : CXT} {k : Nat} {fa a : Addr} {cs : List (Addr × Addr)} {fd : FuncData} {x : Str} {sp : Sp} {s₁ : Shared} {vs : List Value} {ns : List Int}
end
end EndG
end Ep
namespace Ep
open PySem PySem.Spec L2 PyProof.Rows
/-! ### an own comparison with an instance of another class -/
/-- D is no class below C -/
structure PyOk (G : Gm) (C D : Nat) : Prop where
  ok : ∀ cA dA, G.mg (G.cn C) = some (.ref cA) → G.mg (G.cn D) = some (.ref dA) → PySem.W.notFirst G.K cA (.ref dA) = true
section
variable {X : Cx} {G : Gm} {W : WX} {pos : Pos} {a b : Expr} {f g : Env → M T} {C D j k : Nat} {F : List T → M T}
end
end Ep
namespace Ep
open PySem PySem.Spec L2 PyProof.Rows
/-! ### f(k2 = a, k1 = b): a def of two parameters, both by keyword, the second one first -/
def gSw {α : Type} : List α → List α → List α
  | [], [a, b] => [b, a]
  | _, _ => []
/-- a def of two parameters that takes them by keyword -/
structure DefKw (P : Program) (wd : World) (base : Heap) (G : Gm) (k : Nat) (x : Str) (ks : List Str) (F : List T → M T) : Prop where
  ex : ∃ f fd ps, FnOk P wd G.K G.mg base (L2.CX P wd) k f fd ps (spF G 2 F) ∧ G.mg x = some (.ref f) ∧ PySem.W.keepIn G.K (.ref f) = true ∧ KBinds G.K fd ps ks gSw gSw
section
variable {X : Cx} {G : Gm} {W : WX} {pos p kp1 kp2 : Pos} {a b : Expr} {f g : Env → M T} {j k : Nat} {F : List T → M T} {x : Str} {k1 k2 : Str}
end
end Ep
namespace Ep
open PySem PySem.Spec L2 PyProof.Rows
/-! ### f(..).append(e): a changed list that an expression hands back -/
section
variable {X : Cx} {G : Gm} {W : WX} {pos apos cpos : Pos} {o e : Expr} {f g : Env → M T}
end
end Ep
namespace Ep
open PySem PySem.Spec L2 PyProof.Rows
/-! ### (a, b) < (c, d), whole numbers -/
section
variable {X : Cx} {G : Gm} {W : WX} {pos : Pos} {a b : Expr} {f g : Env → M T} {j : Nat}
end
end Ep
/-! a call that a telling of a def leaves out (the inner telling of a def that calls itself). -/
namespace Ep
open PySem PySem.Spec L2
end Ep
/-! a list beside one of another length is unlike, whatever stands in it. -/
namespace Ep
open PySem PySem.Spec L2
section
variable {X : Cx} {G : Gm} {W : WX}
end
end Ep
/-! steps for the printed walks: loops by the slots that they change. -/
namespace Ep
open PySem L2
/-- what a loop does to a slot: keeps it, sets it to anything, holds it as told -/
inductive Mk where
  | k : Mk
  | v : Mk
  | s : Slot → Mk
def frm : List Mk → (Nat → Slot) → Nat → Env → Env
  | .k :: ms, σ, i, s :: env => s :: frm ms σ (i + 1) env
  | .v :: ms, σ, i, _ :: env => σ i :: frm ms σ (i + 1) env
  | .s t :: ms, σ, i, _ :: env => t :: frm ms σ (i + 1) env
  | [], _, _, env => env
  | _ :: _, _, _, [] => []
abbrev got (e : Env) : Nat → Slot := fun i => e.getD i .un
section
variable {f g k : Env → M T} {p q : Env → M Bool} {env env' env2 e : Env} {r r1 r2 r3 : RS} {x y z t u : T} {s s' sa sb : Sm} {so : SO} {b c : Bool} {n C i j : Nat} {F : List T → M T} {ts vs us xs ys : List T} {fs : List (Env → M T)} {Q : SO → Prop}
theorem ho_skip (h : Ho Q (s env r)) : Ho Q (qSeq qNil s env r) := h
theorem ho_ifF (h1 : p env r = .ok false r1) (h2 : Ho Q (qSeq sb s' env r1)) : Ho Q (qSeq (qIf p sa sb) s' env r) := ho_if h1 (fun h => by cases h) (fun _ => h2)
/-- the slots told one by one -/
theorem ho_env (env2 : Env) (h : env = env2) (h2 : Ho Q (s env2 r)) : Ho Q (s env r) := h ▸ h2
/-- a loop over a list told by u, by what is left of it, and what the slots hold -/
theorem ho_forL {α A : Type} {fi : Env → M (List T)} {h : T → Env → Option Env} (u : α → T) (L : List α) (mk : A → List Mk) (P : List α → A → RS → Prop) (a : A)
    (h1 : fi env r = .ok xs r1) (hx : xs = L.map u) (h0 : frm (mk a) (got env) 0 env = env) (hp : P L a r1)
    (st : ∀ x ys a σ r, P (x :: ys) a r → ∃ e1, h (u x) (frm (mk a) σ 0 env) = some e1 ∧ Ho (fun so => ∃ e2 r2 a', so = .nx e2 r2 ∧ frm (mk a') (got e2) 0 env = e2 ∧ P ys a' r2) (s e1 r))
    (h2 : ∀ a σ r, P [] a r → Ho Q (s' (frm (mk a) σ 0 env) r)) : Ho Q (qSeq (qFor fi h s) s' env r) := by
  have go : ∀ (L : List α) (a : A) (σ : Nat → Slot) (r : RS), P L a r → ∃ a' σ' r', loopF h s (L.map u) (frm (mk a) σ 0 env) r = .nx (frm (mk a') σ' 0 env) r' ∧ P [] a' r' := by
    intro L
    induction L with
    | nil => exact fun a σ r hp => ⟨a, σ, r, rfl, hp⟩
    | cons x ys ih =>
      intro a σ r hp
      obtain ⟨e1, q1, e2, r2, a', q2, q3, hp'⟩ := st x ys a σ r hp
      obtain ⟨a3, σ3, r3, q4, q5⟩ := ih a' (got e2) r2 hp'
      rw [q3] at q4
      exact ⟨a3, σ3, r3, n_loop q1 q2 q4, q5⟩
  obtain ⟨a', σ', r', q1, q2⟩ := go L a (got env) r1 hp
  rw [h0, ← hx] at q1
  exact ho_seq (n_for h1 q1) (h2 a' σ' r' q2)
/-- a loop over anything, by what stands of the lists behind each turn -/
theorem ho_forV {fi : Env → M (List T)} {h : T → Env → Option Env} (mk : List Mk) (P : RS → Prop)
    (h1 : fi env r = .ok xs r1) (h0 : frm mk (got env) 0 env = env) (hp : P r1)
    (st : ∀ x ∈ xs, ∀ σ r, P r → ∃ e1, h x (frm mk σ 0 env) = some e1 ∧ Ho (fun so => ∃ e2 r2, so = .nx e2 r2 ∧ frm mk (got e2) 0 env = e2 ∧ P r2) (s e1 r))
    (h2 : ∀ σ r, P r → Ho Q (s' (frm mk σ 0 env) r)) : Ho Q (qSeq (qFor fi h s) s' env r) := by
  have go : ∀ (ys : List T), (∀ x ∈ ys, x ∈ xs) → ∀ (σ : Nat → Slot) (r : RS), P r → ∃ σ' r', loopF h s ys (frm mk σ 0 env) r = .nx (frm mk σ' 0 env) r' ∧ P r' := by
    intro ys
    induction ys with
    | nil => exact fun _ σ r hp => ⟨σ, r, rfl, hp⟩
    | cons x ys ih =>
      intro m σ r hp
      obtain ⟨e1, q1, e2, r2, q2, q3, hp'⟩ := st x (m x List.mem_cons_self) σ r hp
      obtain ⟨σ3, r3, q4, q5⟩ := ih (fun y hy => m y (List.mem_cons_of_mem _ hy)) (got e2) r2 hp'
      rw [q3] at q4
      exact ⟨σ3, r3, n_loop q1 q2 q4, q5⟩
  obtain ⟨σ', r', q1, q2⟩ := go xs (fun _ h => h) (got env) r1 hp
  rw [h0] at q1
  exact ho_seq (n_for h1 q1) (h2 σ' r' q2)
theorem w_nil : qNil env r = .nx env r := rfl
theorem w_rng1i {i : Int} (h1 : f env r = .ok (.int i) r1) (h : -(2 ^ 62) ≤ i ∧ i < 2 ^ 62) : fRng1 f env r = .ok (rngL 0 i.toNat) r1 := Dr.rng1s h1 h
end
end Ep
/-! a new list by a test: [..] if c else [..]. -/
namespace Ep
open PySem PySem.Spec L2 PyProof.Rows He
section
variable {X : Cx} {G : Gm} {W : WX} {pos : Pos} {a b c : Expr} {p : Env → M Bool} {f g : Env → M (List T)}
end
end Ep
/-! statements that a law never comes to: their computation is bad, and tells nothing. -/
namespace Ep
open PySem PySem.Spec L2
section
variable {X : Cx} {G : Gm} {W : WX}
end
end Ep
/-! x, y = [..], [..] where a comprehension reads x or y later: the pair is made and taken apart. -/
namespace Ep
open PySem PySem.Spec L2 PyProof.Rows He
section
variable {X : Cx} {G : Gm} {W : WX} {pos : Pos}
end
end Ep
/-! dict(pairs) with keys that are tuples, to be walked. -/
namespace L2
open PySem PySem.Spec PyProof.Rows
abbrev RF := Ep.RelF
section
variable {X : Cx} {pins : List (Addr × Obj)} {σ : St} {H : Hp} {s : Shared}
end
end L2
/-! looking up in it: keys of whole numbers -/
namespace L2
open PySem PySem.Spec PyProof.Rows
def intK (k : List Key) : Bool := k.all fun x => match x with
  | .inl _ => true
  | .inr _ => false
theorem hash_int {P P' : Program} {w w' : World} : ∀ k : List Key, intK k = true → k.map (mixKind P w).hash = k.map (mixKind P' w').hash
  | [], _ => rfl
  | .inl i :: k, h => by
    rw [List.map_cons, List.map_cons, hash_int (P' := P') (w' := w') k (by simpa [intK] using h)]
    exact congrArg (· :: _) (show keyH w (.inl i) = keyH w' (.inl i) from rfl)
  | .inr x :: k, h => by simp [intK] at h
theorem tk_hash {P P' : Program} {w w' : World} (k : List Key) (h : intK k = true) : (tupleKind (mixKind P w)).hash k = (tupleKind (mixKind P' w')).hash k :=
  congrArg (fun l => reduceHash (Builtin.Tuple.tupleHashOf l)) (hash_int k h)
theorem entry_int {P P' : Program} {w w' : World} (q : List Key × Addr × Value) (h : intK q.1 = true) : entryOfKey (tupleKind (mixKind P w)) q = entryOfKey (tupleKind (mixKind P' w')) q := by
  unfold entryOfKey
  rw [tk_hash (P' := P') (w' := w') q.1 h]
section
variable {X : Cx} {pins : List (Addr × Obj)} {σ : St} {H : Hp} {s : Shared}
/-- the tuples of all keys stand -/
def KeysAt (K : PySem.W.Frag) (H : Hp) (kvs : List (List Key × Addr × V)) : Prop := ∀ x ∈ kvs, intK x.1 = true ∧ SqT K H x.2.1 (x.1.map kV)
theorem tup_key (I : Inv X pins σ H s) {k : List Key} {b : Addr} (h : SqT X.K H b (k.map kV)) : (tupleKind (mixKind X.prog X.w)).is s.heap k b := by
  obtain ⟨its, rv, ht, _⟩ := I.tuple h
  obtain ⟨o, h1, h2, n, h3⟩ := ht
  exact ⟨o, its.toArray, n, h1, h2, h3, by simpa using items_are rv⟩
end
end L2
/-! looking up in a dict with tuple keys; the trees. -/
namespace L2
open PySem PySem.Spec PyProof.Rows
section
variable {X : Cx} {pins : List (Addr × Obj)} {σ : St} {H : Hp} {s : Shared}
theorem fd_dict (I : Inv X pins σ H s) {d : Addr} {od : Obj} {kvs : List (List Key × Addr × V)} (h : H d = some (.frz od (.ext fun _ => True))) (f : Ep.FdAt od d kvs) (ka : KeysAt X.K H kvs) : ∃ xs, Paired RF kvs xs ∧ (d == sysModules) = false ∧ s.heap.DictOfH (tupleKind (mixKind X.prog X.w)) d xs := by
  obtain ⟨P, w, es, ep, xs, h1, hx, pr, nd, h3, h4, _⟩ := f
  have hgd : s.heap.get? d = some od := (I.hok d _ h).1
  have key : ∀ {kvs : List (List Key × Addr × V)} {xs : List (List Key × Addr × Value)}, Paired RF kvs xs → KeysAt X.K H kvs → xs.map (entryOfKey (tupleKind (mixKind P w))) = xs.map (entryOfKey (tupleKind (mixKind X.prog X.w))) ∧ ∀ x ∈ xs, (tupleKind (mixKind X.prog X.w)).is s.heap x.1 x.2.1 := by
    intro kvs xs pr
    induction pr with
    | nil => exact fun _ => ⟨by rw [List.map_nil, List.map_nil], fun x m => by cases m⟩
    | @cons p q ps qs hq t ih =>
      intro ka
      obtain ⟨i1, i2⟩ := ih fun x m => ka x (List.mem_cons_of_mem _ m)
      obtain ⟨k1, k2⟩ := ka p List.mem_cons_self
      rw [hq.1] at k1 k2
      rw [hq.2.1] at k2
      refine ⟨?_, fun x m => ?_⟩
      · rw [List.map_cons, List.map_cons, i1]
        rw [entry_int (P' := X.prog) (w' := X.w) q k1]
      · rcases List.mem_cons.mp m with rfl | m
        · exact tup_key I k2
        · exact i2 x m
  obtain ⟨e1, e2⟩ := key pr ka
  exact ⟨xs, pr, h4, od, es, ep, hgd, h3, h1, by rw [hx, e1], e2, nd⟩
def getF (kvs : List (List Key × Addr × V)) (k : List Key) : Option V := (kvs.find? fun x => decide (x.1 = k)).map (·.2.2)
theorem rf_get {A : List (List Key × Addr × V)} {B : List (List Key × Addr × Value)} (h : Paired RF A B) (k : List Key) : RelO (getF A k) ((atKey B k).map (·.2)) := by
  induction h with
  | nil => exact True.intro
  | @cons p q ps qs hq t ih =>
    unfold getF atKey at ih ⊢
    rw [List.find?_cons, List.find?_cons, hq.1]
    cases e : decide (q.1 = k) with
    | true => exact hq.2.2
    | false => exact ih
/-- what stands at y in such a dict -/
def FGet (K : PySem.W.Frag) (H : Hp) (a : Addr) (y : V) (o : Option V) : Prop := ∃ od kvs k b, H a = some (.frz od (.ext fun _ => True)) ∧ Ep.FdAt od a kvs ∧ KeysAt K H kvs ∧ y = .ref b ∧ SqT K H b (k.map kV) ∧ getF kvs k = o
end
end L2
namespace Ep
open PySem PySem.Spec L2 PyProof.Rows
section
variable {G : Gm} {w : Wd}
theorem keysT_map : ∀ k : List Key, keysT (k.map keyV) = some k
  | [] => rfl
  | x :: k => by
    rw [List.map_cons]
    unfold keysT
    rw [keysT_map k]
    cases x <;> rfl
/-- the entries are those of the tree -/
structure TR (G : Gm) (w : Wd) (A : List (List Key × Addr × V)) (ks : List (List Key)) (ts : List T) : Prop where
  k : ks = A.map fun x => x.1
  dk : Dens G w (A.map fun x => V.ref x.2.1) (A.map fun x => T.tup (x.1.map keyV))
  dv : Dens G w (A.map fun x => x.2.2) ts
end
/-- what stands at a key; none: no key of its kind -/
def lookF : T → T → Option (Option T)
  | .fdt ks ts, .tup i => (keysT i).bind fun k => if (intK k && ks.all intK) = true then some (gK ks ts k) else none
  | _, _ => none
section
variable {X : Cx} {G : Gm} {W : WX} {tg e a ix : Expr} {f g : Env → M T} {p pos : Pos}
theorem gK_getF : ∀ (kvs : List (List Key × Addr × V)) (k : List Key), gK (kvs.map fun x => x.1) (kvs.map fun x => x.2.2) k = getF kvs k
  | [], _ => rfl
  | x :: kvs, k => by
    rw [List.map_cons, List.map_cons]
    unfold gK getF
    rw [List.find?_cons]
    by_cases e : x.1 = k
    · rw [if_pos e, decide_eq_true e]; rfl
    · rw [if_neg e, decide_eq_false e]
      exact gK_getF kvs k
theorem keys_at {w : Wd} {H : Hp} {r : RS} (g : Good G w H r) {kvs : List (List Key × Addr × V)} (dk : Dens G w (kvs.map fun x => V.ref x.2.1) (kvs.map fun x => T.tup (x.1.map keyV))) (hi : (kvs.map fun x => x.1).all intK = true) : KeysAt G.K H kvs := by
  induction kvs with
  | nil => exact fun x m => by cases m
  | cons q kvs ih =>
    rw [List.map_cons, List.map_cons] at dk
    rw [List.map_cons, List.all_cons, Bool.and_eq_true] at hi
    cases dk with
    | cons d1 d2 =>
      intro x m
      rcases List.mem_cons.mp m with rfl | m
      · refine ⟨hi.1, ?_⟩
        cases d1 with
        | tup h z dd =>
          rw [← keys_of dd (keysT_map _)]
          exact tup_sq g.sub h
      · exact ih d2 hi.2 x m
theorem look_f {w : Wd} {H : Hp} {r : RS} (g : Good G w H r) {d i : T} {v y : V} {o : Option T} (hd : Den G w v d) (hi : Den G w y i) (e : lookF d i = some o) : ∃ a, v = .ref a ∧ ∃ u, FGet G.K H a y u ∧ (∀ t, o = some t → ∃ x, u = some x ∧ Den G w x t) ∧ (o = none → u = none) := by
  cases hd with
  | @fdt a od kvs ts h f dk dv =>
    cases hi with
    | @tup b us k hb z dd =>
      obtain ⟨key, hk, e⟩ := Option.bind_eq_some_iff.mp (show ((keysT k).bind fun k => if (intK k && (kvs.map fun x => x.1).all intK) = true then some (gK (kvs.map fun x => x.1) ts k) else none) = some o from e)
      by_cases q : (intK key && (kvs.map fun x => x.1).all intK) = true
      · rw [if_pos q] at e
        cases e
        rw [Bool.and_eq_true] at q
        refine ⟨a, rfl, getF kvs key, ⟨od, kvs, key, b, g.sub _ _ h, f, keys_at g dk q.2, rfl, ?_, rfl⟩, fun t ht => ?_, fun hn => ?_⟩
        · rw [← keys_of dd hk]; exact tup_sq g.sub hb
        · obtain ⟨x, hx, dx⟩ := dv.gK ht
          exact ⟨x, by rw [← gK_getF]; exact hx, dx⟩
        · rw [← gK_getF]; exact dv.gKn hn
      · rw [if_neg q] at e; cases e
    | _ => cases e
  | _ => cases e
end
end Ep
/-! in, not in, len of a dict with tuple keys. -/
namespace L2
open PySem PySem.Spec PyProof.Rows
section
variable {X : Cx}
def rInF (K : PySem.W.Frag) : V → V → Hp → VK → Prop := fun y x H Q => ∃ a ov, x = .ref a ∧ FGet K H a y ov ∧ Q (.bl ov.isSome) H
theorem op_inF (hu : X.A.units + 1 < cLine) : OpR X (compareOp .In) (rInF X.K) := by
  intro pins s σ H y x iv u Q I ry rx ⟨a, ov, ex, ⟨od, kvs, k, b, g1, g2, g3, ey, g4, g5⟩, q2⟩
  subst ex
  obtain rfl : u = Value.ref a := rx
  subst ey
  obtain rfl : iv = Value.ref b := ry
  obtain ⟨xs, pr, hd, dd⟩ := fd_dict I g1 g2 g3
  refine wpAny_in_heap (tupleKind_room_in1 hu) (tup_key I g4) hd dd ?_
  have z := (rf_get pr k).isSome_eq
  rw [Option.isSome_map] at z
  rw [← z, g5]
  exact ⟨.bl ov.isSome, H, I.tok _, rfl, q2⟩
end
end L2
namespace Ep
open PySem PySem.Spec L2 PyProof.Rows
def inFT (i d : T) : Option Bool := (lookF d i).map (·.isSome)
section
variable {X : Cx} {G : Gm} {W : WX} {j : Nat} {a b : Expr} {f g : Env → M T} {p pos : Pos}
theorem v_inF (hK : X.K = G.K) : CmpV G (rInF X.K) inFT := fun w H r x y t u z Q g d1 d2 e q => by
  obtain ⟨o, ho, e⟩ := Option.map_eq_some_iff.mp (show (lookF u t).map _ = some z from e)
  have d1 : Den G w x t := by
    rcases d1 with d | ⟨_, _, _, _, q1, _⟩
    · exact d
    · subst q1; cases u <;> cases ho
  have d2 : Den G w y u := by
    rcases d2 with d | ⟨_, _, _, _, q1, _⟩
    · exact d
    · subst q1; cases ho
  obtain ⟨a, e1, v, dg, hh, hn⟩ := look_f g d2 d1 ho
  refine ⟨a, v, e1, by rw [hK]; exact dg, ?_⟩
  have ev : v.isSome = z := by
    rw [← e]
    cases o with
    | none => rw [hn rfl]; rfl
    | some t' => obtain ⟨x', ex, _⟩ := hh t' rfl; rw [ex]; rfl
  rw [ev]; exact q
theorem Bd.fin (B : Bd X G W j) (ha : SK X G W a f) (hb : SK X G W b g) (hm : behindInMarks .In b = false := by rfl) : SE X G W (.Compare a [.In] [b] pos) (fCmp inFT f g) := s_cmp (op_inF (by have := B.un; omega)) (v_inF B.eK) ha hb hm
end
end Ep
/-! a dict with tuple keys while it is made: the store. -/
namespace L2
open PySem PySem.Spec PyProof.Rows
section
variable {X : Cx} {pins : List (Addr × Obj)} {σ : St} {H : Hp} {s : Shared}
end
end L2
/-! list(e) of a text: a new list of its signs. -/
namespace L2
open PySem PySem.Spec PyProof.Rows
section
variable {X : Cx}
end
end L2
namespace Ep
open PySem PySem.Spec L2
end Ep
/-! x = e[lo:hi] of a list as a new list that is changed later; what is changed told ahead. -/
namespace Ep
open PySem PySem.Spec L2
section
variable {X : Cx} {G : Gm} {W : WX} {a : Expr} {f : Env → M T} {pos : Pos}
end
section
variable {f g k : Env → M T} {env : Env} {r r1 r2 r3 : RS} {x : T} {ys : List T}
end
/-- the changed thing told ahead -/
theorem ho_pick {A : Type} {R : Env → RS → A → Prop} {so : SO} (a : A) (h : Ho (fun so => ∃ e2 r2, so = .nx e2 r2 ∧ R e2 r2 a) so) : Ho (fun so => ∃ e2 r2 a', so = .nx e2 r2 ∧ R e2 r2 a') so := by
  obtain ⟨e, r, h1, h2⟩ := h
  exact ⟨e, r, a, h1, h2⟩
end Ep
/-! Functions that a def hears: a call of one, lambdas with parameters handed to a def. -/
namespace Ep
open PySem PySem.Spec L2
open PyProof.Rows (envOfC)
/-! ### the same program, another heard function -/
abbrev Gm.wf (G : Gm) (o : Option (Addr × Addr × Str × List V × List T)) : Gm := { G with fn := o }
section
variable {G : Gm} {w : Wd} {H : Hp} {r : RS} (o : Option (Addr × Addr × Str × List V × List T))
mutual
theorem Den.wf : ∀ {v : V} {t : T}, Den G w v t → Den (G.wf o) w v t
  | _, _, .non => .non
  | _, _, .bl b => .bl b
  | _, _, .int i => .int i
  | _, _, .str x => .str x
  | _, _, .tup h z d => .tup h z (Dens.wf d)
  | _, _, .lst h z d => .lst h z (Dens.wf d)
  | _, _, .kls h z d => .kls h z (Dens.wf d)
  | _, _, .obj c h l d => .obj c h l (Dens.wf d)
  | _, _, .gl h => .gl h
  | _, _, .cl h => .cl h
  | _, _, .ty n => .ty n
  | _, _, .ref h => .ref h
  | _, _, .dct h l d => .dct h l (Dens.wf d)
  | _, _, .dtt h l d => .dtt h l (Dens.wf d)
  | _, _, .fdt h f dk dv => .fdt h f (Dens.wf dk) (Dens.wf dv)
theorem Dens.wf : ∀ {vs : List V} {ts : List T}, Dens G w vs ts → Dens (G.wf o) w vs ts
  | _, _, .nil => .nil
  | _, _, .cons h r => .cons (Den.wf h) (Dens.wf r)
end
theorem Good.wf (g : Good G w H r) : Good (G.wf o) w H r := ⟨g.sub, ⟨g.refs.nd, g.refs.len, g.refs.out, fun k xs hk => by
  obtain ⟨a, vs, h1, h2, h3, h4⟩ := g.refs.at_ k xs hk
  exact ⟨a, vs, h1, h2, h3.wf o, h4⟩⟩, g.tabs, g.nt⟩
theorem ExcIs.wf {c : Nat} {p : T} {cls : Value} {d : Option Addr} (x : ExcIs G w H c p cls d) : ExcIs (G.wf o) w H c p cls d := by
  obtain ⟨cA, dd, v, f, h1, h2, h3, h4, h5, h6⟩ := x.ex
  exact ⟨cA, dd, v, f, h1, h2, h3, h4, h5, h6.wf o⟩
theorem OutP.wf {E : XK} {Q : VK} {m : Out T} (h : OutP G w H E (fun t _ w' H' => ∀ v, Den G w' v t → Q v H') m) : OutP (G.wf o) w H E (fun t _ w' H' => ∀ v, Den (G.wf o) w' v t → Q v H') m := by
  cases m with
  | ok t r' => exact fun w' H' st g v d => h w' H' st (Good.wf (G := G.wf o) G.fn g) v (Den.wf (G := G.wf o) G.fn d)
  | exn c p r' => exact fun w' H' cls d st g x => h w' H' cls d st (Good.wf (G := G.wf o) G.fn g) (ExcIs.wf (G := G.wf o) G.fn x)
  | bad => exact h
end
section
variable {P : Program} {wd : World} {base : Heap} {G : Gm} {k : Nat} {x : Str} {n : Nat} {ds : List T} {F : List T → M T} (o : Option (Addr × Addr × Str × List V × List T))
theorem spF_wf {vs : List V} {H : Hp} {Q : VK} {E : XK} (h : spF (G.wf o) n F vs H Q E) : spF G n F vs H Q E := by
  obtain ⟨w, r, ts, g, d, l, h⟩ := h
  exact ⟨w, r, ts, Good.wf (G := G.wf o) G.fn g, Dens.wf (G := G.wf o) G.fn d, l, OutP.wf (G := G.wf o) G.fn h⟩
theorem DefOk.wf (D : DefOk P wd base G k x n ds F) : DefOk P wd base (G.wf o) k x n ds F := by
  obtain ⟨f, fd, ps, dvs, dus, h1, h2, h3, h4, h5, h6⟩ := D.ex
  exact ⟨f, fd, ps, dvs, dus, h1.imp fun vs H Q E h => spF_wf o h, h2, h3, h4, h5, fun w => (h6 w).wf o⟩
theorem MethOk.wf {C : Nat} {m : Str} (D : MethOk P wd base G k C m n ds F) : MethOk P wd base (G.wf o) k C m n ds F := by
  obtain ⟨cA, f, fd, ps, dvs, dus, c1, c2, c3, h1, h4, h5, h6⟩ := D.ex
  exact ⟨⟨cA, f, fd, ps, dvs, dus, c1, c2, c3, h1.imp fun vs H Q E h => spF_wf o h, h4, h5, fun w => (h6 w).wf o⟩, D.nof⟩
theorem FldOk.wf {name : Str} {C j : Nat} (D : FldOk G name C j) : FldOk (G.wf o) name C j := ⟨D.at_, D.cl⟩
end
/-! ### a call of what was heard -/
/-- the function at f, as its callers see it -/
structure ActOk (P : Program) (wd : World) (K : PySem.W.Frag) (mg : Str → Option Value) (base : Heap) (CX : CXT) (k : Nat) (f : Addr) (sp : Sp) : Prop where
  fn : PySem.W.FnAt f base
  run : ∀ (A : Around) (outer : List PySem.Env) (s : Shared) (H : Hp) (us : List Value) (vs : List V) (Q : VK) (E : XK), Room k A → Env0 P wd K mg base A outer s H → Vals vs us → sp vs H Q E → codeAny (model P wd) A (.call (.ref f) ⟨us, []⟩) (CR CX outer P wd H s Q E) s
theorem ActOk.imp {P : Program} {wd : World} {K : PySem.W.Frag} {mg : Str → Option Value} {base : Heap} {CX : CXT} {k : Nat} {f : Addr} {sp sp' : Sp} (A : ActOk P wd K mg base CX k f sp) (h : ∀ vs H Q E, sp' vs H Q E → sp vs H Q E) : ActOk P wd K mg base CX k f sp' :=
  ⟨A.fn, fun A' outer s H us vs Q E r e v q => A.run A' outer s H us vs Q E r e v (h _ _ _ _ q)⟩
/-- what a function of n values that captured ct computes -/
def spA (G : Gm) (c : Addr) (q : Str) (cv : List V) (ct : List T) (n : Nat) (act : List T → M T) : Sp := fun vs H Q E => ∃ w r ts, Good G w H r ∧ Dens G w vs ts ∧ ts.length = n ∧ Dens G w cv ct ∧ H c = some (LamX.CodeO c q) ∧ OutP G w H E (fun t _ w' H' => ∀ v, Den G w' v t → Q v H') (act ts r)
theorem spA_wf {G : Gm} {c : Addr} {q : Str} {cv : List V} {ct : List T} {n : Nat} {act : List T → M T} (o : Option (Addr × Addr × Str × List V × List T)) {vs : List V} {H : Hp} {Q : VK} {E : XK} (h : spA (G.wf o) c q cv ct n act vs H Q E) : spA G c q cv ct n act vs H Q E := by
  obtain ⟨w, r, ts, g, d, l, dc, hc, h⟩ := h
  exact ⟨w, r, ts, Good.wf (G := G.wf o) G.fn g, Dens.wf (G := G.wf o) G.fn d, l, Dens.wf (G := G.wf o) G.fn dc, hc, OutP.wf (G := G.wf o) G.fn h⟩
def fAct (i : Nat) (act : List T → M T) (fs : List (Env → M T)) : Env → M T := fun env => match env[i]? with
  | some .fn => fAll fs env >>= act
  | _ => M.bad
theorem fnAt_keeps {h h' : Heap} {f : Addr} (k : ∀ b o, h.get? b = some o → h'.get? b = some o) (a : PySem.W.FnAt f h) : PySem.W.FnAt f h' := by
  obtain ⟨oc, od, fd, sl, e⟩ := a
  exact ⟨oc, od, fd, sl, k _ _ e⟩
theorem s_act {X : Cx} {G : Gm} {W : WX} {a : Str} {f c : Addr} {q : Str} {cv : List V} {ct : List T} {i j k n : Nat} {act : List T → M T} {e : Expr} {es : List Expr} {fs : List (Env → M T)} {p pos : Pos} (hfn : G.fn = some (f, c, q, cv, ct)) (A : ActOk X.prog X.w X.K X.mg X.base (L2.CX X.prog X.w) k f (spA G c q cv ct n act)) (tk : Takes X W) (hr : Room j X.A) (hk : k ≤ j)
    (hN : X.N[i]? = some a) (hv : Vis X.env.scope a) (ha : SA X G W (e :: es) fs) (hn : fs.length = n := by rfl) (hdb : (a == ("__debug__" : Str)) = false := by decide) (hcd : (a == ("__classdict__" : Str)) = false := by decide)
    (he : starEach (e :: es) X.env = (false, eval e X.env) :: starEach es X.env := by rfl) (hpl : (backTo pos (starEach es X.env)).any (·.1) = false := by rfl) : SE X G W (.Call (.Name a p) (e :: es) [] pos) (fAct i act fs) := by
  refine ⟨fun pins s σ H Q I ⟨w, H0, env, r, g0, s0, h0⟩ => ?_⟩
  unfold fAct at h0
  cases ei : env[i]? with
  | none => rw [ei] at h0; exact h0.elim
  | some sl =>
    rw [ei] at h0
    cases sl with
    | fn =>
      obtain ⟨oa, k1, _⟩ := s0.ex
      obtain ⟨f', c', q', cv', ct', e1, e2, d, nR, hc⟩ := k1 i _ ei
      rw [hfn] at e1
      cases e1
      have rd := (pe_var (pos := p) hN hv hdb hcd).run pins s σ H (fun v H1 => v = .ref f ∧ H1 = H) I ⟨.ref f, e2, rfl, rfl⟩
      refine wpAny_Call_Name_kw (thn rd ?_)
      rintro u s1 ⟨v, H1, I1, rv, rfl, rfl⟩
      obtain rfl : u = Value.ref f := rv
      have use := ha.run pos pins s1 σ H1 _ I1 (seqA g0 s0 h0 fun ts r2 w2 H2 ws g2 s2 st2 d2 l2 h3 => show (∃ w2 r2 ts, Good G w2 H2 r2 ∧ Dens G w2 ws ts ∧ ts.length = fs.length ∧ Dens G w2 cv ct ∧ H2 c = some (LamX.CodeO c q) ∧ OutP G w2 H2 (WE0 W σ) (fun t _ w' H' => ∀ v, Den G w' v t → Q v H') (act ts r2)) from
        ⟨w2, r2, ts, g2, d2, l2, d.mono st2.later, st2.fr c _ nR hc LamX.codeO_ne, h3⟩)
      refine PySem.W.callWith_F (first := []) (fnAt_keeps I1.bk A.fn) (thn use fun us s2 ⟨ws, H2, I2, rw2, w2, r2, ts, g2, d2, l2, dc, hc2, h3⟩ => ⟨fnAt_keeps I2.bk A.fn, ?_⟩) he hpl
      refine wpAny_call (codeAny_mono (A.run X.A X.stack s2 H2 us ws Q (WE W σ) (hr.mono hk) I2.env0 rw2 ⟨w2, r2, ts, g2, d2, l2.trans hn, dc, hc2, h3⟩) fun res s3 hq => ?_)
      match res, hq with
      | .error x, hq => exact passAt tk σ pins H2 s2 x s3 I2 hq
      | .ok (.ret u), hq => exact I2.after hq
      | .ok .next, hq => exact hq.elim
      | .ok .brk, hq => exact hq.elim
      | .ok .cont, hq => exact hq.elim
    | un => exact h0.elim
    | val t => exact h0.elim
    | pv o => exact h0.elim
end Ep
/-! A base that holds more: the captured cells and the function itself. -/
namespace Ep
open PySem PySem.Spec L2
open PyProof.Rows (envOfC)
/-- what stands in the first stands in the second -/
def Grow (b1 b2 : Heap) : Prop := ∀ a o, b1.get? a = some o → b2.get? a = some o
theorem Grow.refl (b : Heap) : Grow b b := fun _ _ h => h
theorem Grow.trans {a b c : Heap} (h : Grow a b) (g : Grow b c) : Grow a c := fun x o e => g x o (h x o e)
def gone0 : Obj := { cls := .none, data := .freed }
/-- of h, what stands at the places S -/
def hold (h : Heap) (S : Addr → Bool) : Heap := { objs := h.objs.mapIdx fun i o => if S i = true then o else gone0 }
theorem hold_get (h : Heap) (S : Addr → Bool) (a : Addr) : (hold h S).get? a = if S a = true then h.get? a else none := by
  unfold Heap.get? hold
  simp only [Array.getElem?_mapIdx]
  cases e : h.objs[a]? with
  | none => simp
  | some o =>
    by_cases q : S a = true
    · rw [if_pos q]; simp [q]
    · rw [if_neg q]; simp [q, gone0]
theorem hold_size (h : Heap) (S : Addr → Bool) : (hold h S).objs.size = h.objs.size := by
  unfold hold; simp
theorem mod_grow {K : PySem.W.Frag} {mg : Str → Option Value} {b b' : Heap} (M : Mod K mg b) (g : Grow b b') : Mod K mg b' := by
  obtain ⟨h1, h2, ⟨mb, h3, h4⟩, h5⟩ := M
  exact ⟨h1.keeps g, h2.keeps g, ⟨mb, h3.keeps g, h4⟩, h5.keeps g⟩
theorem tabB_grow {mg : Str → Option Value} {b b' : Heap} {c P : Addr} (T : LamX.TabB b mg c P) (g : Grow b b') : LamX.TabB b' mg c P := ⟨T.code.keeps g, T.bm.keeps g, T.gP⟩
theorem funFrames_base {h b b' : Heap} : ∀ {l : List PySem.Env}, h.FunFrames b l → (∀ a ∈ frs l, b'.get? a = none) → h.FunFrames b' l
  | [], _, _ => trivial
  | e :: l, ⟨h1, ⟨L, o, h2, _, h4, h5⟩, h6⟩, q => by
    have hq : ∀ a ∈ frs l, b'.get? a = none := fun a ha => q a (by
      show a ∈ (e :: l).filterMap (·.frame)
      rw [List.filterMap_cons, h2]
      exact List.mem_cons_of_mem _ ha)
    exact ⟨h1, ⟨L, o, h2, q L (by
      show L ∈ (e :: l).filterMap (·.frame)
      rw [List.filterMap_cons, h2]
      exact List.mem_cons_self), h4, h5⟩, funFrames_base h6 hq⟩
/-- the lambda's words -/
abbrev lamF (qual : Str) (params : Arguments) (scope : Scope) (cl : List (Str × Addr)) (c : Addr) : NdefX.NF := ⟨"<lambda>", qual, params, [], scope, cl, c⟩
abbrev lamO (qual : Str) (params : Arguments) (body : Expr) (scope : Scope) (cl : List (Str × Addr)) (pm : Value) (c : Addr) (ctv : Value) : Obj := PySem.W.kla_obj "<lambda>" qual params body scope cl pm c ctv
/-- the places of the captured cells, of the function, of the base -/
def keepS (base : Heap) (f : Addr) (cl : List (Str × Addr)) (a : Addr) : Bool := (base.get? a).isSome || decide (a = f) || cl.any fun y => decide (y.2 = a)
theorem look_any {cl : List (Str × Addr)} {y : Str} {c : Addr} (h : cl.lookup y = some c) : (cl.any fun y => decide (y.2 = c)) = true := List.any_eq_true.mpr ⟨(y, c), PySem.mem_of_lookup h, decide_eq_true rfl⟩
section
variable {X : Cx} {pins : List (Addr × Obj)} {σ : L2.St} {H : Hp} {s : Shared} {f : Addr} {cl : List (Str × Addr)}
/-- the new base, seen from the running def -/
theorem hold_env (I : Inv X pins σ H s) (hfn : ∀ x, X.fn x = true) (hcl : ∀ y ∈ cl, ∃ x, X.env.cells.lookup x = some y.2) (f0 : H f = none) (f1 : f ∉ frs X.stack) :
    Grow X.base (hold s.heap (keepS X.base f cl)) ∧ Env0 X.prog X.w X.K X.mg (hold s.heap (keepS X.base f cl)) X.A X.stack s H := by
  have g : Grow X.base (hold s.heap (keepS X.base f cl)) := fun a o e => by
    have : keepS X.base f cl a = true := by unfold keepS; rw [e]; rfl
    rw [hold_get, if_pos this]
    exact I.bk a o e
  have e0 := I.env0
  refine ⟨g, ⟨e0.frames, mod_grow e0.mod g, fun b o e => ?_, by rw [hold_size]; exact Nat.le_refl _, funFrames_base e0.funs fun a ha => ?_, e0.frf, e0.hok, e0.bare⟩⟩
  · rw [hold_get] at e
    by_cases q : keepS X.base f cl b = true
    · rw [if_pos q] at e
      refine ⟨e, ?_⟩
      unfold keepS at q
      rcases Bool.or_eq_true_iff.mp q with q | q
      · rcases Bool.or_eq_true_iff.mp q with q | q
        · cases z : X.base.get? b with
          | none => rw [z] at q; cases q
          | some u => exact (I.bs b u z).2
        · rw [of_decide_eq_true q]; exact f0
      · obtain ⟨y, hy, ey⟩ := List.any_eq_true.mp q
        obtain ⟨x, hx⟩ := hcl y hy
        rw [← of_decide_eq_true ey]
        exact I.freeC x _ hx
    · rw [if_neg q] at e; cases e
  · rw [hold_get]
    refine if_neg fun q => ?_
    unfold keepS at q
    rcases Bool.or_eq_true_iff.mp q with q | q
    · rcases Bool.or_eq_true_iff.mp q with q | q
      · have : X.base.get? a = none := (e0.funs.mem ha).1
        rw [this] at q; cases q
      · exact f1 (by rw [← of_decide_eq_true q]; exact ha)
    · obtain ⟨y, hy, ey⟩ := List.any_eq_true.mp q
      obtain ⟨x, hx⟩ := hcl y hy
      have ey := of_decide_eq_true ey
      rcases List.mem_cons.mp (I.stkSub a ha) with e | e
      · exact I.cne x _ hx (ey.trans e)
      · have h1 := I.ok.cab x _ (hfn x) hx
        obtain ⟨_, o, ho, _⟩ := I.ok.funs.mem e
        rw [ey] at h1
        exact Nat.lt_irrefl _ (Nat.lt_of_lt_of_le (Heap.lt_size ho) h1)
end
section
variable {X : Cx} {G : Gm} {pins : List (Addr × Obj)} {σ : L2.St} {H : Hp} {s : Shared} {base' : Heap} {f c : Addr} {params : Arguments} {body : Expr} {scope : Scope} {pm ctv : Value} {N ps fr : List Str} {js : List Nat} {k n m : Nat} {cv : List V} {ct : List T} {fb : Env → M T}
theorem lam_slots {w : Wd} {H : Hp} {vs : List V} {ts : List T} (d : Dens G w vs ts) (dc : Dens G w cv ct) (hm : N.length - (vs.length + cv.length) = m) : Slots G w H H (NdefX.startF N vs (cv.map some)) (ts.map .val ++ (ct.map .val ++ List.replicate m .un)) := by
  have eT : ts.map Slot.val ++ (ct.map Slot.val ++ List.replicate m .un) = envOf m (ts ++ ct) := by
    unfold envOf
    rw [List.map_append, List.append_assoc]
  have eS : NdefX.startF N vs (cv.map some) = L2.start N (vs ++ cv) := by
    unfold NdefX.startF L2.start
    rw [List.map_append, List.append_assoc, List.length_map, List.length_append, Nat.sub_add_eq]
  rw [eT, eS]
  exact start_slots (d.append dc) m (by rw [List.length_append]; exact hm)
/-- a lambda is a function of what it captured -/
theorem lam_act (I : Inv X pins σ H s) (hK : X.K = G.K) (hM : X.mg = G.mg) (hf : s.heap.get? f = some (lamO (X.env.qual ++ "<lambda>") params body scope (cloFrom X.env.cells scope.names []) pm c ctv)) (S : NdefX.NScope N ps fr scope) (cp : NdefX.Caps X (cloFrom X.env.cells scope.names []) fr js) (hcv : js.map (NdefX.slotAt σ) = cv.map some)
    (bf : base'.get? f = s.heap.get? f) (bc : ∀ y a, (cloFrom X.env.cells scope.names []).lookup y = some a → base'.get? a = s.heap.get? a) (hps : ps.length = n) (hm : N.length - (n + cv.length) = m)
    (hbind : ∀ us : List Value, us.length = ps.length → bindArgs (PySem.W.kla_fn "<lambda>" (X.env.qual ++ "<lambda>") params body scope (cloFrom X.env.cells scope.names []) pm (.ref c) ctv) ⟨us, []⟩ = pure (ps.zip us))
    (hbody : ∀ (A : Around) (outer : List PySem.Env) (s : Shared) (H : Hp) (E : XK), Room k (A.deeper (NdefX.envF (lamF (X.env.qual ++ "<lambda>") params scope (cloFrom X.env.cells scope.names []) c) f s.heap.objs.size)) →
      SE (NdefX.ncx (L2.CX X.prog X.w) X.prog X.w G.K G.mg base' N (lamF (X.env.qual ++ "<lambda>") params scope (cloFrom X.env.cells scope.names []) c) f A outer s H E) G (WD E) body fb) :
    ActOk X.prog X.w G.K G.mg base' (L2.CX X.prog X.w) (k + 1) f (spA G c (X.env.qual ++ "<lambda>") cv ct n fun ts => fb (ts.map .val ++ (ct.map .val ++ List.replicate m .un))) := by
  refine ⟨⟨_, _, _, _, bf.trans hf⟩, fun A outer s' H' us vs Q E hr e0 r ⟨w, rr, ts, g, d, l, dc, hc, h⟩ => ?_⟩
  have hl : vs.length = ps.length := by rw [d.length, l, hps]
  have here := (e0.bs f _ (bf.trans hf)).1
  obtain ⟨⟨oc, cs, t0, hoc, hdc, hvc⟩, _, _⟩ := e0.hok c _ hc
  have lim : s'.heap.NoLimit := e0.mod.nolimit.keeps fun b o e => (e0.bs b o e).1
  have C0 := NdefX.cells_of I cp
  rw [hcv] at C0
  have C : NdefX.CellsAt (cloFrom X.env.cells scope.names []) fr (cv.map some) s'.heap H' := by
    have mv : ∀ y a u, (cloFrom X.env.cells scope.names []).lookup y = some a → s.heap.IsCell a u → s'.heap.IsCell a u ∧ H' a = none := fun y a u e ⟨o, ho, hd⟩ => by
      have z := e0.bs a o ((bc y a e).trans ho)
      exact ⟨⟨o, z.1, hd⟩, z.2⟩
    refine ⟨C0.len, fun y a e => ?_, C0.inj, fun i y e => ?_⟩
    · obtain ⟨_, u, z⟩ := C0.all y a e
      exact ⟨(mv y a u e z).2, u, (mv y a u e z).1⟩
    · obtain ⟨a, ha, z⟩ := C0.has i y e
      exact ⟨a, ha, fun v ev => let ⟨u, ru, q⟩ := z v ev; ⟨u, ru, (mv y a _ ha q).1⟩⟩
  refine PySem.W.kla_callFunE hr.depth here rfl S.co S.gen rfl ⟨c, oc, cs, t0, rfl, hoc, hdc, hvc⟩ ?_
  rw [hbind us (by rw [← r.length]; exact hl)]
  have par : ∀ y ∈ ps.zip us, scope.names.lookup y.1 = some .local := fun y hy => S.par y.1 (List.of_mem_zip (a := y.1) (b := y.2) hy).1
  refine wpAny_pure (wpAny_newFunctionEnv S.nocell par (fun h₁ hns hsb => ⟨lim.fresh _ hsb, ?_⟩) S.kind)
  have kp : Grow s'.heap h₁ := fun b o e => hsb.extBut b o (Nat.ne_of_lt (Heap.lt_size e)) (Heap.get?_push_of_some _ e)
  have J := NdefX.inv_startN (CX := L2.CX X.prog X.w) (F := lamF (X.env.qual ++ "<lambda>") params scope (cloFrom X.env.cells scope.names []) c) (f := f) (E := E) (tk := s'.toks + (ps.zip us).length) S hr.hd e0 hl r C hns kp
  have st : tS G (WD E) fb (NdefX.startF N vs (cv.map some)) H' Q := ⟨w, H', _, rr, g, lam_slots (N := N) d dc (by rw [d.length, l]; exact hm), h⟩
  refine PySem.W.kla_codeExpr (wpAny_mono ((hbody A outer s' H' E (hr.deeper _)).run [] _ _ H' Q J st) (fun v s2 hq => ?_) fun e s2 hq => hq)
  obtain ⟨u, H2, J2, rv, q⟩ := hq
  exact ⟨u, H2, J2.os, J2.bare, J2.base, J2.hok, rv, q⟩
end
end Ep
/-! Defs that hear a function; a lambda handed to one. -/
namespace Ep
open PySem PySem.Spec L2
open PyProof.Rows (envOfC)
/-- what a def of n values and a function computes -/
def spH (G : Gm) (a c : Addr) (q : Str) (cv : List V) (ct : List T) (n : Nat) (F : List T → M T) : Sp := fun vs H Q E => ∃ w r us ts, vs = us ++ [.ref a] ∧ Good G w H r ∧ Dens G w us ts ∧ ts.length = n ∧ Dens G w cv ct ∧ c ∉ w.R ∧ H c = some (LamX.CodeO c q) ∧ OutP G w H E (fun t _ w' H' => ∀ v, Den G w' v t → Q v H') (F ts r)
/-- a def of the top that hears a function of na values behind its n values -/
structure HearOk (P : Program) (wd : World) (base : Heap) (G : Gm) (ka k : Nat) (x : Str) (n na : Nat) (F : (List T → M T) → List T → M T) : Prop where
  ex : ∃ f fd ps, G.mg x = some (.ref f) ∧ PySem.W.keepIn G.K (.ref f) = true ∧ Binds G.K fd ps [] ∧ ps.length = n + 1 ∧ ∀ base', Grow base base' → ∀ (a c : Addr) (q : Str) (cv : List V) (ct : List T) (act : List T → M T), ActOk P wd G.K G.mg base' (L2.CX P wd) ka a (spA G c q cv ct na act) → FnOk P wd G.K G.mg base' (L2.CX P wd) k f fd ps (spH G a c q cv ct n (F act))
/-- a def's body, the function behind its values -/
def fnH (m : Nat) (g : Sm) : List T → M T := fun ts r => match g (ts.map .val ++ (.fn :: List.replicate m .un)) r with
  | .nx _ r => .ok .non r
  | .rt t r => .ok t r
  | .exn c p _ r => .exn c p r
  | _ => .bad
theorem Slots.setFn {G : Gm} {w : Wd} {H0 H : Hp} {σ : L2.St} {env : Env} {a c : Addr} {q : Str} {cv : List V} {ct : List T} (s : Slots G w H0 H σ env) (i : Nat) (hi : i < env.length) (e : G.fn = some (a, c, q, cv, ct)) (d : Dens G w cv ct) (nR : c ∉ w.R) (hc : H c = some (LamX.CodeO c q)) :
    Slots G w H0 H (σ.set i (some (.ref a))) (env.set i .fn) := by
  obtain ⟨oa, h1, h2⟩ := (s.setUn (o := some (.ref a)) i).ex
  have other : ∀ {j : Nat} {u : Slot}, i ≠ j → (env.set i .fn)[j]? = some u → (env.set i .un)[j]? = some u := fun {j u} ne h => by
    rw [List.getElem?_set_ne ne] at h ⊢
    exact h
  have pr : ∀ {j : Nat} {u : Slot}, (env.set i .fn)[j]? = some u → u.priv = true → i ≠ j := fun {j u} h p e => by
    subst e
    rw [List.getElem?_set_self hi] at h
    cases h
    cases p
  refine ⟨by rw [List.length_set, List.length_set]; exact s.len, oa, fun j u h => ?_, fun j k u u' hj hk pj pk => h2 j k u u' (other (pr hj pj) hj) (other (pr hk pk) hk) pj pk⟩
  by_cases ij : i = j
  · subst ij
    rw [List.getElem?_set_self hi] at h
    cases h
    exact ⟨a, c, q, cv, ct, e, by rw [List.getElem?_set_self (by rw [s.len]; exact hi)], d, nR, hc⟩
  · exact h1 j u (other ij h)
section
variable {P : Program} {wd : World} {base : Heap} {G : Gm} {ka k : Nat} {x qual : Str} {st : Stmt} {f a c : Addr} {q : Str} {cv : List V} {ct : List T} {fd : FuncData} {N ps : List Str} {n m : Nat} {g : Sm} {dv : List V} {kw : List (Str × V)}
theorem start_fn {w : Wd} {H : Hp} {us : List V} {ts : List T} (hG : G.fn = some (a, c, q, cv, ct)) (d : Dens G w us ts) (hN : N.length - (us.length + 1) = m) (hl : us.length + 1 ≤ N.length) (dc : Dens G w cv ct) (nR : c ∉ w.R) (hc : H c = some (LamX.CodeO c q)) :
    Slots G w H H (L2.start N (us ++ [.ref a])) (ts.map .val ++ (.fn :: List.replicate m .un)) := by
  have s0 := start_slots (N := N) (H := H) d (m + 1) (by omega)
  have lt : ts.length = us.length := d.length.symm
  have s1 := s0.setFn (a := a) ts.length (by unfold envOf; rw [List.length_append, List.length_map, List.length_replicate]; omega) hG dc nR hc
  have e1 : (envOf (m + 1) ts).set ts.length .fn = ts.map .val ++ (.fn :: List.replicate m .un) := by
    unfold envOf
    rw [List.set_append_right (h := by rw [List.length_map]; exact Nat.le_refl _), List.length_map, Nat.sub_self]
    rfl
  have e2 : (L2.start N us).set ts.length (some (.ref a)) = L2.start N (us ++ [.ref a]) := by
    unfold L2.start
    rw [lt, List.set_append_right (h := by rw [List.length_map]; exact Nat.le_refl _), List.length_map, Nat.sub_self, List.map_append, List.length_append, List.length_singleton, List.append_assoc, show N.length - us.length = (N.length - (us.length + 1)) + 1 by omega]
    rfl
  rw [e1, e2] at s1
  exact s1
theorem fn_runH (F : FunD G.K x qual (defArgs st) (defBody st) (defScope st) dv kw f fd) (S : FnScope N ps (defScope st)) (hps : ps.length = n + 1) (hm : N.length - (n + 1) = m) (hle : n + 1 ≤ N.length)
    (hb : ∀ cdv A outer s H E, Room k (A.deeper (envOfC qual (defScope st) s.heap.objs.size f cdv)) → SSs (cxB P wd (G.wf (some (a, c, q, cv, ct))) base N qual st f cdv A outer s H E) (G.wf (some (a, c, q, cv, ct))) (WD E) (defBody st) g) :
    FnOk P wd G.K G.mg base (L2.CX P wd) (k + 1) f fd ps (spH G a c q cv ct n (fnH m g)) := by
  have len : ∀ vs H Q E, spH G a c q cv ct n (fnH m g) vs H Q E → vs.length = ps.length := fun vs H Q E ⟨w, r, us, ts, e, _, d, l, _⟩ => by rw [e, List.length_append, d.length, l, hps]; rfl
  refine F.ok (CX := L2.CX P wd) S len fun cdv A outer s H vs Q E hr ⟨w, r, us, ts, ev, gd, d, l, dc, nR, hc, h⟩ => ?_
  subst ev
  have lu : us.length = n := by rw [d.length, l]
  have sl := start_fn (G := G.wf (some (a, c, q, cv, ct))) (N := N) (H := H) (m := m) rfl (d.wf _) (by rw [lu]; exact hm) (by rw [lu]; exact hle) (dc.wf _) nR hc
  refine ⟨_, hb cdv A outer s H E hr w H, w, _, r, ⟨Step.refl _ _, gd.wf _, sl⟩, ?_⟩
  have h : OutP (G.wf (some (a, c, q, cv, ct))) w H E (fun t _ w' H' => ∀ v, Den (G.wf (some (a, c, q, cv, ct))) w' v t → Q v H') (fnH m g ts r) := OutP.wf _ h
  unfold fnH at h
  cases o : g (ts.map .val ++ (.fn :: List.replicate m .un)) r with
  | nx env' r' => rw [o] at h; exact fun w' H' σ' st g' _ => h w' H' st g' _ .non
  | rt t r' => rw [o] at h; exact fun w' H' v st g' dv => h w' H' st g' v dv
  | bk e r' => rw [o] at h; exact h.elim
  | ct e r' => rw [o] at h; exact h.elim
  | exn c p e r' => rw [o] at h; exact fun w' H' σ' cls dd st g' _ x => h w' H' cls dd st g' x
  | bad => rw [o] at h; exact h.elim
end
/-! ### the lambda's side -/
def capT (env : Env) : List Nat → Option (List T)
  | [] => some []
  | j :: js => match env[j]? with
    | some (.val t) => (capT env js).map (t :: ·)
    | _ => none
theorem cap_dens {G : Gm} {w : Wd} {H0 H : Hp} {σ : L2.St} {env : Env} (s : Slots G w H0 H σ env) : ∀ {js : List Nat} {ct : List T}, capT env js = some ct → ∃ cv : List V, js.map (NdefX.slotAt σ) = cv.map some ∧ Dens G w cv ct
  | [], _, e => by cases e; exact ⟨[], rfl, .nil⟩
  | j :: js, ct, e => by
    unfold capT at e
    cases q : env[j]? with
    | none => rw [q] at e; cases e
    | some sl =>
      rw [q] at e
      cases sl with
      | val t =>
        obtain ⟨l, el, rfl⟩ := Option.map_eq_some_iff.mp e
        obtain ⟨cv, h1, h2⟩ := cap_dens s el
        obtain ⟨oa, k1, _⟩ := s.ex
        obtain ⟨v, e1, d⟩ := k1 j _ q
        exact ⟨v :: cv, by rw [List.map_cons, List.map_cons, h1, NdefX.slotAt_of e1], .cons d h2⟩
      | un => cases e
      | pv _ => cases e
      | fn => cases e
theorem cap_len {env : Env} : ∀ {js : List Nat} {ct : List T}, capT env js = some ct → ct.length = js.length
  | [], _, e => by cases e; rfl
  | j :: js, ct, e => by
    unfold capT at e
    split at e
    · obtain ⟨l, el, rfl⟩ := Option.map_eq_some_iff.mp e
      rw [List.length_cons, List.length_cons, cap_len el]
    · cases e
/-- x(.., lambda ps: body): the lambda's slots are its parameters, what it captured, m more -/
def fHear (F : (List T → M T) → List T → M T) (fs : List (Env → M T)) (js : List Nat) (m : Nat) (fb : Env → M T) : Env → M T := fun env => fAll fs env >>= fun ts => match capT env js with
  | some ct => F (fun us => fb (us.map .val ++ (ct.map .val ++ List.replicate m .un))) ts
  | none => M.bad
section
variable {X : Cx} {G : Gm} {W : WX} {x : Str} {ka k j n na m : Nat} {F : (List T → M T) → List T → M T} {cd Pt : Addr} {params : Arguments} {body : Expr} {scope : Scope} {lpos : Pos} {N ps fr : List Str} {js : List Nat} {fb : Env → M T}
/-- what a lambda asks of its maker and of its own words -/
structure LamK (X : Cx) (G : Gm) (kl na m : Nat) (params : Arguments) (body : Expr) (scope : Scope) (js : List Nat) (fb : Env → M T) : Prop where
  fn : ∀ y, X.fn y = true
  tb : ∃ cd Pt, LamX.TabB X.base X.mg cd Pt ∧ X.env.code = .ref cd ∧ (Pt, X.env.qual ++ "<lambda>") ∈ G.tb ∧ ∀ p ∈ G.tb, p.1 = Pt → p.2 = X.env.qual ++ "<lambda>"
  dfl : defaultsOf params X.env = ([], [])
  bd : ∃ N ps fr, NdefX.NScope N ps fr scope ∧ NdefX.ndefB X.env.scope scope fr = true ∧ js.map (fun j => X.N[j]?) = fr.map some ∧ ps.length = na ∧ N.length - (na + js.length) = m ∧
    (∀ (q : Str) (cl : List (Str × Addr)) (pm cv ctv : Value) (us : List Value), us.length = ps.length → bindArgs (PySem.W.kla_fn "<lambda>" q params body scope cl pm cv ctv) ⟨us, []⟩ = pure (ps.zip us)) ∧
    ∀ (base' : Heap), Grow X.base base' → ∀ (q : Str) (cl : List (Str × Addr)) (c f : Addr) (A : Around) (outer : List PySem.Env) (s : Shared) (H : Hp) (E : XK), Room kl (A.deeper (NdefX.envF (lamF q params scope cl c) f s.heap.objs.size)) →
      SE (NdefX.ncx (L2.CX X.prog X.w) X.prog X.w G.K G.mg base' N (lamF q params scope cl c) f A outer s H E) G (WD E) body fb
theorem hear_core {pins : List (Addr × Obj)} {σ : L2.St} {H0 H : Hp} {s : Shared} {env : Env} {w : Wd} {r : RS} {vs : List V} {us : List Value} {ts : List T} {Q : VK} {f0 : Addr} {fd : FuncData} {ps0 : List Str} (hK : X.K = G.K) (hM : X.mg = G.mg) (tk : Takes X W) (hr : Room j X.A) (hk : k ≤ j)
    (hB : Binds G.K fd ps0 []) (hp0 : ps0.length = n + 1) (hD : ∀ base', Grow X.base base' → ∀ (a c : Addr) (q : Str) (cv : List V) (ct : List T) (act : List T → M T), ActOk X.prog X.w G.K G.mg base' (L2.CX X.prog X.w) (ka + 1) a (spA G c q cv ct na act) → FnOk X.prog X.w G.K G.mg base' (L2.CX X.prog X.w) k f0 fd ps0 (spH G a c q cv ct n (F act)))
    (L : LamK X G ka na m params body scope js fb) (I : Inv X pins σ H s) (g : Good G w H r) (sl : Slots G w H0 H σ env) (rv : Vals vs us) (d : Dens G w vs ts) (l : ts.length = n)
    (h : OutP G w H (WE0 W σ) (fun t _ w' H' => ∀ v, Den G w' v t → Q v H') ((match capT env js with | some ct => F (fun us => fb (us.map .val ++ (ct.map .val ++ List.replicate m .un))) ts | none => M.bad : M T) r)) :
    wpAny (model X.prog X.w) X.A (eval (.Lambda params body scope lpos) X.env) (fun u s2 => X.K.In s2.heap ∧ wpAny (model X.prog X.w) X.A (call (.ref f0) (us ++ [u])) (EP X pins σ Q) X.xe s2) X.xe s := by
  obtain ⟨cd, Pt, TB, hcode, hmT, hu⟩ := L.tb
  obtain ⟨N, ps, fr, S, hfree, hjs, hps, hm, hbind, hbody⟩ := L.bd
  cases ec : capT env js with
  | none => rw [ec] at h; exact h.elim
  | some ct =>
    rw [ec] at h
    have free : ∀ y ∈ scope.names, y.2 = .free → ∃ a, X.env.cells.lookup y.1 = some a := fun y hy e => (NdefX.ndef_free hfree y hy e).elim (fun z => I.ok.has _ (.inl z)) fun z => I.ok.has _ (.inr z)
    refine LamX.lam_make2 I TB hcode hmT hu g.tabs L.dfl free fun f c pm ctv H2 s2 I2 eN T2 hf f0' f1 hc => ?_
    refine ⟨I2.kIn, ?_⟩
    have st2 : Step w H w H2 := ext_step eN
    have g2 := ext_good g eN T2
    have sl2 := sl.step st2
    have h2 := h.mono st2
    obtain ⟨cv, hcv, dc⟩ := cap_dens sl2 ec
    have lc : cv.length = js.length := by rw [dc.length, cap_len ec]
    have nR : c ∉ w.R := fun z => by
      obtain ⟨vs', e⟩ := g2.refs.there z
      rw [hc] at e
      unfold LamX.CodeO at e
      cases e
    have hcl : ∀ y ∈ cloFrom X.env.cells scope.names [], ∃ z, X.env.cells.lookup z = some y.2 := fun y hy => by
      rcases cloFrom_mem (show (y.1, y.2) ∈ _ from hy) with hm' | ⟨h1, h2'⟩
      · cases hm'
      · obtain ⟨a, ha⟩ := free _ h1 rfl
        have ha : X.env.cells.lookup y.1 = some a := ha
        exact ⟨y.1, by rw [h2', ha]; rfl⟩
    obtain ⟨gr, e0⟩ := hold_env I2 L.fn hcl f0' f1
    have kf : keepS X.base f (cloFrom X.env.cells scope.names []) f = true := by unfold keepS; simp
    have kc : ∀ y a, (cloFrom X.env.cells scope.names []).lookup y = some a → keepS X.base f (cloFrom X.env.cells scope.names []) a = true := fun y a e => by
      unfold keepS
      rw [look_any e, Bool.or_true]
    have A := lam_act (m := m) (ct := ct) I2 hK hM hf S (NdefX.Caps.made I2.ok (NdefX.ndef_free hfree) (NdefX.ndef_fr hfree) hjs) hcv (base' := hold s2.heap (keepS X.base f (cloFrom X.env.cells scope.names []))) (by rw [hold_get, if_pos kf]) (fun y a e => by rw [hold_get, if_pos (kc y a e)]) hps (by rw [lc]; exact hm) (hbind _ _ _ _ _) (fun A outer s H E hr' => hbody _ gr _ _ c f A outer s H E hr')
    have Fn := hD _ gr f c _ cv ct _ A
    have e1 : Env0 X.prog X.w G.K G.mg (hold s2.heap (keepS X.base f (cloFrom X.env.cells scope.names []))) X.A X.stack s2 H2 := by rw [← hK, ← hM]; exact e0
    have kin : G.K.In s2.heap := by rw [← hK]; exact I2.kIn
    have hl : (us ++ [Value.ref f]).length = ps0.length := by
      rw [List.length_append, ← rv.length, d.length, l, hp0]; rfl
    have bt := hB s2 (us ++ [Value.ref f]) kin (by rw [List.append_nil]; exact hl)
    rw [List.append_nil] at bt
    refine wpAny_call (codeAny_mono (Fn.run X.A X.stack s2 H2 ⟨us ++ [Value.ref f], []⟩ (us ++ [Value.ref f]) (vs ++ [V.ref f]) Q (WE W σ) (hr.mono hk) e1 bt (rv.append (.cons rfl .nil)) ⟨w, r, vs, ts, rfl, g2, d.mono st2.later, l, dc, nR, hc, h2⟩) fun res s3 hq => ?_)
    match res, hq with
    | .error x, hq => exact passAt tk σ pins H2 s2 x s3 I2 hq
    | .ok (.ret u), hq => exact I2.after hq
    | .ok .next, hq => exact hq.elim
    | .ok .brk, hq => exact hq.elim
    | .ok .cont, hq => exact hq.elim
end
section
variable {X : Cx} {G : Gm} {W : WX} {x : Str} {ka k j n na m : Nat} {F : (List T → M T) → List T → M T} {params : Arguments} {body e1 e2 e3 : Expr} {f1 f2 f3 : Env → M T} {scope : Scope} {lpos p pos : Pos} {js : List Nat} {fb : Env → M T}
theorem all1 {β : Type} (f1 : Env → M T) (env : Env) (k : List T → M β) : (fAll [f1] env >>= k) = (f1 env >>= fun x => k [x]) := by
  funext r
  show M.bind (M.bind (f1 env) _) k r = M.bind (f1 env) _ r
  unfold M.bind
  cases f1 env r <;> rfl
theorem s_hear1 (D : HearOk X.prog X.w X.base G (ka + 1) k x 1 na F) (hK : X.K = G.K) (hM : X.mg = G.mg) (tk : Takes X W) (hr : Room j X.A) (hk : k ≤ j) (hg : Gl X x) (h1 : SE X G W e1 f1) (L : LamK X G ka na m params body scope js fb) (hdb : (x == ("__debug__" : Str)) = false := by decide)
    (st1 : starEach [e1, .Lambda params body scope lpos] X.env = (false, eval e1 X.env) :: starEach [.Lambda params body scope lpos] X.env := by rfl)
    (st2 : starEach [.Lambda params body scope lpos] X.env = (false, eval (.Lambda params body scope lpos) X.env) :: starEach [] X.env := by rfl)
    (hpl : (backTo pos (starEach [.Lambda params body scope lpos] X.env)).any (·.1) = false := by rfl) : SE X G W (.Call (.Name x p) [e1, .Lambda params body scope lpos] [] pos) (fHear F [f1] js m fb) := by
  obtain ⟨g0, fd, ps0, hm, hkp, hB, hp0, hD⟩ := D.ex
  refine ⟨fun pins s σ H Q I ⟨w, H0, env, r, gd, sl, h⟩ => ?_⟩
  refine wpAny_Call_Name_kw (ld_glob I hg (by rw [hM]; exact hm) ?_ hdb)
  refine PySem.W.callWith_K (h₀ := X.base) I.ok.mod.kin (by rw [hK]; exact hkp) ?_ st1 hpl
  rw [st1, st2]
  unfold fHear at h
  rw [all1] at h
  refine Calls.spliced_cons (thn (h1.run pins s σ H _ I (seqE gd sl h fun t1 r1 w1 H1 v1 g1 sl1 q1 d1 h => show (∃ w1 r1 t1, Good G w1 H1 r1 ∧ Slots G w1 H0 H1 σ env ∧ Den G w1 v1 t1 ∧ Later w w1 ∧ _) from ⟨w1, r1, t1, g1, sl1, d1, q1.later, h⟩)) fun u1 s1 ⟨v1, H1, I1, x1, w1, r1, t1, g1, sl1, d1, L1, h⟩ => ?_)
  exact Calls.spliced_cons (thn (hear_core (lpos := lpos) hK hM tk hr hk hB hp0 hD L I1 g1 sl1 (.cons x1 .nil) (.cons d1 .nil) rfl h) fun u s2 q => Calls.spliced_nil q)
end
end Ep
/-! For the generator: the facts at another heard function, frames of lambdas, defs that hear and make, tables of methods. -/
namespace Ep
open PySem PySem.Spec L2
open PyProof.Rows (envOfC)
section
variable {P : Program} {wd : World} {base : Heap} {G : Gm} {k : Nat} {x : Str} {n : Nat} {ds : List T} (o : Option (Addr × Addr × Str × List V × List T))
theorem OutP.wfI {C : Nat} {dx x : Addr} {cA : Addr} {H : Hp} {w : Wd} {E : XK} {Q : VK} {m : Out (List T)} (h : OutP G w H E (fun fs _ w' H' => ∀ us dx', H' x = some (.ins cA dx' ((G.fl C).zip us)) → us.length = (G.fl C).length → Dens G w' us fs → w'.P x = none → x ∉ w'.R → Q .non H') m) :
    OutP (G.wf o) w H E (fun fs _ w' H' => ∀ us dx', H' x = some (.ins cA dx' (((G.wf o).fl C).zip us)) → us.length = ((G.wf o).fl C).length → Dens (G.wf o) w' us fs → w'.P x = none → x ∉ w'.R → Q .non H') m := by
  cases m with
  | ok t r' => exact fun w' H' st g us dx' h1 h2 d h3 h4 => h w' H' st (Good.wf (G := G.wf o) G.fn g) us dx' h1 h2 (Dens.wf (G := G.wf o) G.fn d) h3 h4
  | exn c p r' => exact fun w' H' cls d st g x => h w' H' cls d st (Good.wf (G := G.wf o) G.fn g) (ExcIs.wf (G := G.wf o) G.fn x)
  | bad => exact h
theorem spI_wf {C : Nat} {F : List T → M (List T)} {vs : List V} {H : Hp} {Q : VK} {E : XK} (h : spI (G.wf o) C n F vs H Q E) : spI G C n F vs H Q E := by
  obtain ⟨w, r, ts, x, rest, cA, dx, H1, e1, e2, e3, e4, e5, e6, g, d, l, h⟩ := h
  exact ⟨w, r, ts, x, rest, cA, dx, H1, e1, e2, e3, e4, e5, e6, Good.wf (G := G.wf o) G.fn g, Dens.wf (G := G.wf o) G.fn d, l, OutP.wfI (G := G.wf o) (dx := dx) G.fn h⟩
theorem MakeOk.wf {C : Nat} {F : List T → M (List T)} (D : MakeOk P wd base G k C n ds F) : MakeOk P wd base (G.wf o) k C n ds F := by
  obtain ⟨cA, f, fd, ps, dvs, dus, h1, h2, h3, h4, h5, h6⟩ := D.ex
  exact ⟨cA, f, fd, ps, dvs, dus, h1, h2, h3.imp fun vs H Q E h => spI_wf o h, h4, h5, fun w => (h6 w).wf o⟩
theorem HearOk.wf {ka na : Nat} {F : (List T → M T) → List T → M T} (D : HearOk P wd base G ka k x n na F) : HearOk P wd base (G.wf o) ka k x n na F := by
  obtain ⟨f, fd, ps, h1, h2, h3, h4, h5⟩ := D.ex
  refine ⟨f, fd, ps, h1, h2, h3, h4, fun base' gr a c q cv ct act A => (h5 base' gr a c q cv ct act (A.imp fun _ _ _ _ h => ?_)).imp fun vs H Q E h => ?_⟩
  · obtain ⟨w, r, ts, g, d, l, dc, hc, h⟩ := h
    exact ⟨w, r, ts, g.wf o, d.wf o, l, dc.wf o, hc, h.wf o⟩
  · obtain ⟨w, r, us, ts, e, g, d, l, dc, nR, hc, h⟩ := h
    exact ⟨w, r, us, ts, e, Good.wf (G := G.wf o) G.fn g, Dens.wf (G := G.wf o) G.fn d, l, Dens.wf (G := G.wf o) G.fn dc, nR, hc, OutP.wf (G := G.wf o) G.fn h⟩
theorem TabOk.wf {tb : Kd → Cl → Option Bool} (h : TabOk G tb) : TabOk (G.wf o) tb := h
theorem GtOk.wf {xs : List T} (h : GtOk G x xs) : GtOk (G.wf o) x xs := by
  obtain ⟨p, ob, its, n, us, h1, h2, h3, h4, h5, h6, h7, h8⟩ := h.ex
  exact ⟨p, ob, its, n, us, h1, h2, h3, h4, h5, h6, h7, fun w => (h8 w).wf o⟩
theorem GgOk.wf {tb : Str → Option (Option T)} (h : GgOk wd G x tb) : GgOk wd (G.wf o) x tb := by
  obtain ⟨p, es, n, h1, h2, h3, h4, h5⟩ := h.ex
  exact ⟨p, es, n, h1, h2, h3, h4, fun z => ⟨fun t e => let ⟨u, v, a, b, c⟩ := (h5 z).1 t e; ⟨u, v, a, b, fun w => (c w).wf o⟩, (h5 z).2⟩⟩
theorem XcOk.wf {c : Nat} {fld : Str} (h : XcOk P G c fld) : XcOk P (G.wf o) c fld := ⟨h.fl, h.cl, h.ok⟩
theorem NeOk.wf {C : Nat} (h : NeOk G C) : NeOk (G.wf o) C := ⟨h.ok⟩
theorem PxOk.wf {C : Nat} (h : PxOk G C) : PxOk (G.wf o) C := ⟨h.ok⟩
theorem NthFld.wf {C j : Nat} {name : Str} (h : NthFld G C j name) : NthFld (G.wf o) C j name := ⟨h.at_, h.new, h.few, h.cl⟩
end
/-- the frame of a lambda -/
theorem bd_ncx {P : Program} {wd : World} {G : Gm} {base : Heap} {N : List Str} {F : NdefX.NF} {f : Addr} {A : Around} {outer : List PySem.Env} {s : Shared} {H : Hp} {E : XK} {k : Nat} (nd : N.Nodup) (hr : Room k (A.deeper (NdefX.envF F f s.heap.objs.size))) :
    Bd (NdefX.ncx (L2.CX P wd) P wd G.K G.mg base N F f A outer s H E) G (WD E) k := ⟨rfl, rfl, takes_of rfl rfl rfl rfl, hr, nd, rfl⟩
section
variable {P : Program} {wd : World} {base : Heap} {G : Gm} {ka k : Nat} {x qual : Str} {st : Stmt} {f a c : Addr} {q : Str} {cv : List V} {ct : List T} {fd : FuncData} {N ps : List Str} {n m : Nat} {g : Sm} {dv : List V} {kw : List (Str × V)}
/-- fn_runH, the def's code told -/
theorem fn_runHC (F : FunD G.K x qual (defArgs st) (defBody st) (defScope st) dv kw f fd) (S : FnScope N ps (defScope st)) (hps : ps.length = n + 1) (hm : N.length - (n + 1) = m) (hle : n + 1 ≤ N.length)
    (hb : ∀ cdv A outer s H E, cdv = cdOf G.K f → Room k (A.deeper (envOfC qual (defScope st) s.heap.objs.size f cdv)) → SSs (cxB P wd (G.wf (some (a, c, q, cv, ct))) base N qual st f cdv A outer s H E) (G.wf (some (a, c, q, cv, ct))) (WD E) (defBody st) g) :
    FnOk P wd G.K G.mg base (L2.CX P wd) (k + 1) f fd ps (spH G a c q cv ct n (fnH m g)) := by
  have len : ∀ vs H Q E, spH G a c q cv ct n (fnH m g) vs H Q E → vs.length = ps.length := fun vs H Q E ⟨w, r, us, ts, e, _, d, l, _⟩ => by rw [e, List.length_append, d.length, l, hps]; rfl
  have hcd : ∀ cdv, (∃ oc od dV kV doc pm an ct osl, G.K.lookup f = some ⟨oc, od, .func (PySem.W.fnOf x qual (defArgs st) (defBody st) (defScope st) dV kV doc pm an cdv ct), osl⟩) → cdv = cdOf G.K f := fun cdv ⟨oc, od, dV, kV, doc, pm, an, ct, osl, e⟩ => by
    unfold cdOf
    rw [e]
  obtain ⟨oc, od, dV, kV, doc, pm, an, cdv, ct', osl, efd, lk, hc, hD, hK⟩ := F.ex
  subst efd
  have ec := hcd cdv ⟨oc, od, dV, kV, doc, pm, an, ct', osl, lk⟩
  refine fn_of (CX := L2.CX P wd) lk hc S len fun A outer s H vs Q E hr ⟨w, r, us, ts, ev, gd, d, l, dc, nR, hc, h⟩ => ?_
  subst ev
  have lu : us.length = n := by rw [d.length, l]
  have sl := start_fn (G := G.wf (some (a, c, q, cv, ct))) (N := N) (H := H) (m := m) rfl (d.wf _) (by rw [lu]; exact hm) (by rw [lu]; exact hle) (dc.wf _) nR hc
  refine ⟨_, hb cdv A outer s H E ec hr w H, w, _, r, ⟨Step.refl _ _, gd.wf _, sl⟩, ?_⟩
  have h : OutP (G.wf (some (a, c, q, cv, ct))) w H E (fun t _ w' H' => ∀ v, Den (G.wf (some (a, c, q, cv, ct))) w' v t → Q v H') (fnH m g ts r) := OutP.wf _ h
  unfold fnH at h
  cases o : g (ts.map .val ++ (.fn :: List.replicate m .un)) r with
  | nx env' r' => rw [o] at h; exact fun w' H' σ' st g' _ => h w' H' st g' _ .non
  | rt t r' => rw [o] at h; exact fun w' H' v st g' dv => h w' H' st g' v dv
  | bk e r' => rw [o] at h; exact h.elim
  | ct e r' => rw [o] at h; exact h.elim
  | exn c p e r' => rw [o] at h; exact fun w' H' σ' cls dd st g' _ x => h w' H' cls dd st g' x
  | bad => rw [o] at h; exact h.elim
end
end Ep
namespace Ep
open PySem PySem.Spec L2 PyProof.Rows He
/-! ### the tables of methods -/
def tabAt (K : PySem.W.Frag) (f : Addr) : Option (Addr × Addr) := match K.lookup f with
  | some ⟨_, _, .func fd, _⟩ => (match fd.code with
    | .ref c => (match K.lookup c with
      | some ⟨_, _, .fields vs, _⟩ => (match (vs[11]? : Option Value) with
        | some (.ref P) => some (c, P)
        | _ => none)
      | _ => none)
    | _ => none)
  | _ => none
def tabM (K : PySem.W.Frag) (c m : Str) : Addr × Addr := (tabAt K (ma K (ga K c) m)).getD (0, 0)
def tabMC (K : PySem.W.Frag) (c m : Str) : Bool := PySem.W.codeHdIn K (tabM K c m).1 (tabM K c m).2 && (decide (K.lookup (tabM K c m).2 = none) && decide (cdOf K (ma K (ga K c) m) = .ref (tabM K c m).1))
theorem tabM_ok {K : PySem.W.Frag} {c m : Str} (h : tabMC K c m = true) : PySem.W.codeHdIn K (tabM K c m).1 (tabM K c m).2 = true ∧ K.lookup (tabM K c m).2 = none ∧ cdOf K (ma K (ga K c) m) = .ref (tabM K c m).1 := by
  obtain ⟨h1, h2⟩ := ba h
  obtain ⟨h3, h4⟩ := ba h2
  exact ⟨h1, of_decide_eq_true h3, of_decide_eq_true h4⟩
abbrev tab0 : Obj := { cls := .none, data := .fields #[] }
/-- hookS, with the tables of methods -/
noncomputable def hookT (q : EndQ) (n : Nat) (fa : List He.Fa) (fn : List He.DefD) (ms : PySem.W.Frag → List Addr) (m : Nat) : PySem.W.Hook where
  α := AlS × List (Option Obj)
  obs := fun s => (obsS q n fa fn s.heap.get?, (ms (fragF s.heap.get? n)).map s.heap.get?)
  val := fun w => ((hookS q n fa fn).val w, List.replicate m (some tab0))
  says := fun w h => ∃ K : PySem.W.Frag, K.In h ∧ q.says fa fn w K ∧ ∀ p ∈ ms K, h.get? p = some tab0
  of := fun w s e => by
    have e1 : obsS q n fa fn s.heap.get? = (He.valD fn, true, q.sv, q.dv w.params) := congrArg Prod.fst e
    have e2 : (ms (fragF s.heap.get? n)).map s.heap.get? = List.replicate m (some tab0) := congrArg Prod.snd e
    refine ⟨_, fragF_in n, ⟨congrArg (fun z : AlS => z.1) e1, congrArg (fun z : AlS => z.2.1) e1, congrArg (fun z : AlS => z.2.2.1) e1, congrArg (fun z : AlS => z.2.2.2) e1⟩, fun p hp => ?_⟩
    have : s.heap.get? p ∈ List.replicate m (some tab0) := by rw [← e2]; exact List.mem_map_of_mem hp
    exact List.eq_of_mem_replicate this
  keeps := fun _ _ _ ⟨K, hK, c, t⟩ k => ⟨K, PySem.W.Frag.In.keeps hK k, c, fun p hp => k _ _ (t p hp)⟩
noncomputable def obsT (q : EndQ) (n : Nat) (fa : List He.Fa) (fn : List He.DefD) (ms : PySem.W.Frag → List Addr) (g : Addr → Option Obj) : AlS × List (Option Obj) := (obsS q n fa fn g, (ms (fragF g n)).map g)
theorem obsT_eq {q : EndQ} {n : Nat} {fa : List He.Fa} {fn : List He.DefD} {ms : PySem.W.Frag → List Addr} {m : Nat} (s : PySem.W.SharedT) : obsT q n fa fn ms (HandSHeadRun.getT s) = (hookT q n fa fn ms m).obs s.abs := by
  rw [show HandSHeadRun.getT s = s.abs.heap.get? from funext (HandSHeadRun.getT_eq s)]
  rfl
/-- law_endE, each table of a def or of a method -/
theorem law_endM {l : PySem.W.OpenLaw} {q : Program} {loose : List Str} {XP : (Str → Option Value) → Heap → Prop} {YP : World → Heap → Prop} {d : DefRec} {x : Str} (k : Nat) (xs : List Str) (hn : l.most = some 63) (hdf : d.params.defaults = []) (hr : Room k callerA)
    (hx : ∀ y ∈ xs, ((recsOf q).find? fun e => e.name == y).isSome = true)
    (F : ∀ (w : World) (mg : Str → Option Value) (fa : Addr) (h : Heap), YP w h → h.Ns mainGlobals mg → mg d.name = some (.ref fa) → ∃ K : PySem.W.Frag, K.In h ∧ ∃ (G : Gm) (f : List T → M T) (fd : FuncData) (cs : List (Addr × Addr)), G.K = K ∧ G.mg = mg ∧ (∀ (s : Shared) (u : Value), BindsTo s fd ⟨[u], []⟩ [(x, u)]) ∧
      (∀ p ∈ cs, (∃ y ∈ xs, PySem.W.tabIn K y = some p) ∨ PySem.W.codeHdIn K p.1 p.2 = true ∧ h.get? p.2 = some tab0) ∧ (∀ p ∈ cs, K.lookup p.2 = none) ∧ (∀ t ∈ G.tb, ∃ c, (c, t.1) ∈ cs) ∧
      (∀ ns : List Int, ns.length ≤ 63 → (∀ z ∈ ns, Builtin.Int.intBits z ≤ 1048576) → ∃ r, f [.kls (ns.map T.int)] [] = .ok (.bl true) r) ∧ ∀ base : Heap, K.In base → base.Ns mainGlobals mg → (∀ p ∈ cs, LamX.TabB base mg p.1 p.2) → FnOk l.prog w G.K G.mg base (L2.CX l.prog w) k fa fd [x] (spF G 1 f)) :
    PySem.W.WalkO q loose XP YP l.row.toRowW d []
      (fun f vs => PySem.call f vs) :=
  by
  refine Att.attach_callB hn hdf fun w s₀ s₁ mg mb fa o pm cd doc a vs ns G Y ho hd hcd hmg hobj hints hlen hbits hg => ?_
  obtain ⟨K, KX, G', f, fd, cs, e1, e2, hb, t1, t2, t4, hv, hF⟩ := F w mg fa _ Y G.T.g hmg
  have hT : ∀ p ∈ cs, PySem.W.CodeHd s₁.heap p.1 p.2 ∧ s₁.heap.get? p.2 = some { cls := .none, data := .fields #[] } := fun p hp => by
    rcases t1 p hp with ⟨y, hy, ey⟩ | ⟨h1, h2⟩
    · cases e : (recsOf q).find? fun e => e.name == y with
      | none => have := hx y hy; rw [e] at this; cases this
      | some dr => exact PySem.W.tab_of G.T KX e ey
    · exact ⟨PySem.W.codeHd_of_K KX h1, h2⟩
  refine LamX.law_callTs (k := k) (x := x) (CX := L2.CX l.prog w) (sp := spF G' 1 f) KX G.T.g G.T.b G.T.builtins G.T.nolimit hg (fun p hp => (hT p hp).2) t2 (fun p hp => (hT p hp).1) G.T.bmain hobj hints (Nat.le_trans hlen (by decide)) hr (fun base KB NB hTB => ?_) hb (fun H hH hS => ?_) fun H e s' ⟨_, _, _, _, _, _, _, _, _, _, _, _, z⟩ => z
  · have := hF base KB NB hTB
    rw [e1, e2] at this
    exact this
  · obtain ⟨r, er⟩ := hv ns hlen hbits
    have dint : ∀ (ns : List Int) (w : Wd), Dens G' w (ns.map V.int) (ns.map T.int) := fun ns w => by
      induction ns with
      | nil => exact .nil
      | cons n ns ih => exact .cons (.int n) ih
    refine ⟨⟨noTb H, [], ⟨0, 0, 0⟩⟩, [], [.kls (ns.map T.int)], ⟨fun b o e => (noTb_of e).1, ⟨List.nodup_nil, rfl, fun a h => (by cases h), fun k xs h => (by cases h)⟩, fun p hp => ?_, fun b o e => (noTb_of e).2⟩, .cons (.kls (by rw [e1]; exact noTb_seq hS) (by rw [List.length_map, sizeLine_eq]; omega) (dint ns _)) .nil, rfl, ?_⟩
    · obtain ⟨c, hc⟩ := t4 p hp
      exact LamX.TabS.nil (hH _ hc)
    · rw [er]
      intro w' H' st g v d
      cases d
      rfl
end Ep
/-! Steps of functions heard, for the plain laws. -/
namespace Ep
open PySem PySem.Spec L2
theorem x_act {i : Nat} {act : List T → M T} {fs : List (Env → M T)} {env : Env} {r r1 r2 : RS} {ts : List T} {t : T} (hi : env[i]? = some .fn) (h : fAll fs env r = .ok ts r1) (ha : act ts r1 = .ok t r2) : fAct i act fs env r = .ok t r2 := by
  unfold fAct
  rw [hi]
  show M.bind (fAll fs env) act r = _
  unfold M.bind
  rw [h]
  exact ha
theorem x_hear {F : (List T → M T) → List T → M T} {fs : List (Env → M T)} {js : List Nat} {m : Nat} {fb : Env → M T} {env : Env} {r r1 r2 : RS} {ts ct : List T} {t : T} (h : fAll fs env r = .ok ts r1) (hc : capT env js = some ct) (hF : F (fun us => fb (us.map .val ++ (ct.map .val ++ List.replicate m .un))) ts r1 = .ok t r2) : fHear F fs js m fb env r = .ok t r2 := by
  unfold fHear
  show M.bind (fAll fs env) _ r = _
  unfold M.bind
  rw [h]
  show (match capT env js with | some ct => F (fun us => fb (us.map .val ++ (ct.map .val ++ List.replicate m .un))) ts | none => M.bad : M T) r1 = _
  rw [hc]
  exact hF
theorem n_fnH {m : Nat} {g : Sm} {ts : List T} {r r1 : RS} {t : T} (h : g (ts.map .val ++ (.fn :: List.replicate m .un)) r = .rt t r1) : fnH m g ts r = .ok t r1 := by
  unfold fnH
  rw [h]
end Ep
/-! the top's run cut between its statements: each lot of statements one run of the kernel, from a told state to a told state. -/
noncomputable section
namespace Ep.Hd
open PySem PySem.W PySem.Calls PyProof.Rows HandSHeadRun
abbrev vS (x : String) (n : Nat) : Value := .str (Str.ofString x) n
abbrev vI (x : Int) (n : Nat) : Value := .int x n
abbrev vR (a : Nat) : Value := .ref a
abbrev vT (x : String) : Value := .type x
abbrev vB (x : String) : Value := .builtin x
abbrev oO (c : Value) (d : Option Addr) (x : Data) (s : List (Option Value)) : Obj := ⟨c, d, x, s.toArray⟩
abbrev oF (l : List Value) : Obj := ⟨.none, none, .fields l.toArray, #[]⟩
abbrev oT (l : List Value) : Obj := ⟨.type "tuple", none, .seq l.toArray, #[]⟩
abbrev dE (P : Params) (x : String) (n : Nat) (v : Value) : DictEntry := ⟨PyData.keyHash P (Str.ofString x), .str (Str.ofString x) n, v⟩
abbrev nN (o : Obj) (l r : BT) : BT := .node o l r
abbrev nL : BT := .nil
def stA : Stmt → Arguments
  | .FunctionDef _ a .. => a
  | _ => ⟨[], [], none, [], [], none, []⟩
def stB : Stmt → List Stmt
  | .FunctionDef _ _ b .. => b
  | .ClassDef _ _ _ b .. => b
  | _ => []
def stS : Stmt → Scope
  | .FunctionDef _ _ _ _ _ _ s .. => s
  | .ClassDef _ _ _ _ _ _ s .. => s
  | _ => ⟨.function, [], false, false, []⟩
def atB (l : List Stmt) (i : Nat) : Stmt := l.getD i (.Pass ⟨0, 0, 0, 0⟩)
abbrev fnD (n q : String) (a : Arguments) (b : List Stmt) (sc : Scope) (g : Addr) (cl : List (Str × Addr)) (df kd doc pm : Value) (an : Option Addr) (cd ct : Value) (bi : Addr) : Data := .func ⟨Str.ofString n, Str.ofString q, a, .stmts b, sc, g, cl, df, kd, doc, pm, an, cd, ct, bi⟩
abbrev vN : Value := .none
/-- the record of a def, its function object, its code object -/
abbrev rD (n q : String) (a : Arguments) (x : Stmt) : Obj := oO vN none (fnD n q a (stB x) (stS x) 0 [] vN vN vN vN none vN vN 0) []
abbrev fD (n q : String) (x : Stmt) (cl : List (Str × Addr)) (df kd doc : Value) (m : String) (mk : Nat) (cd : Addr) (ct : Value) : Obj := oO (vT "function") none (fnD n q (stA x) (stB x) (stS x) 3 cl df kd doc (vS m mk) none (vR cd) ct 0) []
abbrev cD (n q : String) (k : Nat) (l a b c d : Int) (r1 : Addr) (o : Bool) (e : Int) (r2 : Addr) (v : List Value) (t : Nat) (l2 : Int) : Obj := oO (vT "code") none (.fields (List.toArray ([vS n k, vS q (k + 1), vS "/claim/cut.py" (k + 2), vI l 0, vI a 0, vI b 0, vI c 0, vI d 0, vR r1, .bool o, vI e 0, vR r2] ++ v ++ [vI t 0, vI l2 0, vS "/claim/cut.py" (t + 1)]))) []
section
variable (st : SharedT → Thread → Option (SharedT × Thread)) (n0 : Nat) (ann : Option Value)
/-- to the end of some statements -/
def segF (b : Nat) : Nat → SharedT → Thread → Option (Flow × SharedT × Code × Pos)
  | 0, _, _ => none
  | n + 1, s, t => match endAt b t with
    | some f => some (f, s, t.code, t.pos)
    | none => match stepOk n0 ann t with
      | false => none
      | true => match st s t with
        | some (s', t') => frS s' fun s' => segF b n s' t'
        | none => none
/-- so many steps of the top -/
def topF : Nat → SharedT → Thread → Option (SharedT × Thread)
  | 0, s, t => some (s, t)
  | n + 1, s, t => match through t with
    | true => none
    | false => match stepOk n0 ann t with
      | false => none
      | true => match st s t with
        | some (s', t') => frS s' fun s' => topF n s' t'
        | none => none
end
section
variable {tb : String → Option Builtin} {p : Program} {w : World} {n0 b : Nat} {ann : Option Value}
theorem segF_ok : ∀ {n : Nat} {s s' : SharedT} {t : Thread} {f : Flow} {c : Code} {q : Pos}, segF (stepT (denote tb) p w) n0 ann b n s t = some (f, s', c, q) → segRun tb p w n0 ann b n s.abs t = some (f, s'.abs, c, q) := by
  intro n
  induction n with
  | zero => intro s s' t f c q h; exact absurd h (by simp [segF])
  | succ n ih =>
    intro s s' t f c q h
    unfold segF at h
    unfold segRun
    cases e1 : endAt b t with
    | some g => simp only [e1] at h ⊢; cases h; rfl
    | none =>
      simp only [e1] at h ⊢
      cases e2 : stepOk n0 ann t with
      | false => simp only [e2] at h; exact nomatch h
      | true =>
        simp only [e2] at h ⊢
        cases e3 : stepT (denote tb) p w s t with
        | none => simp only [e3] at h; exact nomatch h
        | some r =>
          obtain ⟨s2, t2⟩ := r
          simp only [e3, frS_eq] at h
          rw [stepT_spec e3]
          exact ih h
theorem topF_ok : ∀ {n : Nat} {s s' : SharedT} {t t' : Thread}, topF (stepT (denote tb) p w) n0 ann n s t = some (s', t') → topGo tb p w n0 ann n s.abs t = some (s'.abs, t') := by
  intro n
  induction n with
  | zero => intro s s' t t' h; cases h; rfl
  | succ n ih =>
    intro s s' t t' h
    unfold topF at h
    unfold topGo
    cases e1 : through t with
    | true => simp only [e1] at h; exact nomatch h
    | false =>
      simp only [e1] at h ⊢
      cases e2 : stepOk n0 ann t with
      | false => simp only [e2] at h; exact nomatch h
      | true =>
        simp only [e2] at h ⊢
        cases e3 : stepT (denote tb) p w s t with
        | none => simp only [e3] at h; exact nomatch h
        | some r =>
          obtain ⟨s2, t2⟩ := r
          simp only [e3, frS_eq] at h
          rw [stepT_spec e3]
          exact ih h
end
/-! by the library's twins -/
def execsQ : List Stmt → PySem.Env → Sem Flow := PySem.W.Fast.tw12563942051412417395
theorem execsQ_eq : @PySem.execs = execsQ := PySem.W.Fast.te12563942051412417395
def startQ : List Stmt → PySem.Env → Sem Unit := PySem.W.Fast.tw1066825118222455980
theorem startQ_eq : @PySem.blockStart = startQ := PySem.W.Fast.te1066825118222455980
def someQ (l : List Stmt) (env : PySem.Env) (c : Code) (p : Pos) (B : List Frame) : Thread := ⟨(execsQ l env).wrap doneF deadEnd id id, c, p, B⟩
theorem someQ_eq (l : List Stmt) (env : PySem.Env) (c : Code) (p : Pos) (B : List Frame) : someQ l env c p B = piecesOf l env c p B := by
  show (⟨(execsQ l env).wrap doneF deadEnd id id, c, p, B⟩ : Thread) = ⟨(PySem.execs l env).wrap doneF deadEnd id id, c, p, B⟩
  rw [execsQ_eq]
def headQ (l : List Stmt) (env : PySem.Env) (c : Code) (p : Pos) (B : List Frame) : Thread := ⟨(startQ l env).wrap (fun _ => doneF .next) deadEnd id id, c, p, B⟩
theorem headQ_eq (l : List Stmt) (env : PySem.Env) (c : Code) (p : Pos) (B : List Frame) : headQ l env c p B = blockOf l env c p B := by
  show (⟨(startQ l env).wrap (fun _ => doneF .next) deadEnd id id, c, p, B⟩ : Thread) = ⟨(PySem.blockStart l env).wrap (fun _ => doneF .next) deadEnd id id, c, p, B⟩
  rw [startQ_eq]
abbrev stQ (p : Program) (w : World) : SharedT → Thread → Option (SharedT × Thread) := stepQ (denQ tabQ) p w
theorem stQ_eq (p : Program) (w : World) : stepT (denote treeTable) p w = stQ p w := by rw [stepQ_eq, denQ_eq, tabQ_eq]
section
variable {p : Program} {w : World} {n0 : Nat} {ann : Option Value} {env : PySem.Env} {q : Pos}
/-- a lot of statements, then the rest -/
theorem lot {n N : Nat} {s s' : SharedT} {r : Shared} {l rest : List Stmt} {c : Code} {pos p' : Pos} (h : segF (stQ p w) n0 ann 1 n s (someQ l env c pos [topFrame q]) = some (.next, s', c, p'))
    (k : topRun treeTable p w n0 ann N s'.abs (PySem.W.restOf rest env c p' [topFrame q]) = some r) : topRun treeTable p w n0 ann (n + N) s.abs (PySem.W.restOf (l ++ rest) env c pos [topFrame q]) = some r := by
  rw [someQ_eq, ← stQ_eq] at h
  exact piece_app (segF_ok h) k
/-- ahead of the statements -/
theorem ahead {n N M : Nat} {s s1 s2 : SharedT} {r : Shared} {b l : List Stmt} {c : Code} {pos p' : Pos} {t : Thread} (h : topF (stQ p w) n0 ann n s t = some (s1, ⟨denQ tabQ (.body b env), c, pos, [topFrame q]⟩))
    (h2 : segF (stQ p w) n0 ann 1 M s1 (headQ b env c pos [topFrame q]) = some (.next, s2, c, p')) (hb : b = l)
    (k : topRun treeTable p w n0 ann N s2.abs (PySem.W.restOf l env c p' [topFrame q]) = some r) : topRun treeTable p w n0 ann (n + (M + N)) s.abs t = some r := by
  rw [← stQ_eq] at h h2
  rw [headQ_eq] at h2
  rw [← denQ_eq, ← tabQ_eq] at h
  subst hb
  exact go_top (topF_ok h) (piece_block (segF_ok h2) k)
/-- behind them -/
theorem behind {N : Nat} {s r : SharedT} {c : Code} {pos : Pos} (h : goF (stQ p w) n0 ann N s ⟨doneF .next, c, pos, [topFrame q]⟩ = some r) : topRun treeTable p w n0 ann N s.abs (PySem.W.restOf [] env c pos [topFrame q]) = some r.abs := by
  rw [← stQ_eq] at h
  exact piece_nil (goF_ok h)
end
/-- the boot's heap is the tree's -/
theorem boot_abs {w : World} {os : OsState} {t : PySem.W.BT} {n : Nat} (e : putAll (boot_heap w.params).objs.toList .nil 0 = some (t, n)) : (bootT w os (t, n)).abs = ⟨boot_heap w.params, #[], boot_drawn, boot_toks, os⟩ := by
  show (⟨absHeap t n (boot_heap w.params).life, #[], boot_drawn, boot_toks, os⟩ : Shared) = _
  rw [putAll_heap e]
/-- the state behind the top as a Shared over the params -/
structure Fin_ where
  tr : Params → PySem.W.BT
  n : Nat
  life : Life
  gens : Array GenState
  drawn : Drawn
  toks : Nat
abbrev Fin_.at (f : Fin_) (w : World) (os : OsState) : SharedT := ⟨f.tr w.params, f.n, f.life, f.gens, f.drawn, f.toks, os⟩
/-- LeftO of a run told in lots -/
theorem left_lots {p q : Program} {loose : List Str} {Xt : Shared → Bool} {α : Type} {Yf : Shared → α} {Ya : World → α} {M N n0 : Nat} {ann : Option Value} (f : Fin_)
    (e : opening p = plainProg p.main.scope.names) (hN : Nat.ble 600 N = true) (fe : ∀ s, fenceModules? p s = some s) (le : Nat.ble M N = true)
    (size : ∀ w : World, ((boot_heap w.params).isNs mainGlobals && (Array.mk [] : Array GenState).size == 0, (boot_heap w.params).objs.size, (boot_heap w.params).nsMap mainGlobals "__annotations__") = (true, n0, ann))
    (run : ∀ (w : World) (os : OsState), topRun treeTable p w n0 ann M ⟨boot_heap w.params, Array.mk [], boot_drawn, boot_toks, os⟩ (topStub p) = some (f.at w os).abs)
    (l1 : ∀ (w : World) (os : OsState), looksF p (boot_heap w.params) (f.at w os).abs = true) (l2 : ∀ (w : World) (os : OsState), seenQ q loose (importedModules p.main.body) Xt (f.at w os).abs = openGood q loose)
    (l3 : ∀ (w : World) (os : OsState), Yf (f.at w os).abs = Ya w) : LeftO p q loose Xt Yf Ya N true :=
  LeftO.of_pieces (H₁ := fun P => absHeap (f.tr P) f.n f.life) (boot_open e hN fe) size run le fun w => by
    funext os
    have a := l1 w os
    have b := l2 w os
    rw [← seenQ_eq] at b
    exact Prod.ext a (Prod.ext b (l3 w os))
/-- the law over what its top leaves -/
theorem head_lots {r : OpenRow} {q : Program} {Hk : Hook} {N : Nat} {ls : List PySem.Str} {df : DefRec} {kws : List (PySem.Str × PySem.Expr)}
    (left : LeftO r.prog q ls (fun s => xlAt q [] s && recOk r.toRowW.records s) Hk.obs Hk.val N true)
    (a1 : defOf q r.name = some (df, kws)) (a2 : r.prog.theDef r.name = some (df.params, df.body, df.scope)) (a3 : kwWritten? df.params.kwonlyargs df.params.kw_defaults = some kws) (a4 : (!r.writes || r.records.isEmpty) = true)
    (a5 : r.wellSaid = true) (a6 : (chainsOk q && opensWell r.prog && (frees r.toRowW && r.within.isEmpty)) = true) (a7 : r.prog.bare) (a8 : r.toRowW.promised)
    (walk : WalkO q ls (XL q []) Hk.says r.toRowW df kws fun f vs => PySem.call f vs) : r.Holds := by
  have two : ∀ s : Shared, (xlAt q [] s && recOk r.toRowW.records s) = true → xlAt q [] s = true ∧ recOk r.toRowW.records s = true := fun s h => Bool.and_eq_true_iff.mp h
  refine holds_open left Hk.of Hk.keeps (fun s h => ?_) ?_ a1 a2 a3 (fun s h => ?_) a4 a5 a6 a7 a8 walk
  · exact xl_of s (two s h).1
  · exact XL.keeps
  · exact recFacts_of (two s h).2
/-! what is looked at, in parts -/
theorem obs_join {q : EndQ} {n : Nat} {fa : List He.Fa} {fn : List He.DefD} {s : SharedT} {w : World} {K : PySem.W.Frag} (hK : fragF (getT s) n = K) (hf : (fa.all fun f => f.ok K) = true) (hd : (fn.all fun d => d.ok K) = true)
    (he : (fn.map fun d => He.fnW K d.at_) = fn.map He.DefD.val) (hc : ((q.ck K).all id, q.su K, q.ds K) = (true, q.sv, q.dv w.params)) : obsS q n fa fn (getT s) = (hookS q n fa fn).val w := by
  subst hK
  refine Prod.ext (Prod.ext ?_ he) hc
  show ((fa.all fun f => f.ok (fragF (getT s) n)) && fn.all fun d => d.ok (fragF (getT s) n)) = true
  rw [hf, hd]; rfl
theorem all_cut {α : Type} (m : Nat) {l : List α} {p : α → Bool} (h1 : (l.take m).all p = true) (h2 : (l.drop m).all p = true) : l.all p = true := by
  rw [← List.take_append_drop m l, List.all_append, h1, h2]; rfl
/-! the tables of the text, by the library's twin -/
def sumsQ (A : TablesWhole.Alg Bool) (top : Scope) (cx : TablesWhole.Ctx) (sc : Scope) (l : List Stmt) : Bool := PySem.W.Fast.tw16421684217811934046 A top cx sc l
theorem sumsQ_eq (A : TablesWhole.Alg Bool) (top : Scope) (cx : TablesWhole.Ctx) (sc : Scope) (l : List Stmt) : TablesWhole.wSs A top cx sc l = sumsQ A top cx sc l := by
  have := @PySem.W.Fast.te16421684217811934046
  unfold sumsQ
  rw [← this]
def toldQ (A : TablesWhole.Alg (List Str)) (top : Scope) (cx : TablesWhole.Ctx) (sc : Scope) (l : List Stmt) : List Str := PySem.W.Fast.tw16421684217811934046 A top cx sc l
theorem toldQ_eq (A : TablesWhole.Alg (List Str)) (top : Scope) (cx : TablesWhole.Ctx) (sc : Scope) (l : List Stmt) : TablesWhole.wSs A top cx sc l = toldQ A top cx sc l := by
  have := @PySem.W.Fast.te16421684217811934046
  unfold toldQ
  rw [← this]
theorem sums_app (A : TablesWhole.Alg Bool) (hA : ∀ a b, A.both a b = (a && b)) (hu : A.unit = true) (top : Scope) (cx : TablesWhole.Ctx) (sc : Scope) : ∀ l m : List Stmt, TablesWhole.wSs A top cx sc (l ++ m) = (TablesWhole.wSs A top cx sc l && TablesWhole.wSs A top cx sc m)
  | [], m => by
    show TablesWhole.wSs A top cx sc m = _
    rw [TablesWhole.wSs, hu, Bool.true_and]
  | s :: l, m => by
    rw [List.cons_append, TablesWhole.wSs, TablesWhole.wSs, hA, hA, sums_app A hA hu top cx sc l m, Bool.and_assoc]
/-- the statements' tables, lot by lot -/
theorem sums_more {top : Scope} {cx : TablesWhole.Ctx} {sc : Scope} {l m : List Stmt} (h1 : sumsQ TablesWhole.holds top cx sc l = true) (h2 : sumsQ TablesWhole.holds top cx sc m = true) : sumsQ TablesWhole.holds top cx sc (l ++ m) = true := by
  rw [← sumsQ_eq] at h1 h2 ⊢
  rw [sums_app _ (fun _ _ => rfl) rfl, h1, h2]; rfl
theorem sums_is {top : Scope} {cx : TablesWhole.Ctx} {sc : Scope} {l m : List Stmt} (e : l = m) (h : sumsQ TablesWhole.holds top cx sc m = true) : sumsQ TablesWhole.holds top cx sc l = true := e ▸ h
theorem whole_of {p : Program} {told : List Str} (h1 : p.modules = []) (h2 : p.parses = []) (h3 : p.harvested = []) (ht : toldQ TablesWhole.gather p.main.scope ⟨p.main.scope, [], [], [], none⟩ p.main.scope p.main.body = told)
    (hn : TablesWhole.noTwice p.main.scope = true) (h : sumsQ TablesWhole.holds p.main.scope ⟨p.main.scope, [], told, [], none⟩ p.main.scope p.main.body = true) : p.tablesWhole = true := by
  rw [← toldQ_eq] at ht
  rw [← sumsQ_eq, ← ht] at h
  unfold PySem.Program.tablesWhole TablesWhole.wProgram
  rw [h1, h2, h3]
  have e : TablesWhole.wModule TablesWhole.holds p.main = true := by
    show (true && (TablesWhole.noTwice p.main.scope && (TablesWhole.wSs TablesWhole.holds p.main.scope ⟨p.main.scope, [], TablesWhole.wSs TablesWhole.gather p.main.scope ⟨p.main.scope, [], [], [], none⟩ p.main.scope p.main.body, [], none⟩ p.main.scope p.main.body && true))) = true
    rw [hn, h]; rfl
  show (TablesWhole.wModule TablesWhole.holds p.main && (true && (true && (true && true)))) = true
  rw [e]; rfl
end Ep.Hd
end
namespace K13
open PySem PySem.Spec L2 He Ep
noncomputable section
/-! ### the text by places -/
def top (i : Nat) : Stmt := PySem.Challenge.pw_endlessplane_k13_whole_moved_carpets.main.body.getD i (.Pass ⟨0, 0, 0, 0⟩)
def cn : Nat → Str
  | 0 => "BadPart"
  | 1 => "BadNumber"
  | 2 => "BadIndex"
  | 3 => "NotSo"
  | 4 => "TooMany"
  | 5 => "Lattice"
  | 6 => "Carpet"
  | _ => "BadPart"
def fl : Nat → List Str
  | 0 => ["part"]
  | 1 => ["number"]
  | 2 => ["index"]
  | 3 => ["word"]
  | 4 => ["limit"]
  | 5 => ["a", "b", "d"]
  | 6 => ["a", "b", "d", "rows", "basis", "shape"]
  | _ => []
abbrev PW : Program := PySem.Challenge.pw_endlessplane_k13_whole_moved_carpets
def tb (K : PySem.W.Frag) : List (Addr × Str) := [((tabW K "law").2, (("law" : Str) ++ ".<locals>.") ++ ("<lambda>" : Str)), ((tabM K "Carpet" "moved_by").2, (("Carpet.moved_by" : Str) ++ ".<locals>.") ++ ("<lambda>" : Str))]
abbrev GG (K : PySem.W.Frag) (mg : Str → Option Value) : Gm := ⟨K, mg, cn, fl, tb K, none⟩
theorem tb_mem_law (K : PySem.W.Frag) : ((tabW K "law").2, (("law" : Str) ++ ".<locals>.") ++ ("<lambda>" : Str)) ∈ tb K := by simp [tb]
theorem tb_mem_Carpet_moved_by (K : PySem.W.Frag) : ((tabM K "Carpet" "moved_by").2, (("Carpet.moved_by" : Str) ++ ".<locals>.") ++ ("<lambda>" : Str)) ∈ tb K := by simp [tb]
abbrev s__law_refused : Stmt := (top 45)
abbrev s_BadIndex_init : Stmt := inClass (top 9) 0
theorem supt_BadIndex : SupT "index" s_BadIndex_init := ⟨⟨_, _, rfl⟩, rfl, ⟨_, _, _, _, _, _, _, _, _, _, rfl, fun _ _ _ _ _ => ⟨_, rfl⟩⟩⟩
theorem fok_BadIndex : SupX.FOk PW "index" := ⟨by kernel_rfl, by decide, by decide, by decide, rfl, rfl, rfl, rfl, by decide, by intros; rfl⟩
abbrev s_BadPart_init : Stmt := inClass (top 7) 0
theorem supt_BadPart : SupT "part" s_BadPart_init := ⟨⟨_, _, rfl⟩, rfl, ⟨_, _, _, _, _, _, _, _, _, _, rfl, fun _ _ _ _ _ => ⟨_, rfl⟩⟩⟩
theorem fok_BadPart : SupX.FOk PW "part" := ⟨by kernel_rfl, by decide, by decide, by decide, rfl, rfl, rfl, rfl, by decide, by intros; rfl⟩
abbrev s_TooMany_init : Stmt := inClass (top 11) 0
theorem supt_TooMany : SupT "limit" s_TooMany_init := ⟨⟨_, _, rfl⟩, rfl, ⟨_, _, _, _, _, _, _, _, _, _, rfl, fun _ _ _ _ _ => ⟨_, rfl⟩⟩⟩
theorem fok_TooMany : SupX.FOk PW "limit" := ⟨by kernel_rfl, by decide, by decide, by decide, rfl, rfl, rfl, rfl, by decide, by intros; rfl⟩
def xf_index (c : Nat) : Bool := c == 2
def xf_limit (c : Nat) : Bool := c == 4
def xf_number (c : Nat) : Bool := c == 1
def xf_part (c : Nat) : Bool := c == 0
def xf_word (c : Nat) : Bool := c == 3
def xr_BadIndex : List (Nat × Bool) := [(0, false), (1, false), (2, true), (3, false), (4, false)]
def xr_BadNumber : List (Nat × Bool) := [(0, false), (1, true), (2, false), (3, false), (4, false)]
def xr_BadPart : List (Nat × Bool) := [(0, true), (1, false), (2, false), (3, false), (4, false)]
def xr_NotSo : List (Nat × Bool) := [(0, false), (1, false), (2, false), (3, true), (4, false)]
def xr_TooMany : List (Nat × Bool) := [(0, false), (1, false), (2, false), (3, false), (4, true)]
def m_a : Nat → Option Nat
  | 5 => some 0
  | 6 => some 0
  | _ => none
def m_b : Nat → Option Nat
  | 5 => some 1
  | 6 => some 1
  | _ => none
def m_basis : Nat → Option Nat
  | 6 => some 4
  | _ => none
def m_d : Nat → Option Nat
  | 5 => some 2
  | 6 => some 2
  | _ => none
def m_rows : Nat → Option Nat
  | 6 => some 3
  | _ => none
def m_shape : Nat → Option Nat
  | 6 => some 5
  | _ => none
def tabR : List (Kd × Cl × Bool) := [(.b "int", .ty "int", true), (.b "int", .ty "bool", false), (.b "bool", .ty "int", true), (.b "bool", .ty "bool", true), (.b "NoneType", .ty "int", false), (.b "str", .ty "int", false), (.b "tuple", .ty "int", false), (.b "tuple", .ty "tuple", true), (.b "NoneType", .ty "tuple", false), (.b "list", .ty "tuple", false), (.b "str", .ty "tuple", false), (.b "int", .ty "tuple", false), (.b "dict", .ty "tuple", false), (.b "list", .ty "list", true), (.b "tuple", .ty "list", false), (.b "NoneType", .ty "list", false), (.b "int", .ty "list", false), (.b "str", .ty "list", false), (.b "dict", .ty "list", false), (.b "str", .ty "str", true), (.b "NoneType", .ty "str", false), (.b "list", .ty "str", false), (.o 5, .cl 5, true), (.o 6, .cl 6, true), (.b "int", .cl 6, false), (.b "list", .cl 6, false)]
def tab : Kd → Cl → Option Bool := tabF tabR
abbrev s__law_place : Stmt := (top 38)
abbrev s__law_colour : Stmt := (top 40)
abbrev s__law_draw : Stmt := (top 34)
abbrev s__law_pick : Stmt := (top 35)
abbrev s__law_coarser : Stmt := (top 41)
abbrev s__law_int : Stmt := (top 36)
abbrev s__law_is_period : Stmt := (top 42)
abbrev s__law_least : Stmt := (top 43)
abbrev s_is_integer : Stmt := (top 2)
abbrev s_is_between : Stmt := (top 3)
abbrev s_check_basis : Stmt := (top 16)
abbrev s_is_list : Stmt := (top 4)
abbrev s_is_row : Stmt := (top 21)
abbrev s_check_rows : Stmt := (top 22)
abbrev s_check_size : Stmt := (top 23)
abbrev s_divisors_of : Stmt := (top 26)
abbrev s_is_shift : Stmt := (top 13)
abbrev s_check_cell : Stmt := (top 15)
abbrev s_Lattice_place : Stmt := (inClass (top 17) 5)
abbrev s_sign_at : Stmt := (top 24)
abbrev s_Lattice_places : Stmt := (inClass (top 17) 7)
abbrev s_is_period_of : Stmt := (top 25)
abbrev s_level_period : Stmt := (top 27)
abbrev s_Lattice_init : Stmt := (inClass (top 17) 0)
abbrev s_least_lattice : Stmt := (top 28)
abbrev s_normal_rows : Stmt := (top 29)
abbrev s_Carpet_init : Stmt := (inClass (top 31) 0)
abbrev s__law_made : Stmt := (top 46)
abbrev s__law_opened : Stmt := (top 33)
abbrev s__law_rows : Stmt := (top 39)
abbrev s__law_moved : Stmt := (top 47)
abbrev s__law_normal : Stmt := (top 44)
abbrev s_Carpet_eq : Stmt := (inClass (top 31) 1)
abbrev s_check_shift : Stmt := (top 14)
abbrev s_Lattice_contains : Stmt := (inClass (top 17) 2)
abbrev s_Carpet_is_period : Stmt := (inClass (top 31) 10)
abbrev s_Carpet_lattice : Stmt := (inClass (top 31) 4)
abbrev s_Carpet_sign : Stmt := (inClass (top 31) 2)
abbrev s_rows_by : Stmt := (top 30)
abbrev s_Carpet_moved_by : Stmt := (inClass (top 31) 9)
abbrev s_Carpet_normal : Stmt := (inClass (top 31) 6)
abbrev s__law_shift_right : Stmt := (top 48)
abbrev s__law_three : Stmt := (top 37)
abbrev s_law : Stmt := (top 49)
/-! ### what the head has told -/
structure Tx (base : Heap) (wd : World) (K : PySem.W.Frag) (mg : Str → Option Value) : Prop where
  m_all : mg "all" = none
  m_bool : mg "bool" = none
  m_enumerate : mg "enumerate" = none
  m_int : mg "int" = none
  m_isinstance : mg "isinstance" = none
  m_len : mg "len" = none
  m_list : mg "list" = none
  m_max : mg "max" = none
  m_min : mg "min" = none
  m_range : mg "range" = none
  m_repr : mg "repr" = none
  m_str : mg "str" = none
  m_tuple : mg "tuple" = none
  c_BadIndex : mg "BadIndex" = some (.ref (ga K "BadIndex"))
  c_BadNumber : mg "BadNumber" = some (.ref (ga K "BadNumber"))
  c_BadPart : mg "BadPart" = some (.ref (ga K "BadPart"))
  c_Carpet : mg "Carpet" = some (.ref (ga K "Carpet"))
  c_Lattice : mg "Lattice" = some (.ref (ga K "Lattice"))
  c_NotSo : mg "NotSo" = some (.ref (ga K "NotSo"))
  c_TooMany : mg "TooMany" = some (.ref (ga K "TooMany"))
  hc : ∀ C cA, mg (cn C) = some (.ref cA) → cA = ga K (cn C)
  tab : TabOk (GG K mg) tab
  i_MOST_CELLS : ∃ t, mg "MOST_CELLS" = some (.int 144 t)
  z_FIGURES : ∃ t, mg "FIGURES" = some (.str "0123456789" t)
  f_a : ∀ C j, m_a C = some j → FldOk (GG K mg) "a" C j
  f_b : ∀ C j, m_b C = some j → FldOk (GG K mg) "b" C j
  f_basis : ∀ C j, m_basis C = some j → FldOk (GG K mg) "basis" C j
  f_d : ∀ C j, m_d C = some j → FldOk (GG K mg) "d" C j
  f_rows : ∀ C j, m_rows C = some j → FldOk (GG K mg) "rows" C j
  f_shape : ∀ C j, m_shape C = some j → FldOk (GG K mg) "shape" C j
  n_Carpet_a : NthFld (GG K mg) 6 0 "a"
  n_Carpet_b : NthFld (GG K mg) 6 1 "b"
  n_Carpet_d : NthFld (GG K mg) 6 2 "d"
  n_Carpet_rows : NthFld (GG K mg) 6 3 "rows"
  n_Carpet_basis : NthFld (GG K mg) 6 4 "basis"
  n_Carpet_shape : NthFld (GG K mg) 6 5 "shape"
  n_Lattice_a : NthFld (GG K mg) 5 0 "a"
  n_Lattice_b : NthFld (GG K mg) 5 1 "b"
  n_Lattice_d : NthFld (GG K mg) 5 2 "d"
  k_Carpet : Cls K (ga K "Carpet")
  k_Lattice : Cls K (ga K "Lattice")
  mk_Carpet : Mk K (ga K "Carpet") (ma K (ga K "Carpet") "__init__")
  mk_Lattice : Mk K (ga K "Lattice") (ma K (ga K "Lattice") "__init__")
  ne_Carpet : NeOk (GG K mg) 6
  sf_Carpet : ∀ cA, mg (cn 6) = some (.ref cA) → PySem.W.selfFirst K cA = true
  x_BadIndex : XcOk PW (GG K mg) 2 "index"
  x_BadPart : XcOk PW (GG K mg) 0 "part"
  x_TooMany : XcOk PW (GG K mg) 4 "limit"
  xm_BadIndex : XmOk K (GG K mg) (.ref (ga K "BadIndex")) (xmF xr_BadIndex)
  xm_BadNumber : XmOk K (GG K mg) (.ref (ga K "BadNumber")) (xmF xr_BadNumber)
  xm_BadPart : XmOk K (GG K mg) (.ref (ga K "BadPart")) (xmF xr_BadPart)
  xm_NotSo : XmOk K (GG K mg) (.ref (ga K "NotSo")) (xmF xr_NotSo)
  xm_TooMany : XmOk K (GG K mg) (.ref (ga K "TooMany")) (xmF xr_TooMany)
  xg_index : ∀ c, xf_index c = true → XgOk (GG K mg) c "index"
  xg_limit : ∀ c, xf_limit c = true → XgOk (GG K mg) c "limit"
  xg_number : ∀ c, xf_number c = true → XgOk (GG K mg) c "number"
  xg_part : ∀ c, xf_part c = true → XgOk (GG K mg) c "part"
  xg_word : ∀ c, xf_word c = true → XgOk (GG K mg) c "word"
  tb_law : LamX.TabB base mg (tabW K "law").1 (tabW K "law").2
  cd_law : cdOf K (ga K "law") = .ref (tabW K "law").1
  tb_Carpet_moved_by : LamX.TabB base mg (tabM K "Carpet" "moved_by").1 (tabM K "Carpet" "moved_by").2
  cd_Carpet_moved_by : cdOf K (ma K (ga K "Carpet") "moved_by") = .ref (tabM K "Carpet" "moved_by").1
  tb_nd : ((tb K).map (·.1)).Nodup
  c__law_refused : mg "_law_refused" = some (.ref (ga K "_law_refused"))
  D__law_refused : ∃ fd, FunD K "_law_refused" "_law_refused" (defArgs s__law_refused) (defBody s__law_refused) (defScope s__law_refused) [] [] (fAd K ("_law_refused", none)) fd
  c__law_place : mg "_law_place" = some (.ref (ga K "_law_place"))
  D__law_place : ∃ fd, FunD K "_law_place" "_law_place" (defArgs s__law_place) (defBody s__law_place) (defScope s__law_place) ([].map (Dv.v K)) [] (fAd K ("_law_place", none)) fd
  c__law_colour : mg "_law_colour" = some (.ref (ga K "_law_colour"))
  D__law_colour : ∃ fd, FunD K "_law_colour" "_law_colour" (defArgs s__law_colour) (defBody s__law_colour) (defScope s__law_colour) ([].map (Dv.v K)) [] (fAd K ("_law_colour", none)) fd
  c__law_draw : mg "_law_draw" = some (.ref (ga K "_law_draw"))
  D__law_draw : ∃ fd, FunD K "_law_draw" "_law_draw" (defArgs s__law_draw) (defBody s__law_draw) (defScope s__law_draw) ([].map (Dv.v K)) [] (fAd K ("_law_draw", none)) fd
  c__law_pick : mg "_law_pick" = some (.ref (ga K "_law_pick"))
  D__law_pick : ∃ fd, FunD K "_law_pick" "_law_pick" (defArgs s__law_pick) (defBody s__law_pick) (defScope s__law_pick) ([].map (Dv.v K)) [] (fAd K ("_law_pick", none)) fd
  c__law_coarser : mg "_law_coarser" = some (.ref (ga K "_law_coarser"))
  D__law_coarser : ∃ fd, FunD K "_law_coarser" "_law_coarser" (defArgs s__law_coarser) (defBody s__law_coarser) (defScope s__law_coarser) ([].map (Dv.v K)) [] (fAd K ("_law_coarser", none)) fd
  c__law_int : mg "_law_int" = some (.ref (ga K "_law_int"))
  D__law_int : ∃ fd, FunD K "_law_int" "_law_int" (defArgs s__law_int) (defBody s__law_int) (defScope s__law_int) ([].map (Dv.v K)) [] (fAd K ("_law_int", none)) fd
  c__law_is_period : mg "_law_is_period" = some (.ref (ga K "_law_is_period"))
  D__law_is_period : ∃ fd, FunD K "_law_is_period" "_law_is_period" (defArgs s__law_is_period) (defBody s__law_is_period) (defScope s__law_is_period) ([].map (Dv.v K)) [] (fAd K ("_law_is_period", none)) fd
  c__law_least : mg "_law_least" = some (.ref (ga K "_law_least"))
  D__law_least : ∃ fd, FunD K "_law_least" "_law_least" (defArgs s__law_least) (defBody s__law_least) (defScope s__law_least) ([].map (Dv.v K)) [] (fAd K ("_law_least", none)) fd
  c_is_integer : mg "is_integer" = some (.ref (ga K "is_integer"))
  D_is_integer : ∃ fd, FunD K "is_integer" "is_integer" (defArgs s_is_integer) (defBody s_is_integer) (defScope s_is_integer) ([].map (Dv.v K)) [] (fAd K ("is_integer", none)) fd
  c_is_between : mg "is_between" = some (.ref (ga K "is_between"))
  D_is_between : ∃ fd, FunD K "is_between" "is_between" (defArgs s_is_between) (defBody s_is_between) (defScope s_is_between) ([].map (Dv.v K)) [] (fAd K ("is_between", none)) fd
  c_check_basis : mg "check_basis" = some (.ref (ga K "check_basis"))
  D_check_basis : ∃ fd, FunD K "check_basis" "check_basis" (defArgs s_check_basis) (defBody s_check_basis) (defScope s_check_basis) ([].map (Dv.v K)) [] (fAd K ("check_basis", none)) fd
  c_is_list : mg "is_list" = some (.ref (ga K "is_list"))
  D_is_list : ∃ fd, FunD K "is_list" "is_list" (defArgs s_is_list) (defBody s_is_list) (defScope s_is_list) ([].map (Dv.v K)) [] (fAd K ("is_list", none)) fd
  c_is_row : mg "is_row" = some (.ref (ga K "is_row"))
  D_is_row : ∃ fd, FunD K "is_row" "is_row" (defArgs s_is_row) (defBody s_is_row) (defScope s_is_row) ([].map (Dv.v K)) [] (fAd K ("is_row", none)) fd
  c_check_rows : mg "check_rows" = some (.ref (ga K "check_rows"))
  D_check_rows : ∃ fd, FunD K "check_rows" "check_rows" (defArgs s_check_rows) (defBody s_check_rows) (defScope s_check_rows) ([].map (Dv.v K)) [] (fAd K ("check_rows", none)) fd
  c_check_size : mg "check_size" = some (.ref (ga K "check_size"))
  D_check_size : ∃ fd, FunD K "check_size" "check_size" (defArgs s_check_size) (defBody s_check_size) (defScope s_check_size) ([].map (Dv.v K)) [] (fAd K ("check_size", none)) fd
  c_divisors_of : mg "divisors_of" = some (.ref (ga K "divisors_of"))
  D_divisors_of : ∃ fd, FunD K "divisors_of" "divisors_of" (defArgs s_divisors_of) (defBody s_divisors_of) (defScope s_divisors_of) ([].map (Dv.v K)) [] (fAd K ("divisors_of", none)) fd
  c_is_shift : mg "is_shift" = some (.ref (ga K "is_shift"))
  D_is_shift : ∃ fd, FunD K "is_shift" "is_shift" (defArgs s_is_shift) (defBody s_is_shift) (defScope s_is_shift) ([].map (Dv.v K)) [] (fAd K ("is_shift", none)) fd
  c_check_cell : mg "check_cell" = some (.ref (ga K "check_cell"))
  D_check_cell : ∃ fd, FunD K "check_cell" "check_cell" (defArgs s_check_cell) (defBody s_check_cell) (defScope s_check_cell) ([].map (Dv.v K)) [] (fAd K ("check_cell", none)) fd
  h_Lattice_place : Meth K (ga K "Lattice") "place" (ma K (ga K "Lattice") "place")
  D_Lattice_place : ∃ fd, FunD K "place" "Lattice.place" (defArgs s_Lattice_place) (defBody s_Lattice_place) (defScope s_Lattice_place) ([].map (Dv.v K)) [] (fAd K ("Lattice", some "place")) fd
  c_sign_at : mg "sign_at" = some (.ref (ga K "sign_at"))
  D_sign_at : ∃ fd, FunD K "sign_at" "sign_at" (defArgs s_sign_at) (defBody s_sign_at) (defScope s_sign_at) ([].map (Dv.v K)) [] (fAd K ("sign_at", none)) fd
  h_Lattice_places : Meth K (ga K "Lattice") "places" (ma K (ga K "Lattice") "places")
  D_Lattice_places : ∃ fd, FunD K "places" "Lattice.places" (defArgs s_Lattice_places) (defBody s_Lattice_places) (defScope s_Lattice_places) ([].map (Dv.v K)) [] (fAd K ("Lattice", some "places")) fd
  c_is_period_of : mg "is_period_of" = some (.ref (ga K "is_period_of"))
  D_is_period_of : ∃ fd, FunD K "is_period_of" "is_period_of" (defArgs s_is_period_of) (defBody s_is_period_of) (defScope s_is_period_of) ([].map (Dv.v K)) [] (fAd K ("is_period_of", none)) fd
  c_level_period : mg "level_period" = some (.ref (ga K "level_period"))
  D_level_period : ∃ fd, FunD K "level_period" "level_period" (defArgs s_level_period) (defBody s_level_period) (defScope s_level_period) ([].map (Dv.v K)) [] (fAd K ("level_period", none)) fd
  D_Lattice_init : ∃ fd, FunD K "__init__" "Lattice.__init__" (defArgs s_Lattice_init) (defBody s_Lattice_init) (defScope s_Lattice_init) ([].map (Dv.v K)) [] (fAd K ("Lattice", some "__init__")) fd
  c_least_lattice : mg "least_lattice" = some (.ref (ga K "least_lattice"))
  D_least_lattice : ∃ fd, FunD K "least_lattice" "least_lattice" (defArgs s_least_lattice) (defBody s_least_lattice) (defScope s_least_lattice) ([].map (Dv.v K)) [] (fAd K ("least_lattice", none)) fd
  c_normal_rows : mg "normal_rows" = some (.ref (ga K "normal_rows"))
  D_normal_rows : ∃ fd, FunD K "normal_rows" "normal_rows" (defArgs s_normal_rows) (defBody s_normal_rows) (defScope s_normal_rows) ([].map (Dv.v K)) [] (fAd K ("normal_rows", none)) fd
  D_Carpet_init : ∃ fd, FunD K "__init__" "Carpet.__init__" (defArgs s_Carpet_init) (defBody s_Carpet_init) (defScope s_Carpet_init) ([].map (Dv.v K)) [] (fAd K ("Carpet", some "__init__")) fd
  c__law_made : mg "_law_made" = some (.ref (ga K "_law_made"))
  D__law_made : ∃ fd, FunD K "_law_made" "_law_made" (defArgs s__law_made) (defBody s__law_made) (defScope s__law_made) ([].map (Dv.v K)) [] (fAd K ("_law_made", none)) fd
  c__law_opened : mg "_law_opened" = some (.ref (ga K "_law_opened"))
  D__law_opened : ∃ fd, FunD K "_law_opened" "_law_opened" (defArgs s__law_opened) (defBody s__law_opened) (defScope s__law_opened) ([].map (Dv.v K)) [] (fAd K ("_law_opened", none)) fd
  c__law_rows : mg "_law_rows" = some (.ref (ga K "_law_rows"))
  D__law_rows : ∃ fd, FunD K "_law_rows" "_law_rows" (defArgs s__law_rows) (defBody s__law_rows) (defScope s__law_rows) ([].map (Dv.v K)) [] (fAd K ("_law_rows", none)) fd
  c__law_moved : mg "_law_moved" = some (.ref (ga K "_law_moved"))
  D__law_moved : ∃ fd, FunD K "_law_moved" "_law_moved" (defArgs s__law_moved) (defBody s__law_moved) (defScope s__law_moved) ([].map (Dv.v K)) [] (fAd K ("_law_moved", none)) fd
  c__law_normal : mg "_law_normal" = some (.ref (ga K "_law_normal"))
  D__law_normal : ∃ fd, FunD K "_law_normal" "_law_normal" (defArgs s__law_normal) (defBody s__law_normal) (defScope s__law_normal) ([].map (Dv.v K)) [] (fAd K ("_law_normal", none)) fd
  h_Carpet_eq : Meth K (ga K "Carpet") "__eq__" (ma K (ga K "Carpet") "__eq__")
  D_Carpet_eq : ∃ fd, FunD K "__eq__" "Carpet.__eq__" (defArgs s_Carpet_eq) (defBody s_Carpet_eq) (defScope s_Carpet_eq) ([].map (Dv.v K)) [] (fAd K ("Carpet", some "__eq__")) fd
  c_check_shift : mg "check_shift" = some (.ref (ga K "check_shift"))
  D_check_shift : ∃ fd, FunD K "check_shift" "check_shift" (defArgs s_check_shift) (defBody s_check_shift) (defScope s_check_shift) ([].map (Dv.v K)) [] (fAd K ("check_shift", none)) fd
  h_Lattice_contains : Meth K (ga K "Lattice") "__contains__" (ma K (ga K "Lattice") "__contains__")
  D_Lattice_contains : ∃ fd, FunD K "__contains__" "Lattice.__contains__" (defArgs s_Lattice_contains) (defBody s_Lattice_contains) (defScope s_Lattice_contains) ([].map (Dv.v K)) [] (fAd K ("Lattice", some "__contains__")) fd
  h_Carpet_is_period : Meth K (ga K "Carpet") "is_period" (ma K (ga K "Carpet") "is_period")
  D_Carpet_is_period : ∃ fd, FunD K "is_period" "Carpet.is_period" (defArgs s_Carpet_is_period) (defBody s_Carpet_is_period) (defScope s_Carpet_is_period) ([].map (Dv.v K)) [] (fAd K ("Carpet", some "is_period")) fd
  h_Carpet_lattice : Meth K (ga K "Carpet") "lattice" (ma K (ga K "Carpet") "lattice")
  D_Carpet_lattice : ∃ fd, FunD K "lattice" "Carpet.lattice" (defArgs s_Carpet_lattice) (defBody s_Carpet_lattice) (defScope s_Carpet_lattice) ([].map (Dv.v K)) [] (fAd K ("Carpet", some "lattice")) fd
  h_Carpet_sign : Meth K (ga K "Carpet") "sign" (ma K (ga K "Carpet") "sign")
  D_Carpet_sign : ∃ fd, FunD K "sign" "Carpet.sign" (defArgs s_Carpet_sign) (defBody s_Carpet_sign) (defScope s_Carpet_sign) ([].map (Dv.v K)) [] (fAd K ("Carpet", some "sign")) fd
  c_rows_by : mg "rows_by" = some (.ref (ga K "rows_by"))
  D_rows_by : ∃ fd, FunD K "rows_by" "rows_by" (defArgs s_rows_by) (defBody s_rows_by) (defScope s_rows_by) ([].map (Dv.v K)) [] (fAd K ("rows_by", none)) fd
  h_Carpet_moved_by : Meth K (ga K "Carpet") "moved_by" (ma K (ga K "Carpet") "moved_by")
  D_Carpet_moved_by : ∃ fd, FunD K "moved_by" "Carpet.moved_by" (defArgs s_Carpet_moved_by) (defBody s_Carpet_moved_by) (defScope s_Carpet_moved_by) ([].map (Dv.v K)) [] (fAd K ("Carpet", some "moved_by")) fd
  h_Carpet_normal : Meth K (ga K "Carpet") "normal" (ma K (ga K "Carpet") "normal")
  D_Carpet_normal : ∃ fd, FunD K "normal" "Carpet.normal" (defArgs s_Carpet_normal) (defBody s_Carpet_normal) (defScope s_Carpet_normal) ([].map (Dv.v K)) [] (fAd K ("Carpet", some "normal")) fd
  c__law_shift_right : mg "_law_shift_right" = some (.ref (ga K "_law_shift_right"))
  D__law_shift_right : ∃ fd, FunD K "_law_shift_right" "_law_shift_right" (defArgs s__law_shift_right) (defBody s__law_shift_right) (defScope s__law_shift_right) ([].map (Dv.v K)) [] (fAd K ("_law_shift_right", none)) fd
  c__law_three : mg "_law_three" = some (.ref (ga K "_law_three"))
  D__law_three : ∃ fd, FunD K "_law_three" "_law_three" (defArgs s__law_three) (defBody s__law_three) (defScope s__law_three) ([].map (Dv.v K)) [] (fAd K ("_law_three", none)) fd
  c_law : mg "law" = some (.ref (ga K "law"))
  D_law : ∃ fd, FunD K "law" "law" (defArgs s_law) (defBody s_law) (defScope s_law) ([].map (Dv.v K)) [] (fAd K ("law", none)) fd
theorem Tx.grow {base base2 : Heap} {wd : World} {K : PySem.W.Frag} {mg : Str → Option Value} (T : Tx base wd K mg) (g : Grow base base2) : Tx base2 wd K mg := { T with tb_law := tabB_grow T.tb_law g, tb_Carpet_moved_by := tabB_grow T.tb_Carpet_moved_by g }
section
variable {wd : World} {base : Heap} {K : PySem.W.Frag} {mg : Str → Option Value}
theorem sc__law_refused : FnScope ["_law_call", "e"] ["_law_call"] (defScope s__law_refused) := ⟨rfl, rfl, rfl, by decide +kernel, rfl, by decide +kernel, by decide +kernel⟩
def hs__law_refused : List HdS := [(xmF xr_BadPart, 1, (hRet (fun c p => fLst (List.map (fun f : HM T => f c p) [(fun _ _ => (fC (.str "part"))), (hFld xf_part)])))), (xmF xr_BadNumber, 1, (hRet (fun c p => fLst (List.map (fun f : HM T => f c p) [(fun _ _ => (fC (.str "number"))), (fun c q => fB1 reprT ((hFld xf_number) c q))])))), (xmF xr_BadIndex, 1, (hRet (fun c p => fLst (List.map (fun f : HM T => f c p) [(fun _ _ => (fC (.str "index"))), (fun c q => fB1 reprT ((hFld xf_index) c q))])))), (xmF xr_NotSo, 1, (hRet (fun c p => fLst (List.map (fun f : HM T => f c p) [(fun _ _ => (fC (.str "so"))), (hFld xf_word)])))), (xmF xr_TooMany, 1, (hRet (fun c p => fLst (List.map (fun f : HM T => f c p) [(fun _ _ => (fC (.str "many"))), (hFld xf_limit)]))))]
def rest__law_refused : Sm := (qSeq (qRet (fLst [(fC (.str "none"))]))
    qNil)
theorem hg__law_refused (T : Tx base wd K mg) {g : Addr} {cdg : Value} {A : Around} {outer : List PySem.Env} {s : Shared} {H : Hp} : HG (cxOf C8.CX0 PW wd K mg base ["_law_call", "e"] "_law_refused" (defScope s__law_refused) g cdg A outer s H C8.E0).nox (GG K mg) W0 (hdsOf (defBody s__law_refused)) hs__law_refused :=
  (hg_cons ⟨rfl, by decide, .inl T.c_BadPart⟩ rfl rfl T.xm_BadPart (fun _ _ _ _ _ hz hf => (hs_ret (he_lst (fs := [(fun _ _ => (fC (.str "part"))), (hFld xf_part)]) (ha_cons (he_of s_str) (ha_cons (he_fld rfl hz hf xf_part T.xg_part rfl (Or.inl rfl)) ha_nil)))))
    (hg_cons ⟨rfl, by decide, .inl T.c_BadNumber⟩ rfl rfl T.xm_BadNumber (fun _ _ _ _ _ hz hf => (hs_ret (he_lst (fs := [(fun _ _ => (fC (.str "number"))), (fun c q => fB1 reprT ((hFld xf_number) c q))]) (ha_cons (he_of s_str) (ha_cons (he_repr (he_fld rfl hz hf xf_number T.xg_number rfl (Or.inl rfl)) T.m_repr) ha_nil)))))
    (hg_cons ⟨rfl, by decide, .inl T.c_BadIndex⟩ rfl rfl T.xm_BadIndex (fun _ _ _ _ _ hz hf => (hs_ret (he_lst (fs := [(fun _ _ => (fC (.str "index"))), (fun c q => fB1 reprT ((hFld xf_index) c q))]) (ha_cons (he_of s_str) (ha_cons (he_repr (he_fld rfl hz hf xf_index T.xg_index rfl (Or.inl rfl)) T.m_repr) ha_nil)))))
    (hg_cons ⟨rfl, by decide, .inl T.c_NotSo⟩ rfl rfl T.xm_NotSo (fun _ _ _ _ _ hz hf => (hs_ret (he_lst (fs := [(fun _ _ => (fC (.str "so"))), (hFld xf_word)]) (ha_cons (he_of s_str) (ha_cons (he_fld rfl hz hf xf_word T.xg_word rfl (Or.inl rfl)) ha_nil)))))
    (hg_cons ⟨rfl, by decide, .inl T.c_TooMany⟩ rfl rfl T.xm_TooMany (fun _ _ _ _ _ hz hf => (hs_ret (he_lst (fs := [(fun _ _ => (fC (.str "many"))), (hFld xf_limit)]) (ha_cons (he_of s_str) (ha_cons (he_fld rfl hz hf xf_limit T.xg_limit rfl (Or.inl rfl)) ha_nil)))))
    hg_nil)))))
theorem hr__law_refused (T : Tx base wd K mg) {g : Addr} {cdg : Value} {A : Around} {outer : List PySem.Env} {s : Shared} {H : Hp} : SSs (cxOf C8.CX0 PW wd K mg base ["_law_call", "e"] "_law_refused" (defScope s__law_refused) g cdg A outer s H C8.E0).nox (GG K mg) W0 (restOf (defBody s__law_refused)) rest__law_refused :=
  (ss_cons (ss_ret (s_lst (a_cons s_str a_nil)))
    ss_nil)
/-! _law_place -/
def g__law_place : Sm := (qSeq (qAsg (fVar 0) (hTupL 3 (hCons (hName 3) (hCons (hName 4) (hCons (hName 5) hNil)))))
    (qSeq (qRet (fTup [(fBin modT (fBin subT (fVar 1) (fBin mulT (fVar 4) (fBin divT (fVar 2) (fVar 5)))) (fVar 3)), (fBin modT (fVar 2) (fVar 5))]))
    qNil))
def F__law_place : List T → M T := fnS 3 g__law_place
theorem sc__law_place : FnScope ["_law_three_here", "_law_x", "_law_y", "_law_wide", "_law_slant", "_law_high"] ["_law_three_here", "_law_x", "_law_y"] (defScope s__law_place) := ⟨rfl, rfl, rfl, by decide +kernel, rfl, by decide +kernel, by decide +kernel⟩
theorem run__law_place (T : Tx base wd K mg) {f : Addr} {fd : FuncData} {dv : List V} {kw : List (Str × V)} (F : FunD K "_law_place" "_law_place" (defArgs s__law_place) (defBody s__law_place) (defScope s__law_place) dv kw f fd) : FnOk PW wd K mg base (L2.CX PW wd) 1 f fd ["_law_three_here", "_law_x", "_law_y"] (spF (GG K mg) 3 (fnS 3 g__law_place)) :=
  fn_run (G := GG K mg) (k := 0) F sc__law_place rfl rfl fun cdv A outer s H E hr => by
    have B := bd_of (P := PW) (wd := wd) (G := GG K mg) (base := base) (cdv := cdv) (outer := outer) (H := H) (E := E) sc__law_place hr
    exact (ss_cons (ss_asg (vr 0) (B.tl 3 (gs_cons (B.nm 3) (gs_cons (B.nm 4) (gs_cons (B.nm 5) gs_nil)))))
    (ss_cons (ss_ret (s_tup (a_cons (B.mod (B.sub (vr 1) (B.mul (vr 4) (B.div (vr 2) (vr 5)))) (vr 3)) (a_cons (B.mod (vr 2) (vr 5)) a_nil))))
    ss_nil))
theorem d__law_place (T : Tx base wd K mg) : DefOk PW wd base (GG K mg) 1 "_law_place" 3 [] F__law_place := by
  obtain ⟨fd, F⟩ := T.D__law_place
  exact ⟨_, fd, ["_law_three_here", "_law_x", "_law_y"], [], [], run__law_place T F, T.c__law_place, F.kp, (F.bindsN fun _ _ _ _ _ _ us hl => match us, hl with | [_, _, _], _ => rfl), .nil, fun _ => .nil⟩
/-! _law_colour -/
def g__law_colour : Sm := (qSeq (qSet 3 (fCall F__law_place [] [(fIx (fVar 0) (fC (.int 0))), (fVar 1), (fVar 2)]))
    (qSeq (qRet (fB1 intTS (fIx (fIx (fIx (fVar 0) (fC (.int 1))) (fIx (fVar 3) (fC (.int 1)))) (fIx (fVar 3) (fC (.int 0))))))
    qNil))
def F__law_colour : List T → M T := fnS 1 g__law_colour
theorem sc__law_colour : FnScope ["_law_told", "_law_x", "_law_y", "_law_place_here"] ["_law_told", "_law_x", "_law_y"] (defScope s__law_colour) := ⟨rfl, rfl, rfl, by decide +kernel, rfl, by decide +kernel, by decide +kernel⟩
theorem run__law_colour (T : Tx base wd K mg) {f : Addr} {fd : FuncData} {dv : List V} {kw : List (Str × V)} (F : FunD K "_law_colour" "_law_colour" (defArgs s__law_colour) (defBody s__law_colour) (defScope s__law_colour) dv kw f fd) : FnOk PW wd K mg base (L2.CX PW wd) 2 f fd ["_law_told", "_law_x", "_law_y"] (spF (GG K mg) 3 (fnS 1 g__law_colour)) :=
  fn_run (G := GG K mg) (k := 1) F sc__law_colour rfl rfl fun cdv A outer s H E hr => by
    have B := bd_of (P := PW) (wd := wd) (G := GG K mg) (base := base) (cdv := cdv) (outer := outer) (H := H) (E := E) sc__law_colour hr
    exact (ss_cons (B.set 3 (B.call (d__law_place T) (a_cons (B.ix (k_of (vr 0)) s_int) (a_cons (vr 1) (a_cons (vr 2) a_nil)))))
    (ss_cons (ss_ret (B.intTS T.m_int (k_of (B.ix (k_of (B.ix (k_of (B.ix (k_of (vr 0)) s_int)) (B.ix (k_of (vr 3)) s_int))) (B.ix (k_of (vr 3)) s_int)))))
    ss_nil))
theorem d__law_colour (T : Tx base wd K mg) : DefOk PW wd base (GG K mg) 2 "_law_colour" 3 [] F__law_colour := by
  obtain ⟨fd, F⟩ := T.D__law_colour
  exact ⟨_, fd, ["_law_told", "_law_x", "_law_y"], [], [], run__law_colour T F, T.c__law_colour, F.kp, (F.bindsN fun _ _ _ _ _ _ us hl => match us, hl with | [_, _, _], _ => rfl), .nil, fun _ => .nil⟩
/-! _law_draw -/
def g__law_draw : Sm := (qSeq (qIf (fCmpB gtT (fIx (fVar 0) (fC (.int 0))) (fC (.int 0))) (qSeq (qSet 2 (fBin modT (fB1 intTS (fIx (fVar 0) (fC (.int 0)))) (fVar 1)))
    (qSeq (qSetIx 0 (fBin divT (fIx (fVar 0) (fC (.int 0))) (fVar 1)) (fC (.int 0)))
    (qSeq (qRet (fVar 2))
    qNil))) qNil)
    (qSeq (qSetIx 0 (fBin modT (fB1 intTS (fBin addT (fBin mulT (fIx (fVar 0) (fC (.int 1))) (fC (.int 48271))) (fC (.int 11)))) (fC (.int 2147483647))) (fC (.int 1)))
    (qSeq (qRet (fBin modT (fBin divT (fBin modT (fB1 intTS (fBin mulT (fIx (fVar 0) (fC (.int 1))) (fIx (fVar 0) (fC (.int 1))))) (fC (.int 2147483629))) (fC (.int 32))) (fVar 1)))
    qNil)))
def F__law_draw : List T → M T := fnS 1 g__law_draw
theorem sc__law_draw : FnScope ["_law_pool", "_law_many", "_law_found"] ["_law_pool", "_law_many"] (defScope s__law_draw) := ⟨rfl, rfl, rfl, by decide +kernel, rfl, by decide +kernel, by decide +kernel⟩
theorem run__law_draw (T : Tx base wd K mg) {f : Addr} {fd : FuncData} {dv : List V} {kw : List (Str × V)} (F : FunD K "_law_draw" "_law_draw" (defArgs s__law_draw) (defBody s__law_draw) (defScope s__law_draw) dv kw f fd) : FnOk PW wd K mg base (L2.CX PW wd) 1 f fd ["_law_pool", "_law_many"] (spF (GG K mg) 2 (fnS 1 g__law_draw)) :=
  fn_run (G := GG K mg) (k := 0) F sc__law_draw rfl rfl fun cdv A outer s H E hr => by
    have B := bd_of (P := PW) (wd := wd) (G := GG K mg) (base := base) (cdv := cdv) (outer := outer) (H := H) (E := E) sc__law_draw hr
    exact (ss_cons (ss_if (B.gtB (k_of (B.ix (k_of (vr 0)) s_int)) (k_of s_int)) (ss_cons (B.set 2 (B.mod (B.intTS T.m_int (k_of (B.ix (k_of (vr 0)) s_int))) (vr 1)))
    (ss_cons (B.put 0 (B.div (B.ix (k_of (vr 0)) s_int) (vr 1)) s_int)
    (ss_cons (ss_ret (vr 2))
    ss_nil))) ss_nil)
    (ss_cons (B.put 0 (B.mod (B.intTS T.m_int (k_of (B.add (B.mul (B.ix (k_of (vr 0)) s_int) s_int) s_int))) s_int) s_int)
    (ss_cons (ss_ret (B.mod (B.div (B.mod (B.intTS T.m_int (k_of (B.mul (B.ix (k_of (vr 0)) s_int) (B.ix (k_of (vr 0)) s_int)))) s_int) s_int) (vr 1)))
    ss_nil)))
theorem d__law_draw (T : Tx base wd K mg) : DefOk PW wd base (GG K mg) 1 "_law_draw" 2 [] F__law_draw := by
  obtain ⟨fd, F⟩ := T.D__law_draw
  exact ⟨_, fd, ["_law_pool", "_law_many"], [], [], run__law_draw T F, T.c__law_draw, F.kp, (F.bindsN fun _ _ _ _ _ _ us hl => match us, hl with | [_, _], _ => rfl), .nil, fun _ => .nil⟩
/-! _law_pick -/
def g__law_pick : Sm := (qSeq (qRet (fIx (fVar 1) (fCall F__law_draw [] [(fVar 0), (fB1 lenT (fVar 1))])))
    qNil)
def F__law_pick : List T → M T := fnS 0 g__law_pick
theorem sc__law_pick : FnScope ["_law_pool", "_law_some"] ["_law_pool", "_law_some"] (defScope s__law_pick) := ⟨rfl, rfl, rfl, by decide +kernel, rfl, by decide +kernel, by decide +kernel⟩
theorem run__law_pick (T : Tx base wd K mg) {f : Addr} {fd : FuncData} {dv : List V} {kw : List (Str × V)} (F : FunD K "_law_pick" "_law_pick" (defArgs s__law_pick) (defBody s__law_pick) (defScope s__law_pick) dv kw f fd) : FnOk PW wd K mg base (L2.CX PW wd) 2 f fd ["_law_pool", "_law_some"] (spF (GG K mg) 2 (fnS 0 g__law_pick)) :=
  fn_run (G := GG K mg) (k := 1) F sc__law_pick rfl rfl fun cdv A outer s H E hr => by
    have B := bd_of (P := PW) (wd := wd) (G := GG K mg) (base := base) (cdv := cdv) (outer := outer) (H := H) (E := E) sc__law_pick hr
    exact (ss_cons (ss_ret (B.ix (k_of (vr 1)) (B.call (d__law_draw T) (a_cons (vr 0) (a_cons (B.len T.m_len (k_of (vr 1))) a_nil)))))
    ss_nil)
theorem d__law_pick (T : Tx base wd K mg) : DefOk PW wd base (GG K mg) 2 "_law_pick" 2 [] F__law_pick := by
  obtain ⟨fd, F⟩ := T.D__law_pick
  exact ⟨_, fd, ["_law_pool", "_law_some"], [], [], run__law_pick T F, T.c__law_pick, F.kp, (F.bindsN fun _ _ _ _ _ _ us hl => match us, hl with | [_, _], _ => rfl), .nil, fun _ => .nil⟩
/-! _law_coarser -/
def g__law_coarser : Sm := (qSeq (qAsg (fIx (fVar 1) (fC (.int 0))) (hTupL 3 (hCons (hName 2) (hCons (hName 3) (hCons (hName 4) hNil)))))
    (qSeq (qPar2 5 6 (fCall F__law_pick [] [(fVar 0), (fLst [(fC (.int 1)), (fC (.int 1)), (fC (.int 2)), (fC (.int 3))])]) (fCall F__law_pick [] [(fVar 0), (fLst [(fC (.int 1)), (fC (.int 2)), (fC (.int 2)), (fC (.int 3))])]))
    (qSeq (qIf (fCmpB gtT (fBin mulT (fBin mulT (fBin mulT (fVar 2) (fVar 5)) (fVar 4)) (fVar 6)) (fC (.int 48))) (qSeq (qAsg (fTup [(fC (.int 1)), (fC (.int 1))]) (hTupL 2 (hCons (hName 5) (hCons (hName 6) hNil))))
    qNil) qNil)
    (qSeq (qPar2vo 7 8 (fLst [(fBin mulT (fVar 2) (fVar 5)), (fBin modT (fBin addT (fBin mulT (fVar 3) (fVar 6)) (fBin mulT (fVar 2) (fCall F__law_draw [] [(fVar 0), (fVar 5)]))) (fBin mulT (fVar 2) (fVar 5))), (fBin mulT (fVar 4) (fVar 6))]) (fAll []))
    (qSeq (qFor (fRng1 (fIx (fVar 7) (fC (.int 2)))) (hName 9) (qSeq (qApp 8 (fStr1 joinT (fC (.str "")) (fOwn (fComp [10] (hName 10) fYes (fB1 strI (fCall F__law_colour [] [(fVar 1), (fVar 10), (fVar 9)])) (fRng1 (fIx (fVar 7) (fC (.int 0))))))))
    qNil))
    (qSeq (qFrz [8] (qRet (fLst [(fVar 7), (fVar 8)])))
    qNil))))))
def F__law_coarser : List T → M T := fnS 9 g__law_coarser
theorem sc__law_coarser : FnScope ["_law_pool", "_law_told", "_law_wide", "_law_slant", "_law_high", "_law_across", "_law_up", "_law_three_here", "_law_lines", "_law_y", "_law_x"] ["_law_pool", "_law_told"] (defScope s__law_coarser) := ⟨rfl, rfl, rfl, by decide +kernel, rfl, by decide +kernel, by decide +kernel⟩
theorem run__law_coarser (T : Tx base wd K mg) {f : Addr} {fd : FuncData} {dv : List V} {kw : List (Str × V)} (F : FunD K "_law_coarser" "_law_coarser" (defArgs s__law_coarser) (defBody s__law_coarser) (defScope s__law_coarser) dv kw f fd) : FnOk PW wd K mg base (L2.CX PW wd) 3 f fd ["_law_pool", "_law_told"] (spF (GG K mg) 2 (fnS 9 g__law_coarser)) :=
  fn_run (G := GG K mg) (k := 2) F sc__law_coarser rfl rfl fun cdv A outer s H E hr => by
    have B := bd_of (P := PW) (wd := wd) (G := GG K mg) (base := base) (cdv := cdv) (outer := outer) (H := H) (E := E) sc__law_coarser hr
    exact (ss_cons (ss_asg (B.ix (k_of (vr 1)) s_int) (B.tl 3 (gs_cons (B.nm 2) (gs_cons (B.nm 3) (gs_cons (B.nm 4) gs_nil)))))
    (ss_cons (B.par2 5 6 (a_cons (B.call (d__law_pick T) (a_cons (vr 0) (a_cons (s_lst (a_cons s_int (a_cons s_int (a_cons s_int (a_cons s_int a_nil))))) a_nil))) (a_cons (B.call (d__law_pick T) (a_cons (vr 0) (a_cons (s_lst (a_cons s_int (a_cons s_int (a_cons s_int (a_cons s_int a_nil))))) a_nil))) a_nil)))
    (ss_cons (ss_if (B.gtB (k_of (B.mul (B.mul (B.mul (vr 2) (vr 5)) (vr 4)) (vr 6))) (k_of s_int)) (ss_cons (ss_asg (s_tup (a_cons s_int (a_cons s_int a_nil))) (B.tl 2 (gs_cons (B.nm 5) (gs_cons (B.nm 6) gs_nil))))
    ss_nil) ss_nil)
    (ss_cons (B.par2vo 7 8 (s_lst (a_cons (B.mul (vr 2) (vr 5)) (a_cons (B.mod (B.add (B.mul (vr 3) (vr 6)) (B.mul (vr 2) (B.call (d__law_draw T) (a_cons (vr 0) (a_cons (vr 5) a_nil))))) (B.mul (vr 2) (vr 5))) (a_cons (B.mul (vr 4) (vr 6)) a_nil)))) (l_lst a_nil))
    (ss_cons (ss_for po_of B.calm (i_range1 rfl (by rw [B.eM]; exact T.m_range) (B.ix (k_of (vr 7)) s_int)) (B.nm 9) (ss_cons (ss_app B.eK 8 rfl (by first | exact Or.inl rfl | exact Or.inr (Or.inl rfl) | exact Or.inr (Or.inr rfl)) (s_join B.eK s_str (s_own (B.comp [("_law_x", 10)] (i_range1 rfl (by rw [B.eM]; exact T.m_range) (B.ix (k_of (vr 7)) s_int)) (fun _ _ _ _ _ => ((B.blk _ _ _ _ _).nm 10)) (fun _ _ _ _ _ => ts_nil) (fun _ _ _ _ _ => ((B.blk _ _ _ _ _).strI T.m_str (k_of ((B.blk _ _ _ _ _).call (d__law_colour T) (a_cons (vr 1) (a_cons (vr 10) (a_cons (vr 9) a_nil)))))))))))
    ss_nil))
    (ss_cons (ss_frzq [8] (ss_ret (s_lst (a_cons (vr 7) (a_cons (vr 8) a_nil)))))
    ss_nil))))))
theorem d__law_coarser (T : Tx base wd K mg) : DefOk PW wd base (GG K mg) 3 "_law_coarser" 2 [] F__law_coarser := by
  obtain ⟨fd, F⟩ := T.D__law_coarser
  exact ⟨_, fd, ["_law_pool", "_law_told"], [], [], run__law_coarser T F, T.c__law_coarser, F.kp, (F.bindsN fun _ _ _ _ _ _ us hl => match us, hl with | [_, _], _ => rfl), .nil, fun _ => .nil⟩
/-! _law_int -/
def g__law_int : Sm := (qSeq (qSet 1 (fCall F__law_pick [] [(fVar 0), (fLst [(fC (.int 3)), (fC (.int 7)), (fC (.int 20)), (fBin powT (fC (.int 10)) (fC (.int 3))), (fBin powT (fC (.int 10)) (fC (.int 30)))])]))
    (qSeq (qRet (fBin subT (fCall F__law_draw [] [(fVar 0), (fVar 1)]) (fBin mulT (fBin mulT (fCall F__law_draw [] [(fVar 0), (fC (.int 2))]) (fCall F__law_draw [] [(fVar 0), (fVar 1)])) (fC (.int 3)))))
    qNil))
def F__law_int : List T → M T := fnS 1 g__law_int
theorem sc__law_int : FnScope ["_law_pool", "_law_size"] ["_law_pool"] (defScope s__law_int) := ⟨rfl, rfl, rfl, by decide +kernel, rfl, by decide +kernel, by decide +kernel⟩
theorem run__law_int (T : Tx base wd K mg) {f : Addr} {fd : FuncData} {dv : List V} {kw : List (Str × V)} (F : FunD K "_law_int" "_law_int" (defArgs s__law_int) (defBody s__law_int) (defScope s__law_int) dv kw f fd) : FnOk PW wd K mg base (L2.CX PW wd) 3 f fd ["_law_pool"] (spF (GG K mg) 1 (fnS 1 g__law_int)) :=
  fn_run (G := GG K mg) (k := 2) F sc__law_int rfl rfl fun cdv A outer s H E hr => by
    have B := bd_of (P := PW) (wd := wd) (G := GG K mg) (base := base) (cdv := cdv) (outer := outer) (H := H) (E := E) sc__law_int hr
    exact (ss_cons (B.set 1 (B.call (d__law_pick T) (a_cons (vr 0) (a_cons (s_lst (a_cons s_int (a_cons s_int (a_cons s_int (a_cons (B.pow s_int s_int) (a_cons (B.pow s_int s_int) a_nil)))))) a_nil))))
    (ss_cons (ss_ret (B.sub (B.call (d__law_draw T) (a_cons (vr 0) (a_cons (vr 1) a_nil))) (B.mul (B.mul (B.call (d__law_draw T) (a_cons (vr 0) (a_cons s_int a_nil))) (B.call (d__law_draw T) (a_cons (vr 0) (a_cons (vr 1) a_nil)))) s_int)))
    ss_nil))
theorem d__law_int (T : Tx base wd K mg) : DefOk PW wd base (GG K mg) 3 "_law_int" 1 [] F__law_int := by
  obtain ⟨fd, F⟩ := T.D__law_int
  exact ⟨_, fd, ["_law_pool"], [], [], run__law_int T F, T.c__law_int, F.kp, (F.bindsN fun _ _ _ _ _ _ us hl => match us, hl with | [_], _ => rfl), .nil, fun _ => .nil⟩
/-! _law_is_period -/
def g__law_is_period : Sm := (qSeq (qAsg (fIx (fVar 0) (fC (.int 0))) (hTupL 3 (hCons (hName 3) (hCons (hName 4) (hCons (hName 5) hNil)))))
    (qSeq (qFor (fRng1 (fVar 5)) (hName 6) (qSeq (qFor (fRng1 (fVar 3)) (hName 7) (qSeq (qIf (fCmpB neT (fCall F__law_colour [] [(fVar 0), (fVar 7), (fVar 6)]) (fCall F__law_colour [] [(fVar 0), (fBin addT (fVar 7) (fVar 1)), (fBin addT (fVar 6) (fVar 2))])) (qSeq (qRet (fC (.bl false)))
    qNil) qNil)
    qNil))
    qNil))
    (qSeq (qRet (fC (.bl true)))
    qNil)))
def F__law_is_period : List T → M T := fnS 5 g__law_is_period
theorem sc__law_is_period : FnScope ["_law_told", "_law_x", "_law_y", "_law_a", "_law_b", "_law_d", "_law_j", "_law_i"] ["_law_told", "_law_x", "_law_y"] (defScope s__law_is_period) := ⟨rfl, rfl, rfl, by decide +kernel, rfl, by decide +kernel, by decide +kernel⟩
theorem run__law_is_period (T : Tx base wd K mg) {f : Addr} {fd : FuncData} {dv : List V} {kw : List (Str × V)} (F : FunD K "_law_is_period" "_law_is_period" (defArgs s__law_is_period) (defBody s__law_is_period) (defScope s__law_is_period) dv kw f fd) : FnOk PW wd K mg base (L2.CX PW wd) 3 f fd ["_law_told", "_law_x", "_law_y"] (spF (GG K mg) 3 (fnS 5 g__law_is_period)) :=
  fn_run (G := GG K mg) (k := 2) F sc__law_is_period rfl rfl fun cdv A outer s H E hr => by
    have B := bd_of (P := PW) (wd := wd) (G := GG K mg) (base := base) (cdv := cdv) (outer := outer) (H := H) (E := E) sc__law_is_period hr
    exact (ss_cons (ss_asg (B.ix (k_of (vr 0)) s_int) (B.tl 3 (gs_cons (B.nm 3) (gs_cons (B.nm 4) (gs_cons (B.nm 5) gs_nil)))))
    (ss_cons (ss_for po_of B.calm (i_range1 rfl (by rw [B.eM]; exact T.m_range) (vr 5)) (B.nm 6) (ss_cons (ss_for po_of B.calm (i_range1 rfl (by rw [B.eM]; exact T.m_range) (vr 3)) (B.nm 7) (ss_cons (ss_if (B.neB (k_of (B.call (d__law_colour T) (a_cons (vr 0) (a_cons (vr 7) (a_cons (vr 6) a_nil))))) (k_of (B.call (d__law_colour T) (a_cons (vr 0) (a_cons (B.add (vr 7) (vr 1)) (a_cons (B.add (vr 6) (vr 2)) a_nil)))))) (ss_cons (ss_ret s_bl)
    ss_nil) ss_nil)
    ss_nil))
    ss_nil))
    (ss_cons (ss_ret s_bl)
    ss_nil)))
theorem d__law_is_period (T : Tx base wd K mg) : DefOk PW wd base (GG K mg) 3 "_law_is_period" 3 [] F__law_is_period := by
  obtain ⟨fd, F⟩ := T.D__law_is_period
  exact ⟨_, fd, ["_law_told", "_law_x", "_law_y"], [], [], run__law_is_period T F, T.c__law_is_period, F.kp, (F.bindsN fun _ _ _ _ _ _ us hl => match us, hl with | [_, _, _], _ => rfl), .nil, fun _ => .nil⟩
/-! _law_least -/
def g__law_least : Sm := (qSeq (qAsg (fIx (fVar 0) (fC (.int 0))) (hTupL 3 (hCons (hName 1) (hCons (hName 2) (hCons (hName 3) hNil)))))
    (qSeq (qSet 4 (fIx (fOwn (fComp [7] (hName 7) (fTru (fCall F__law_is_period [] [(fVar 0), (fVar 7), (fC (.int 0))])) (fVar 7) (fRng2 (fC (.int 1)) (fBin addT (fVar 1) (fC (.int 1)))))) (fC (.int 0))))
    (qSeq (qFor (fRng2 (fC (.int 1)) (fBin addT (fVar 3) (fC (.int 1)))) (hName 5) (qSeq (qSet 6 (fOwn (fComp [7] (hName 7) (fTru (fCall F__law_is_period [] [(fVar 0), (fVar 7), (fVar 5)])) (fVar 7) (fRng1 (fVar 4)))))
    (qSeq (qIf (fCmpB neT (fVar 6) (fLst [])) (qSeq (qRet (fLst [(fVar 4), (fIx (fVar 6) (fC (.int 0))), (fVar 5)]))
    qNil) qNil)
    qNil)))
    (qSeq (qRet (fC .non))
    qNil))))
def F__law_least : List T → M T := fnS 7 g__law_least
theorem sc__law_least : FnScope ["_law_told", "_law_a", "_law_b", "_law_d", "_law_across", "_law_y", "_law_some", "_law_x"] ["_law_told"] (defScope s__law_least) := ⟨rfl, rfl, rfl, by decide +kernel, rfl, by decide +kernel, by decide +kernel⟩
theorem run__law_least (T : Tx base wd K mg) {f : Addr} {fd : FuncData} {dv : List V} {kw : List (Str × V)} (F : FunD K "_law_least" "_law_least" (defArgs s__law_least) (defBody s__law_least) (defScope s__law_least) dv kw f fd) : FnOk PW wd K mg base (L2.CX PW wd) 4 f fd ["_law_told"] (spF (GG K mg) 1 (fnS 7 g__law_least)) :=
  fn_run (G := GG K mg) (k := 3) F sc__law_least rfl rfl fun cdv A outer s H E hr => by
    have B := bd_of (P := PW) (wd := wd) (G := GG K mg) (base := base) (cdv := cdv) (outer := outer) (H := H) (E := E) sc__law_least hr
    exact (ss_cons (ss_asg (B.ix (k_of (vr 0)) s_int) (B.tl 3 (gs_cons (B.nm 1) (gs_cons (B.nm 2) (gs_cons (B.nm 3) gs_nil)))))
    (ss_cons (B.set 4 (B.ix (k_of (s_own (B.comp [("_law_x", 7)] (i_range2 rfl (by rw [B.eM]; exact T.m_range) s_int (B.add (vr 1) s_int)) (fun _ _ _ _ _ => ((B.blk _ _ _ _ _).nm 7)) (fun _ _ _ _ _ => (ts_one ((B.blk _ _ _ _ _).tru ((B.blk _ _ _ _ _).call (d__law_is_period T) (a_cons (vr 0) (a_cons (vr 7) (a_cons s_int a_nil))))))) (fun _ _ _ _ _ => (vr 7))))) s_int))
    (ss_cons (ss_for po_of B.calm (i_range2 rfl (by rw [B.eM]; exact T.m_range) s_int (B.add (vr 3) s_int)) (B.nm 5) (ss_cons (B.setC 6 [("_law_x", 7)] (i_range1 rfl (by rw [B.eM]; exact T.m_range) (vr 4)) (fun _ _ _ _ _ => ((B.blk _ _ _ _ _).nm 7)) (fun _ _ _ _ _ => (ts_one ((B.blk _ _ _ _ _).tru ((B.blk _ _ _ _ _).call (d__law_is_period T) (a_cons (vr 0) (a_cons (vr 7) (a_cons (vr 5) a_nil))))))) (fun _ _ _ _ _ => (vr 7)))
    (ss_cons (ss_if (B.neB (k_of (vr 6)) (k_of (s_lst a_nil))) (ss_cons (ss_ret (s_lst (a_cons (vr 4) (a_cons (B.ix (k_of (vr 6)) s_int) (a_cons (vr 5) a_nil)))))
    ss_nil) ss_nil)
    ss_nil)))
    (ss_cons (ss_ret s_non)
    ss_nil))))
theorem d__law_least (T : Tx base wd K mg) : DefOk PW wd base (GG K mg) 4 "_law_least" 1 [] F__law_least := by
  obtain ⟨fd, F⟩ := T.D__law_least
  exact ⟨_, fd, ["_law_told"], [], [], run__law_least T F, T.c__law_least, F.kp, (F.bindsN fun _ _ _ _ _ _ us hl => match us, hl with | [_], _ => rfl), .nil, fun _ => .nil⟩
/-! is_integer -/
def g_is_integer : Sm := (qSeq (qRet (fAnd (fBin (isiT tab) (fVar 0) (fC (.ty "int"))) (fNot (fBin (isiT tab) (fVar 0) (fC (.ty "bool"))))))
    qNil)
def F_is_integer : List T → M T := fnS 0 g_is_integer
theorem sc_is_integer : FnScope ["value"] ["value"] (defScope s_is_integer) := ⟨rfl, rfl, rfl, by decide +kernel, rfl, by decide +kernel, by decide +kernel⟩
theorem run_is_integer (T : Tx base wd K mg) {f : Addr} {fd : FuncData} {dv : List V} {kw : List (Str × V)} (F : FunD K "is_integer" "is_integer" (defArgs s_is_integer) (defBody s_is_integer) (defScope s_is_integer) dv kw f fd) : FnOk PW wd K mg base (L2.CX PW wd) 1 f fd ["value"] (spF (GG K mg) 1 (fnS 0 g_is_integer)) :=
  fn_run (G := GG K mg) (k := 0) F sc_is_integer rfl rfl fun cdv A outer s H E hr => by
    have B := bd_of (P := PW) (wd := wd) (G := GG K mg) (base := base) (cdv := cdv) (outer := outer) (H := H) (E := E) sc_is_integer hr
    exact (ss_cons (ss_ret (s_and (B.isi T.tab T.m_isinstance (vr 0) (B.ty "int" T.m_int)) (s_one (s_not (B.isi T.tab T.m_isinstance (vr 0) (B.ty "bool" T.m_bool))))))
    ss_nil)
theorem d_is_integer (T : Tx base wd K mg) : DefOk PW wd base (GG K mg) 1 "is_integer" 1 [] F_is_integer := by
  obtain ⟨fd, F⟩ := T.D_is_integer
  exact ⟨_, fd, ["value"], [], [], run_is_integer T F, T.c_is_integer, F.kp, (F.bindsN fun _ _ _ _ _ _ us hl => match us, hl with | [_], _ => rfl), .nil, fun _ => .nil⟩
/-! is_between -/
def g_is_between : Sm := (qSeq (qRet (fAnd (fCall F_is_integer [] [(fVar 0)]) (fChain leT leT (fVar 1) (fVar 0) (fVar 2))))
    qNil)
def F_is_between : List T → M T := fnS 0 g_is_between
theorem sc_is_between : FnScope ["value", "least", "most"] ["value", "least", "most"] (defScope s_is_between) := ⟨rfl, rfl, rfl, by decide +kernel, rfl, by decide +kernel, by decide +kernel⟩
theorem run_is_between (T : Tx base wd K mg) {f : Addr} {fd : FuncData} {dv : List V} {kw : List (Str × V)} (F : FunD K "is_between" "is_between" (defArgs s_is_between) (defBody s_is_between) (defScope s_is_between) dv kw f fd) : FnOk PW wd K mg base (L2.CX PW wd) 2 f fd ["value", "least", "most"] (spF (GG K mg) 3 (fnS 0 g_is_between)) :=
  fn_run (G := GG K mg) (k := 1) F sc_is_between rfl rfl fun cdv A outer s H E hr => by
    have B := bd_of (P := PW) (wd := wd) (G := GG K mg) (base := base) (cdv := cdv) (outer := outer) (H := H) (E := E) sc_is_between hr
    exact (ss_cons (ss_ret (s_and (B.call (d_is_integer T) (a_cons (vr 0) a_nil)) (s_one (s_chain op_le op_le v_le v_le (vr 1) (vr 0) (vr 2) rfl))))
    ss_nil)
theorem d_is_between (T : Tx base wd K mg) : DefOk PW wd base (GG K mg) 2 "is_between" 3 [] F_is_between := by
  obtain ⟨fd, F⟩ := T.D_is_between
  exact ⟨_, fd, ["value", "least", "most"], [], [], run_is_between T F, T.c_is_between, F.kp, (F.bindsN fun _ _ _ _ _ _ us hl => match us, hl with | [_, _, _], _ => rfl), .nil, fun _ => .nil⟩
/-! check_basis -/
def g_check_basis : Sm := (qSeq (qIf (fOrB (fNotB (fTru (fCall F_is_integer [] [(fVar 0)]))) (fCmpB ltT (fVar 0) (fC (.int 1)))) (qSeq (qRaise 0 (fC (.str "a")))
    qNil) qNil)
    (qSeq (qIf (fNotB (fTru (fCall F_is_between [] [(fVar 1), (fC (.int 0)), (fBin subT (fVar 0) (fC (.int 1)))]))) (qSeq (qRaise 0 (fC (.str "b")))
    qNil) qNil)
    (qSeq (qIf (fOrB (fNotB (fTru (fCall F_is_integer [] [(fVar 2)]))) (fCmpB ltT (fVar 2) (fC (.int 1)))) (qSeq (qRaise 0 (fC (.str "d")))
    qNil) qNil)
    qNil)))
def F_check_basis : List T → M T := fnS 0 g_check_basis
theorem sc_check_basis : FnScope ["a", "b", "d"] ["a", "b", "d"] (defScope s_check_basis) := ⟨rfl, rfl, rfl, by decide +kernel, rfl, by decide +kernel, by decide +kernel⟩
theorem run_check_basis (T : Tx base wd K mg) {f : Addr} {fd : FuncData} {dv : List V} {kw : List (Str × V)} (F : FunD K "check_basis" "check_basis" (defArgs s_check_basis) (defBody s_check_basis) (defScope s_check_basis) dv kw f fd) : FnOk PW wd K mg base (L2.CX PW wd) 3 f fd ["a", "b", "d"] (spF (GG K mg) 3 (fnS 0 g_check_basis)) :=
  fn_run (G := GG K mg) (k := 2) F sc_check_basis rfl rfl fun cdv A outer s H E hr => by
    have B := bd_of (P := PW) (wd := wd) (G := GG K mg) (base := base) (cdv := cdv) (outer := outer) (H := H) (E := E) sc_check_basis hr
    exact (ss_cons (ss_if (w_t (w_or (w_not (B.tru (B.call (d_is_integer T) (a_cons (vr 0) a_nil)))) (w_or1 (B.ltB (k_of (vr 0)) (k_of s_int))))) (ss_cons (ss_raise B.calm B.eK B.eM B.tk B.rm (by decide) T.x_BadPart rfl s_str rfl)
    ss_nil) ss_nil)
    (ss_cons (ss_if (w_not (B.tru (B.call (d_is_between T) (a_cons (vr 1) (a_cons s_int (a_cons (B.sub (vr 0) s_int) a_nil)))))) (ss_cons (ss_raise B.calm B.eK B.eM B.tk B.rm (by decide) T.x_BadPart rfl s_str rfl)
    ss_nil) ss_nil)
    (ss_cons (ss_if (w_t (w_or (w_not (B.tru (B.call (d_is_integer T) (a_cons (vr 2) a_nil)))) (w_or1 (B.ltB (k_of (vr 2)) (k_of s_int))))) (ss_cons (ss_raise B.calm B.eK B.eM B.tk B.rm (by decide) T.x_BadPart rfl s_str rfl)
    ss_nil) ss_nil)
    ss_nil)))
theorem d_check_basis (T : Tx base wd K mg) : DefOk PW wd base (GG K mg) 3 "check_basis" 3 [] F_check_basis := by
  obtain ⟨fd, F⟩ := T.D_check_basis
  exact ⟨_, fd, ["a", "b", "d"], [], [], run_check_basis T F, T.c_check_basis, F.kp, (F.bindsN fun _ _ _ _ _ _ us hl => match us, hl with | [_, _, _], _ => rfl), .nil, fun _ => .nil⟩
/-! is_list -/
def g_is_list : Sm := (qSeq (qRet (fBin (isiT tab) (fVar 0) (fTup [(fC (.ty "list")), (fC (.ty "tuple"))])))
    qNil)
def F_is_list : List T → M T := fnS 0 g_is_list
theorem sc_is_list : FnScope ["value"] ["value"] (defScope s_is_list) := ⟨rfl, rfl, rfl, by decide +kernel, rfl, by decide +kernel, by decide +kernel⟩
theorem run_is_list (T : Tx base wd K mg) {f : Addr} {fd : FuncData} {dv : List V} {kw : List (Str × V)} (F : FunD K "is_list" "is_list" (defArgs s_is_list) (defBody s_is_list) (defScope s_is_list) dv kw f fd) : FnOk PW wd K mg base (L2.CX PW wd) 1 f fd ["value"] (spF (GG K mg) 1 (fnS 0 g_is_list)) :=
  fn_run (G := GG K mg) (k := 0) F sc_is_list rfl rfl fun cdv A outer s H E hr => by
    have B := bd_of (P := PW) (wd := wd) (G := GG K mg) (base := base) (cdv := cdv) (outer := outer) (H := H) (E := E) sc_is_list hr
    exact (ss_cons (ss_ret (B.isi T.tab T.m_isinstance (vr 0) (s_tup (a_cons (B.ty "list" T.m_list) (a_cons (B.ty "tuple" T.m_tuple) a_nil)))))
    ss_nil)
theorem d_is_list (T : Tx base wd K mg) : DefOk PW wd base (GG K mg) 1 "is_list" 1 [] F_is_list := by
  obtain ⟨fd, F⟩ := T.D_is_list
  exact ⟨_, fd, ["value"], [], [], run_is_list T F, T.c_is_list, F.kp, (F.bindsN fun _ _ _ _ _ _ us hl => match us, hl with | [_], _ => rfl), .nil, fun _ => .nil⟩
/-! is_row -/
def g_is_row : Sm := (qSeq (qRet (fAnd (fBin (isiT tab) (fVar 0) (fC (.ty "str"))) (fAnd (fCmp eqT (fB1 lenT (fVar 0)) (fVar 1)) (fB1 allT (fOwn (fComp [2] (hName 2) fYes (fCmp inT (fVar 2) (fC (.str "0123456789"))) (fIter (fVar 0))))))))
    qNil)
def F_is_row : List T → M T := fnS 1 g_is_row
theorem sc_is_row : FnScope ["value", "many", "sign"] ["value", "many"] (defScope s_is_row) := ⟨rfl, rfl, rfl, by decide +kernel, rfl, by decide +kernel, by decide +kernel⟩
theorem run_is_row (T : Tx base wd K mg) {f : Addr} {fd : FuncData} {dv : List V} {kw : List (Str × V)} (F : FunD K "is_row" "is_row" (defArgs s_is_row) (defBody s_is_row) (defScope s_is_row) dv kw f fd) : FnOk PW wd K mg base (L2.CX PW wd) 1 f fd ["value", "many"] (spF (GG K mg) 2 (fnS 1 g_is_row)) :=
  fn_run (G := GG K mg) (k := 0) F sc_is_row rfl rfl fun cdv A outer s H E hr => by
    have B := bd_of (P := PW) (wd := wd) (G := GG K mg) (base := base) (cdv := cdv) (outer := outer) (H := H) (E := E) sc_is_row hr
    exact (ss_cons (ss_ret (s_and (B.isi T.tab T.m_isinstance (vr 0) (B.ty "str" T.m_str)) (s_and (B.eq (k_of (B.len T.m_len (k_of (vr 0)))) (k_of (vr 1))) (s_one (B.all T.m_all (k_of (s_own (B.comp [("sign", 2)] (i_seq B.eK (vr 0)) (fun _ _ _ _ _ => ((B.blk _ _ _ _ _).nm 2)) (fun _ _ _ _ _ => ts_nil) (fun _ _ _ _ _ => ((B.blk _ _ _ _ _).in_ (k_of (vr 2)) (k_of ((B.blk _ _ _ _ _).gstr "0123456789" T.z_FIGURES))))))))))))
    ss_nil)
theorem d_is_row (T : Tx base wd K mg) : DefOk PW wd base (GG K mg) 1 "is_row" 2 [] F_is_row := by
  obtain ⟨fd, F⟩ := T.D_is_row
  exact ⟨_, fd, ["value", "many"], [], [], run_is_row T F, T.c_is_row, F.kp, (F.bindsN fun _ _ _ _ _ _ us hl => match us, hl with | [_, _], _ => rfl), .nil, fun _ => .nil⟩
/-! check_rows -/
def g_check_rows : Sm := (qSeq (qIf (fOrB (fNotB (fTru (fCall F_is_list [] [(fVar 0)]))) (fCmpB neT (fB1 lenT (fVar 0)) (fVar 2))) (qSeq (qRaise 0 (fC (.str "rows")))
    qNil) qNil)
    (qSeq (qForG (fEnumG (fVar 0)) (hTupL 2 (hCons (hName 3) (hCons (hName 4) hNil))) (qSeq (qIf (fNotB (fTru (fCall F_is_row [] [(fVar 4), (fVar 1)]))) (qSeq (qRaise 2 (fVar 3))
    qNil) qNil)
    qNil))
    qNil))
def F_check_rows : List T → M T := fnS 2 g_check_rows
theorem sc_check_rows : FnScope ["rows", "a", "d", "index", "row"] ["rows", "a", "d"] (defScope s_check_rows) := ⟨rfl, rfl, rfl, by decide +kernel, rfl, by decide +kernel, by decide +kernel⟩
theorem run_check_rows (T : Tx base wd K mg) {f : Addr} {fd : FuncData} {dv : List V} {kw : List (Str × V)} (F : FunD K "check_rows" "check_rows" (defArgs s_check_rows) (defBody s_check_rows) (defScope s_check_rows) dv kw f fd) : FnOk PW wd K mg base (L2.CX PW wd) 3 f fd ["rows", "a", "d"] (spF (GG K mg) 3 (fnS 2 g_check_rows)) :=
  fn_run (G := GG K mg) (k := 2) F sc_check_rows rfl rfl fun cdv A outer s H E hr => by
    have B := bd_of (P := PW) (wd := wd) (G := GG K mg) (base := base) (cdv := cdv) (outer := outer) (H := H) (E := E) sc_check_rows hr
    exact (ss_cons (ss_if (w_t (w_or (w_not (B.tru (B.call (d_is_list T) (a_cons (vr 0) a_nil)))) (w_or1 (B.neB (k_of (B.len T.m_len (k_of (vr 0)))) (k_of (vr 2)))))) (ss_cons (ss_raise B.calm B.eK B.eM B.tk B.rm (by decide) T.x_BadPart rfl s_str rfl)
    ss_nil) ss_nil)
    (ss_cons (ss_forG po_of B.calm (i_enumG B.eK rfl (by rw [B.eM]; exact T.m_enumerate) (vr 0)) (B.tl 2 (gs_cons (B.nm 3) (gs_cons (B.nm 4) gs_nil))) (ss_cons (ss_if (w_not (B.tru (B.call (d_is_row T) (a_cons (vr 4) (a_cons (vr 1) a_nil))))) (ss_cons (ss_raise B.calm B.eK B.eM B.tk B.rm (by decide) T.x_BadIndex rfl (vr 3) rfl)
    ss_nil) ss_nil)
    ss_nil))
    ss_nil))
theorem d_check_rows (T : Tx base wd K mg) : DefOk PW wd base (GG K mg) 3 "check_rows" 3 [] F_check_rows := by
  obtain ⟨fd, F⟩ := T.D_check_rows
  exact ⟨_, fd, ["rows", "a", "d"], [], [], run_check_rows T F, T.c_check_rows, F.kp, (F.bindsN fun _ _ _ _ _ _ us hl => match us, hl with | [_, _, _], _ => rfl), .nil, fun _ => .nil⟩
/-! check_size -/
def g_check_size : Sm := (qSeq (qIf (fCmpB gtT (fVar 0) (fC (.int 144))) (qSeq (qRaise 4 (fC (.int 144)))
    qNil) qNil)
    qNil)
def F_check_size : List T → M T := fnS 0 g_check_size
theorem sc_check_size : FnScope ["many"] ["many"] (defScope s_check_size) := ⟨rfl, rfl, rfl, by decide +kernel, rfl, by decide +kernel, by decide +kernel⟩
theorem run_check_size (T : Tx base wd K mg) {f : Addr} {fd : FuncData} {dv : List V} {kw : List (Str × V)} (F : FunD K "check_size" "check_size" (defArgs s_check_size) (defBody s_check_size) (defScope s_check_size) dv kw f fd) : FnOk PW wd K mg base (L2.CX PW wd) 3 f fd ["many"] (spF (GG K mg) 1 (fnS 0 g_check_size)) :=
  fn_run (G := GG K mg) (k := 2) F sc_check_size rfl rfl fun cdv A outer s H E hr => by
    have B := bd_of (P := PW) (wd := wd) (G := GG K mg) (base := base) (cdv := cdv) (outer := outer) (H := H) (E := E) sc_check_size hr
    exact (ss_cons (ss_if (B.gtB (k_of (vr 0)) (k_of (B.gint 144 T.i_MOST_CELLS))) (ss_cons (ss_raise B.calm B.eK B.eM B.tk B.rm (by decide) T.x_TooMany rfl (B.gint 144 T.i_MOST_CELLS) rfl)
    ss_nil) ss_nil)
    ss_nil)
theorem d_check_size (T : Tx base wd K mg) : DefOk PW wd base (GG K mg) 3 "check_size" 1 [] F_check_size := by
  obtain ⟨fd, F⟩ := T.D_check_size
  exact ⟨_, fd, ["many"], [], [], run_check_size T F, T.c_check_size, F.kp, (F.bindsN fun _ _ _ _ _ _ us hl => match us, hl with | [_], _ => rfl), .nil, fun _ => .nil⟩
/-! divisors_of -/
def g_divisors_of : Sm := (qSeq (qRet (fOwn (fComp [1] (hName 1) (fCmpB eqT (fBin modT (fB1 intTS (fVar 0)) (fVar 1)) (fC (.int 0))) (fVar 1) (fRng2 (fC (.int 1)) (fBin addT (fVar 0) (fC (.int 1)))))))
    qNil)
def F_divisors_of : List T → M T := fnS 1 g_divisors_of
theorem sc_divisors_of : FnScope ["number", "one"] ["number"] (defScope s_divisors_of) := ⟨rfl, rfl, rfl, by decide +kernel, rfl, by decide +kernel, by decide +kernel⟩
theorem run_divisors_of (T : Tx base wd K mg) {f : Addr} {fd : FuncData} {dv : List V} {kw : List (Str × V)} (F : FunD K "divisors_of" "divisors_of" (defArgs s_divisors_of) (defBody s_divisors_of) (defScope s_divisors_of) dv kw f fd) : FnOk PW wd K mg base (L2.CX PW wd) 1 f fd ["number"] (spF (GG K mg) 1 (fnS 1 g_divisors_of)) :=
  fn_run (G := GG K mg) (k := 0) F sc_divisors_of rfl rfl fun cdv A outer s H E hr => by
    have B := bd_of (P := PW) (wd := wd) (G := GG K mg) (base := base) (cdv := cdv) (outer := outer) (H := H) (E := E) sc_divisors_of hr
    exact (ss_cons (ss_ret (s_own (B.comp [("one", 1)] (i_range2 rfl (by rw [B.eM]; exact T.m_range) s_int (B.add (vr 0) s_int)) (fun _ _ _ _ _ => ((B.blk _ _ _ _ _).nm 1)) (fun _ _ _ _ _ => (ts_one ((B.blk _ _ _ _ _).eqB (k_of ((B.blk _ _ _ _ _).mod ((B.blk _ _ _ _ _).intTS T.m_int (k_of (vr 0))) (vr 1))) (k_of s_int)))) (fun _ _ _ _ _ => (vr 1)))))
    ss_nil)
theorem d_divisors_of (T : Tx base wd K mg) : DefOk PW wd base (GG K mg) 1 "divisors_of" 1 [] F_divisors_of := by
  obtain ⟨fd, F⟩ := T.D_divisors_of
  exact ⟨_, fd, ["number"], [], [], run_divisors_of T F, T.c_divisors_of, F.kp, (F.bindsN fun _ _ _ _ _ _ us hl => match us, hl with | [_], _ => rfl), .nil, fun _ => .nil⟩
/-! is_shift -/
def g_is_shift : Sm := (qSeq (qRet (fAnd (fBin (isiT tab) (fVar 0) (fC (.ty "tuple"))) (fAnd (fCmp eqT (fB1 lenT (fVar 0)) (fC (.int 2))) (fAnd (fCall F_is_integer [] [(fIx (fVar 0) (fC (.int 0)))]) (fCall F_is_integer [] [(fIx (fVar 0) (fC (.int 1)))])))))
    qNil)
def F_is_shift : List T → M T := fnS 0 g_is_shift
theorem sc_is_shift : FnScope ["value"] ["value"] (defScope s_is_shift) := ⟨rfl, rfl, rfl, by decide +kernel, rfl, by decide +kernel, by decide +kernel⟩
theorem run_is_shift (T : Tx base wd K mg) {f : Addr} {fd : FuncData} {dv : List V} {kw : List (Str × V)} (F : FunD K "is_shift" "is_shift" (defArgs s_is_shift) (defBody s_is_shift) (defScope s_is_shift) dv kw f fd) : FnOk PW wd K mg base (L2.CX PW wd) 2 f fd ["value"] (spF (GG K mg) 1 (fnS 0 g_is_shift)) :=
  fn_run (G := GG K mg) (k := 1) F sc_is_shift rfl rfl fun cdv A outer s H E hr => by
    have B := bd_of (P := PW) (wd := wd) (G := GG K mg) (base := base) (cdv := cdv) (outer := outer) (H := H) (E := E) sc_is_shift hr
    exact (ss_cons (ss_ret (s_and (B.isi T.tab T.m_isinstance (vr 0) (B.ty "tuple" T.m_tuple)) (s_and (B.eq (k_of (B.len T.m_len (k_of (vr 0)))) (k_of s_int)) (s_and (B.call (d_is_integer T) (a_cons (B.ix (k_of (vr 0)) s_int) a_nil)) (s_one (B.call (d_is_integer T) (a_cons (B.ix (k_of (vr 0)) s_int) a_nil)))))))
    ss_nil)
theorem d_is_shift (T : Tx base wd K mg) : DefOk PW wd base (GG K mg) 2 "is_shift" 1 [] F_is_shift := by
  obtain ⟨fd, F⟩ := T.D_is_shift
  exact ⟨_, fd, ["value"], [], [], run_is_shift T F, T.c_is_shift, F.kp, (F.bindsN fun _ _ _ _ _ _ us hl => match us, hl with | [_], _ => rfl), .nil, fun _ => .nil⟩
/-! check_cell -/
def g_check_cell : Sm := (qSeq (qIf (fNotB (fTru (fCall F_is_shift [] [(fVar 0)]))) (qSeq (qRaise 0 (fC (.str "cell")))
    qNil) qNil)
    qNil)
def F_check_cell : List T → M T := fnS 0 g_check_cell
theorem sc_check_cell : FnScope ["value"] ["value"] (defScope s_check_cell) := ⟨rfl, rfl, rfl, by decide +kernel, rfl, by decide +kernel, by decide +kernel⟩
theorem run_check_cell (T : Tx base wd K mg) {f : Addr} {fd : FuncData} {dv : List V} {kw : List (Str × V)} (F : FunD K "check_cell" "check_cell" (defArgs s_check_cell) (defBody s_check_cell) (defScope s_check_cell) dv kw f fd) : FnOk PW wd K mg base (L2.CX PW wd) 3 f fd ["value"] (spF (GG K mg) 1 (fnS 0 g_check_cell)) :=
  fn_run (G := GG K mg) (k := 2) F sc_check_cell rfl rfl fun cdv A outer s H E hr => by
    have B := bd_of (P := PW) (wd := wd) (G := GG K mg) (base := base) (cdv := cdv) (outer := outer) (H := H) (E := E) sc_check_cell hr
    exact (ss_cons (ss_if (w_not (B.tru (B.call (d_is_shift T) (a_cons (vr 0) a_nil)))) (ss_cons (ss_raise B.calm B.eK B.eM B.tk B.rm (by decide) T.x_BadPart rfl s_str rfl)
    ss_nil) ss_nil)
    ss_nil)
theorem d_check_cell (T : Tx base wd K mg) : DefOk PW wd base (GG K mg) 3 "check_cell" 1 [] F_check_cell := by
  obtain ⟨fd, F⟩ := T.D_check_cell
  exact ⟨_, fd, ["value"], [], [], run_check_cell T F, T.c_check_cell, F.kp, (F.bindsN fun _ _ _ _ _ _ us hl => match us, hl with | [_], _ => rfl), .nil, fun _ => .nil⟩
/-! Lattice_place -/
def g_Lattice_place : Sm := (qSeq (qExpr (fCall F_check_cell [] [(fVar 1)]))
    (qSeq (qAsg (fVar 1) (hTupL 2 (hCons (hName 2) (hCons (hName 3) hNil))))
    (qSeq (qSet 4 (fBin divT (fB1 intTS (fVar 3)) (fFld m_d (fVar 0))))
    (qSeq (qRet (fTup [(fBin modT (fB1 intTS (fBin subT (fVar 2) (fBin mulT (fVar 4) (fFld m_b (fVar 0))))) (fFld m_a (fVar 0))), (fBin subT (fVar 3) (fBin mulT (fVar 4) (fFld m_d (fVar 0))))]))
    qNil))))
def F_Lattice_place : List T → M T := fnS 3 g_Lattice_place
theorem sc_Lattice_place : FnScope ["self", "cell", "x", "y", "many"] ["self", "cell"] (defScope s_Lattice_place) := ⟨rfl, rfl, rfl, by decide +kernel, rfl, by decide +kernel, by decide +kernel⟩
theorem run_Lattice_place (T : Tx base wd K mg) {f : Addr} {fd : FuncData} {dv : List V} {kw : List (Str × V)} (F : FunD K "place" "Lattice.place" (defArgs s_Lattice_place) (defBody s_Lattice_place) (defScope s_Lattice_place) dv kw f fd) : FnOk PW wd K mg base (L2.CX PW wd) 4 f fd ["self", "cell"] (spF (GG K mg) 2 (fnS 3 g_Lattice_place)) :=
  fn_run (G := GG K mg) (k := 3) F sc_Lattice_place rfl rfl fun cdv A outer s H E hr => by
    have B := bd_of (P := PW) (wd := wd) (G := GG K mg) (base := base) (cdv := cdv) (outer := outer) (H := H) (E := E) sc_Lattice_place hr
    exact (ss_cons (ss_expr (B.call (d_check_cell T) (a_cons (vr 1) a_nil)))
    (ss_cons (ss_asg (vr 1) (B.tl 2 (gs_cons (B.nm 2) (gs_cons (B.nm 3) gs_nil))))
    (ss_cons (B.set 4 (B.div (B.intTS T.m_int (k_of (vr 3))) (B.fld m_d T.f_d (vr 0))))
    (ss_cons (ss_ret (s_tup (a_cons (B.mod (B.intTS T.m_int (k_of (B.sub (vr 2) (B.mul (vr 4) (B.fld m_b T.f_b (vr 0)))))) (B.fld m_a T.f_a (vr 0))) (a_cons (B.sub (vr 3) (B.mul (vr 4) (B.fld m_d T.f_d (vr 0)))) a_nil))))
    ss_nil))))
theorem d_Lattice_place (T : Tx base wd K mg) : MethOk PW wd base (GG K mg) 4 5 "place" 2 [] F_Lattice_place := by
  obtain ⟨fd, F⟩ := T.D_Lattice_place
  exact ⟨⟨_, _, fd, ["self", "cell"], [], [], T.c_Lattice, T.k_Lattice, T.h_Lattice_place, run_Lattice_place T F, (F.bindsN fun _ _ _ _ _ _ us hl => match us, hl with | [_, _], _ => rfl), .nil, fun _ => .nil⟩, show ("place" : Str) ∉ fl 5 by decide⟩
/-! sign_at -/
def g_sign_at : Sm := (qSeq (qAsg (fMeth 5 F_Lattice_place [] (fVar 0) [(fVar 2)]) (hTupL 2 (hCons (hName 3) (hCons (hName 4) hNil))))
    (qSeq (qRet (fIx (fIx (fVar 1) (fVar 4)) (fVar 3)))
    qNil))
def F_sign_at : List T → M T := fnS 2 g_sign_at
theorem sc_sign_at : FnScope ["lattice", "rows", "cell", "x", "y"] ["lattice", "rows", "cell"] (defScope s_sign_at) := ⟨rfl, rfl, rfl, by decide +kernel, rfl, by decide +kernel, by decide +kernel⟩
theorem run_sign_at (T : Tx base wd K mg) {f : Addr} {fd : FuncData} {dv : List V} {kw : List (Str × V)} (F : FunD K "sign_at" "sign_at" (defArgs s_sign_at) (defBody s_sign_at) (defScope s_sign_at) dv kw f fd) : FnOk PW wd K mg base (L2.CX PW wd) 5 f fd ["lattice", "rows", "cell"] (spF (GG K mg) 3 (fnS 2 g_sign_at)) :=
  fn_run (G := GG K mg) (k := 4) F sc_sign_at rfl rfl fun cdv A outer s H E hr => by
    have B := bd_of (P := PW) (wd := wd) (G := GG K mg) (base := base) (cdv := cdv) (outer := outer) (H := H) (E := E) sc_sign_at hr
    exact (ss_cons (ss_asg (s_meth (d_Lattice_place T) B.eK B.eM B.tk B.rm (by decide) (vr 0) (a_cons (vr 2) a_nil)) (B.tl 2 (gs_cons (B.nm 3) (gs_cons (B.nm 4) gs_nil))))
    (ss_cons (ss_ret (B.ix (k_of (B.ix (k_of (vr 1)) (vr 4))) (vr 3)))
    ss_nil))
theorem d_sign_at (T : Tx base wd K mg) : DefOk PW wd base (GG K mg) 5 "sign_at" 3 [] F_sign_at := by
  obtain ⟨fd, F⟩ := T.D_sign_at
  exact ⟨_, fd, ["lattice", "rows", "cell"], [], [], run_sign_at T F, T.c_sign_at, F.kp, (F.bindsN fun _ _ _ _ _ _ us hl => match us, hl with | [_, _, _], _ => rfl), .nil, fun _ => .nil⟩
/-! Lattice_places -/
def g_Lattice_places : Sm := (qSeq (qRet (fOwn (fComp2 [1, 2] [2] (hName 1) fYes (fRng1 (fFld m_a (fVar 0))) (hName 2) fYes (fTup [(fVar 2), (fVar 1)]) (fRng1 (fFld m_d (fVar 0))))))
    qNil)
def F_Lattice_places : List T → M T := fnS 2 g_Lattice_places
theorem sc_Lattice_places : FnScope ["self", "y", "x"] ["self"] (defScope s_Lattice_places) := ⟨rfl, rfl, rfl, by decide +kernel, rfl, by decide +kernel, by decide +kernel⟩
theorem run_Lattice_places (T : Tx base wd K mg) {f : Addr} {fd : FuncData} {dv : List V} {kw : List (Str × V)} (F : FunD K "places" "Lattice.places" (defArgs s_Lattice_places) (defBody s_Lattice_places) (defScope s_Lattice_places) dv kw f fd) : FnOk PW wd K mg base (L2.CX PW wd) 1 f fd ["self"] (spF (GG K mg) 1 (fnS 2 g_Lattice_places)) :=
  fn_run (G := GG K mg) (k := 0) F sc_Lattice_places rfl rfl fun cdv A outer s H E hr => by
    have B := bd_of (P := PW) (wd := wd) (G := GG K mg) (base := base) (cdv := cdv) (outer := outer) (H := H) (E := E) sc_Lattice_places hr
    exact (ss_cons (ss_ret (s_own (B.comp2 [("y", 1), ("x", 2)] [("x", 2)] (i_range1 rfl (by rw [B.eM]; exact T.m_range) (B.fld m_d T.f_d (vr 0))) (fun _ _ _ _ _ => ((B.blk _ _ _ _ _).nm 1)) (fun _ _ _ _ _ => ts_nil) (fun _ _ _ _ _ => (i_range1 rfl (by rw [(B.blk _ _ _ _ _).eM]; exact T.m_range) ((B.blk _ _ _ _ _).fld m_a T.f_a (vr 0)))) (fun _ _ _ _ _ => ((B.blk _ _ _ _ _).nm 2)) (fun _ _ _ _ _ => ts_nil) (fun _ _ _ _ _ => (s_tup (a_cons (vr 2) (a_cons (vr 1) a_nil)))))))
    ss_nil)
theorem d_Lattice_places (T : Tx base wd K mg) : MethOk PW wd base (GG K mg) 1 5 "places" 1 [] F_Lattice_places := by
  obtain ⟨fd, F⟩ := T.D_Lattice_places
  exact ⟨⟨_, _, fd, ["self"], [], [], T.c_Lattice, T.k_Lattice, T.h_Lattice_places, run_Lattice_places T F, (F.bindsN fun _ _ _ _ _ _ us hl => match us, hl with | [_], _ => rfl), .nil, fun _ => .nil⟩, show ("places" : Str) ∉ fl 5 by decide⟩
/-! is_period_of -/
def g_is_period_of : Sm := (qSeq (qAsg (fVar 2) (hTupL 2 (hCons (hName 3) (hCons (hName 4) hNil))))
    (qSeq (qSet 5 (fMeth 5 F_Lattice_places [] (fVar 0) []))
    (qSeq (qRet (fB1 allT (fOwn (fComp [6] (hName 6) fYes (fCmp eqT (fCall F_sign_at [] [(fVar 0), (fVar 1), (fVar 6)]) (fCall F_sign_at [] [(fVar 0), (fVar 1), (fTup [(fBin addT (fIx (fVar 6) (fC (.int 0))) (fVar 3)), (fBin addT (fIx (fVar 6) (fC (.int 1))) (fVar 4))])])) (fIter (fVar 5))))))
    qNil)))
def F_is_period_of : List T → M T := fnS 4 g_is_period_of
theorem sc_is_period_of : FnScope ["lattice", "rows", "shift", "x", "y", "places", "place"] ["lattice", "rows", "shift"] (defScope s_is_period_of) := ⟨rfl, rfl, rfl, by decide +kernel, rfl, by decide +kernel, by decide +kernel⟩
theorem run_is_period_of (T : Tx base wd K mg) {f : Addr} {fd : FuncData} {dv : List V} {kw : List (Str × V)} (F : FunD K "is_period_of" "is_period_of" (defArgs s_is_period_of) (defBody s_is_period_of) (defScope s_is_period_of) dv kw f fd) : FnOk PW wd K mg base (L2.CX PW wd) 6 f fd ["lattice", "rows", "shift"] (spF (GG K mg) 3 (fnS 4 g_is_period_of)) :=
  fn_run (G := GG K mg) (k := 5) F sc_is_period_of rfl rfl fun cdv A outer s H E hr => by
    have B := bd_of (P := PW) (wd := wd) (G := GG K mg) (base := base) (cdv := cdv) (outer := outer) (H := H) (E := E) sc_is_period_of hr
    exact (ss_cons (ss_asg (vr 2) (B.tl 2 (gs_cons (B.nm 3) (gs_cons (B.nm 4) gs_nil))))
    (ss_cons (B.set 5 (s_meth0 (d_Lattice_places T) B.eK B.eM B.tk B.rm (by decide) (vr 0)))
    (ss_cons (ss_ret (B.all T.m_all (k_of (s_own (B.comp [("place", 6)] (i_seq B.eK (vr 5)) (fun _ _ _ _ _ => ((B.blk _ _ _ _ _).nm 6)) (fun _ _ _ _ _ => ts_nil) (fun _ _ _ _ _ => ((B.blk _ _ _ _ _).eq (k_of ((B.blk _ _ _ _ _).call (d_sign_at T) (a_cons (vr 0) (a_cons (vr 1) (a_cons (vr 6) a_nil))))) (k_of ((B.blk _ _ _ _ _).call (d_sign_at T) (a_cons (vr 0) (a_cons (vr 1) (a_cons (s_tup (a_cons ((B.blk _ _ _ _ _).add ((B.blk _ _ _ _ _).ix (k_of (vr 6)) s_int) (vr 3)) (a_cons ((B.blk _ _ _ _ _).add ((B.blk _ _ _ _ _).ix (k_of (vr 6)) s_int) (vr 4)) a_nil))) a_nil))))))))))))
    ss_nil)))
theorem d_is_period_of (T : Tx base wd K mg) : DefOk PW wd base (GG K mg) 6 "is_period_of" 3 [] F_is_period_of := by
  obtain ⟨fd, F⟩ := T.D_is_period_of
  exact ⟨_, fd, ["lattice", "rows", "shift"], [], [], run_is_period_of T F, T.c_is_period_of, F.kp, (F.bindsN fun _ _ _ _ _ _ us hl => match us, hl with | [_, _, _], _ => rfl), .nil, fun _ => .nil⟩
/-! level_period -/
def g_level_period : Sm := (qSeq (qFor (fIter (fCall F_divisors_of [] [(fFld m_a (fVar 0))])) (hName 2) (qSeq (qIf (fTru (fCall F_is_period_of [] [(fVar 0), (fVar 1), (fTup [(fVar 2), (fC (.int 0))])])) (qSeq (qRet (fVar 2))
    qNil) qNil)
    qNil))
    (qSeq (qRet (fFld m_a (fVar 0)))
    qNil))
def F_level_period : List T → M T := fnS 1 g_level_period
theorem sc_level_period : FnScope ["lattice", "rows", "a"] ["lattice", "rows"] (defScope s_level_period) := ⟨rfl, rfl, rfl, by decide +kernel, rfl, by decide +kernel, by decide +kernel⟩
theorem run_level_period (T : Tx base wd K mg) {f : Addr} {fd : FuncData} {dv : List V} {kw : List (Str × V)} (F : FunD K "level_period" "level_period" (defArgs s_level_period) (defBody s_level_period) (defScope s_level_period) dv kw f fd) : FnOk PW wd K mg base (L2.CX PW wd) 7 f fd ["lattice", "rows"] (spF (GG K mg) 2 (fnS 1 g_level_period)) :=
  fn_run (G := GG K mg) (k := 6) F sc_level_period rfl rfl fun cdv A outer s H E hr => by
    have B := bd_of (P := PW) (wd := wd) (G := GG K mg) (base := base) (cdv := cdv) (outer := outer) (H := H) (E := E) sc_level_period hr
    exact (ss_cons (ss_for po_of B.calm (i_seq B.eK (B.call (d_divisors_of T) (a_cons (B.fld m_a T.f_a (vr 0)) a_nil))) (B.nm 2) (ss_cons (ss_if (B.tru (B.call (d_is_period_of T) (a_cons (vr 0) (a_cons (vr 1) (a_cons (s_tup (a_cons (vr 2) (a_cons s_int a_nil))) a_nil))))) (ss_cons (ss_ret (vr 2))
    ss_nil) ss_nil)
    ss_nil))
    (ss_cons (ss_ret (B.fld m_a T.f_a (vr 0)))
    ss_nil))
theorem d_level_period (T : Tx base wd K mg) : DefOk PW wd base (GG K mg) 7 "level_period" 2 [] F_level_period := by
  obtain ⟨fd, F⟩ := T.D_level_period
  exact ⟨_, fd, ["lattice", "rows"], [], [], run_level_period T F, T.c_level_period, F.kp, (F.bindsN fun _ _ _ _ _ _ us hl => match us, hl with | [_, _], _ => rfl), .nil, fun _ => .nil⟩
/-! Lattice_init -/
def g_Lattice_init : Sm := (qSeq (qExpr (fCall F_check_basis [] [(fVar 1), (fVar 2), (fVar 3)]))
    (qSeq (qFld 0 5 0 (fVar 1))
    (qSeq (qFld 0 5 1 (fVar 2))
    (qSeq (qFld 0 5 2 (fVar 3))
    qNil))))
def F_Lattice_init : List T → M (List T) := fnI (GG [] (fun _ => none)) 5 0 g_Lattice_init
theorem sc_Lattice_init : FnScope ["self", "a", "b", "d"] ["self", "a", "b", "d"] (defScope s_Lattice_init) := ⟨rfl, rfl, rfl, by decide +kernel, rfl, by decide +kernel, by decide +kernel⟩
theorem run_Lattice_init (T : Tx base wd K mg) {f : Addr} {fd : FuncData} {dv : List V} {kw : List (Str × V)} (F : FunD K "__init__" "Lattice.__init__" (defArgs s_Lattice_init) (defBody s_Lattice_init) (defScope s_Lattice_init) dv kw f fd) : FnOk PW wd K mg base (L2.CX PW wd) 4 f fd ["self", "a", "b", "d"] (spI (GG K mg) 5 3 (fnI (GG K mg) 5 0 g_Lattice_init)) :=
  make_run (G := GG K mg) (k := 3) F sc_Lattice_init rfl rfl fun cdv A outer s H E hr => by
    have B := bd_of (P := PW) (wd := wd) (G := GG K mg) (base := base) (cdv := cdv) (outer := outer) (H := H) (E := E) sc_Lattice_init hr
    exact (ss_cons (ss_expr (B.call (d_check_basis T) (a_cons (vr 1) (a_cons (vr 2) (a_cons (vr 3) a_nil)))))
    (ss_cons (ss_fld B.eK 0 rfl (Or.inl rfl) T.n_Lattice_a (vr 1))
    (ss_cons (ss_fld B.eK 0 rfl (Or.inl rfl) T.n_Lattice_b (vr 2))
    (ss_cons (ss_fld B.eK 0 rfl (Or.inl rfl) T.n_Lattice_d (vr 3))
    ss_nil))))
theorem d_Lattice_init (T : Tx base wd K mg) : MakeOk PW wd base (GG K mg) 4 5 3 [] F_Lattice_init := by
  obtain ⟨fd, F⟩ := T.D_Lattice_init
  exact ⟨_, _, fd, ["self", "a", "b", "d"], [], [], T.c_Lattice, T.mk_Lattice, run_Lattice_init T F, (F.bindsN fun _ _ _ _ _ _ us hl => match us, hl with | [_, _, _, _], _ => rfl), .nil, fun _ => .nil⟩
/-! least_lattice -/
def g_least_lattice : Sm := (qSeq (qSet 2 (fCall F_level_period [] [(fVar 0), (fVar 1)]))
    (qSeq (qFor (fIter (fCall F_divisors_of [] [(fFld m_d (fVar 0))])) (hName 3) (qSeq (qFor (fRng1 (fVar 2)) (hName 4) (qSeq (qIf (fTru (fCall F_is_period_of [] [(fVar 0), (fVar 1), (fTup [(fVar 4), (fVar 3)])])) (qSeq (qRet (fMake 5 F_Lattice_init [] [(fVar 2), (fVar 4), (fVar 3)]))
    qNil) qNil)
    qNil))
    qNil))
    (qSeq (qRet (fVar 0))
    qNil)))
def F_least_lattice : List T → M T := fnS 3 g_least_lattice
theorem sc_least_lattice : FnScope ["lattice", "rows", "a", "d", "b"] ["lattice", "rows"] (defScope s_least_lattice) := ⟨rfl, rfl, rfl, by decide +kernel, rfl, by decide +kernel, by decide +kernel⟩
theorem run_least_lattice (T : Tx base wd K mg) {f : Addr} {fd : FuncData} {dv : List V} {kw : List (Str × V)} (F : FunD K "least_lattice" "least_lattice" (defArgs s_least_lattice) (defBody s_least_lattice) (defScope s_least_lattice) dv kw f fd) : FnOk PW wd K mg base (L2.CX PW wd) 8 f fd ["lattice", "rows"] (spF (GG K mg) 2 (fnS 3 g_least_lattice)) :=
  fn_run (G := GG K mg) (k := 7) F sc_least_lattice rfl rfl fun cdv A outer s H E hr => by
    have B := bd_of (P := PW) (wd := wd) (G := GG K mg) (base := base) (cdv := cdv) (outer := outer) (H := H) (E := E) sc_least_lattice hr
    exact (ss_cons (B.set 2 (B.call (d_level_period T) (a_cons (vr 0) (a_cons (vr 1) a_nil))))
    (ss_cons (ss_for po_of B.calm (i_seq B.eK (B.call (d_divisors_of T) (a_cons (B.fld m_d T.f_d (vr 0)) a_nil))) (B.nm 3) (ss_cons (ss_for po_of B.calm (i_range1 rfl (by rw [B.eM]; exact T.m_range) (vr 2)) (B.nm 4) (ss_cons (ss_if (B.tru (B.call (d_is_period_of T) (a_cons (vr 0) (a_cons (vr 1) (a_cons (s_tup (a_cons (vr 4) (a_cons (vr 3) a_nil))) a_nil))))) (ss_cons (ss_ret (B.make (d_Lattice_init T) (a_cons (vr 2) (a_cons (vr 4) (a_cons (vr 3) a_nil)))))
    ss_nil) ss_nil)
    ss_nil))
    ss_nil))
    (ss_cons (ss_ret (vr 0))
    ss_nil)))
theorem d_least_lattice (T : Tx base wd K mg) : DefOk PW wd base (GG K mg) 8 "least_lattice" 2 [] F_least_lattice := by
  obtain ⟨fd, F⟩ := T.D_least_lattice
  exact ⟨_, fd, ["lattice", "rows"], [], [], run_least_lattice T F, T.c_least_lattice, F.kp, (F.bindsN fun _ _ _ _ _ _ us hl => match us, hl with | [_, _], _ => rfl), .nil, fun _ => .nil⟩
/-! normal_rows -/
def g_normal_rows : Sm := (qSeq (qOwn 3 (fAll []))
    (qSeq (qFor (fRng1 (fFld m_d (fVar 2))) (hName 4) (qSeq (qApp 3 (fStr1 joinT (fC (.str "")) (fOwn (fComp [5] (hName 5) fYes (fCall F_sign_at [] [(fVar 0), (fVar 1), (fTup [(fVar 5), (fVar 4)])]) (fRng1 (fFld m_a (fVar 2)))))))
    qNil))
    (qSeq (qFrz [3] (qRet (fB1 tupT (fBor 3))))
    qNil)))
def F_normal_rows : List T → M T := fnS 3 g_normal_rows
theorem sc_normal_rows : FnScope ["lattice", "rows", "least", "found", "y", "x"] ["lattice", "rows", "least"] (defScope s_normal_rows) := ⟨rfl, rfl, rfl, by decide +kernel, rfl, by decide +kernel, by decide +kernel⟩
theorem run_normal_rows (T : Tx base wd K mg) {f : Addr} {fd : FuncData} {dv : List V} {kw : List (Str × V)} (F : FunD K "normal_rows" "normal_rows" (defArgs s_normal_rows) (defBody s_normal_rows) (defScope s_normal_rows) dv kw f fd) : FnOk PW wd K mg base (L2.CX PW wd) 6 f fd ["lattice", "rows", "least"] (spF (GG K mg) 3 (fnS 3 g_normal_rows)) :=
  fn_run (G := GG K mg) (k := 5) F sc_normal_rows rfl rfl fun cdv A outer s H E hr => by
    have B := bd_of (P := PW) (wd := wd) (G := GG K mg) (base := base) (cdv := cdv) (outer := outer) (H := H) (E := E) sc_normal_rows hr
    exact (ss_cons (B.own 3 (l_lst a_nil))
    (ss_cons (ss_for po_of B.calm (i_range1 rfl (by rw [B.eM]; exact T.m_range) (B.fld m_d T.f_d (vr 2))) (B.nm 4) (ss_cons (ss_app B.eK 3 rfl (by first | exact Or.inl rfl | exact Or.inr (Or.inl rfl) | exact Or.inr (Or.inr rfl)) (s_join B.eK s_str (s_own (B.comp [("x", 5)] (i_range1 rfl (by rw [B.eM]; exact T.m_range) (B.fld m_a T.f_a (vr 2))) (fun _ _ _ _ _ => ((B.blk _ _ _ _ _).nm 5)) (fun _ _ _ _ _ => ts_nil) (fun _ _ _ _ _ => ((B.blk _ _ _ _ _).call (d_sign_at T) (a_cons (vr 0) (a_cons (vr 1) (a_cons (s_tup (a_cons (vr 5) (a_cons (vr 4) a_nil))) a_nil)))))))))
    ss_nil))
    (ss_cons (ss_frzq [3] (ss_ret (B.tuple T.m_tuple (kv 3))))
    ss_nil)))
theorem d_normal_rows (T : Tx base wd K mg) : DefOk PW wd base (GG K mg) 6 "normal_rows" 3 [] F_normal_rows := by
  obtain ⟨fd, F⟩ := T.D_normal_rows
  exact ⟨_, fd, ["lattice", "rows", "least"], [], [], run_normal_rows T F, T.c_normal_rows, F.kp, (F.bindsN fun _ _ _ _ _ _ us hl => match us, hl with | [_, _, _], _ => rfl), .nil, fun _ => .nil⟩
/-! Carpet_init -/
def g_Carpet_init : Sm := (qSeq (qExpr (fCall F_check_basis [] [(fVar 1), (fVar 2), (fVar 3)]))
    (qSeq (qExpr (fCall F_check_size [] [(fBin mulT (fVar 1) (fVar 3))]))
    (qSeq (qExpr (fCall F_check_rows [] [(fVar 4), (fVar 1), (fVar 3)]))
    (qSeq (qFld 0 6 0 (fVar 1))
    (qSeq (qFld 0 6 1 (fVar 2))
    (qSeq (qFld 0 6 2 (fVar 3))
    (qSeq (qFld 0 6 3 (fB1 tupT (fVar 4)))
    (qSeq (qSet 5 (fMake 5 F_Lattice_init [] [(fVar 1), (fVar 2), (fVar 3)]))
    (qSeq (qFld 0 6 4 (fCall F_least_lattice [] [(fVar 5), (fFldS m_rows 0)]))
    (qSeq (qFld 0 6 5 (fTup [(fFld m_a (fFldS m_basis 0)), (fFld m_b (fFldS m_basis 0)), (fFld m_d (fFldS m_basis 0)), (fCall F_normal_rows [] [(fVar 5), (fFldS m_rows 0), (fFldS m_basis 0)])]))
    qNil))))))))))
def F_Carpet_init : List T → M (List T) := fnI (GG [] (fun _ => none)) 6 1 g_Carpet_init
theorem sc_Carpet_init : FnScope ["self", "a", "b", "d", "rows", "told"] ["self", "a", "b", "d", "rows"] (defScope s_Carpet_init) := ⟨rfl, rfl, rfl, by decide +kernel, rfl, by decide +kernel, by decide +kernel⟩
theorem run_Carpet_init (T : Tx base wd K mg) {f : Addr} {fd : FuncData} {dv : List V} {kw : List (Str × V)} (F : FunD K "__init__" "Carpet.__init__" (defArgs s_Carpet_init) (defBody s_Carpet_init) (defScope s_Carpet_init) dv kw f fd) : FnOk PW wd K mg base (L2.CX PW wd) 9 f fd ["self", "a", "b", "d", "rows"] (spI (GG K mg) 6 4 (fnI (GG K mg) 6 1 g_Carpet_init)) :=
  make_run (G := GG K mg) (k := 8) F sc_Carpet_init rfl rfl fun cdv A outer s H E hr => by
    have B := bd_of (P := PW) (wd := wd) (G := GG K mg) (base := base) (cdv := cdv) (outer := outer) (H := H) (E := E) sc_Carpet_init hr
    exact (ss_cons (ss_expr (B.call (d_check_basis T) (a_cons (vr 1) (a_cons (vr 2) (a_cons (vr 3) a_nil)))))
    (ss_cons (ss_expr (B.call (d_check_size T) (a_cons (B.mul (vr 1) (vr 3)) a_nil)))
    (ss_cons (ss_expr (B.call (d_check_rows T) (a_cons (vr 4) (a_cons (vr 1) (a_cons (vr 3) a_nil)))))
    (ss_cons (ss_fld B.eK 0 rfl (Or.inl rfl) T.n_Carpet_a (vr 1))
    (ss_cons (ss_fld B.eK 0 rfl (Or.inl rfl) T.n_Carpet_b (vr 2))
    (ss_cons (ss_fld B.eK 0 rfl (Or.inl rfl) T.n_Carpet_d (vr 3))
    (ss_cons (ss_fld B.eK 0 rfl (Or.inl rfl) T.n_Carpet_rows (B.tuple T.m_tuple (k_of (vr 4))))
    (ss_cons (B.set 5 (B.make (d_Lattice_init T) (a_cons (vr 1) (a_cons (vr 2) (a_cons (vr 3) a_nil)))))
    (ss_cons (ss_fld B.eK 0 rfl (Or.inl rfl) T.n_Carpet_basis (B.call (d_least_lattice T) (a_cons (vr 5) (a_cons (s_fldS B.eK 0 m_rows T.f_rows rfl (Or.inl rfl)) a_nil))))
    (ss_cons (ss_fld B.eK 0 rfl (Or.inl rfl) T.n_Carpet_shape (s_tup (a_cons (B.fld m_a T.f_a (s_fldS B.eK 0 m_basis T.f_basis rfl (Or.inl rfl))) (a_cons (B.fld m_b T.f_b (s_fldS B.eK 0 m_basis T.f_basis rfl (Or.inl rfl))) (a_cons (B.fld m_d T.f_d (s_fldS B.eK 0 m_basis T.f_basis rfl (Or.inl rfl))) (a_cons (B.call (d_normal_rows T) (a_cons (vr 5) (a_cons (s_fldS B.eK 0 m_rows T.f_rows rfl (Or.inl rfl)) (a_cons (s_fldS B.eK 0 m_basis T.f_basis rfl (Or.inl rfl)) a_nil)))) a_nil))))))
    ss_nil))))))))))
theorem d_Carpet_init (T : Tx base wd K mg) : MakeOk PW wd base (GG K mg) 9 6 4 [] F_Carpet_init := by
  obtain ⟨fd, F⟩ := T.D_Carpet_init
  exact ⟨_, _, fd, ["self", "a", "b", "d", "rows"], [], [], T.c_Carpet, T.mk_Carpet, run_Carpet_init T F, (F.bindsN fun _ _ _ _ _ _ us hl => match us, hl with | [_, _, _, _, _], _ => rfl), .nil, fun _ => .nil⟩
/-! _law_made -/
def g__law_made : Sm := (qSeq (qRet (fMake 6 F_Carpet_init [] [(fIx (fIx (fVar 0) (fC (.int 0))) (fC (.int 0))), (fIx (fIx (fVar 0) (fC (.int 0))) (fC (.int 1))), (fIx (fIx (fVar 0) (fC (.int 0))) (fC (.int 2))), (fIx (fVar 0) (fC (.int 1)))]))
    qNil)
def F__law_made : List T → M T := fnS 0 g__law_made
theorem sc__law_made : FnScope ["_law_told"] ["_law_told"] (defScope s__law_made) := ⟨rfl, rfl, rfl, by decide +kernel, rfl, by decide +kernel, by decide +kernel⟩
theorem run__law_made (T : Tx base wd K mg) {f : Addr} {fd : FuncData} {dv : List V} {kw : List (Str × V)} (F : FunD K "_law_made" "_law_made" (defArgs s__law_made) (defBody s__law_made) (defScope s__law_made) dv kw f fd) : FnOk PW wd K mg base (L2.CX PW wd) 11 f fd ["_law_told"] (spF (GG K mg) 1 (fnS 0 g__law_made)) :=
  fn_run (G := GG K mg) (k := 10) F sc__law_made rfl rfl fun cdv A outer s H E hr => by
    have B := bd_of (P := PW) (wd := wd) (G := GG K mg) (base := base) (cdv := cdv) (outer := outer) (H := H) (E := E) sc__law_made hr
    exact (ss_cons (ss_ret (B.make (d_Carpet_init T) (a_cons (B.ix (k_of (B.ix (k_of (vr 0)) s_int)) s_int) (a_cons (B.ix (k_of (B.ix (k_of (vr 0)) s_int)) s_int) (a_cons (B.ix (k_of (B.ix (k_of (vr 0)) s_int)) s_int) (a_cons (B.ix (k_of (vr 0)) s_int) a_nil))))))
    ss_nil)
theorem d__law_made (T : Tx base wd K mg) : DefOk PW wd base (GG K mg) 11 "_law_made" 1 [] F__law_made := by
  obtain ⟨fd, F⟩ := T.D__law_made
  exact ⟨_, fd, ["_law_told"], [], [], run__law_made T F, T.c__law_made, F.kp, (F.bindsN fun _ _ _ _ _ _ us hl => match us, hl with | [_], _ => rfl), .nil, fun _ => .nil⟩
/-! _law_opened -/
def g__law_opened : Sm := (qSeq (qSet 2 (fIx (fBin addT (fSl (fVar 0) (some (fVar 1)) (some (fBin addT (fVar 1) (fC (.int 1))))) (fLst [(fC (.int 0))])) (fC (.int 0))))
    (qSeq (qSet 3 (fBin max2T (fB1 intTS (fVar 2)) (fB1 intTS (fBin subT (fUn negT (fC (.int 1))) (fVar 2)))))
    (qSeq (qSet 4 (fBin modT (fBin mulT (fBin addT (fBin addT (fBin modT (fB1 intTS (fVar 3)) (fC (.int 2147483647))) (fBin mulT (fC (.int 7919)) (fVar 1))) (fC (.int 1))) (fC (.int 48271))) (fC (.int 2147483629))))
    (qSeq (qRet (fRef (fAll [(fBin mulT (fB1 intTS (fCmp geT (fVar 3) (fBin powT (fC (.int 10)) (fC (.int 18))))) (fVar 3)), (fVar 4)])))
    qNil))))
def F__law_opened : List T → M T := fnS 3 g__law_opened
theorem sc__law_opened : FnScope ["_law_script", "_law_k", "_law_start", "_law_whole", "_law_seed"] ["_law_script", "_law_k"] (defScope s__law_opened) := ⟨rfl, rfl, rfl, by decide +kernel, rfl, by decide +kernel, by decide +kernel⟩
theorem run__law_opened (T : Tx base wd K mg) {f : Addr} {fd : FuncData} {dv : List V} {kw : List (Str × V)} (F : FunD K "_law_opened" "_law_opened" (defArgs s__law_opened) (defBody s__law_opened) (defScope s__law_opened) dv kw f fd) : FnOk PW wd K mg base (L2.CX PW wd) 1 f fd ["_law_script", "_law_k"] (spF (GG K mg) 2 (fnS 3 g__law_opened)) :=
  fn_run (G := GG K mg) (k := 0) F sc__law_opened rfl rfl fun cdv A outer s H E hr => by
    have B := bd_of (P := PW) (wd := wd) (G := GG K mg) (base := base) (cdv := cdv) (outer := outer) (H := H) (E := E) sc__law_opened hr
    exact (ss_cons (B.set 2 (B.ix (k_of (B.add (B.sl (k_of (vr 0)) (o_some (vr 1)) (o_some (B.add (vr 1) s_int))) (s_lst (a_cons s_int a_nil)))) s_int))
    (ss_cons (B.set 3 (B.max2 T.m_max (B.intTS T.m_int (k_of (vr 2))) (B.intTS T.m_int (k_of (B.sub (B.neg s_int) (vr 2))))))
    (ss_cons (B.set 4 (B.mod (B.mul (B.add (B.add (B.mod (B.intTS T.m_int (k_of (vr 3))) s_int) (B.mul s_int (vr 1))) s_int) s_int) s_int))
    (ss_cons (ss_ret (s_ref (l_lst (a_cons (B.mul (B.intTS T.m_int (k_of (B.ge (k_of (vr 3)) (k_of (B.pow s_int s_int))))) (vr 3)) (a_cons (vr 4) a_nil)))))
    ss_nil))))
theorem d__law_opened (T : Tx base wd K mg) : DefOk PW wd base (GG K mg) 1 "_law_opened" 2 [] F__law_opened := by
  obtain ⟨fd, F⟩ := T.D__law_opened
  exact ⟨_, fd, ["_law_script", "_law_k"], [], [], run__law_opened T F, T.c__law_opened, F.kp, (F.bindsN fun _ _ _ _ _ _ us hl => match us, hl with | [_, _], _ => rfl), .nil, fun _ => .nil⟩
/-! _law_rows -/
def g__law_rows : Sm := (qSeq (qSet 2 (fCall F__law_pick [] [(fVar 0), (fLst [(fC (.str "01")), (fC (.str "01")), (fC (.str "012")), (fC (.str "0123")), (fC (.str "7788")), (fC (.str "0001")), (fC (.str "0"))])]))
    (qSeq (qOwn 3 (fAll []))
    (qSeq (qFor (fRng1 (fIx (fVar 1) (fC (.int 2)))) (hName 4) (qSeq (qApp 3 (fStr1 joinT (fC (.str "")) (fOwn (fComp [5] (hName 5) fYes (fIx (fVar 2) (fCall F__law_draw [] [(fVar 0), (fB1 lenT (fVar 2))])) (fRng1 (fIx (fVar 1) (fC (.int 0))))))))
    qNil))
    (qSeq (qFrz [3] (qRet (fVar 3)))
    qNil))))
def F__law_rows : List T → M T := fnS 4 g__law_rows
theorem sc__law_rows : FnScope ["_law_pool", "_law_three_here", "_law_signs", "_law_lines", "_law_j", "_law_i"] ["_law_pool", "_law_three_here"] (defScope s__law_rows) := ⟨rfl, rfl, rfl, by decide +kernel, rfl, by decide +kernel, by decide +kernel⟩
theorem run__law_rows (T : Tx base wd K mg) {f : Addr} {fd : FuncData} {dv : List V} {kw : List (Str × V)} (F : FunD K "_law_rows" "_law_rows" (defArgs s__law_rows) (defBody s__law_rows) (defScope s__law_rows) dv kw f fd) : FnOk PW wd K mg base (L2.CX PW wd) 3 f fd ["_law_pool", "_law_three_here"] (spF (GG K mg) 2 (fnS 4 g__law_rows)) :=
  fn_run (G := GG K mg) (k := 2) F sc__law_rows rfl rfl fun cdv A outer s H E hr => by
    have B := bd_of (P := PW) (wd := wd) (G := GG K mg) (base := base) (cdv := cdv) (outer := outer) (H := H) (E := E) sc__law_rows hr
    exact (ss_cons (B.set 2 (B.call (d__law_pick T) (a_cons (vr 0) (a_cons (s_lst (a_cons s_str (a_cons s_str (a_cons s_str (a_cons s_str (a_cons s_str (a_cons s_str (a_cons s_str a_nil)))))))) a_nil))))
    (ss_cons (B.own 3 (l_lst a_nil))
    (ss_cons (ss_for po_of B.calm (i_range1 rfl (by rw [B.eM]; exact T.m_range) (B.ix (k_of (vr 1)) s_int)) (B.nm 4) (ss_cons (ss_app B.eK 3 rfl (by first | exact Or.inl rfl | exact Or.inr (Or.inl rfl) | exact Or.inr (Or.inr rfl)) (s_join B.eK s_str (s_own (B.comp [("_law_i", 5)] (i_range1 rfl (by rw [B.eM]; exact T.m_range) (B.ix (k_of (vr 1)) s_int)) (fun _ _ _ _ _ => ((B.blk _ _ _ _ _).nm 5)) (fun _ _ _ _ _ => ts_nil) (fun _ _ _ _ _ => ((B.blk _ _ _ _ _).ix (k_of (vr 2)) ((B.blk _ _ _ _ _).call (d__law_draw T) (a_cons (vr 0) (a_cons ((B.blk _ _ _ _ _).len T.m_len (k_of (vr 2))) a_nil)))))))))
    ss_nil))
    (ss_cons (ss_frzq [3] (ss_ret (vr 3)))
    ss_nil))))
theorem d__law_rows (T : Tx base wd K mg) : DefOk PW wd base (GG K mg) 3 "_law_rows" 2 [] F__law_rows := by
  obtain ⟨fd, F⟩ := T.D__law_rows
  exact ⟨_, fd, ["_law_pool", "_law_three_here"], [], [], run__law_rows T F, T.c__law_rows, F.kp, (F.bindsN fun _ _ _ _ _ _ us hl => match us, hl with | [_, _], _ => rfl), .nil, fun _ => .nil⟩
/-! _law_moved -/
def g__law_moved : Sm := (qSeq (qOwn 3 (fAll []))
    (qSeq (qFor (fRng1 (fIx (fIx (fVar 0) (fC (.int 0))) (fC (.int 2)))) (hName 4) (qSeq (qApp 3 (fStr1 joinT (fC (.str "")) (fOwn (fComp [5] (hName 5) fYes (fB1 strI (fCall F__law_colour [] [(fVar 0), (fBin subT (fVar 5) (fVar 1)), (fBin subT (fVar 4) (fVar 2))])) (fRng1 (fIx (fIx (fVar 0) (fC (.int 0))) (fC (.int 0))))))))
    qNil))
    (qSeq (qFrz [3] (qRet (fLst [(fIx (fVar 0) (fC (.int 0))), (fVar 3)])))
    qNil)))
def F__law_moved : List T → M T := fnS 3 g__law_moved
theorem sc__law_moved : FnScope ["_law_told", "_law_x", "_law_y", "_law_rows_here", "_law_j", "_law_i"] ["_law_told", "_law_x", "_law_y"] (defScope s__law_moved) := ⟨rfl, rfl, rfl, by decide +kernel, rfl, by decide +kernel, by decide +kernel⟩
theorem run__law_moved (T : Tx base wd K mg) {f : Addr} {fd : FuncData} {dv : List V} {kw : List (Str × V)} (F : FunD K "_law_moved" "_law_moved" (defArgs s__law_moved) (defBody s__law_moved) (defScope s__law_moved) dv kw f fd) : FnOk PW wd K mg base (L2.CX PW wd) 3 f fd ["_law_told", "_law_x", "_law_y"] (spF (GG K mg) 3 (fnS 3 g__law_moved)) :=
  fn_run (G := GG K mg) (k := 2) F sc__law_moved rfl rfl fun cdv A outer s H E hr => by
    have B := bd_of (P := PW) (wd := wd) (G := GG K mg) (base := base) (cdv := cdv) (outer := outer) (H := H) (E := E) sc__law_moved hr
    exact (ss_cons (B.own 3 (l_lst a_nil))
    (ss_cons (ss_for po_of B.calm (i_range1 rfl (by rw [B.eM]; exact T.m_range) (B.ix (k_of (B.ix (k_of (vr 0)) s_int)) s_int)) (B.nm 4) (ss_cons (ss_app B.eK 3 rfl (by first | exact Or.inl rfl | exact Or.inr (Or.inl rfl) | exact Or.inr (Or.inr rfl)) (s_join B.eK s_str (s_own (B.comp [("_law_i", 5)] (i_range1 rfl (by rw [B.eM]; exact T.m_range) (B.ix (k_of (B.ix (k_of (vr 0)) s_int)) s_int)) (fun _ _ _ _ _ => ((B.blk _ _ _ _ _).nm 5)) (fun _ _ _ _ _ => ts_nil) (fun _ _ _ _ _ => ((B.blk _ _ _ _ _).strI T.m_str (k_of ((B.blk _ _ _ _ _).call (d__law_colour T) (a_cons (vr 0) (a_cons ((B.blk _ _ _ _ _).sub (vr 5) (vr 1)) (a_cons ((B.blk _ _ _ _ _).sub (vr 4) (vr 2)) a_nil)))))))))))
    ss_nil))
    (ss_cons (ss_frzq [3] (ss_ret (s_lst (a_cons (B.ix (k_of (vr 0)) s_int) (a_cons (vr 3) a_nil)))))
    ss_nil)))
theorem d__law_moved (T : Tx base wd K mg) : DefOk PW wd base (GG K mg) 3 "_law_moved" 3 [] F__law_moved := by
  obtain ⟨fd, F⟩ := T.D__law_moved
  exact ⟨_, fd, ["_law_told", "_law_x", "_law_y"], [], [], run__law_moved T F, T.c__law_moved, F.kp, (F.bindsN fun _ _ _ _ _ _ us hl => match us, hl with | [_, _, _], _ => rfl), .nil, fun _ => .nil⟩
/-! _law_normal -/
def g__law_normal : Sm := (qSeq (qAsg (fCall F__law_least [] [(fVar 0)]) (hTupL 3 (hCons (hName 1) (hCons (hName 2) (hCons (hName 3) hNil)))))
    (qSeq (qOwn 4 (fAll []))
    (qSeq (qFor (fRng1 (fVar 3)) (hName 5) (qSeq (qApp 4 (fStr1 joinT (fC (.str "")) (fOwn (fComp [6] (hName 6) fYes (fB1 strI (fCall F__law_colour [] [(fVar 0), (fVar 6), (fVar 5)])) (fRng1 (fVar 1))))))
    qNil))
    (qSeq (qFrz [4] (qRet (fTup [(fVar 1), (fVar 2), (fVar 3), (fB1 tupT (fBor 4))])))
    qNil))))
def F__law_normal : List T → M T := fnS 6 g__law_normal
theorem sc__law_normal : FnScope ["_law_told", "_law_a", "_law_b", "_law_d", "_law_rows_here", "_law_y", "_law_x"] ["_law_told"] (defScope s__law_normal) := ⟨rfl, rfl, rfl, by decide +kernel, rfl, by decide +kernel, by decide +kernel⟩
theorem run__law_normal (T : Tx base wd K mg) {f : Addr} {fd : FuncData} {dv : List V} {kw : List (Str × V)} (F : FunD K "_law_normal" "_law_normal" (defArgs s__law_normal) (defBody s__law_normal) (defScope s__law_normal) dv kw f fd) : FnOk PW wd K mg base (L2.CX PW wd) 5 f fd ["_law_told"] (spF (GG K mg) 1 (fnS 6 g__law_normal)) :=
  fn_run (G := GG K mg) (k := 4) F sc__law_normal rfl rfl fun cdv A outer s H E hr => by
    have B := bd_of (P := PW) (wd := wd) (G := GG K mg) (base := base) (cdv := cdv) (outer := outer) (H := H) (E := E) sc__law_normal hr
    exact (ss_cons (ss_asg (B.call (d__law_least T) (a_cons (vr 0) a_nil)) (B.tl 3 (gs_cons (B.nm 1) (gs_cons (B.nm 2) (gs_cons (B.nm 3) gs_nil)))))
    (ss_cons (B.own 4 (l_lst a_nil))
    (ss_cons (ss_for po_of B.calm (i_range1 rfl (by rw [B.eM]; exact T.m_range) (vr 3)) (B.nm 5) (ss_cons (ss_app B.eK 4 rfl (by first | exact Or.inl rfl | exact Or.inr (Or.inl rfl) | exact Or.inr (Or.inr rfl)) (s_join B.eK s_str (s_own (B.comp [("_law_x", 6)] (i_range1 rfl (by rw [B.eM]; exact T.m_range) (vr 1)) (fun _ _ _ _ _ => ((B.blk _ _ _ _ _).nm 6)) (fun _ _ _ _ _ => ts_nil) (fun _ _ _ _ _ => ((B.blk _ _ _ _ _).strI T.m_str (k_of ((B.blk _ _ _ _ _).call (d__law_colour T) (a_cons (vr 0) (a_cons (vr 6) (a_cons (vr 5) a_nil)))))))))))
    ss_nil))
    (ss_cons (ss_frzq [4] (ss_ret (s_tup (a_cons (vr 1) (a_cons (vr 2) (a_cons (vr 3) (a_cons (B.tuple T.m_tuple (kv 4)) a_nil)))))))
    ss_nil))))
theorem d__law_normal (T : Tx base wd K mg) : DefOk PW wd base (GG K mg) 5 "_law_normal" 1 [] F__law_normal := by
  obtain ⟨fd, F⟩ := T.D__law_normal
  exact ⟨_, fd, ["_law_told"], [], [], run__law_normal T F, T.c__law_normal, F.kp, (F.bindsN fun _ _ _ _ _ _ us hl => match us, hl with | [_], _ => rfl), .nil, fun _ => .nil⟩
/-! Carpet_eq -/
def g_Carpet_eq : Sm := (qSeq (qRet (fAnd (fBin (isiT tab) (fVar 1) (fC (.cl 6))) (fCmp eqT (fFld m_shape (fVar 0)) (fFld m_shape (fVar 1)))))
    qNil)
def F_Carpet_eq : List T → M T := fnS 0 g_Carpet_eq
theorem sc_Carpet_eq : FnScope ["self", "other"] ["self", "other"] (defScope s_Carpet_eq) := ⟨rfl, rfl, rfl, by decide +kernel, rfl, by decide +kernel, by decide +kernel⟩
theorem run_Carpet_eq (T : Tx base wd K mg) {f : Addr} {fd : FuncData} {dv : List V} {kw : List (Str × V)} (F : FunD K "__eq__" "Carpet.__eq__" (defArgs s_Carpet_eq) (defBody s_Carpet_eq) (defScope s_Carpet_eq) dv kw f fd) : FnOk PW wd K mg base (L2.CX PW wd) 1 f fd ["self", "other"] (spF (GG K mg) 2 (fnS 0 g_Carpet_eq)) :=
  fn_run (G := GG K mg) (k := 0) F sc_Carpet_eq rfl rfl fun cdv A outer s H E hr => by
    have B := bd_of (P := PW) (wd := wd) (G := GG K mg) (base := base) (cdv := cdv) (outer := outer) (H := H) (E := E) sc_Carpet_eq hr
    exact (ss_cons (ss_ret (s_and (B.isi T.tab T.m_isinstance (vr 1) (B.cls 6 T.c_Carpet)) (s_one (B.eq (k_of (B.fld m_shape T.f_shape (vr 0))) (k_of (B.fld m_shape T.f_shape (vr 1)))))))
    ss_nil)
theorem d_Carpet_eq (T : Tx base wd K mg) : MethOk PW wd base (GG K mg) 1 6 "__eq__" 2 [] F_Carpet_eq := by
  obtain ⟨fd, F⟩ := T.D_Carpet_eq
  exact ⟨⟨_, _, fd, ["self", "other"], [], [], T.c_Carpet, T.k_Carpet, T.h_Carpet_eq, run_Carpet_eq T F, (F.bindsN fun _ _ _ _ _ _ us hl => match us, hl with | [_, _], _ => rfl), .nil, fun _ => .nil⟩, show ("__eq__" : Str) ∉ fl 6 by decide⟩
/-! check_shift -/
def g_check_shift : Sm := (qSeq (qIf (fNotB (fTru (fCall F_is_shift [] [(fVar 0)]))) (qSeq (qRaise 0 (fC (.str "shift")))
    qNil) qNil)
    qNil)
def F_check_shift : List T → M T := fnS 0 g_check_shift
theorem sc_check_shift : FnScope ["value"] ["value"] (defScope s_check_shift) := ⟨rfl, rfl, rfl, by decide +kernel, rfl, by decide +kernel, by decide +kernel⟩
theorem run_check_shift (T : Tx base wd K mg) {f : Addr} {fd : FuncData} {dv : List V} {kw : List (Str × V)} (F : FunD K "check_shift" "check_shift" (defArgs s_check_shift) (defBody s_check_shift) (defScope s_check_shift) dv kw f fd) : FnOk PW wd K mg base (L2.CX PW wd) 3 f fd ["value"] (spF (GG K mg) 1 (fnS 0 g_check_shift)) :=
  fn_run (G := GG K mg) (k := 2) F sc_check_shift rfl rfl fun cdv A outer s H E hr => by
    have B := bd_of (P := PW) (wd := wd) (G := GG K mg) (base := base) (cdv := cdv) (outer := outer) (H := H) (E := E) sc_check_shift hr
    exact (ss_cons (ss_if (w_not (B.tru (B.call (d_is_shift T) (a_cons (vr 0) a_nil)))) (ss_cons (ss_raise B.calm B.eK B.eM B.tk B.rm (by decide) T.x_BadPart rfl s_str rfl)
    ss_nil) ss_nil)
    ss_nil)
theorem d_check_shift (T : Tx base wd K mg) : DefOk PW wd base (GG K mg) 3 "check_shift" 1 [] F_check_shift := by
  obtain ⟨fd, F⟩ := T.D_check_shift
  exact ⟨_, fd, ["value"], [], [], run_check_shift T F, T.c_check_shift, F.kp, (F.bindsN fun _ _ _ _ _ _ us hl => match us, hl with | [_], _ => rfl), .nil, fun _ => .nil⟩
/-! Lattice_contains -/
def g_Lattice_contains : Sm := (qSeq (qRet (fAnd (fCall F_is_shift [] [(fVar 1)]) (fCmp eqT (fMeth 5 F_Lattice_place [] (fVar 0) [(fVar 1)]) (fTup [(fC (.int 0)), (fC (.int 0))]))))
    qNil)
def F_Lattice_contains : List T → M T := fnS 0 g_Lattice_contains
theorem sc_Lattice_contains : FnScope ["self", "value"] ["self", "value"] (defScope s_Lattice_contains) := ⟨rfl, rfl, rfl, by decide +kernel, rfl, by decide +kernel, by decide +kernel⟩
theorem run_Lattice_contains (T : Tx base wd K mg) {f : Addr} {fd : FuncData} {dv : List V} {kw : List (Str × V)} (F : FunD K "__contains__" "Lattice.__contains__" (defArgs s_Lattice_contains) (defBody s_Lattice_contains) (defScope s_Lattice_contains) dv kw f fd) : FnOk PW wd K mg base (L2.CX PW wd) 5 f fd ["self", "value"] (spF (GG K mg) 2 (fnS 0 g_Lattice_contains)) :=
  fn_run (G := GG K mg) (k := 4) F sc_Lattice_contains rfl rfl fun cdv A outer s H E hr => by
    have B := bd_of (P := PW) (wd := wd) (G := GG K mg) (base := base) (cdv := cdv) (outer := outer) (H := H) (E := E) sc_Lattice_contains hr
    exact (ss_cons (ss_ret (s_and (B.call (d_is_shift T) (a_cons (vr 1) a_nil)) (s_one (B.eq (k_of (s_meth (d_Lattice_place T) B.eK B.eM B.tk B.rm (by decide) (vr 0) (a_cons (vr 1) a_nil))) (k_of (s_tup (a_cons s_int (a_cons s_int a_nil))))))))
    ss_nil)
theorem d_Lattice_contains (T : Tx base wd K mg) : MethOk PW wd base (GG K mg) 5 5 "__contains__" 2 [] F_Lattice_contains := by
  obtain ⟨fd, F⟩ := T.D_Lattice_contains
  exact ⟨⟨_, _, fd, ["self", "value"], [], [], T.c_Lattice, T.k_Lattice, T.h_Lattice_contains, run_Lattice_contains T F, (F.bindsN fun _ _ _ _ _ _ us hl => match us, hl with | [_, _], _ => rfl), .nil, fun _ => .nil⟩, show ("__contains__" : Str) ∉ fl 5 by decide⟩
/-! Carpet_is_period -/
def g_Carpet_is_period : Sm := (qSeq (qExpr (fCall F_check_shift [] [(fVar 1)]))
    (qSeq (qRet (fun env => (fVar 1) env >>= fun x => (fFld m_basis (fVar 0)) env >>= fun y => own2c 5 F_Lattice_contains x y))
    qNil))
def F_Carpet_is_period : List T → M T := fnS 0 g_Carpet_is_period
theorem sc_Carpet_is_period : FnScope ["self", "shift"] ["self", "shift"] (defScope s_Carpet_is_period) := ⟨rfl, rfl, rfl, by decide +kernel, rfl, by decide +kernel, by decide +kernel⟩
theorem run_Carpet_is_period (T : Tx base wd K mg) {f : Addr} {fd : FuncData} {dv : List V} {kw : List (Str × V)} (F : FunD K "is_period" "Carpet.is_period" (defArgs s_Carpet_is_period) (defBody s_Carpet_is_period) (defScope s_Carpet_is_period) dv kw f fd) : FnOk PW wd K mg base (L2.CX PW wd) 6 f fd ["self", "shift"] (spF (GG K mg) 2 (fnS 0 g_Carpet_is_period)) :=
  fn_run (G := GG K mg) (k := 5) F sc_Carpet_is_period rfl rfl fun cdv A outer s H E hr => by
    have B := bd_of (P := PW) (wd := wd) (G := GG K mg) (base := base) (cdv := cdv) (outer := outer) (H := H) (E := E) sc_Carpet_is_period hr
    exact (ss_cons (ss_expr (B.call (d_check_shift T) (a_cons (vr 1) a_nil)))
    (ss_cons (ss_ret (s_ownIn (d_Lattice_contains T) B.eK B.eM B.rm (by decide) (vr 1) (B.fld m_basis T.f_basis (vr 0)) rfl))
    ss_nil))
theorem d_Carpet_is_period (T : Tx base wd K mg) : MethOk PW wd base (GG K mg) 6 6 "is_period" 2 [] F_Carpet_is_period := by
  obtain ⟨fd, F⟩ := T.D_Carpet_is_period
  exact ⟨⟨_, _, fd, ["self", "shift"], [], [], T.c_Carpet, T.k_Carpet, T.h_Carpet_is_period, run_Carpet_is_period T F, (F.bindsN fun _ _ _ _ _ _ us hl => match us, hl with | [_, _], _ => rfl), .nil, fun _ => .nil⟩, show ("is_period" : Str) ∉ fl 6 by decide⟩
/-! Carpet_lattice -/
def g_Carpet_lattice : Sm := (qSeq (qRet (fMake 5 F_Lattice_init [] [(fFld m_a (fVar 0)), (fFld m_b (fVar 0)), (fFld m_d (fVar 0))]))
    qNil)
def F_Carpet_lattice : List T → M T := fnS 0 g_Carpet_lattice
theorem sc_Carpet_lattice : FnScope ["self"] ["self"] (defScope s_Carpet_lattice) := ⟨rfl, rfl, rfl, by decide +kernel, rfl, by decide +kernel, by decide +kernel⟩
theorem run_Carpet_lattice (T : Tx base wd K mg) {f : Addr} {fd : FuncData} {dv : List V} {kw : List (Str × V)} (F : FunD K "lattice" "Carpet.lattice" (defArgs s_Carpet_lattice) (defBody s_Carpet_lattice) (defScope s_Carpet_lattice) dv kw f fd) : FnOk PW wd K mg base (L2.CX PW wd) 6 f fd ["self"] (spF (GG K mg) 1 (fnS 0 g_Carpet_lattice)) :=
  fn_run (G := GG K mg) (k := 5) F sc_Carpet_lattice rfl rfl fun cdv A outer s H E hr => by
    have B := bd_of (P := PW) (wd := wd) (G := GG K mg) (base := base) (cdv := cdv) (outer := outer) (H := H) (E := E) sc_Carpet_lattice hr
    exact (ss_cons (ss_ret (B.make (d_Lattice_init T) (a_cons (B.fld m_a T.f_a (vr 0)) (a_cons (B.fld m_b T.f_b (vr 0)) (a_cons (B.fld m_d T.f_d (vr 0)) a_nil)))))
    ss_nil)
theorem d_Carpet_lattice (T : Tx base wd K mg) : MethOk PW wd base (GG K mg) 6 6 "lattice" 1 [] F_Carpet_lattice := by
  obtain ⟨fd, F⟩ := T.D_Carpet_lattice
  exact ⟨⟨_, _, fd, ["self"], [], [], T.c_Carpet, T.k_Carpet, T.h_Carpet_lattice, run_Carpet_lattice T F, (F.bindsN fun _ _ _ _ _ _ us hl => match us, hl with | [_], _ => rfl), .nil, fun _ => .nil⟩, show ("lattice" : Str) ∉ fl 6 by decide⟩
/-! Carpet_sign -/
def g_Carpet_sign : Sm := (qSeq (qRet (fCall F_sign_at [] [(fMeth 6 F_Carpet_lattice [] (fVar 0) []), (fFld m_rows (fVar 0)), (fVar 1)]))
    qNil)
def F_Carpet_sign : List T → M T := fnS 0 g_Carpet_sign
theorem sc_Carpet_sign : FnScope ["self", "cell"] ["self", "cell"] (defScope s_Carpet_sign) := ⟨rfl, rfl, rfl, by decide +kernel, rfl, by decide +kernel, by decide +kernel⟩
theorem run_Carpet_sign (T : Tx base wd K mg) {f : Addr} {fd : FuncData} {dv : List V} {kw : List (Str × V)} (F : FunD K "sign" "Carpet.sign" (defArgs s_Carpet_sign) (defBody s_Carpet_sign) (defScope s_Carpet_sign) dv kw f fd) : FnOk PW wd K mg base (L2.CX PW wd) 7 f fd ["self", "cell"] (spF (GG K mg) 2 (fnS 0 g_Carpet_sign)) :=
  fn_run (G := GG K mg) (k := 6) F sc_Carpet_sign rfl rfl fun cdv A outer s H E hr => by
    have B := bd_of (P := PW) (wd := wd) (G := GG K mg) (base := base) (cdv := cdv) (outer := outer) (H := H) (E := E) sc_Carpet_sign hr
    exact (ss_cons (ss_ret (B.call (d_sign_at T) (a_cons (s_meth0 (d_Carpet_lattice T) B.eK B.eM B.tk B.rm (by decide) (vr 0)) (a_cons (B.fld m_rows T.f_rows (vr 0)) (a_cons (vr 1) a_nil)))))
    ss_nil)
theorem d_Carpet_sign (T : Tx base wd K mg) : MethOk PW wd base (GG K mg) 7 6 "sign" 2 [] F_Carpet_sign := by
  obtain ⟨fd, F⟩ := T.D_Carpet_sign
  exact ⟨⟨_, _, fd, ["self", "cell"], [], [], T.c_Carpet, T.k_Carpet, T.h_Carpet_sign, run_Carpet_sign T F, (F.bindsN fun _ _ _ _ _ _ us hl => match us, hl with | [_, _], _ => rfl), .nil, fun _ => .nil⟩, show ("sign" : Str) ∉ fl 6 by decide⟩
/-! rows_by -/
def g_rows_by (act : List T → M T) : Sm := (qSeq (qRet (fB1 tupT (fOwn (fComp [2] (hName 2) fYes (fStr1 joinT (fC (.str "")) (fOwn (fComp [3] (hName 3) fYes (fAct 1 act [(fTup [(fVar 3), (fVar 2)])]) (fRng1 (fFld m_a (fVar 0)))))) (fRng1 (fFld m_d (fVar 0)))))))
    qNil)
def F_rows_by (act : List T → M T) : List T → M T := fnH 2 (g_rows_by act)
theorem sc_rows_by : FnScope ["lattice", "sign_of", "y", "x"] ["lattice", "sign_of"] (defScope s_rows_by) := ⟨rfl, rfl, rfl, by decide +kernel, rfl, by decide +kernel, by decide +kernel⟩
theorem run_rows_by (T : Tx base wd K mg) {a c : Addr} {q : Str} {cv : List V} {ct : List Ep.T} {act : List Ep.T → M Ep.T} (hA : ActOk PW wd K mg base (L2.CX PW wd) 8 a (spA (GG K mg) c q cv ct 1 act)) {f : Addr} {fd : FuncData} {dv : List V} {kw : List (Str × V)} (F : FunD K "rows_by" "rows_by" (defArgs s_rows_by) (defBody s_rows_by) (defScope s_rows_by) dv kw f fd) : FnOk PW wd K mg base (L2.CX PW wd) 9 f fd ["lattice", "sign_of"] (spH (GG K mg) a c q cv ct 1 (fnH 2 (g_rows_by act))) :=
  have hA2 : ActOk PW wd K mg base (L2.CX PW wd) 8 a (spA ((GG K mg).wf (some (a, c, q, cv, ct))) c q cv ct 1 act) := hA.imp fun _ _ _ _ h => spA_wf _ h
  fn_runHC (G := GG K mg) (k := 8) F sc_rows_by rfl rfl (by decide) fun cdv A outer s H E ecd hr => by
    have B := bd_of (P := PW) (wd := wd) (G := ((GG K mg).wf (some (a, c, q, cv, ct)))) (base := base) (cdv := cdv) (outer := outer) (H := H) (E := E) sc_rows_by hr
    exact (ss_cons (ss_ret (B.tuple T.m_tuple (k_of (s_own (B.comp [("y", 2)] (i_range1 rfl (by rw [B.eM]; exact T.m_range) (B.fld m_d (fun C j h => (T.f_d C j h).wf _) (vr 0))) (fun _ _ _ _ _ => ((B.blk _ _ _ _ _).nm 2)) (fun _ _ _ _ _ => ts_nil) (fun _ _ _ _ _ => (s_join (B.blk _ _ _ _ _).eK s_str (s_own ((B.blk _ _ _ _ _).comp [("x", 3)] (i_range1 rfl (by rw [(B.blk _ _ _ _ _).eM]; exact T.m_range) ((B.blk _ _ _ _ _).fld m_a (fun C j h => (T.f_a C j h).wf _) (vr 0))) (fun _ _ _ _ _ => (((B.blk _ _ _ _ _).blk _ _ _ _ _).nm 3)) (fun _ _ _ _ _ => ts_nil) (fun _ _ _ _ _ => (s_act rfl hA2 ((B.blk _ _ _ _ _).blk _ _ _ _ _).tk ((B.blk _ _ _ _ _).blk _ _ _ _ _).rm (by decide) (i := 1) rfl (by first | exact Or.inl rfl | exact Or.inr (Or.inl rfl) | exact Or.inr (Or.inr rfl)) (a_cons (s_tup (a_cons (vr 3) (a_cons (vr 2) a_nil))) a_nil))))))))))))
    ss_nil)
theorem h_rows_by (T : Tx base wd K mg) : HearOk PW wd base (GG K mg) 8 9 "rows_by" 1 1 F_rows_by := by
  obtain ⟨fd, F⟩ := T.D_rows_by
  exact ⟨_, fd, ["lattice", "sign_of"], T.c_rows_by, F.kp, F.bindsN fun _ _ _ _ _ _ us hl => match us, hl with | [_, _], _ => rfl, rfl, fun base2 gr a c q cv ct act hA => run_rows_by (T.grow gr) hA F⟩
/-! Carpet_moved_by -/
def g_Carpet_moved_by : Sm := (qSeq (qExpr (fCall F_check_shift [] [(fVar 1)]))
    (qSeq (qSet 2 (fFld m_basis (fVar 0)))
    (qSeq (qSet 3 (fHear F_rows_by [(fVar 2)] [0, 1] 0 (fMeth 6 F_Carpet_sign [] (fVar 1) [(fTup [(fBin subT (fIx (fVar 0) (fC (.int 0))) (fIx (fVar 2) (fC (.int 0)))), (fBin subT (fIx (fVar 0) (fC (.int 1))) (fIx (fVar 2) (fC (.int 1))))])])))
    (qSeq (qRet (fMake 6 F_Carpet_init [] [(fFld m_a (fVar 2)), (fFld m_b (fVar 2)), (fFld m_d (fVar 2)), (fVar 3)]))
    qNil))))
def F_Carpet_moved_by : List T → M T := fnS 2 g_Carpet_moved_by
theorem sc_Carpet_moved_by : FnScope ["self", "shift", "least", "rows"] ["self", "shift"] (defScope s_Carpet_moved_by) := ⟨rfl, rfl, rfl, by decide +kernel, rfl, by decide +kernel, by decide +kernel⟩
theorem run_Carpet_moved_by (T : Tx base wd K mg) {fd : FuncData} {dv : List V} {kw : List (Str × V)} (F : FunD K "moved_by" "Carpet.moved_by" (defArgs s_Carpet_moved_by) (defBody s_Carpet_moved_by) (defScope s_Carpet_moved_by) dv kw (ma K (ga K "Carpet") "moved_by") fd) : FnOk PW wd K mg base (L2.CX PW wd) 13 (ma K (ga K "Carpet") "moved_by") fd ["self", "shift"] (spF (GG K mg) 2 (fnS 2 g_Carpet_moved_by)) :=
  fn_runC (G := GG K mg) (k := 12) F sc_Carpet_moved_by rfl rfl fun cdv A outer s H E ecd hr => by
    have B := bd_of (P := PW) (wd := wd) (G := GG K mg) (base := base) (cdv := cdv) (outer := outer) (H := H) (E := E) sc_Carpet_moved_by hr
    have hq : (cxB PW wd (GG K mg) base ["self", "shift", "least", "rows"] "Carpet.moved_by" s_Carpet_moved_by (ma K (ga K "Carpet") "moved_by") cdv A outer s H E).env.qual = "Carpet.moved_by" ++ ".<locals>." := rfl
    exact (ss_cons (ss_expr (B.call (d_check_shift T) (a_cons (vr 1) a_nil)))
    (ss_cons (B.set 2 (B.fld m_basis T.f_basis (vr 0)))
    (ss_cons (B.set 3 (s_hear1 (h_rows_by T) B.eK B.eM B.tk B.rm (by decide) rfl (vr 2) (by
      refine ⟨fun _ => rfl, ⟨_, _, T.tb_Carpet_moved_by, ecd.trans T.cd_Carpet_moved_by, tb_mem_Carpet_moved_by K, tb_un T.tb_nd (tb_mem_Carpet_moved_by K)⟩, by rfl, ⟨["place", "self", "shift"], ["place"], ["self", "shift"], NdefX.nscope_by (by decide +kernel), by kernel_rfl, by rfl, by rfl, by rfl, fun _ _ _ _ _ us hl => match us, hl with | [_], _ => by rfl, fun base2 gr q2 cl2 c2 f2 A2 outer2 s2 H2 E2 hr2 => ?_⟩⟩
      have T2 := T.grow gr
      have B2 := bd_ncx (P := PW) (wd := wd) (G := (GG K mg)) (base := base2) (N := ["place", "self", "shift"]) (outer := outer2) (H := H2) (E := E2) (by decide) hr2
      exact (s_meth (d_Carpet_sign T2) B2.eK B2.eM B2.tk B2.rm (by decide) (vr 1) (a_cons (s_tup (a_cons (B2.sub (B2.ix (k_of (vr 0)) s_int) (B2.ix (k_of (vr 2)) s_int)) (a_cons (B2.sub (B2.ix (k_of (vr 0)) s_int) (B2.ix (k_of (vr 2)) s_int)) a_nil))) a_nil)))))
    (ss_cons (ss_ret (B.make (d_Carpet_init T) (a_cons (B.fld m_a T.f_a (vr 2)) (a_cons (B.fld m_b T.f_b (vr 2)) (a_cons (B.fld m_d T.f_d (vr 2)) (a_cons (vr 3) a_nil))))))
    ss_nil))))
theorem d_Carpet_moved_by (T : Tx base wd K mg) : MethOk PW wd base (GG K mg) 13 6 "moved_by" 2 [] F_Carpet_moved_by := by
  obtain ⟨fd, F⟩ := T.D_Carpet_moved_by
  exact ⟨⟨_, _, fd, ["self", "shift"], [], [], T.c_Carpet, T.k_Carpet, T.h_Carpet_moved_by, run_Carpet_moved_by T F, (F.bindsN fun _ _ _ _ _ _ us hl => match us, hl with | [_, _], _ => rfl), .nil, fun _ => .nil⟩, show ("moved_by" : Str) ∉ fl 6 by decide⟩
/-! Carpet_normal -/
def g_Carpet_normal : Sm := (qSeq (qRet (fFld m_shape (fVar 0)))
    qNil)
def F_Carpet_normal : List T → M T := fnS 0 g_Carpet_normal
theorem sc_Carpet_normal : FnScope ["self"] ["self"] (defScope s_Carpet_normal) := ⟨rfl, rfl, rfl, by decide +kernel, rfl, by decide +kernel, by decide +kernel⟩
theorem run_Carpet_normal (T : Tx base wd K mg) {f : Addr} {fd : FuncData} {dv : List V} {kw : List (Str × V)} (F : FunD K "normal" "Carpet.normal" (defArgs s_Carpet_normal) (defBody s_Carpet_normal) (defScope s_Carpet_normal) dv kw f fd) : FnOk PW wd K mg base (L2.CX PW wd) 1 f fd ["self"] (spF (GG K mg) 1 (fnS 0 g_Carpet_normal)) :=
  fn_run (G := GG K mg) (k := 0) F sc_Carpet_normal rfl rfl fun cdv A outer s H E hr => by
    have B := bd_of (P := PW) (wd := wd) (G := GG K mg) (base := base) (cdv := cdv) (outer := outer) (H := H) (E := E) sc_Carpet_normal hr
    exact (ss_cons (ss_ret (B.fld m_shape T.f_shape (vr 0)))
    ss_nil)
theorem d_Carpet_normal (T : Tx base wd K mg) : MethOk PW wd base (GG K mg) 1 6 "normal" 1 [] F_Carpet_normal := by
  obtain ⟨fd, F⟩ := T.D_Carpet_normal
  exact ⟨⟨_, _, fd, ["self"], [], [], T.c_Carpet, T.k_Carpet, T.h_Carpet_normal, run_Carpet_normal T F, (F.bindsN fun _ _ _ _ _ _ us hl => match us, hl with | [_], _ => rfl), .nil, fun _ => .nil⟩, show ("normal" : Str) ∉ fl 6 by decide⟩
/-! _law_shift_right -/
def g__law_shift_right : Sm := (qSeq (qSet 4 (fMeth 6 F_Carpet_moved_by [] (fVar 0) [(fTup [(fVar 2), (fVar 3)])]))
    (qSeq (qSet 5 (fCall F__law_normal [] [(fCall F__law_moved [] [(fVar 1), (fVar 2), (fVar 3)])]))
    (qSeq (qIf (fOrB (fCmpB neT (fMeth 6 F_Carpet_normal [] (fVar 4) []) (fVar 5)) (fCmpB neT (fLst [(fFld m_a (fVar 4)), (fFld m_b (fVar 4)), (fFld m_d (fVar 4)), (fFld m_rows (fVar 4))]) (fB1 lisT (fVar 5)))) (qSeq (qRet (fC (.bl false)))
    qNil) qNil)
    (qSeq (qIf (fOrB (fCmpB neT (fun env => (fVar 4) env >>= fun x => (fVar 0) env >>= fun y => own2s 6 F_Carpet_eq x y) (fCall F__law_is_period [] [(fVar 1), (fVar 2), (fVar 3)])) (fCmpB neT (fMeth 6 F_Carpet_is_period [] (fVar 0) [(fTup [(fVar 2), (fVar 3)])]) (fun env => (fVar 4) env >>= fun x => (fVar 0) env >>= fun y => own2s 6 F_Carpet_eq x y))) (qSeq (qRet (fC (.bl false)))
    qNil) qNil)
    (qSeq (qRet (fAnd (fun env => (fMeth 6 F_Carpet_moved_by [] (fVar 4) [(fTup [(fBin subT (fC (.int 0)) (fVar 2)), (fBin subT (fC (.int 0)) (fVar 3))])]) env >>= fun x => (fVar 0) env >>= fun y => own2s 6 F_Carpet_eq x y) (fun env => (fMeth 6 F_Carpet_moved_by [] (fVar 4) [(fTup [(fC (.int 2)), (fC (.int 1))])]) env >>= fun x => (fMeth 6 F_Carpet_moved_by [] (fVar 0) [(fTup [(fBin addT (fVar 2) (fC (.int 2))), (fBin addT (fVar 3) (fC (.int 1)))])]) env >>= fun y => own2s 6 F_Carpet_eq x y)))
    qNil)))))
def F__law_shift_right : List T → M T := fnS 2 g__law_shift_right
theorem sc__law_shift_right : FnScope ["_law_carpet", "_law_told", "_law_x", "_law_y", "_law_later", "_law_due"] ["_law_carpet", "_law_told", "_law_x", "_law_y"] (defScope s__law_shift_right) := ⟨rfl, rfl, rfl, by decide +kernel, rfl, by decide +kernel, by decide +kernel⟩
theorem run__law_shift_right (T : Tx base wd K mg) {f : Addr} {fd : FuncData} {dv : List V} {kw : List (Str × V)} (F : FunD K "_law_shift_right" "_law_shift_right" (defArgs s__law_shift_right) (defBody s__law_shift_right) (defScope s__law_shift_right) dv kw f fd) : FnOk PW wd K mg base (L2.CX PW wd) 14 f fd ["_law_carpet", "_law_told", "_law_x", "_law_y"] (spF (GG K mg) 4 (fnS 2 g__law_shift_right)) :=
  fn_run (G := GG K mg) (k := 13) F sc__law_shift_right rfl rfl fun cdv A outer s H E hr => by
    have B := bd_of (P := PW) (wd := wd) (G := GG K mg) (base := base) (cdv := cdv) (outer := outer) (H := H) (E := E) sc__law_shift_right hr
    exact (ss_cons (B.set 4 (s_meth (d_Carpet_moved_by T) B.eK B.eM B.tk B.rm (by decide) (vr 0) (a_cons (s_tup (a_cons (vr 2) (a_cons (vr 3) a_nil))) a_nil)))
    (ss_cons (B.set 5 (B.call (d__law_normal T) (a_cons (B.call (d__law_moved T) (a_cons (vr 1) (a_cons (vr 2) (a_cons (vr 3) a_nil)))) a_nil)))
    (ss_cons (ss_if (w_t (w_or (B.neB (k_of (s_meth0 (d_Carpet_normal T) B.eK B.eM B.tk B.rm (by decide) (vr 4))) (k_of (vr 5))) (w_or1 (B.neB (k_of (s_lst (a_cons (B.fld m_a T.f_a (vr 4)) (a_cons (B.fld m_b T.f_b (vr 4)) (a_cons (B.fld m_d T.f_d (vr 4)) (a_cons (B.fld m_rows T.f_rows (vr 4)) a_nil)))))) (k_of (B.list T.m_list (k_of (vr 5)))))))) (ss_cons (ss_ret s_bl)
    ss_nil) ss_nil)
    (ss_cons (ss_if (w_t (w_or (B.neB (k_of (s_ownC (fun _ _ => rfl) (d_Carpet_eq T) B.eK B.eM B.rm (by decide) (vr 4) (vr 0) rfl)) (k_of (B.call (d__law_is_period T) (a_cons (vr 1) (a_cons (vr 2) (a_cons (vr 3) a_nil)))))) (w_or1 (B.neB (k_of (s_meth (d_Carpet_is_period T) B.eK B.eM B.tk B.rm (by decide) (vr 0) (a_cons (s_tup (a_cons (vr 2) (a_cons (vr 3) a_nil))) a_nil))) (k_of (s_ownC (fun _ _ => rfl) (d_Carpet_eq T) B.eK B.eM B.rm (by decide) (vr 4) (vr 0) rfl)))))) (ss_cons (ss_ret s_bl)
    ss_nil) ss_nil)
    (ss_cons (ss_ret (s_and (s_ownC (fun _ _ => rfl) (d_Carpet_eq T) B.eK B.eM B.rm (by decide) (s_meth (d_Carpet_moved_by T) B.eK B.eM B.tk B.rm (by decide) (vr 4) (a_cons (s_tup (a_cons (B.sub s_int (vr 2)) (a_cons (B.sub s_int (vr 3)) a_nil))) a_nil)) (vr 0) rfl) (s_one (s_ownC (fun _ _ => rfl) (d_Carpet_eq T) B.eK B.eM B.rm (by decide) (s_meth (d_Carpet_moved_by T) B.eK B.eM B.tk B.rm (by decide) (vr 4) (a_cons (s_tup (a_cons s_int (a_cons s_int a_nil))) a_nil)) (s_meth (d_Carpet_moved_by T) B.eK B.eM B.tk B.rm (by decide) (vr 0) (a_cons (s_tup (a_cons (B.add (vr 2) s_int) (a_cons (B.add (vr 3) s_int) a_nil))) a_nil)) rfl))))
    ss_nil)))))
theorem d__law_shift_right (T : Tx base wd K mg) : DefOk PW wd base (GG K mg) 14 "_law_shift_right" 4 [] F__law_shift_right := by
  obtain ⟨fd, F⟩ := T.D__law_shift_right
  exact ⟨_, fd, ["_law_carpet", "_law_told", "_law_x", "_law_y"], [], [], run__law_shift_right T F, T.c__law_shift_right, F.kp, (F.bindsN fun _ _ _ _ _ _ us hl => match us, hl with | [_, _, _, _], _ => rfl), .nil, fun _ => .nil⟩
/-! _law_three -/
def g__law_three : Sm := (qSeq (qSet 2 (fBin addT (fC (.int 1)) (fCall F__law_draw [] [(fVar 0), (fVar 1)])))
    (qSeq (qRet (fLst [(fVar 2), (fCall F__law_draw [] [(fVar 0), (fVar 2)]), (fBin addT (fC (.int 1)) (fCall F__law_draw [] [(fVar 0), (fVar 1)]))]))
    qNil))
def F__law_three : List T → M T := fnS 1 g__law_three
theorem sc__law_three : FnScope ["_law_pool", "_law_most", "_law_wide"] ["_law_pool", "_law_most"] (defScope s__law_three) := ⟨rfl, rfl, rfl, by decide +kernel, rfl, by decide +kernel, by decide +kernel⟩
theorem run__law_three (T : Tx base wd K mg) {f : Addr} {fd : FuncData} {dv : List V} {kw : List (Str × V)} (F : FunD K "_law_three" "_law_three" (defArgs s__law_three) (defBody s__law_three) (defScope s__law_three) dv kw f fd) : FnOk PW wd K mg base (L2.CX PW wd) 2 f fd ["_law_pool", "_law_most"] (spF (GG K mg) 2 (fnS 1 g__law_three)) :=
  fn_run (G := GG K mg) (k := 1) F sc__law_three rfl rfl fun cdv A outer s H E hr => by
    have B := bd_of (P := PW) (wd := wd) (G := GG K mg) (base := base) (cdv := cdv) (outer := outer) (H := H) (E := E) sc__law_three hr
    exact (ss_cons (B.set 2 (B.add s_int (B.call (d__law_draw T) (a_cons (vr 0) (a_cons (vr 1) a_nil)))))
    (ss_cons (ss_ret (s_lst (a_cons (vr 2) (a_cons (B.call (d__law_draw T) (a_cons (vr 0) (a_cons (vr 2) a_nil))) (a_cons (B.add s_int (B.call (d__law_draw T) (a_cons (vr 0) (a_cons (vr 1) a_nil)))) a_nil)))))
    ss_nil))
theorem d__law_three (T : Tx base wd K mg) : DefOk PW wd base (GG K mg) 2 "_law_three" 2 [] F__law_three := by
  obtain ⟨fd, F⟩ := T.D__law_three
  exact ⟨_, fd, ["_law_pool", "_law_most"], [], [], run__law_three T F, T.c__law_three, F.kp, (F.bindsN fun _ _ _ _ _ _ us hl => match us, hl with | [_, _], _ => rfl), .nil, fun _ => .nil⟩
/-! law -/
def g_law : Sm := (qSeq (qFor (fRng1 (fBin max2T (fC (.int 1)) (fBin min2T (fC (.int 2)) (fB1 lenT (fVar 0))))) (hName 1) (qSeq (qSet 2 (fCall F__law_opened [] [(fVar 0), (fVar 1)]))
    (qSeq (qSet 3 (fCall F__law_three [] [(fVar 2), (fCall F__law_pick [] [(fVar 2), (fLst [(fC (.int 1)), (fC (.int 2)), (fC (.int 3)), (fC (.int 4))])])]))
    (qSeq (qSet 4 (fLst [(fVar 3), (fCall F__law_rows [] [(fVar 2), (fVar 3)])]))
    (qSeq (qSet 5 (fCall F__law_pick [] [(fVar 2), (fLst [(fVar 4), (fCall F__law_coarser [] [(fVar 2), (fVar 4)])])]))
    (qSeq (qSet 6 (fCall F__law_made [] [(fVar 5)]))
    (qSeq (qFor (fRng1 (fC (.int 4))) (hName 7) (qSeq (qAsg (fTup [(fCall F__law_pick [] [(fVar 2), (fLst [(fCall F__law_int [] [(fVar 2)]), (fBin subT (fCall F__law_draw [] [(fVar 2), (fC (.int 7))]) (fC (.int 3)))])]), (fBin subT (fCall F__law_draw [] [(fVar 2), (fC (.int 7))]) (fC (.int 3)))]) (hTupL 2 (hCons (hName 14) (hCons (hName 12) hNil))))
    (qSeq (qIf (fNotB (fTru (fCall F__law_shift_right [] [(fVar 6), (fVar 5), (fVar 14), (fVar 12)]))) (qSeq (qRet (fC (.bl false)))
    qNil) qNil)
    qNil)))
    (qSeq (qAsg (fCall F__law_least [] [(fVar 5)]) (hTupL 3 (hCons (hName 8) (hCons (hName 9) (hCons (hName 10) hNil)))))
    (qSeq (qIf (fNotB (fTru (fCall F__law_shift_right [] [(fVar 6), (fVar 5), (fBin subT (fBin mulT (fVar 9) (fBin powT (fC (.int 10)) (fC (.int 12)))) (fVar 8)), (fBin mulT (fVar 10) (fBin powT (fC (.int 10)) (fC (.int 12))))]))) (qSeq (qRet (fC (.bl false)))
    qNil) qNil)
    (qSeq (qSet 11 (fLst []))
    (qSeq (qFor (fRng1 (fVar 10)) (hName 12) (qSeq (qSet 11 (fBin addT (fVar 11) (fOwn (fComp [14] (hName 14) fYes (fMeth 6 F_Carpet_normal [] (fMeth 6 F_Carpet_moved_by [] (fVar 6) [(fTup [(fVar 14), (fVar 12)])]) []) (fRng1 (fVar 8))))))
    qNil))
    (qSeq (qIf (fCmpB neT (fOwn (fComp [15] (hName 15) (fCmpB inT (fIx (fVar 11) (fVar 15)) (fSl (fVar 11) none (some (fVar 15)))) (fVar 15) (fRng1 (fB1 lenT (fVar 11))))) (fLst [])) (qSeq (qRet (fC (.bl false)))
    qNil) qNil)
    (qSeq (qFor (fIter (fLst [(fC .non), (fTup [(fC (.int 1))]), (fLst [(fC (.int 0)), (fC (.int 0))]), (fTup [(fC (.bl true)), (fC (.int 0))]), (fC (.str "00"))])) (hName 13) (qSeq (qIf (fCmpB neT (fun env => heardS 2 hs__law_refused rest__law_refused ((fMeth 6 F_Carpet_moved_by [] (fVar 6) [(fVar 13)]) env)) (fLst [(fC (.str "part")), (fC (.str "shift"))])) (qSeq (qRet (fC (.bl false)))
    qNil) qNil)
    qNil))
    qNil)))))))))))))
    (qSeq (qRet (fC (.bl true)))
    qNil))
def F_law : List T → M T := fnS 15 g_law
theorem sc_law : FnScope ["_law_script", "_law_k", "_law_pool", "_law_three_here", "_law_told", "_law_form", "_law_carpet", "_law_step", "_law_a", "_law_b", "_law_d", "_law_forms", "_law_y", "_law_odd", "_law_x", "_law_at"] ["_law_script"] (defScope s_law) := ⟨rfl, rfl, rfl, by decide +kernel, rfl, by decide +kernel, by decide +kernel⟩
theorem run_law (T : Tx base wd K mg) {fd : FuncData} {dv : List V} {kw : List (Str × V)} (F : FunD K "law" "law" (defArgs s_law) (defBody s_law) (defScope s_law) dv kw (ga K "law") fd) : FnOk PW wd K mg base (L2.CX PW wd) 17 (ga K "law") fd ["_law_script"] (spF (GG K mg) 1 (fnS 15 g_law)) :=
  T.D__law_refused.elim fun fd__law_refused F_heard__law_refused =>
  fn_runC (G := GG K mg) (k := 16) F sc_law rfl rfl fun cdv A outer s H E ecd hr => by
    have B := bd_of (P := PW) (wd := wd) (G := GG K mg) (base := base) (cdv := cdv) (outer := outer) (H := H) (E := E) sc_law hr
    have hq : (cxB PW wd (GG K mg) base ["_law_script", "_law_k", "_law_pool", "_law_three_here", "_law_told", "_law_form", "_law_carpet", "_law_step", "_law_a", "_law_b", "_law_d", "_law_forms", "_law_y", "_law_odd", "_law_x", "_law_at"] "law" s_law (ga K "law") cdv A outer s H E).env.qual = "law" ++ ".<locals>." := rfl
    exact (ss_cons (ss_for po_of B.calm (i_range1 rfl (by rw [B.eM]; exact T.m_range) (B.max2 T.m_max s_int (B.min2 T.m_min s_int (B.len T.m_len (k_of (vr 0)))))) (B.nm 1) (ss_cons (B.set 2 (B.call (d__law_opened T) (a_cons (vr 0) (a_cons (vr 1) a_nil))))
    (ss_cons (B.set 3 (B.call (d__law_three T) (a_cons (vr 2) (a_cons (B.call (d__law_pick T) (a_cons (vr 2) (a_cons (s_lst (a_cons s_int (a_cons s_int (a_cons s_int (a_cons s_int a_nil))))) a_nil))) a_nil))))
    (ss_cons (B.set 4 (s_lst (a_cons (vr 3) (a_cons (B.call (d__law_rows T) (a_cons (vr 2) (a_cons (vr 3) a_nil))) a_nil))))
    (ss_cons (B.set 5 (B.call (d__law_pick T) (a_cons (vr 2) (a_cons (s_lst (a_cons (vr 4) (a_cons (B.call (d__law_coarser T) (a_cons (vr 2) (a_cons (vr 4) a_nil))) a_nil))) a_nil))))
    (ss_cons (B.set 6 (B.call (d__law_made T) (a_cons (vr 5) a_nil)))
    (ss_cons (ss_for po_of B.calm (i_range1 rfl (by rw [B.eM]; exact T.m_range) s_int) (B.nm 7) (ss_cons (ss_asg (s_tup (a_cons (B.call (d__law_pick T) (a_cons (vr 2) (a_cons (s_lst (a_cons (B.call (d__law_int T) (a_cons (vr 2) a_nil)) (a_cons (B.sub (B.call (d__law_draw T) (a_cons (vr 2) (a_cons s_int a_nil))) s_int) a_nil))) a_nil))) (a_cons (B.sub (B.call (d__law_draw T) (a_cons (vr 2) (a_cons s_int a_nil))) s_int) a_nil))) (B.tl 2 (gs_cons (B.nm 14) (gs_cons (B.nm 12) gs_nil))))
    (ss_cons (ss_if (w_not (B.tru (B.call (d__law_shift_right T) (a_cons (vr 6) (a_cons (vr 5) (a_cons (vr 14) (a_cons (vr 12) a_nil))))))) (ss_cons (ss_ret s_bl)
    ss_nil) ss_nil)
    ss_nil)))
    (ss_cons (ss_asg (B.call (d__law_least T) (a_cons (vr 5) a_nil)) (B.tl 3 (gs_cons (B.nm 8) (gs_cons (B.nm 9) (gs_cons (B.nm 10) gs_nil)))))
    (ss_cons (ss_if (w_not (B.tru (B.call (d__law_shift_right T) (a_cons (vr 6) (a_cons (vr 5) (a_cons (B.sub (B.mul (vr 9) (B.pow s_int s_int)) (vr 8)) (a_cons (B.mul (vr 10) (B.pow s_int s_int)) a_nil))))))) (ss_cons (ss_ret s_bl)
    ss_nil) ss_nil)
    (ss_cons (B.set 11 (s_lst a_nil))
    (ss_cons (ss_for po_of B.calm (i_range1 rfl (by rw [B.eM]; exact T.m_range) (vr 10)) (B.nm 12) (ss_cons (B.set 11 (B.add (vr 11) (s_own (B.comp [("_law_x", 14)] (i_range1 rfl (by rw [B.eM]; exact T.m_range) (vr 8)) (fun _ _ _ _ _ => ((B.blk _ _ _ _ _).nm 14)) (fun _ _ _ _ _ => ts_nil) (fun _ _ _ _ _ => (s_meth0 (d_Carpet_normal T) (B.blk _ _ _ _ _).eK (B.blk _ _ _ _ _).eM (B.blk _ _ _ _ _).tk (B.blk _ _ _ _ _).rm (by decide) (s_meth (d_Carpet_moved_by T) (B.blk _ _ _ _ _).eK (B.blk _ _ _ _ _).eM (B.blk _ _ _ _ _).tk (B.blk _ _ _ _ _).rm (by decide) (vr 6) (a_cons (s_tup (a_cons (vr 14) (a_cons (vr 12) a_nil))) a_nil))))))))
    ss_nil))
    (ss_cons (ss_if (B.neB (k_of (s_own (B.comp [("_law_at", 15)] (i_range1 rfl (by rw [B.eM]; exact T.m_range) (B.len T.m_len (k_of (vr 11)))) (fun _ _ _ _ _ => ((B.blk _ _ _ _ _).nm 15)) (fun _ _ _ _ _ => (ts_one ((B.blk _ _ _ _ _).inB (k_of ((B.blk _ _ _ _ _).ix (k_of (vr 11)) (vr 15))) (k_of ((B.blk _ _ _ _ _).sl (k_of (vr 11)) o_none (o_some (vr 15))))))) (fun _ _ _ _ _ => (vr 15))))) (k_of (s_lst a_nil))) (ss_cons (ss_ret s_bl)
    ss_nil) ss_nil)
    (ss_cons (ss_for po_of B.calm (i_seq B.eK (s_lst (a_cons s_non (a_cons (s_tup (a_cons s_int a_nil)) (a_cons (s_lst (a_cons s_int (a_cons s_int a_nil))) (a_cons (s_tup (a_cons s_bl (a_cons s_int a_nil))) (a_cons s_str a_nil))))))) (B.nm 13) (ss_cons (ss_if (B.neB (k_of (s_lamQ (k := 14) ("law" ++ ".<locals>.") B.eK B.eM rfl T.c__law_refused F_heard__law_refused (F_heard__law_refused.bindsN fun _ _ _ _ _ _ us hl => match us, hl with | [_], _ => rfl) sc__law_refused rfl (Or.inl rfl) rfl rfl (by decide) (fun _ _ _ => hg__law_refused T) (fun _ _ _ => hr__law_refused T) T.tb_law (ecd.trans T.cd_law) hq (tb_mem_law K) T.tb_nd (B.rm.mono (by decide)) (by kernel_rfl) B.tk (fun A2 outer2 s2 H2 E2 f2 c2 hr2 => by
      have B2 := bd_lam (j := 14) (E := E2) (outer := outer2) (s := s2) (H := H2) B.nd B.eK B.eM hr2
      exact (s_meth (d_Carpet_moved_by T) B2.eK B2.eM B2.tk B2.rm (by decide) (vr 6) (a_cons (vr 13) a_nil))))) (k_of (s_lst (a_cons s_str (a_cons s_str a_nil))))) (ss_cons (ss_ret s_bl)
    ss_nil) ss_nil)
    ss_nil))
    ss_nil)))))))))))))
    (ss_cons (ss_ret s_bl)
    ss_nil))
end
def fa : List Fa := [
  .free "all",
  .free "bool",
  .free "enumerate",
  .free "int",
  .free "isinstance",
  .free "len",
  .free "list",
  .free "max",
  .free "min",
  .free "range",
  .free "repr",
  .free "str",
  .free "tuple",
  .glo "BadIndex",
  .glo "BadNumber",
  .glo "BadPart",
  .glo "Carpet",
  .glo "Lattice",
  .glo "NotSo",
  .glo "TooMany",
  .glo "_law_refused",
  .int "MOST_CELLS" 144,
  .str "FIGURES" "0123456789",
  .cls "Carpet",
  .noat "Carpet" "a",
  .noat "Carpet" "b",
  .noat "Carpet" "d",
  .noat "Carpet" "rows",
  .noat "Carpet" "basis",
  .noat "Carpet" "shape",
  .cls "Lattice",
  .noat "Lattice" "a",
  .noat "Lattice" "b",
  .noat "Lattice" "d",
  .mkr "Carpet",
  .mkr "Lattice",
  .glo "_law_place",
  .glo "_law_colour",
  .glo "_law_draw",
  .glo "_law_pick",
  .glo "_law_coarser",
  .glo "_law_int",
  .glo "_law_is_period",
  .glo "_law_least",
  .glo "is_integer",
  .glo "is_between",
  .glo "check_basis",
  .glo "is_list",
  .glo "is_row",
  .glo "check_rows",
  .glo "check_size",
  .glo "divisors_of",
  .glo "is_shift",
  .glo "check_cell",
  .meth "Lattice" "place",
  .glo "sign_at",
  .meth "Lattice" "places",
  .glo "is_period_of",
  .glo "level_period",
  .glo "least_lattice",
  .glo "normal_rows",
  .glo "_law_made",
  .glo "_law_opened",
  .glo "_law_rows",
  .glo "_law_moved",
  .glo "_law_normal",
  .meth "Carpet" "__eq__",
  .glo "check_shift",
  .meth "Lattice" "__contains__",
  .meth "Carpet" "is_period",
  .meth "Carpet" "lattice",
  .meth "Carpet" "sign",
  .glo "rows_by",
  .meth "Carpet" "moved_by",
  .meth "Carpet" "normal",
  .glo "_law_shift_right",
  .glo "_law_three",
  .glo "law"]
def fns : List DefD := [
  { at_ := ("_law_place", none), name := "_law_place", qual := "_law_place", params := defArgs s__law_place, body := defBody s__law_place, scope := defScope s__law_place, dfl := [] },
  { at_ := ("_law_colour", none), name := "_law_colour", qual := "_law_colour", params := defArgs s__law_colour, body := defBody s__law_colour, scope := defScope s__law_colour, dfl := [] },
  { at_ := ("_law_draw", none), name := "_law_draw", qual := "_law_draw", params := defArgs s__law_draw, body := defBody s__law_draw, scope := defScope s__law_draw, dfl := [] },
  { at_ := ("_law_pick", none), name := "_law_pick", qual := "_law_pick", params := defArgs s__law_pick, body := defBody s__law_pick, scope := defScope s__law_pick, dfl := [] },
  { at_ := ("_law_coarser", none), name := "_law_coarser", qual := "_law_coarser", params := defArgs s__law_coarser, body := defBody s__law_coarser, scope := defScope s__law_coarser, dfl := [] },
  { at_ := ("_law_int", none), name := "_law_int", qual := "_law_int", params := defArgs s__law_int, body := defBody s__law_int, scope := defScope s__law_int, dfl := [] },
  { at_ := ("_law_is_period", none), name := "_law_is_period", qual := "_law_is_period", params := defArgs s__law_is_period, body := defBody s__law_is_period, scope := defScope s__law_is_period, dfl := [] },
  { at_ := ("_law_least", none), name := "_law_least", qual := "_law_least", params := defArgs s__law_least, body := defBody s__law_least, scope := defScope s__law_least, dfl := [] },
  { at_ := ("is_integer", none), name := "is_integer", qual := "is_integer", params := defArgs s_is_integer, body := defBody s_is_integer, scope := defScope s_is_integer, dfl := [] },
  { at_ := ("is_between", none), name := "is_between", qual := "is_between", params := defArgs s_is_between, body := defBody s_is_between, scope := defScope s_is_between, dfl := [] },
  { at_ := ("check_basis", none), name := "check_basis", qual := "check_basis", params := defArgs s_check_basis, body := defBody s_check_basis, scope := defScope s_check_basis, dfl := [] },
  { at_ := ("is_list", none), name := "is_list", qual := "is_list", params := defArgs s_is_list, body := defBody s_is_list, scope := defScope s_is_list, dfl := [] },
  { at_ := ("is_row", none), name := "is_row", qual := "is_row", params := defArgs s_is_row, body := defBody s_is_row, scope := defScope s_is_row, dfl := [] },
  { at_ := ("check_rows", none), name := "check_rows", qual := "check_rows", params := defArgs s_check_rows, body := defBody s_check_rows, scope := defScope s_check_rows, dfl := [] },
  { at_ := ("check_size", none), name := "check_size", qual := "check_size", params := defArgs s_check_size, body := defBody s_check_size, scope := defScope s_check_size, dfl := [] },
  { at_ := ("divisors_of", none), name := "divisors_of", qual := "divisors_of", params := defArgs s_divisors_of, body := defBody s_divisors_of, scope := defScope s_divisors_of, dfl := [] },
  { at_ := ("is_shift", none), name := "is_shift", qual := "is_shift", params := defArgs s_is_shift, body := defBody s_is_shift, scope := defScope s_is_shift, dfl := [] },
  { at_ := ("check_cell", none), name := "check_cell", qual := "check_cell", params := defArgs s_check_cell, body := defBody s_check_cell, scope := defScope s_check_cell, dfl := [] },
  { at_ := ("Lattice", some "place"), name := "place", qual := "Lattice.place", params := defArgs s_Lattice_place, body := defBody s_Lattice_place, scope := defScope s_Lattice_place, dfl := [] },
  { at_ := ("sign_at", none), name := "sign_at", qual := "sign_at", params := defArgs s_sign_at, body := defBody s_sign_at, scope := defScope s_sign_at, dfl := [] },
  { at_ := ("Lattice", some "places"), name := "places", qual := "Lattice.places", params := defArgs s_Lattice_places, body := defBody s_Lattice_places, scope := defScope s_Lattice_places, dfl := [] },
  { at_ := ("is_period_of", none), name := "is_period_of", qual := "is_period_of", params := defArgs s_is_period_of, body := defBody s_is_period_of, scope := defScope s_is_period_of, dfl := [] },
  { at_ := ("level_period", none), name := "level_period", qual := "level_period", params := defArgs s_level_period, body := defBody s_level_period, scope := defScope s_level_period, dfl := [] },
  { at_ := ("Lattice", some "__init__"), name := "__init__", qual := "Lattice.__init__", params := defArgs s_Lattice_init, body := defBody s_Lattice_init, scope := defScope s_Lattice_init, dfl := [] },
  { at_ := ("least_lattice", none), name := "least_lattice", qual := "least_lattice", params := defArgs s_least_lattice, body := defBody s_least_lattice, scope := defScope s_least_lattice, dfl := [] },
  { at_ := ("normal_rows", none), name := "normal_rows", qual := "normal_rows", params := defArgs s_normal_rows, body := defBody s_normal_rows, scope := defScope s_normal_rows, dfl := [] },
  { at_ := ("Carpet", some "__init__"), name := "__init__", qual := "Carpet.__init__", params := defArgs s_Carpet_init, body := defBody s_Carpet_init, scope := defScope s_Carpet_init, dfl := [] },
  { at_ := ("_law_made", none), name := "_law_made", qual := "_law_made", params := defArgs s__law_made, body := defBody s__law_made, scope := defScope s__law_made, dfl := [] },
  { at_ := ("_law_opened", none), name := "_law_opened", qual := "_law_opened", params := defArgs s__law_opened, body := defBody s__law_opened, scope := defScope s__law_opened, dfl := [] },
  { at_ := ("_law_rows", none), name := "_law_rows", qual := "_law_rows", params := defArgs s__law_rows, body := defBody s__law_rows, scope := defScope s__law_rows, dfl := [] },
  { at_ := ("_law_moved", none), name := "_law_moved", qual := "_law_moved", params := defArgs s__law_moved, body := defBody s__law_moved, scope := defScope s__law_moved, dfl := [] },
  { at_ := ("_law_normal", none), name := "_law_normal", qual := "_law_normal", params := defArgs s__law_normal, body := defBody s__law_normal, scope := defScope s__law_normal, dfl := [] },
  { at_ := ("Carpet", some "__eq__"), name := "__eq__", qual := "Carpet.__eq__", params := defArgs s_Carpet_eq, body := defBody s_Carpet_eq, scope := defScope s_Carpet_eq, dfl := [] },
  { at_ := ("check_shift", none), name := "check_shift", qual := "check_shift", params := defArgs s_check_shift, body := defBody s_check_shift, scope := defScope s_check_shift, dfl := [] },
  { at_ := ("Lattice", some "__contains__"), name := "__contains__", qual := "Lattice.__contains__", params := defArgs s_Lattice_contains, body := defBody s_Lattice_contains, scope := defScope s_Lattice_contains, dfl := [] },
  { at_ := ("Carpet", some "is_period"), name := "is_period", qual := "Carpet.is_period", params := defArgs s_Carpet_is_period, body := defBody s_Carpet_is_period, scope := defScope s_Carpet_is_period, dfl := [] },
  { at_ := ("Carpet", some "lattice"), name := "lattice", qual := "Carpet.lattice", params := defArgs s_Carpet_lattice, body := defBody s_Carpet_lattice, scope := defScope s_Carpet_lattice, dfl := [] },
  { at_ := ("Carpet", some "sign"), name := "sign", qual := "Carpet.sign", params := defArgs s_Carpet_sign, body := defBody s_Carpet_sign, scope := defScope s_Carpet_sign, dfl := [] },
  { at_ := ("rows_by", none), name := "rows_by", qual := "rows_by", params := defArgs s_rows_by, body := defBody s_rows_by, scope := defScope s_rows_by, dfl := [] },
  { at_ := ("Carpet", some "moved_by"), name := "moved_by", qual := "Carpet.moved_by", params := defArgs s_Carpet_moved_by, body := defBody s_Carpet_moved_by, scope := defScope s_Carpet_moved_by, dfl := [] },
  { at_ := ("Carpet", some "normal"), name := "normal", qual := "Carpet.normal", params := defArgs s_Carpet_normal, body := defBody s_Carpet_normal, scope := defScope s_Carpet_normal, dfl := [] },
  { at_ := ("_law_shift_right", none), name := "_law_shift_right", qual := "_law_shift_right", params := defArgs s__law_shift_right, body := defBody s__law_shift_right, scope := defScope s__law_shift_right, dfl := [] },
  { at_ := ("_law_three", none), name := "_law_three", qual := "_law_three", params := defArgs s__law_three, body := defBody s__law_three, scope := defScope s__law_three, dfl := [] },
  { at_ := ("law", none), name := "law", qual := "law", params := defArgs s_law, body := defBody s_law, scope := defScope s_law, dfl := [] },
  { at_ := ("_law_refused", none), name := "_law_refused", qual := "_law_refused", params := defArgs s__law_refused, body := defBody s__law_refused, scope := defScope s__law_refused, dfl := [] }]
def chk (K : PySem.W.Frag) : List Bool := [
  tabB K cn tabR,
  decide (PySem.W.findIn K (.ref (ga K "Carpet")) "__ne__" = some (some (.builtin "object.__ne__"))),
  decide (PySem.W.mroIn K (ga K "Carpet") (.type "object") = some true),
  PySem.W.selfFirst K (ga K "Carpet"),
  (supL SupX.xVE PW K (ga K "BadIndex") "BadIndex.__init__" "index").all id,
  (supL SupX.xVE PW K (ga K "BadPart") "BadPart.__init__" "part").all id,
  (supL SupX.xOE PW K (ga K "TooMany") "TooMany.__init__" "limit").all id,
  xmB K cn "BadIndex" xr_BadIndex,
  xmB K cn "BadNumber" xr_BadNumber,
  xmB K cn "BadPart" xr_BadPart,
  xmB K cn "NotSo" xr_NotSo,
  xmB K cn "TooMany" xr_TooMany,
  (xgL K (ga K (cn 2)) "index").all id,
  (xgL K (ga K (cn 4)) "limit").all id,
  (xgL K (ga K (cn 1)) "number").all id,
  (xgL K (ga K (cn 0)) "part").all id,
  (xgL K (ga K (cn 3)) "word").all id,
  tabC K "law",
  tabMC K "Carpet" "moved_by",
  decide ((tb K).map (·.1)).Nodup]
theorem chk_at {K : PySem.W.Frag} (h : (chk K).all id = true) (i : Nat) {b : Bool} (e : (chk K)[i]? = some b := by rfl) : b = true := List.all_eq_true.mp h b (List.mem_of_getElem? e)
def cs (K : PySem.W.Frag) : List (Addr × Addr) := [tabW K "law", tabM K "Carpet" "moved_by"]
def ms (K : PySem.W.Frag) : List Addr := [(tabM K "Carpet" "moved_by").2]
theorem tx_of {base : Heap} {wd : World} {K : PySem.W.Frag} {h : Heap} {mg : Str → Option Value} (KX : K.In h) (Ns : h.Ns mainGlobals mg) (c : SaysD fa fns K) (ck : (chk K).all id = true)  (e_BadIndex : supW K (ma K (ga K "BadIndex") "__init__") = supV "BadIndex.__init__" s_BadIndex_init) (e_BadPart : supW K (ma K (ga K "BadPart") "__init__") = supV "BadPart.__init__" s_BadPart_init) (e_TooMany : supW K (ma K (ga K "TooMany") "__init__") = supV "TooMany.__init__" s_TooMany_init) (TB : ∀ p ∈ cs K, LamX.TabB base mg p.1 p.2) : Tx base wd K mg := by
  have c_BadIndex : mg "BadIndex" = some (.ref (ga K "BadIndex")) := glo_ok KX Ns (c.fact 13)
  have c_BadNumber : mg "BadNumber" = some (.ref (ga K "BadNumber")) := glo_ok KX Ns (c.fact 14)
  have c_BadPart : mg "BadPart" = some (.ref (ga K "BadPart")) := glo_ok KX Ns (c.fact 15)
  have c_Carpet : mg "Carpet" = some (.ref (ga K "Carpet")) := glo_ok KX Ns (c.fact 16)
  have c_Lattice : mg "Lattice" = some (.ref (ga K "Lattice")) := glo_ok KX Ns (c.fact 17)
  have c_NotSo : mg "NotSo" = some (.ref (ga K "NotSo")) := glo_ok KX Ns (c.fact 18)
  have c_TooMany : mg "TooMany" = some (.ref (ga K "TooMany")) := glo_ok KX Ns (c.fact 19)
  have hc : ∀ C cA, mg (cn C) = some (.ref cA) → cA = ga K (cn C) := fun C cA h => match C, h with
    | 0, h => (Value.ref.inj (Option.some.inj (h.symm.trans c_BadPart)))
    | 1, h => (Value.ref.inj (Option.some.inj (h.symm.trans c_BadNumber)))
    | 2, h => (Value.ref.inj (Option.some.inj (h.symm.trans c_BadIndex)))
    | 3, h => (Value.ref.inj (Option.some.inj (h.symm.trans c_NotSo)))
    | 4, h => (Value.ref.inj (Option.some.inj (h.symm.trans c_TooMany)))
    | 5, h => (Value.ref.inj (Option.some.inj (h.symm.trans c_Lattice)))
    | 6, h => (Value.ref.inj (Option.some.inj (h.symm.trans c_Carpet)))
    | _ + 7, h => (Value.ref.inj (Option.some.inj (h.symm.trans c_BadPart)))
  exact {
    m_all := free_ok KX Ns (c.fact 0)
    m_bool := free_ok KX Ns (c.fact 1)
    m_enumerate := free_ok KX Ns (c.fact 2)
    m_int := free_ok KX Ns (c.fact 3)
    m_isinstance := free_ok KX Ns (c.fact 4)
    m_len := free_ok KX Ns (c.fact 5)
    m_list := free_ok KX Ns (c.fact 6)
    m_max := free_ok KX Ns (c.fact 7)
    m_min := free_ok KX Ns (c.fact 8)
    m_range := free_ok KX Ns (c.fact 9)
    m_repr := free_ok KX Ns (c.fact 10)
    m_str := free_ok KX Ns (c.fact 11)
    m_tuple := free_ok KX Ns (c.fact 12)
    c_BadIndex := c_BadIndex
    c_BadNumber := c_BadNumber
    c_BadPart := c_BadPart
    c_Carpet := c_Carpet
    c_Lattice := c_Lattice
    c_NotSo := c_NotSo
    c_TooMany := c_TooMany
    hc := hc
    tab := tabB_ok (G := GG K mg) rfl hc (chk_at ck 0)
    i_MOST_CELLS := int_ok KX Ns (c.fact 21)
    z_FIGURES := str_ok KX Ns (c.fact 22)
    f_a := by
      intro C j h
      unfold m_a at h
      split at h
      · cases h; exact ⟨(show List.findIdx? (fun y => y == ("a" : Str)) (fl 5) = some 0 by decide), fun cA hA => by have e := hc 5 _ hA; subst e; exact ⟨cls_ok (c.fact 30), noat_ok (c.fact 31)⟩⟩
      · cases h; exact ⟨(show List.findIdx? (fun y => y == ("a" : Str)) (fl 6) = some 0 by decide), fun cA hA => by have e := hc 6 _ hA; subst e; exact ⟨cls_ok (c.fact 23), noat_ok (c.fact 24)⟩⟩
      · cases h
    f_b := by
      intro C j h
      unfold m_b at h
      split at h
      · cases h; exact ⟨(show List.findIdx? (fun y => y == ("b" : Str)) (fl 5) = some 1 by decide), fun cA hA => by have e := hc 5 _ hA; subst e; exact ⟨cls_ok (c.fact 30), noat_ok (c.fact 32)⟩⟩
      · cases h; exact ⟨(show List.findIdx? (fun y => y == ("b" : Str)) (fl 6) = some 1 by decide), fun cA hA => by have e := hc 6 _ hA; subst e; exact ⟨cls_ok (c.fact 23), noat_ok (c.fact 25)⟩⟩
      · cases h
    f_basis := by
      intro C j h
      unfold m_basis at h
      split at h
      · cases h; exact ⟨(show List.findIdx? (fun y => y == ("basis" : Str)) (fl 6) = some 4 by decide), fun cA hA => by have e := hc 6 _ hA; subst e; exact ⟨cls_ok (c.fact 23), noat_ok (c.fact 28)⟩⟩
      · cases h
    f_d := by
      intro C j h
      unfold m_d at h
      split at h
      · cases h; exact ⟨(show List.findIdx? (fun y => y == ("d" : Str)) (fl 5) = some 2 by decide), fun cA hA => by have e := hc 5 _ hA; subst e; exact ⟨cls_ok (c.fact 30), noat_ok (c.fact 33)⟩⟩
      · cases h; exact ⟨(show List.findIdx? (fun y => y == ("d" : Str)) (fl 6) = some 2 by decide), fun cA hA => by have e := hc 6 _ hA; subst e; exact ⟨cls_ok (c.fact 23), noat_ok (c.fact 26)⟩⟩
      · cases h
    f_rows := by
      intro C j h
      unfold m_rows at h
      split at h
      · cases h; exact ⟨(show List.findIdx? (fun y => y == ("rows" : Str)) (fl 6) = some 3 by decide), fun cA hA => by have e := hc 6 _ hA; subst e; exact ⟨cls_ok (c.fact 23), noat_ok (c.fact 27)⟩⟩
      · cases h
    f_shape := by
      intro C j h
      unfold m_shape at h
      split at h
      · cases h; exact ⟨(show List.findIdx? (fun y => y == ("shape" : Str)) (fl 6) = some 5 by decide), fun cA hA => by have e := hc 6 _ hA; subst e; exact ⟨cls_ok (c.fact 23), noat_ok (c.fact 29)⟩⟩
      · cases h
    n_Carpet_a := ⟨by rfl, (show ("a" : Str) ∉ (fl 6).take 0 by decide), (show (fl 6).length < 1000 by decide), fun cA hA => by have e := hc 6 _ hA; subst e; exact ⟨cls_ok (c.fact 23), noat_ok (c.fact 24)⟩⟩
    n_Carpet_b := ⟨by rfl, (show ("b" : Str) ∉ (fl 6).take 1 by decide), (show (fl 6).length < 1000 by decide), fun cA hA => by have e := hc 6 _ hA; subst e; exact ⟨cls_ok (c.fact 23), noat_ok (c.fact 25)⟩⟩
    n_Carpet_d := ⟨by rfl, (show ("d" : Str) ∉ (fl 6).take 2 by decide), (show (fl 6).length < 1000 by decide), fun cA hA => by have e := hc 6 _ hA; subst e; exact ⟨cls_ok (c.fact 23), noat_ok (c.fact 26)⟩⟩
    n_Carpet_rows := ⟨by rfl, (show ("rows" : Str) ∉ (fl 6).take 3 by decide), (show (fl 6).length < 1000 by decide), fun cA hA => by have e := hc 6 _ hA; subst e; exact ⟨cls_ok (c.fact 23), noat_ok (c.fact 27)⟩⟩
    n_Carpet_basis := ⟨by rfl, (show ("basis" : Str) ∉ (fl 6).take 4 by decide), (show (fl 6).length < 1000 by decide), fun cA hA => by have e := hc 6 _ hA; subst e; exact ⟨cls_ok (c.fact 23), noat_ok (c.fact 28)⟩⟩
    n_Carpet_shape := ⟨by rfl, (show ("shape" : Str) ∉ (fl 6).take 5 by decide), (show (fl 6).length < 1000 by decide), fun cA hA => by have e := hc 6 _ hA; subst e; exact ⟨cls_ok (c.fact 23), noat_ok (c.fact 29)⟩⟩
    n_Lattice_a := ⟨by rfl, (show ("a" : Str) ∉ (fl 5).take 0 by decide), (show (fl 5).length < 1000 by decide), fun cA hA => by have e := hc 5 _ hA; subst e; exact ⟨cls_ok (c.fact 30), noat_ok (c.fact 31)⟩⟩
    n_Lattice_b := ⟨by rfl, (show ("b" : Str) ∉ (fl 5).take 1 by decide), (show (fl 5).length < 1000 by decide), fun cA hA => by have e := hc 5 _ hA; subst e; exact ⟨cls_ok (c.fact 30), noat_ok (c.fact 32)⟩⟩
    n_Lattice_d := ⟨by rfl, (show ("d" : Str) ∉ (fl 5).take 2 by decide), (show (fl 5).length < 1000 by decide), fun cA hA => by have e := hc 5 _ hA; subst e; exact ⟨cls_ok (c.fact 30), noat_ok (c.fact 33)⟩⟩
    k_Carpet := cls_ok (c.fact 23)
    k_Lattice := cls_ok (c.fact 30)
    mk_Carpet := mkr_ok (c.fact 34)
    mk_Lattice := mkr_ok (c.fact 35)
    ne_Carpet := ⟨fun cA hA => by have e := hc 6 _ hA; subst e; exact ⟨of_decide_eq_true (chk_at ck 1), of_decide_eq_true (chk_at ck 2)⟩⟩
    sf_Carpet := fun cA hA => by have e := hc 6 _ hA; subst e; exact chk_at ck 3
    x_BadIndex := xc_of (G := GG K mg) rfl c_BadIndex e_BadIndex SupX.xVE_ok (chk_at ck 4) supt_BadIndex fok_BadIndex
    x_BadPart := xc_of (G := GG K mg) rfl c_BadPart e_BadPart SupX.xVE_ok (chk_at ck 5) supt_BadPart fok_BadPart
    x_TooMany := xc_of (G := GG K mg) rfl c_TooMany e_TooMany SupX.xOE_ok (chk_at ck 6) supt_TooMany fok_TooMany
    xm_BadIndex := xm_of hc (chk_at ck 7)
    xm_BadNumber := xm_of hc (chk_at ck 8)
    xm_BadPart := xm_of hc (chk_at ck 9)
    xm_NotSo := xm_of hc (chk_at ck 10)
    xm_TooMany := xm_of hc (chk_at ck 11)
    xg_index := fun c h => (by have e : c = 2 := (by simpa [xf_index] using h); subst e; exact xg_of (G := GG K mg) rfl (fun cA hA => hc 2 _ hA) (chk_at ck 12))
    xg_limit := fun c h => (by have e : c = 4 := (by simpa [xf_limit] using h); subst e; exact xg_of (G := GG K mg) rfl (fun cA hA => hc 4 _ hA) (chk_at ck 13))
    xg_number := fun c h => (by have e : c = 1 := (by simpa [xf_number] using h); subst e; exact xg_of (G := GG K mg) rfl (fun cA hA => hc 1 _ hA) (chk_at ck 14))
    xg_part := fun c h => (by have e : c = 0 := (by simpa [xf_part] using h); subst e; exact xg_of (G := GG K mg) rfl (fun cA hA => hc 0 _ hA) (chk_at ck 15))
    xg_word := fun c h => (by have e : c = 3 := (by simpa [xf_word] using h); subst e; exact xg_of (G := GG K mg) rfl (fun cA hA => hc 3 _ hA) (chk_at ck 16))
    tb_law := TB _ (by simp [cs])
    cd_law := (tab_ok (chk_at ck 17)).2.2
    tb_Carpet_moved_by := TB _ (by simp [cs])
    cd_Carpet_moved_by := (tabM_ok (chk_at ck 18)).2.2
    tb_nd := of_decide_eq_true (chk_at ck 19)
    c__law_refused := glo_ok KX Ns (c.fact 20)
    D__law_refused := c.def_ 44
    c__law_place := glo_ok KX Ns (c.fact 36)
    D__law_place := c.def_ 0
    c__law_colour := glo_ok KX Ns (c.fact 37)
    D__law_colour := c.def_ 1
    c__law_draw := glo_ok KX Ns (c.fact 38)
    D__law_draw := c.def_ 2
    c__law_pick := glo_ok KX Ns (c.fact 39)
    D__law_pick := c.def_ 3
    c__law_coarser := glo_ok KX Ns (c.fact 40)
    D__law_coarser := c.def_ 4
    c__law_int := glo_ok KX Ns (c.fact 41)
    D__law_int := c.def_ 5
    c__law_is_period := glo_ok KX Ns (c.fact 42)
    D__law_is_period := c.def_ 6
    c__law_least := glo_ok KX Ns (c.fact 43)
    D__law_least := c.def_ 7
    c_is_integer := glo_ok KX Ns (c.fact 44)
    D_is_integer := c.def_ 8
    c_is_between := glo_ok KX Ns (c.fact 45)
    D_is_between := c.def_ 9
    c_check_basis := glo_ok KX Ns (c.fact 46)
    D_check_basis := c.def_ 10
    c_is_list := glo_ok KX Ns (c.fact 47)
    D_is_list := c.def_ 11
    c_is_row := glo_ok KX Ns (c.fact 48)
    D_is_row := c.def_ 12
    c_check_rows := glo_ok KX Ns (c.fact 49)
    D_check_rows := c.def_ 13
    c_check_size := glo_ok KX Ns (c.fact 50)
    D_check_size := c.def_ 14
    c_divisors_of := glo_ok KX Ns (c.fact 51)
    D_divisors_of := c.def_ 15
    c_is_shift := glo_ok KX Ns (c.fact 52)
    D_is_shift := c.def_ 16
    c_check_cell := glo_ok KX Ns (c.fact 53)
    D_check_cell := c.def_ 17
    h_Lattice_place := meth_ok (c.fact 54)
    D_Lattice_place := c.def_ 18
    c_sign_at := glo_ok KX Ns (c.fact 55)
    D_sign_at := c.def_ 19
    h_Lattice_places := meth_ok (c.fact 56)
    D_Lattice_places := c.def_ 20
    c_is_period_of := glo_ok KX Ns (c.fact 57)
    D_is_period_of := c.def_ 21
    c_level_period := glo_ok KX Ns (c.fact 58)
    D_level_period := c.def_ 22
    D_Lattice_init := c.def_ 23
    c_least_lattice := glo_ok KX Ns (c.fact 59)
    D_least_lattice := c.def_ 24
    c_normal_rows := glo_ok KX Ns (c.fact 60)
    D_normal_rows := c.def_ 25
    D_Carpet_init := c.def_ 26
    c__law_made := glo_ok KX Ns (c.fact 61)
    D__law_made := c.def_ 27
    c__law_opened := glo_ok KX Ns (c.fact 62)
    D__law_opened := c.def_ 28
    c__law_rows := glo_ok KX Ns (c.fact 63)
    D__law_rows := c.def_ 29
    c__law_moved := glo_ok KX Ns (c.fact 64)
    D__law_moved := c.def_ 30
    c__law_normal := glo_ok KX Ns (c.fact 65)
    D__law_normal := c.def_ 31
    h_Carpet_eq := meth_ok (c.fact 66)
    D_Carpet_eq := c.def_ 32
    c_check_shift := glo_ok KX Ns (c.fact 67)
    D_check_shift := c.def_ 33
    h_Lattice_contains := meth_ok (c.fact 68)
    D_Lattice_contains := c.def_ 34
    h_Carpet_is_period := meth_ok (c.fact 69)
    D_Carpet_is_period := c.def_ 35
    h_Carpet_lattice := meth_ok (c.fact 70)
    D_Carpet_lattice := c.def_ 36
    h_Carpet_sign := meth_ok (c.fact 71)
    D_Carpet_sign := c.def_ 37
    c_rows_by := glo_ok KX Ns (c.fact 72)
    D_rows_by := c.def_ 38
    h_Carpet_moved_by := meth_ok (c.fact 73)
    D_Carpet_moved_by := c.def_ 39
    h_Carpet_normal := meth_ok (c.fact 74)
    D_Carpet_normal := c.def_ 40
    c__law_shift_right := glo_ok KX Ns (c.fact 75)
    D__law_shift_right := c.def_ 41
    c__law_three := glo_ok KX Ns (c.fact 76)
    D__law_three := c.def_ 42
    c_law := glo_ok KX Ns (c.fact 77)
    D_law := c.def_ 43
  }
end
end K13
namespace K13
section
variable {C : Int → Int → Nat}
def Per (C : Int → Int → Nat) (u v : Int) : Prop := ∀ x y, C (x + u) (y + v) = C x y
theorem Per.zero : Per C 0 0 := fun x y => by rw [Int.add_zero, Int.add_zero]
theorem Per.add {u v p q : Int} (h : Per C u v) (k : Per C p q) : Per C (u + p) (v + q) := fun x y => by
  rw [← Int.add_assoc, ← Int.add_assoc, k, h]
theorem Per.neg {u v : Int} (h : Per C u v) : Per C (-u) (-v) := fun x y => by
  have := h (x + -u) (y + -v)
  rw [show x + -u + u = x by omega, show y + -v + v = y by omega] at this
  exact this.symm
theorem Per.sub {u v p q : Int} (h : Per C u v) (k : Per C p q) : Per C (u - p) (v - q) := by
  have := h.add k.neg
  rw [show u - p = u + -p by omega, show v - q = v + -q by omega]
  exact this
theorem Per.nat {u v : Int} (h : Per C u v) : ∀ n : Nat, Per C (u * n) (v * n)
  | 0 => by
    show Per C (u * (0 : Nat)) (v * (0 : Nat))
    rw [show ((0 : Nat) : Int) = 0 from rfl, Int.mul_zero, Int.mul_zero]; exact Per.zero
  | n + 1 => by
    have := (h.nat n).add h
    rw [show u * ((n + 1 : Nat) : Int) = u * n + u by rw [Int.natCast_succ, Int.mul_add, Int.mul_one], show v * ((n + 1 : Nat) : Int) = v * n + v by rw [Int.natCast_succ, Int.mul_add, Int.mul_one]]
    exact this
theorem Per.mul {u v : Int} (h : Per C u v) (k : Int) : Per C (u * k) (v * k) := by
  by_cases c : 0 ≤ k
  · have := h.nat k.toNat
    rw [show ((k.toNat : Nat) : Int) = k by omega] at this
    exact this
  · have := (h.nat (-k).toNat).neg
    rw [show (((-k).toNat : Nat) : Int) = -k by omega, Int.mul_neg, Int.mul_neg, Int.neg_neg, Int.neg_neg] at this
    exact this
structure NF (C : Int → Int → Nat) (A B D : Int) : Prop where
  a0 : 0 < A
  b0 : 0 ≤ B
  b1 : B < A
  d0 : 0 < D
  pa : Per C A 0
  ma : ∀ u, 0 < u → u < A → ¬ Per C u 0
  pb : Per C B D
  md : ∀ u v, 0 < v → v < D → ¬ Per C u v
theorem NF.uniq {A B D A' B' D' : Int} (h : NF C A B D) (k : NF C A' B' D') : A = A' ∧ B = B' ∧ D = D' := by
  have eA : A = A' := by
    have h1 := h.ma A' k.a0
    have h2 := k.ma A h.a0
    have p1 := k.pa
    have p2 := h.pa
    by_cases c : A' < A
    · exact absurd p1 (h1 c)
    · by_cases c2 : A < A'
      · exact absurd p2 (h2 c2)
      · omega
  have eD : D = D' := by
    by_cases c : D' < D
    · exact absurd k.pb (h.md _ _ k.d0 c)
    · by_cases c2 : D < D'
      · exact absurd h.pb (k.md _ _ h.d0 c2)
      · omega
  subst eA eD
  refine ⟨rfl, ?_, rfl⟩
  have hb := h.b0; have hb1 := h.b1; have kb := k.b0; have kb1 := k.b1
  have p := h.pb.sub k.pb
  rw [Int.sub_self] at p
  by_cases c : B = B'
  · exact c
  · by_cases c2 : B' < B
    · exact absurd p (h.ma (B - B') (by omega) (by omega))
    · have p2 := p.neg
      rw [show -(B - B') = B' - B by omega, Int.neg_zero] at p2
      exact absurd p2 (h.ma (B' - B) (by omega) (by omega))
theorem exists_min {p : Nat → Prop} : ∀ n : Nat, 0 < n → p n → ∃ m, 0 < m ∧ m ≤ n ∧ p m ∧ ∀ k, 0 < k → k < m → ¬ p k := by
  intro n
  induction n using Nat.strongRecOn with
  | ind n ih =>
    intro h0 hp
    by_cases c : ∃ k, 0 < k ∧ k < n ∧ p k
    · obtain ⟨k, k0, kn, kp⟩ := c
      obtain ⟨m, m0, m1, m2, m3⟩ := ih k kn k0 kp
      exact ⟨m, m0, by omega, m2, m3⟩
    · exact ⟨n, h0, Nat.le_refl _, hp, fun k k0 kn kp => c ⟨k, k0, kn, kp⟩⟩
theorem min_a {a : Int} (ha : 0 < a) (pa : Per C a 0) : ∃ A, 0 < A ∧ A ≤ a ∧ A ∣ a ∧ Per C A 0 ∧ ∀ u, 0 < u → u < A → ¬ Per C u 0 := by
  obtain ⟨m, m0, m1, m2, m3⟩ := exists_min (p := fun n => Per C (n : Int) 0) a.toNat (by omega) (by rw [show ((a.toNat : Nat) : Int) = a by omega]; exact pa)
  refine ⟨m, by omega, by omega, ?_, m2, fun u u0 u1 pu => m3 u.toNat (by omega) (by omega) (by rw [show ((u.toNat : Nat) : Int) = u by omega]; exact pu)⟩
  have q := pa.sub (m2.mul (a / m))
  rw [Int.zero_mul, Int.sub_zero] at q
  have e : a - (m : Int) * (a / m) = a % m := by rw [Int.emod_def]
  rw [e] at q
  have e0 := Int.emod_nonneg a (show (m : Int) ≠ 0 by omega)
  have e1 := Int.emod_lt_of_pos a (show (0 : Int) < m by omega)
  by_cases c : a % m = 0
  · exact Int.dvd_of_emod_eq_zero c
  · exact absurd (by rw [show (((a % (m : Int)).toNat : Nat) : Int) = a % m by omega]; exact q) (m3 (a % (m : Int)).toNat (by omega) (by omega))
theorem min_d {b d : Int} (hd : 0 < d) (pb : Per C b d) : ∃ D, 0 < D ∧ D ≤ d ∧ D ∣ d ∧ (∃ u, Per C u D) ∧ ∀ u v, 0 < v → v < D → ¬ Per C u v := by
  obtain ⟨m, m0, m1, ⟨u0, m2⟩, m3⟩ := exists_min (p := fun n => ∃ u, Per C u (n : Int)) d.toNat (by omega) ⟨b, by rw [show ((d.toNat : Nat) : Int) = d by omega]; exact pb⟩
  refine ⟨m, by omega, by omega, ?_, ⟨u0, m2⟩, fun u v v0 v1 pu => m3 v.toNat (by omega) (by omega) ⟨u, by rw [show ((v.toNat : Nat) : Int) = v by omega]; exact pu⟩⟩
  have q := pb.sub (m2.mul (d / m))
  have e : d - (m : Int) * (d / m) = d % m := by rw [Int.emod_def]
  rw [e] at q
  have e0 := Int.emod_nonneg d (show (m : Int) ≠ 0 by omega)
  have e1 := Int.emod_lt_of_pos d (show (0 : Int) < m by omega)
  by_cases c : d % m = 0
  · exact Int.dvd_of_emod_eq_zero c
  · exact absurd ⟨_, by rw [show (((d % (m : Int)).toNat : Nat) : Int) = d % m by omega]; exact q⟩ (m3 (d % (m : Int)).toNat (by omega) (by omega))
theorem per_mod {A u v : Int} (hA : 0 < A) (pa : Per C A 0) (p : Per C u v) : Per C (u % A) v := by
  have q := p.sub (pa.mul (u / A))
  rw [Int.zero_mul, Int.sub_zero, show u - A * (u / A) = u % A by rw [Int.emod_def]] at q
  exact q
theorem at_place {a b d : Int} (ha : 0 < a) (hd : 0 < d) (pa : Per C a 0) (pb : Per C b d) (x y : Int) : C x y = C ((x - b * (y / d)) % a) (y % d) := by
  have q1 := (pb.mul (y / d)).add (pa.mul ((x - b * (y / d)) / a))
  have := q1 ((x - b * (y / d)) % a) (y % d)
  rw [Int.zero_mul, Int.add_zero] at this
  have e1 := Int.emod_add_mul_ediv (x - b * (y / d)) a
  have e2 := Int.emod_add_mul_ediv y d
  rw [show (x - b * (y / d)) % a + (b * (y / d) + a * ((x - b * (y / d)) / a)) = x by omega, show y % d + d * (y / d) = y by omega] at this
  exact this
theorem per_places {a b d u v : Int} (ha : 0 < a) (hd : 0 < d) (pa : Per C a 0) (pb : Per C b d) (h : ∀ x y, 0 ≤ x → x < a → 0 ≤ y → y < d → C x y = C (x + u) (y + v)) : Per C u v := fun x y => by
  have e0 := Int.emod_nonneg (x - b * (y / d)) (show a ≠ 0 by omega)
  have e1 := Int.emod_lt_of_pos (x - b * (y / d)) ha
  have e2 := Int.emod_nonneg y (show d ≠ 0 by omega)
  have e3 := Int.emod_lt_of_pos y hd
  rw [at_place ha hd pa pb x y, h _ _ e0 e1 e2 e3]
  have q1 := (pb.mul (y / d)).add (pa.mul ((x - b * (y / d)) / a))
  rw [Int.zero_mul, Int.add_zero] at q1
  have := q1 ((x - b * (y / d)) % a + u) (y % d + v)
  have f1 := Int.emod_add_mul_ediv (x - b * (y / d)) a
  have f2 := Int.emod_add_mul_ediv y d
  rw [show (x - b * (y / d)) % a + u + (b * (y / d) + a * ((x - b * (y / d)) / a)) = x + u by omega, show y % d + v + d * (y / d) = y + v by omega] at this
  exact this
theorem grid_per {g : Int → Int → Nat} {a b d : Int} (ha : 0 < a) (hd : 0 < d) : Per (fun x y => g ((x - b * (y / d)) % a) (y % d)) a 0 ∧ Per (fun x y => g ((x - b * (y / d)) % a) (y % d)) b d := by
  constructor
  · intro x y
    show g ((x + a - b * ((y + 0) / d)) % a) ((y + 0) % d) = g ((x - b * (y / d)) % a) (y % d)
    rw [Int.add_zero, show x + a - b * (y / d) = x - b * (y / d) + a by omega, Int.add_emod_right]
  · intro x y
    show g ((x + b - b * ((y + d) / d)) % a) ((y + d) % d) = g ((x - b * (y / d)) % a) (y % d)
    rw [Int.add_emod_right, show y + d = y + 1 * d by omega, Int.add_mul_ediv_right _ _ (by omega), show x + b - b * (y / d + 1) = x - b * (y / d) by rw [Int.mul_add, Int.mul_one]; omega]
end
end K13
namespace K13
open PySem Ep
section
variable {α β : Type}
def bnd (o : Out α) (k : α → M β) : Out β := match o with
  | .ok a r => k a r
  | .exn c p r => .exn c p r
  | .bad => .bad
theorem bndO (a : α) (r : RS) (k : α → M β) : bnd (.ok a r) k = k a r := rfl
theorem bndX (c : Nat) (p : T) (r : RS) (k : α → M β) : bnd (.exn c p r) k = .exn c p r := rfl
theorem bindR (m : M α) (k : α → M β) (r : RS) : (m >>= k) r = bnd (m r) k := by
  show M.bind m k r = _
  unfold M.bind bnd
  cases m r <;> rfl
theorem pureR (a : α) (r : RS) : (pure a : M α) r = .ok a r := rfl
theorem liftS (a : α) : M.lift (some a) = M.pure a := rfl
theorem mpureR (a : α) (r : RS) : (M.pure a : M α) r = .ok a r := rfl
end
def b1k (h : RS → T → Option T) (x : T) : M T := fun r => M.lift (h r x) r
theorem b1kR (h : RS → T → Option T) (x : T) (r : RS) : b1k h x r = M.lift (h r x) r := rfl
theorem fB1R (h : RS → T → Option T) (f : Ep.Env → M T) (env : Ep.Env) (r : RS) : fB1 h f env r = bnd (f env r) (b1k h) := bindR _ _ _
theorem intI (r : RS) (i : Int) : intTS r (.int i) = some (.int i) := rfl
theorem mulB {i j : Int} (hi : i.natAbs < 2 ^ 1000) (hj : j.natAbs < 2 ^ 1000) : mulT (.int i) (.int j) = some (.int (i * j)) := by
  refine if_pos ?_
  unfold mulOk
  have l : ∀ n : Nat, n < 2 ^ 1000 → n.log2 < 1001 := fun n h => by
    by_cases z : n = 0
    · subst z; decide
    · have := (Nat.log2_lt z).mpr h
      omega
  have := l _ hi
  have := l _ hj
  rw [decide_eq_true (by omega : i.natAbs.log2 + j.natAbs.log2 < 1000000)]
  simp
theorem modP {i j : Int} (h : 0 < j) : modT (.int i) (.int j) = some (.int (i % j)) := if_pos h
theorem divB {i j : Int} (h : 0 < j) (h2 : j.natAbs < 2 ^ 1000) : divT (.int i) (.int j) = some (.int (i / j)) := by
  refine if_pos ⟨h, ?_⟩
  have := (Nat.log2_lt (by omega : j.natAbs ≠ 0)).mpr h2
  omega
abbrev pr (x y : Int) : T := .tup [.int x, .int y]
theorem is_integer_int (i : Int) (r : RS) : F_is_integer [.int i] r = .ok (.bl true) r := rfl
theorem ltI (i j : Int) : ltT (.int i) (.int j) = some (decide (i < j)) := rfl
theorem leI (i j : Int) : leT (.int i) (.int j) = some (decide (i ≤ j)) := rfl
theorem neI (i j : Int) : neT (.int i) (.int j) = some (!(i == j)) := rfl
section
variable {f g : Ep.Env → M T} {env : Ep.Env} {r r1 r2 : RS} {t : T}
theorem n_setIx {i k j : Nat} {x : Int} {xs : List T} (hi : env[i]? = some (.val (.ref k))) (h1 : f env r = .ok t r1) (h2 : g env r1 = .ok (.int x) r2) (hk : r2[k]? = some xs) (hx : L2.ixN xs.length x = some j) : qSetIx i f g env r = .nx env (r2.set k (xs.set j t)) := by
  have e1 : isMut env i = true := by unfold isMut; rw [hi]
  have e2 : mutGet env i r2 = some xs := by unfold mutGet; rw [hi]; exact hk
  have e3 : mutSet env i r2 (xs.set j t) = .nx env (r2.set k (xs.set j t)) := by unfold mutSet; rw [hi]
  unfold qSetIx
  rw [if_pos e1, h1]
  show ofM env (fun u r => match mutGet env i r, u with
    | some xs, .int k => match L2.ixN xs.length k with
      | some j => mutSet env i r (xs.set j t)
      | none => .bad
    | _, _ => .bad) (g env r1) = _
  rw [h2]
  show (match mutGet env i r2, T.int x with
    | some xs, .int k => match L2.ixN xs.length k with
      | some j => mutSet env i r2 (xs.set j t)
      | none => .bad
    | _, _ => .bad) = _
  rw [e2]
  show (match L2.ixN xs.length x with
      | some j => mutSet env i r2 (xs.set j t)
      | none => .bad) = _
  rw [hx]
  exact e3
end
theorem ix_ref {r : RS} {k : Nat} {xs : List T} {i : Int} {t : T} (hk : r[k]? = some xs) (h : L2.atI xs i = some t) : ixT r (.ref k) (.int i) = some t := by
  show (r[k]?).bind (fun xs => L2.atI xs i) = some t
  rw [hk]
  exact h
theorem mulR {i j : Int} (h1 : -(2 ^ 64) < j) (h2 : j < 2 ^ 64) : mulT (.int i) (.int j) = some (.int (i * j)) := by
  show (if mulOk i j = true then some (T.int (i * j)) else none) = _
  rw [if_pos]
  unfold mulOk
  rw [decide_eq_true h1, decide_eq_true h2]
  simp
theorem mulL {i j : Int} (h1 : -(2 ^ 64) < i) (h2 : i < 2 ^ 64) : mulT (.int i) (.int j) = some (.int (i * j)) := by
  show (if mulOk i j = true then some (T.int (i * j)) else none) = _
  rw [if_pos]
  unfold mulOk
  rw [decide_eq_true h1, decide_eq_true h2]
  simp
theorem gt_ii (i j : Int) : gtT (.int i) (.int j) = some (decide (j < i)) := rfl
theorem fst_ref {r : RS} {k : Nat} {a b : Int} (hk : r[k]? = some [.int a, .int b]) : ixT r (.ref k) (.int 0) = some (.int a) := ix_ref hk rfl
theorem snd_ref {r : RS} {k : Nat} {a b : Int} (hk : r[k]? = some [.int a, .int b]) : ixT r (.ref k) (.int 1) = some (.int b) := ix_ref hk rfl
theorem n_expr {f : Ep.Env → M T} {env : Ep.Env} {r r1 : RS} {t : T} (h1 : f env r = .ok t r1) : qExpr f env r = .nx env r1 := by unfold qExpr ofM; rw [h1]
theorem qTry_x {g : Sm} {hs : List HdS} {env e : Ep.Env} {r r' : RS} {c : Nat} {p : T} (h : g env r = .exn c p e r') : qTry g hs env r = pickH hs c p e r' := by
  unfold qTry; rw [h]
theorem heard_rt {n : Nat} {hs : List HdS} {rest : Sm} {act : M T} {r r' : RS} {t : T} (h : qTry (fun env r => ofM env (fun _ r => .nx env r) (act r)) hs (List.replicate n .un) r = .rt t r') : heardS n hs rest act r = .ok t r' := by
  unfold heardS qSeq; rw [h]
theorem ofM_x {α : Type} {env : Ep.Env} {k : α → RS → SO} {o : Out α} {c : Nat} {p : T} {r : RS} (h : o = .exn c p r) : ofM env k o = .exn c p env r := by subst h; rfl
theorem n_own {i : Nat} {f : Ep.Env → M (List T)} {env : Ep.Env} {r r1 : RS} {xs : List T} (h : f env r = .ok xs r1) : qOwn i f env r = .nx (env.set i (.own xs)) r1 := by unfold qOwn ofM; rw [h]
theorem n_app {i : Nat} {f : Ep.Env → M T} {env : Ep.Env} {r r1 : RS} {xs : List T} {t : T} (he : env[i]? = some (.own xs)) (hl : xs.length < 100000) (h : f env r = .ok t r1) : qApp i f env r = .nx (env.set i (.own (xs ++ [t]))) r1 := by
  have e1 : isMut env i = true := by unfold isMut; rw [he]
  have e2 : mutGet env i r1 = some xs := by unfold mutGet; rw [he]
  have e3 : mutSet env i r1 (xs ++ [t]) = .nx (env.set i (.own (xs ++ [t]))) r1 := by unfold mutSet; rw [he]
  unfold qApp
  rw [if_pos e1, h]
  show (match mutGet env i r1 with
    | some xs => if xs.length < 100000 then mutSet env i r1 (xs ++ [t]) else .bad
    | none => .bad) = _
  rw [e2]
  show (if xs.length < 100000 then mutSet env i r1 (xs ++ [t]) else .bad) = _
  rw [if_pos hl, e3]
theorem comp_map {vs : List Nat} {h : T → Ep.Env → Option Ep.Env} {p : Ep.Env → M Bool} {f : Ep.Env → M T} {env : Ep.Env} (g : T → T) : ∀ (xs acc : List T) (r : RS), (∀ x ∈ xs, ∃ env1, h x (wipeE env vs) = some env1 ∧ p env1 r = .ok true r ∧ f env1 r = .ok (g x) r) → acc.length + xs.length ≤ 100000 → compF vs h p f xs acc env r = .ok (acc ++ xs.map g) r
  | [], acc, r, _, _ => by rw [List.map_nil, List.append_nil]; rfl
  | x :: xs, acc, r, H, hl => by
    obtain ⟨env1, h1, h2, h3⟩ := H x List.mem_cons_self
    have ih := comp_map (vs := vs) (h := h) (p := p) (f := f) (env := env) g xs (acc ++ [g x]) r (fun y hy => H y (List.mem_cons_of_mem _ hy)) (by rw [List.length_append]; simp at hl ⊢; omega)
    have hz : acc.length < sizeLine := by rw [sizeLine_eq]; simp at hl; omega
    unfold compF
    rw [h1]
    simp only [bindR, noEx, h2, h3, bndO, if_true]
    rw [if_pos hz, ih]
    simp
theorem comp_fil {vs : List Nat} {h : T → Ep.Env → Option Ep.Env} {p : Ep.Env → M Bool} {f : Ep.Env → M T} {env : Ep.Env} (c : T → Bool) : ∀ (xs acc : List T) (r : RS), (∀ x ∈ xs, ∃ env1, h x (wipeE env vs) = some env1 ∧ p env1 r = .ok (c x) r ∧ (c x = true → f env1 r = .ok x r)) → acc.length + xs.length ≤ 100000 → compF vs h p f xs acc env r = .ok (acc ++ xs.filter c) r
  | [], acc, r, _, _ => by rw [List.filter_nil, List.append_nil]; rfl
  | x :: xs, acc, r, H, hl => by
    obtain ⟨env1, h1, h2, h3⟩ := H x List.mem_cons_self
    have hz : acc.length < sizeLine := by rw [sizeLine_eq]; simp at hl; omega
    cases q : c x with
    | true =>
      have ih := comp_fil (vs := vs) (h := h) (p := p) (f := f) (env := env) c xs (acc ++ [x]) r (fun y hy => H y (List.mem_cons_of_mem _ hy)) (by rw [List.length_append]; simp at hl ⊢; omega)
      unfold compF
      rw [h1]
      rw [q] at h2
      simp only [bindR, noEx, h2, h3 q, bndO, if_true]
      rw [if_pos hz, ih]
      simp [q]
    | false =>
      have ih := comp_fil (vs := vs) (h := h) (p := p) (f := f) (env := env) c xs acc r (fun y hy => H y (List.mem_cons_of_mem _ hy)) (by simp at hl ⊢; omega)
      unfold compF
      rw [h1]
      rw [q] at h2
      simp only [bindR, noEx, h2, bndO]
      show compF vs h p f xs acc env r = _
      rw [ih]
      simp [q]
theorem comp_st {vs : List Nat} {h : T → Ep.Env → Option Ep.Env} {p : Ep.Env → M Bool} {f : Ep.Env → M T} {env : Ep.Env} {I : RS → Prop} {Q : T → Prop} : ∀ (xs acc : List T) (r : RS), I r → (∀ x ∈ xs, ∀ r, I r → ∃ env1 y r', h x (wipeE env vs) = some env1 ∧ p env1 r = .ok true r ∧ f env1 r = .ok y r' ∧ I r' ∧ Q y) → (∀ y ∈ acc, Q y) → acc.length + xs.length ≤ 100000 → ∃ ys r', compF vs h p f xs acc env r = .ok ys r' ∧ I r' ∧ (∀ y ∈ ys, Q y) ∧ ys.length = acc.length + xs.length
  | [], acc, r, i, _, q, _ => ⟨acc, r, rfl, i, q, rfl⟩
  | x :: xs, acc, r, i, H, q, hl => by
    obtain ⟨env1, y, r', h1, h2, h3, i', qy⟩ := H x List.mem_cons_self r i
    obtain ⟨ys, r2, e, i2, q2, l2⟩ := comp_st (vs := vs) (h := h) (p := p) (f := f) (env := env) (I := I) (Q := Q) xs (acc ++ [y]) r' i' (fun z hz => H z (List.mem_cons_of_mem _ hz)) (fun z hz => by
      rcases List.mem_append.mp hz with hz | hz
      · exact q z hz
      · rw [List.mem_singleton.mp hz]; exact qy) (by rw [List.length_append]; simp at hl ⊢; omega)
    have hz : acc.length < sizeLine := by rw [sizeLine_eq]; simp at hl; omega
    refine ⟨ys, r2, ?_, i2, q2, by rw [l2, List.length_append]; simp; omega⟩
    unfold compF
    rw [h1]
    simp only [bindR, noEx, h2, h3, bndO, if_true]
    rw [if_pos hz, e]
def Sh (n : Nat) (t : T) : Prop := ∃ d, pyT t = some d ∧ d.canLay0 = true ∧ d.depth ≤ n
theorem sh_int (i : Int) : Sh 0 (.int i) := ⟨.int i, rfl, rfl, Nat.le_refl _⟩
theorem sh_str {x : Str} (h : PyData.strOk x = true) : Sh 0 (.str x) := ⟨.str x, rfl, h, Nat.le_refl _⟩
theorem sh_all {n : Nat} : ∀ {ts : List T}, (∀ t ∈ ts, Sh n t) → ∃ ds, pyTs ts = some ds ∧ PyData.canLayAll0 ds = true ∧ PyData.depthAll ds ≤ n ∧ ds.length = ts.length
  | [], _ => ⟨[], rfl, rfl, Nat.zero_le _, rfl⟩
  | t :: ts, h => by
    obtain ⟨d, e1, e2, e3⟩ := h t List.mem_cons_self
    obtain ⟨ds, f1, f2, f3, f4⟩ := sh_all fun u hu => h u (List.mem_cons_of_mem _ hu)
    refine ⟨d :: ds, ?_, ?_, ?_, by simp [f4]⟩
    · show (pyT t).bind (fun d => (pyTs ts).map (d :: ·)) = _
      rw [e1, f1]; rfl
    · show (d.canLay0 && PyData.canLayAll0 ds) = true
      rw [e2, f2]; rfl
    · show max d.depth (PyData.depthAll ds) ≤ n
      omega
theorem sh_tup {n : Nat} {ts : List T} (h : ∀ t ∈ ts, Sh n t) : Sh (n + 1) (.tup ts) := by
  obtain ⟨ds, f1, f2, f3, _⟩ := sh_all h
  refine ⟨.tuple ds, ?_, f2, ?_⟩
  · show (pyTs ts).map PyData.tuple = _
    rw [f1]; rfl
  · show PyData.depthAll ds + 1 ≤ n + 1
    omega
theorem sh_lst {n : Nat} {ts : List T} (h : ∀ t ∈ ts, Sh n t) : Sh (n + 1) (.lst ts) := by
  obtain ⟨ds, f1, f2, f3, _⟩ := sh_all h
  refine ⟨.list ds, ?_, f2, ?_⟩
  · show (pyTs ts).map PyData.list = _
    rw [f1]; rfl
  · show PyData.depthAll ds + 1 ≤ n + 1
    omega
theorem sh_mono {m n : Nat} {t : T} (h : Sh m t) (l : m ≤ n) : Sh n t := let ⟨d, e1, e2, e3⟩ := h; ⟨d, e1, e2, Nat.le_trans e3 l⟩
theorem eq_sh {n : Nat} {t u : T} {d e : PyData} (h : Sh n t) (h' : Sh n u) (l : n ≤ 64) (e1 : pyT t = some d) (e2 : pyT u = some e) : eqT t u = some (PyData.eqv d e) := by
  obtain ⟨d', a1, a2, a3⟩ := h
  obtain ⟨e', b1, b2, b3⟩ := h'
  rw [e1] at a1
  rw [e2] at b1
  cases a1
  cases b1
  unfold eqT
  rw [e1, e2]
  show (if (SeqAt.shaped d && SeqAt.shaped e) = true then some (PyData.eqv d e) else none) = _
  rw [if_pos]
  have x1 : SeqAt.shaped d = true := by unfold SeqAt.shaped; rw [a2, decide_eq_true (by omega)]; rfl
  have x2 : SeqAt.shaped e = true := by unfold SeqAt.shaped; rw [b2, decide_eq_true (by omega)]; rfl
  rw [x1, x2]; rfl
theorem eq_self {n : Nat} {t : T} (h : Sh n t) (l : n ≤ 64) : eqT t t = some true := by
  have h0 := h
  obtain ⟨d, e1, e2, e3⟩ := h
  rw [eq_sh h0 h0 l e1 e1, SeqAt.eqv_refl d e2]
theorem ne_self {n : Nat} {t : T} (h : Sh n t) (l : n ≤ 64) : neT t t = some false := by
  unfold neT; rw [eq_self h l]; rfl
end K13
namespace K13
open PySem Ep
structure Lt (a b d : Int) : Prop where
  a0 : 0 < a
  b0 : 0 ≤ b
  b1 : b < a
  d0 : 0 < d
  aB : a ≤ 10 ^ 22
  dB : d ≤ 10 ^ 22
abbrev three (a b d : Int) : T := .lst [.int a, .int b, .int d]
abbrev latt (a b d : Int) : T := .obj 5 [.int a, .int b, .int d]
def plX (a b d x y : Int) : Int := (x - b * (y / d)) % a
def plY (d y : Int) : Int := y % d
theorem bdiv {y d : Int} (hd : 0 < d) : (y / d).natAbs ≤ y.natAbs := by
  have := Int.natAbs_ediv_le_natAbs y d
  omega
theorem eq2 (x y z w : Int) : eqT (pr x y) (pr z w) = some (decide (x = z) && decide (y = w)) := by
  rw [eq_ii, Bool.and_true]; rfl
theorem place {a b d x y : Int} (L : Lt a b d) (hx : x.natAbs < 2 ^ 900) (hy : y.natAbs < 2 ^ 900) (r : RS) : F__law_place [three a b d, .int x, .int y] r = .ok (pr (plX a b d x y) (plY d y)) r := by
  have h1 : b.natAbs < 2 ^ 1000 := by have := L.b0; have := L.b1; have := L.aB; omega
  have h2 : d.natAbs < 2 ^ 1000 := by have := L.d0; have := L.dB; omega
  have h3 : (y / d).natAbs < 2 ^ 1000 := by have := bdiv (y := y) L.d0; omega
  simp [F__law_place, g__law_place, fnS, envOf, qSeq, qAsg, qRet, qNil, ofM, fVar, hTupL, hCons, hName, hNil, fTup, fAll, fBin, bindR, bndO, bndX, pureR, mpureR, liftS, modP L.a0, modP L.d0, divB L.d0 h2, mulB h1 h3, subT, plX, plY]
theorem is_shift_pr (x y : Int) (r : RS) : F_is_shift [pr x y] r = .ok (.bl true) r := rfl
theorem check_cell_pr (x y : Int) (r : RS) : F_check_cell [pr x y] r = .ok .non r := rfl
theorem is_between_int (i j k : Int) (r : RS) : F_is_between [.int i, .int j, .int k] r = .ok (.bl (decide (j ≤ i) && decide (i ≤ k))) r := by
  by_cases h : j ≤ i <;> by_cases h2 : i ≤ k <;>
  simp [F_is_between, g_is_between, fnS, envOf, qSeq, qRet, ofM, fVar, fCall, fAll, fAnd, fChain, bindR, bndO, bndX, pureR, mpureR, liftS, is_integer_int, leI, h, h2]
theorem basis {a b d : Int} (L : Lt a b d) (r : RS) : F_check_basis [.int a, .int b, .int d] r = .ok .non r := by
  have h1 := L.a0
  have h2 := L.b0
  have h3 := L.b1
  have h4 := L.d0
  simp [F_check_basis, g_check_basis, fnS, envOf, qSeq, qIf, qNil, ofM, fVar, fC, fCall, fAll, fTru, truT, fNotB, fOrB, fCmpB, fBin, bindR, bndO, bndX, pureR, mpureR, liftS, is_integer_int, is_between_int, ltI, subT, show ¬ a < 1 by omega, show ¬ d < 1 by omega, show 0 ≤ b by omega, show b ≤ a - 1 by omega]
theorem init {a b d : Int} (L : Lt a b d) (r : RS) : F_Lattice_init [.int a, .int b, .int d] r = .ok [.int a, .int b, .int d] r := by
  simp [F_Lattice_init, g_Lattice_init, fnI, envOf, qSeq, qExpr, qFld, qNil, ofM, fVar, fCall, fAll, bindR, bndO, bndX, pureR, mpureR, liftS, basis L, insOf, GG, fl]
theorem l_place {a b d x y : Int} (L : Lt a b d) (hx : x.natAbs < 2 ^ 900) (hy : y.natAbs < 2 ^ 900) (r : RS) : F_Lattice_place [latt a b d, pr x y] r = .ok (pr (plX a b d x y) (plY d y)) r := by
  have h1 : b.natAbs < 2 ^ 1000 := by have := L.b0; have := L.b1; have := L.aB; omega
  have h2 : d.natAbs < 2 ^ 1000 := by have := L.d0; have := L.dB; omega
  have h3 : (y / d).natAbs < 2 ^ 1000 := by have := bdiv (y := y) L.d0; omega
  have e : y - d * (y / d) = y % d := (Int.emod_def y d).symm
  simp [F_Lattice_place, g_Lattice_place, fnS, envOf, qSeq, qExpr, qAsg, qSet, qRet, qNil, ofM, fVar, fCall, hTupL, hCons, hName, hNil, fTup, fAll, fBin, fB1R, b1kR, intI, fFld, m_a, m_b, m_d, bindR, bndO, bndX, pureR, mpureR, liftS, check_cell_pr, modP L.a0, modP L.d0, divB L.d0 h2, mulB h3 h1, mulB h3 h2, subT, plX, plY, e, Int.mul_comm]
theorem draw {k : Nat} {a b n : Int} {r : RS} (hk : r[k]? = some [.int a, .int b]) (hn : 0 < n) (hn2 : n.natAbs < 2 ^ 1000) : ∃ v a' b', F__law_draw [.ref k, .int n] r = .ok (.int v) (r.set k [.int a', .int b']) ∧ 0 ≤ v ∧ v < n := by
  by_cases h : 0 < a
  · refine ⟨a % n, a / n, b, ?_, Int.emod_nonneg _ (by omega), Int.emod_lt_of_pos _ hn⟩
    refine n_fn (n_seqR (n_ifT (r1 := r) (e_cmpB (x := .int a) (y := .int 0) (r1 := r) (r2 := r) (e_ix rfl rfl (fst_ref hk)) rfl ?_) (n_seq (n_set (t := .int (a % n)) (r1 := r) (e_bin (r1 := r) (r2 := r) (x := .int a) (y := .int n) (e_b1 (x := .int a) (e_ix rfl rfl (fst_ref hk)) rfl) rfl (modP hn)))
      (n_seq (n_setIx (k := k) (j := 0) (x := 0) (xs := [.int a, .int b]) (t := .int (a / n)) (r1 := r) (r2 := r) rfl (e_bin (r1 := r) (x := .int a) (y := .int n) (e_ix rfl rfl (fst_ref hk)) rfl (divB hn hn2)) rfl hk rfl) (n_seqR (n_ret (t := .int (a % n)) (r1 := r.set k [.int (a / n), .int b]) rfl))))))
    rw [gt_ii, decide_eq_true h]
  · have hl : k < r.length := (List.getElem?_eq_some_iff.mp hk).1
    have m1 : 0 ≤ (b * 48271 + 11) % 2147483647 := Int.emod_nonneg _ (by omega)
    have m2 : (b * 48271 + 11) % 2147483647 < 2147483647 := Int.emod_lt_of_pos _ (by omega)
    generalize e : (b * 48271 + 11) % 2147483647 = c at m1 m2
    have hk2 : (r.set k [.int a, .int c])[k]? = some [.int a, .int c] := List.getElem?_set_self hl
    refine ⟨(c * c) % 2147483629 / 32 % n, a, c, ?_, Int.emod_nonneg _ (by omega), Int.emod_lt_of_pos _ hn⟩
    refine n_fn (n_seq (env' := envOf 1 [.ref k, .int n]) (r1 := r) (n_ifF (r1 := r) (e_cmpB (x := .int a) (y := .int 0) (r1 := r) (r2 := r) (e_ix rfl rfl (fst_ref hk)) rfl ?_) rfl)
      (n_seq (n_setIx (k := k) (j := 1) (x := 1) (xs := [.int a, .int b]) (t := .int c) (r1 := r) (r2 := r) rfl
        (e_bin (x := .int (b * 48271 + 11)) (y := .int 2147483647) (r1 := r) (e_b1 (x := .int (b * 48271 + 11)) (e_bin (x := .int (b * 48271)) (y := .int 11) (r1 := r) (e_bin (x := .int b) (y := .int 48271) (r1 := r) (e_ix rfl rfl (snd_ref hk)) rfl (mulR (by decide) (by decide))) rfl rfl) rfl) rfl ?_) rfl hk rfl)
      (n_seqR (n_ret (t := .int ((c * c) % 2147483629 / 32 % n)) (r1 := r.set k [.int a, .int c])
        (e_bin (x := .int ((c * c) % 2147483629 / 32)) (y := .int n) (r1 := r.set k [.int a, .int c]) (e_bin (x := .int ((c * c) % 2147483629)) (y := .int 32) (r1 := r.set k [.int a, .int c]) (e_bin (x := .int (c * c)) (y := .int 2147483629) (r1 := r.set k [.int a, .int c])
          (e_b1 (x := .int (c * c)) (e_bin (x := .int c) (y := .int c) (r1 := r.set k [.int a, .int c]) (e_ix rfl rfl (snd_ref hk2)) (e_ix rfl rfl (snd_ref hk2)) (mulR (by omega) (by omega))) rfl) rfl (modP (by decide))) rfl (divB (by decide) (by decide))) rfl (modP hn))))))
    · rw [gt_ii, decide_eq_false h]
    · rw [modP (by decide), e]
def Pool (k : Nat) (r : RS) : Prop := ∃ a b : Int, r[k]? = some [.int a, .int b]
theorem Pool.set {k : Nat} {r : RS} (h : Pool k r) (a b : Int) : Pool k (r.set k [.int a, .int b]) := by
  obtain ⟨a', b', h⟩ := h
  exact ⟨a, b, List.getElem?_set_self (List.getElem?_eq_some_iff.mp h).1⟩
theorem draw' {k : Nat} {n : Int} {r : RS} (h : Pool k r) (hn : 0 < n) (hn2 : n.natAbs < 2 ^ 1000) : ∃ v r', F__law_draw [.ref k, .int n] r = .ok (.int v) r' ∧ Pool k r' ∧ 0 ≤ v ∧ v < n := by
  have h0 := h
  obtain ⟨a, b, hk⟩ := h
  obtain ⟨v, a', b', e, h1, h2⟩ := draw hk hn hn2
  exact ⟨v, _, e, h0.set a' b', h1, h2⟩
theorem pick {k : Nat} {xs : List T} {r : RS} (h : Pool k r) (h0 : 0 < xs.length) (h1 : xs.length < 2 ^ 64) : ∃ t r', F__law_pick [.ref k, .lst xs] r = .ok t r' ∧ Pool k r' ∧ t ∈ xs := by
  obtain ⟨v, r', e, hp, v0, v1⟩ := draw' (n := xs.length) h (by omega) (by omega)
  have hv : v.toNat < xs.length := by omega
  have ea : L2.atI xs v = some xs[v.toNat] := by
    unfold L2.atI L2.ixN
    rw [if_pos v0, if_pos v1]
    simp [hv]
  refine ⟨xs[v.toNat], r', ?_, hp, List.getElem_mem _⟩
  exact n_fn (n_seqR (n_ret (e_ix (x := .lst xs) (y := .int v) (r1 := r) rfl (e_call (e_cons (x := .ref k) rfl (e_cons (x := .int xs.length) rfl e_nil)) e) ea)))
theorem threeR {k : Nat} {m : Int} {r : RS} (h : Pool k r) (h0 : 0 < m) (h1 : m ≤ 10 ^ 21) : ∃ a b d r', F__law_three [.ref k, .int m] r = .ok (three a b d) r' ∧ Pool k r' ∧ Lt a b d ∧ a ≤ m ∧ d ≤ m := by
  obtain ⟨v1, r1, e1, p1, v10, v11⟩ := draw' (n := m) h h0 (by omega)
  obtain ⟨v2, r2, e2, p2, v20, v21⟩ := draw' (n := 1 + v1) p1 (by omega) (by omega)
  obtain ⟨v3, r3, e3, p3, v30, v31⟩ := draw' (n := m) p2 h0 (by omega)
  refine ⟨1 + v1, v2, 1 + v3, r3, ?_, p3, ⟨by omega, by omega, by omega, by omega, by omega, by omega⟩, by omega, by omega⟩
  simp [F__law_three, g__law_three, fnS, envOf, qSeq, qSet, qRet, ofM, fVar, fC, fCall, fLst, fAll, fBin, addT, bindR, bndO, pureR, mpureR, liftS, e1, e2, e3]
abbrev sizes : List T := [.int 3, .int 7, .int 20, .int (10 ^ 3), .int (10 ^ 30)]
theorem cut_sub (xs : List T) (lo hi : Option Int) : (∀ x ∈ cutT xs lo hi, x ∈ xs) ∧ (cutT xs lo hi).length ≤ xs.length := by
  unfold cutT
  refine ⟨fun x hx => List.mem_of_mem_drop (List.mem_of_mem_take hx), ?_⟩
  rw [List.length_take, List.length_drop]
  omega
theorem start_of (ns : List Int) (h : ns.length ≤ 63) (k : Int) : ∃ c ys, addT (.lst (cutT (ns.map T.int) (some k) (some (k + 1)))) (.lst [.int 0]) = some (.lst ys) ∧ ∀ r, ixT r (.lst ys) (.int 0) = some (.int c) := by
  obtain ⟨h1, h2⟩ := cut_sub (ns.map T.int) (some k) (some (k + 1))
  rw [List.length_map] at h2
  have e : addT (.lst (cutT (ns.map T.int) (some k) (some (k + 1)))) (.lst [.int 0]) = some (.lst (cutT (ns.map T.int) (some k) (some (k + 1)) ++ [.int 0])) := if_pos (by
    have : ([T.int 0] : List T).length = 1 := rfl
    omega)
  cases q : cutT (ns.map T.int) (some k) (some (k + 1)) with
  | nil => rw [q] at e; exact ⟨0, _, e, fun r => rfl⟩
  | cons y ys =>
    obtain ⟨c, _, rfl⟩ := List.mem_map.mp (h1 y (by rw [q]; exact List.mem_cons_self))
    rw [q] at e
    refine ⟨c, _, e, fun r => ?_⟩
    show L2.atI (.int c :: ys ++ [T.int 0]) 0 = _
    unfold L2.atI L2.ixN
    rw [if_pos (by decide), if_pos (by simp only [List.cons_append, List.length_cons]; omega)]
    rfl
theorem fSlR (f a b : Ep.Env → M T) (env : Ep.Env) {r : RS} {x y : T} {i j : Int} (h1 : f env r = .ok x r) (h2 : a env r = .ok (.int i) r) (h3 : b env r = .ok (.int j) r) (h4 : slT r x (some i) (some j) = some y) : fSl f (some a) (some b) env r = .ok y r := by
  refine bind_ok h1 (bind_ok (a := some i) (r1 := r) (bind_ok h2 rfl) (bind_ok (a := some j) (r1 := r) (bind_ok h3 rfl) ?_))
  rw [h4]; rfl
theorem opened (ns : List Int) (h : ns.length ≤ 63) (k : Int) (k0 : 0 ≤ k) (k1 : k < 64) (r : RS) : ∃ a b, F__law_opened [.kls (ns.map T.int), .int k] r = .ok (.ref r.length) (r ++ [[.int a, .int b]]) := by
  obtain ⟨c, ys, e1, e2⟩ := start_of ns h k
  obtain ⟨w, ew⟩ : ∃ w, w = (if -1 - c > c then -1 - c else c) := ⟨_, rfl⟩
  have e3 : max2T (.int c) (.int (-1 - c)) = some (.int w) := by rw [ew]; rfl
  obtain ⟨s, es⟩ : ∃ s, s = (w % 2147483647 + 7919 * k + 1) * 48271 % 2147483629 := ⟨_, rfl⟩
  have n1 : (fSl (fVar 0) (some (fVar 1)) (some (fBin addT (fVar 1) (fC (.int 1))))) (envOf 3 [.kls (ns.map T.int), .int k]) r = .ok (.lst (cutT (ns.map T.int) (some k) (some (k + 1)))) r := fSlR _ _ _ _ rfl rfl rfl rfl
  have m1 : mulT (.int 7919) (.int k) = some (.int (7919 * k)) := mulL (by decide) (by decide)
  have m2 : mulT (.int (w % 2147483647 + 7919 * k + 1)) (.int 48271) = some (.int ((w % 2147483647 + 7919 * k + 1) * 48271)) := mulR (by decide) (by decide)
  have d1 : modT (.int w) (.int 2147483647) = some (.int (w % 2147483647)) := modP (by decide)
  have d2 : modT (.int ((w % 2147483647 + 7919 * k + 1) * 48271)) (.int 2147483629) = some (.int s) := by rw [es]; exact modP (by decide)
  have w1 : powT (.int 10) (.int 18) = some (.int (10 ^ 18)) := rfl
  have g1 : geT (.int w) (.int (10 ^ 18)) = some (decide (10 ^ 18 ≤ w)) := rfl
  have i1 : ∀ r, intTS r (.bl (decide (10 ^ 18 ≤ w))) = some (.int (if decide (10 ^ 18 ≤ w) then 1 else 0)) := fun r => rfl
  have m3 : mulT (.int (if decide (10 ^ 18 ≤ w) then 1 else 0)) (.int w) = some (.int ((if decide (10 ^ 18 ≤ w) then 1 else 0) * w)) := mulL (by split <;> decide) (by split <;> decide)
  refine ⟨(if decide (10 ^ 18 ≤ w) then 1 else 0) * w, s, ?_⟩
  refine n_fn (n_seq (n_set (e_ix (e_bin n1 (e_lst (e_cons (x := .int 0) rfl e_nil)) e1) rfl (e2 r))) (n_seq (n_set (e_bin (e_b1 (x := .int c) rfl rfl) (e_b1 (x := .int (-1 - c)) (e_bin (x := .int (-1)) (y := .int c) rfl rfl rfl) rfl) e3))
    (n_seq (n_set (e_bin (e_bin (e_bin (e_bin (e_bin (e_b1 (x := .int w) rfl rfl) rfl d1) (e_bin (x := .int 7919) (y := .int k) rfl rfl m1) rfl) rfl rfl) rfl m2) rfl d2)) (n_seqR (n_ret ?_)))))
  unfold fRef
  rw [e_cons (e_bin (e_b1 (e_cmp (x := .int w) rfl (e_bin (x := .int 10) (y := .int 18) rfl rfl w1) g1) (i1 r)) (x := .int (if decide (10 ^ 18 ≤ w) then 1 else 0)) (y := .int w) rfl m3) (e_cons (x := .int s) rfl e_nil)]
theorem comp2_map {vs vs1 : List Nat} {h h1 : T → Ep.Env → Option Ep.Env} {p p1 : Ep.Env → M Bool} {f : Ep.Env → M T} {fi1 : Ep.Env → M (List T)} {env : Ep.Env} (g : T → List T) : ∀ (xs acc : List T) (r : RS), (∀ x ∈ xs, ∃ env1 ys, h x (wipeE env vs) = some env1 ∧ p env1 r = .ok true r ∧ fi1 env1 r = .ok ys r ∧ (g x).length = ys.length ∧ ∀ acc, acc.length + ys.length ≤ 100000 → compF vs1 h1 p1 f ys acc env1 r = .ok (acc ++ g x) r) → acc.length + (xs.flatMap g).length ≤ 100000 → comp2F vs vs1 h p fi1 h1 p1 f xs acc env r = .ok (acc ++ xs.flatMap g) r
  | [], acc, r, _, _ => by rw [List.flatMap_nil, List.append_nil]; rfl
  | x :: xs, acc, r, H, hl => by
    obtain ⟨env1, ys, e1, e2, e3, e5, e4⟩ := H x List.mem_cons_self
    rw [List.flatMap_cons, List.length_append] at hl
    have ih := comp2_map (vs := vs) (vs1 := vs1) (h := h) (h1 := h1) (p := p) (p1 := p1) (f := f) (fi1 := fi1) (env := env) g xs (acc ++ g x) r (fun y hy => H y (List.mem_cons_of_mem _ hy)) (by rw [List.length_append]; omega)
    have e6 := e4 acc (by omega)
    unfold comp2F
    rw [e1]
    simp only [bindR, noEx, e2, e3, bndO, if_true, e6]
    rw [ih, List.flatMap_cons, List.append_assoc]
def row (a : Int) (y : T) : List T := (rngL 0 a.toNat).map fun x => .tup [x, y]
def rows (a d : Int) : List T := (rngL 0 d.toNat).flatMap (row a)
theorem row_len (a : Int) (y : T) : (row a y).length = a.toNat := by simp [row, rngL]
theorem flat_len (a : Int) : ∀ ys : List T, (ys.flatMap (row a)).length = ys.length * a.toNat
  | [] => by simp
  | y :: ys => by rw [List.flatMap_cons, List.length_append, row_len, flat_len a ys, List.length_cons, Nat.add_mul]; omega
theorem rows_len {a b d : Int} (L : Lt a b d) (h : a * d < 100) : (rows a d).length < 100 := by
  unfold rows
  rw [flat_len]
  have e : (rngL 0 d.toNat).length = d.toNat := by simp [rngL]
  rw [e]
  have ha := L.a0
  have hd := L.d0
  have : ((d.toNat * a.toNat : Nat) : Int) = a * d := by
    rw [Int.natCast_mul, Int.toNat_of_nonneg (by omega), Int.toNat_of_nonneg (by omega), Int.mul_comm]
  omega
theorem small1 {a b d : Int} (L : Lt a b d) (h : a * d < 100) : a < 100 ∧ d < 100 := by
  have ha := L.a0
  have hd := L.d0
  have h1 : a * 1 ≤ a * d := Int.mul_le_mul_of_nonneg_left (by omega) (by omega)
  have h2 : 1 * d ≤ a * d := Int.mul_le_mul_of_nonneg_right (by omega) (by omega)
  omega
theorem rng1 {j : Int} (h0 : 0 ≤ j) (h1 : j < 100) : rng1T [.int j] = some (rngL 0 j.toNat) := if_pos (by omega)
theorem rng_len (lo : Int) (n : Nat) : (rngL lo n).length = n := by simp [rngL]
theorem l_places {a b d : Int} (L : Lt a b d) (h : a * d < 100) (r : RS) : F_Lattice_places [latt a b d] r = .ok (.lst (rows a d)) r := by
  obtain ⟨h1, h2⟩ := small1 L h
  have ha := L.a0
  have hd := L.d0
  have e : comp2F [1, 2] [2] (hName 1) fYes (fRng1 (fFld m_a (fVar 0))) (hName 2) fYes (fTup [(fVar 2), (fVar 1)]) (rngL 0 d.toNat) [] [.val (latt a b d), .un, .un] r = .ok ([] ++ (rngL 0 d.toNat).flatMap (row a)) r := by
    refine comp2_map (row a) _ _ r (fun y hy => ?_) ?_
    · refine ⟨[.val (latt a b d), .val y, .un], rngL 0 a.toNat, rfl, rfl, bind_ok (a := [T.int a]) (r1 := r) rfl (by rw [rng1 (by omega) h1]; rfl), ?_, fun acc hl => ?_⟩
      · rw [row_len, rng_len]
      · exact comp_map (fun x => .tup [x, y]) _ _ r (fun x hx => ⟨[.val (latt a b d), .val y, .val x], rfl, rfl, rfl⟩) hl
    · have := rows_len L h
      unfold rows at this
      simp only [List.length_nil]
      omega
  rw [List.nil_append] at e
  exact n_fn (n_seqR (n_ret (e_own (bind_ok (a := rngL 0 d.toNat) (r1 := r) (bind_ok (a := [T.int d]) (r1 := r) rfl (by rw [rng1 (by omega) h2]; rfl)) e))))
end K13
namespace K13
open PySem Ep L2
abbrev wd (l : List Nat) : T := .str ⟨l.toArray⟩
abbrev one (c : Nat) : T := .str ⟨#[c]⟩
def Dg (c : Nat) : Prop := 48 ≤ c ∧ c ≤ 57
abbrev Rows := List (List Nat)
structure Gr (a d : Int) (R : Rows) : Prop where
  len : (R.length : Int) = d
  row : ∀ l ∈ R, (l.length : Int) = a ∧ ∀ c ∈ l, Dg c
def cl (R : Rows) (x y : Int) : Nat := (R.getD y.toNat []).getD x.toNat 48
def pl (a b d : Int) (R : Rows) (x y : Int) : Nat := cl R (plX a b d x y) (plY d y)
abbrev rw (R : Rows) : List T := R.map wd
abbrev told (a b d : Int) (R : Rows) : T := .lst [three a b d, .lst (rw R)]
theorem Gr.at {a d : Int} {R : Rows} (g : Gr a d R) {y : Int} (h0 : 0 ≤ y) (h1 : y < d) : ∃ l, R[y.toNat]? = some l ∧ (l.length : Int) = a ∧ ∀ c ∈ l, Dg c := by
  have := g.len
  have hl : y.toNat < R.length := by omega
  exact ⟨R[y.toNat], List.getElem?_eq_getElem hl, g.row _ (List.getElem_mem hl)⟩
theorem Gr.get {a d : Int} {R : Rows} (g : Gr a d R) {x y : Int} (x0 : 0 ≤ x) (x1 : x < a) (h0 : 0 ≤ y) (h1 : y < d) : ∃ l, R[y.toNat]? = some l ∧ l[x.toNat]? = some (cl R x y) ∧ Dg (cl R x y) := by
  obtain ⟨l, e, hl, hd⟩ := g.at h0 h1
  have hx : x.toNat < l.length := by omega
  have ec : cl R x y = l[x.toNat] := by
    unfold cl
    have : R.getD y.toNat [] = l := by rw [List.getD_eq_getElem?_getD, e]; rfl
    rw [this, List.getD_eq_getElem?_getD, List.getElem?_eq_getElem hx]; rfl
  exact ⟨l, e, by rw [ec]; exact List.getElem?_eq_getElem hx, by rw [ec]; exact hd _ (List.getElem_mem hx)⟩
theorem atI_at {xs : List T} {y : Int} {t : T} (h0 : 0 ≤ y) (h : xs[y.toNat]? = some t) : atI xs y = some t := by
  have := atI_nat (xs := xs) (j := y.toNat) h
  rw [show ((y.toNat : Nat) : Int) = y by omega] at this
  exact this
theorem rw_at {R : Rows} {y : Int} {l : List Nat} (h : R[y.toNat]? = some l) : (rw R)[y.toNat]? = some (wd l) := by
  show (R.map wd)[y.toNat]? = _
  rw [List.getElem?_map, h]; rfl
theorem ix_lst {R : Rows} {y : Int} {l : List Nat} (h0 : 0 ≤ y) (h : R[y.toNat]? = some l) (r : RS) : ixT r (.lst (rw R)) (.int y) = some (wd l) := atI_at h0 (rw_at h)
theorem ix_tup {R : Rows} {y : Int} {l : List Nat} (h0 : 0 ≤ y) (h : R[y.toNat]? = some l) (r : RS) : ixT r (.tup (rw R)) (.int y) = some (wd l) := atI_at h0 (rw_at h)
theorem ix_wd {l : List Nat} {x : Int} {c : Nat} (h0 : 0 ≤ x) (h : l[x.toNat]? = some c) (hl : l.length ≤ 100000) (r : RS) : ixT r (wd l) (.int x) = some (one c) := by
  show (if (⟨l.toArray⟩ : Str).length ≤ 100000 then (atI l.toArray.toList x).map fun c => T.str ⟨#[c]⟩ else none) = _
  rw [if_pos (by show l.toArray.size ≤ _; rw [List.size_toArray]; exact hl)]
  have e : atI l x = some c := by
    unfold atI ixN
    have hx := (List.getElem?_eq_some_iff.mp h).1
    rw [if_pos h0, if_pos (by omega)]
    exact h
  rw [show l.toArray.toList = l from rfl, e]; rfl
theorem dig {P : Nat → Prop} {c : Nat} (h : Dg c) (H : ∀ i, i < 10 → P (48 + i)) : P c := by
  obtain ⟨h1, h2⟩ := h
  have := H (c - 48) (by omega)
  rwa [show 48 + (c - 48) = c by omega] at this
theorem ten {P : Nat → Prop} (h0 : P 0) (h1 : P 1) (h2 : P 2) (h3 : P 3) (h4 : P 4) (h5 : P 5) (h6 : P 6) (h7 : P 7) (h8 : P 8) (h9 : P 9) : ∀ i, i < 10 → P i := fun i hi => by
  match i, hi with
  | 0, _ => exact h0
  | 1, _ => exact h1
  | 2, _ => exact h2
  | 3, _ => exact h3
  | 4, _ => exact h4
  | 5, _ => exact h5
  | 6, _ => exact h6
  | 7, _ => exact h7
  | 8, _ => exact h8
  | 9, _ => exact h9
theorem int_one (r : RS) {c : Nat} (h : Dg c) : intTS r (one c) = some (.int ((c : Int) - 48)) :=
  dig (P := fun c => intTS r (one c) = some (.int ((c : Int) - 48))) h (ten (P := fun i => intTS r (one (48 + i)) = some (.int (((48 + i : Nat) : Int) - 48))) (by kernel_rfl) (by kernel_rfl) (by kernel_rfl) (by kernel_rfl) (by kernel_rfl) (by kernel_rfl) (by kernel_rfl) (by kernel_rfl) (by kernel_rfl) (by kernel_rfl))
theorem pl_bd {a b d x y : Int} (L : Lt a b d) : 0 ≤ plX a b d x y ∧ plX a b d x y < a ∧ 0 ≤ plY d y ∧ plY d y < d :=
  ⟨Int.emod_nonneg _ (by have := L.a0; omega), Int.emod_lt_of_pos _ L.a0, Int.emod_nonneg _ (by have := L.d0; omega), Int.emod_lt_of_pos _ L.d0⟩
theorem pl_dg {a b d x y : Int} {R : Rows} (L : Lt a b d) (g : Gr a d R) : Dg (pl a b d R x y) := by
  obtain ⟨h1, h2, h3, h4⟩ := pl_bd (x := x) (y := y) L
  exact (g.get h1 h2 h3 h4).elim fun _ h => h.2.2
structure Sz (a b d : Int) (R : Rows) : Prop extends Lt a b d, Gr a d R where
  few : a * d < 100
theorem Sz.small {a b d : Int} {R : Rows} (S : Sz a b d R) : a < 100 ∧ d < 100 := small1 S.toLt S.few
theorem at_place' {a b d x y : Int} {R : Rows} (S : Sz a b d R) (r : RS) : ∃ l, ixT r (.lst (rw R)) (.int (plY d y)) = some (wd l) ∧ ixT r (.tup (rw R)) (.int (plY d y)) = some (wd l) ∧ ixT r (wd l) (.int (plX a b d x y)) = some (one (pl a b d R x y)) := by
  obtain ⟨h1, h2, h3, h4⟩ := pl_bd (x := x) (y := y) S.toLt
  obtain ⟨l, e1, e2, e3⟩ := S.toGr.get h1 h2 h3 h4
  obtain ⟨l', e1', hl, _⟩ := S.toGr.at h3 h4
  rw [e1] at e1'
  cases e1'
  have := S.small.1
  exact ⟨l, ix_lst h3 e1 r, ix_tup h3 e1 r, ix_wd h1 e2 (by omega) r⟩
theorem colour {a b d x y : Int} {R : Rows} (S : Sz a b d R) (hx : x.natAbs < 2 ^ 900) (hy : y.natAbs < 2 ^ 900) (r : RS) : F__law_colour [told a b d R, .int x, .int y] r = .ok (.int ((pl a b d R x y : Int) - 48)) r := by
  obtain ⟨l, e1, _, e3⟩ := at_place' (x := x) (y := y) S r
  refine n_fn (n_seq (n_set (t := pr (plX a b d x y) (plY d y)) (r1 := r) (e_call (e_cons (x := three a b d) (e_ix (x := told a b d R) (y := .int 0) rfl rfl rfl) (e_cons (x := .int x) rfl (e_cons (x := .int y) rfl e_nil))) (place S.toLt hx hy r))) (n_seqR (n_ret (t := .int ((pl a b d R x y : Int) - 48)) (r1 := r) ?_)))
  exact e_b1 (x := one (pl a b d R x y)) (e_ix (x := wd l) (y := .int (plX a b d x y)) (e_ix (x := .lst (rw R)) (y := .int (plY d y)) (e_ix (x := told a b d R) (y := .int 1) rfl rfl rfl) (e_ix (x := pr (plX a b d x y) (plY d y)) (y := .int 1) rfl rfl rfl) e1) (e_ix (x := pr (plX a b d x y) (plY d y)) (y := .int 0) rfl rfl rfl) e3) (int_one r (pl_dg S.toLt S.toGr))
theorem sign_at {a b d x y : Int} {R : Rows} (S : Sz a b d R) (hx : x.natAbs < 2 ^ 900) (hy : y.natAbs < 2 ^ 900) (r : RS) : F_sign_at [latt a b d, .tup (rw R), pr x y] r = .ok (one (pl a b d R x y)) r := by
  obtain ⟨l, _, e1, e3⟩ := at_place' (x := x) (y := y) S r
  exact n_fn (n_seq (n_asg (x := pr (plX a b d x y) (plY d y)) (r1 := r) (e_meth (C := 5) (vs := [.int a, .int b, .int d]) (ts := [pr x y]) rfl (e_cons (x := pr x y) rfl e_nil) (l_place S.toLt hx hy r)) rfl) (n_seqR (n_ret (t := one (pl a b d R x y)) (r1 := r)
    (e_ix (x := wd l) (y := .int (plX a b d x y)) (e_ix (x := .tup (rw R)) (y := .int (plY d y)) rfl rfl e1) rfl e3))))
end K13
namespace K13
open PySem Ep L2
abbrev DL (l : List Nat) : Prop := ∀ c ∈ l, Dg c
abbrev st (l : List Nat) : Str := ⟨l.toArray⟩
theorem ok_st {l : List Nat} (h : DL l) : PyData.strOk (st l) = true := by
  unfold PyData.strOk
  rw [Array.all_eq_true_iff_forall_mem]
  intro c hc
  have := h c (by simpa using hc)
  exact decide_eq_true (by have := this.2; omega)
theorem st_inj {l m : List Nat} : (st l = st m) ↔ l = m := by
  constructor
  · intro h
    have := congrArg (fun s : Str => s.cps.toList) h
    simpa using this
  · intro h; rw [h]
theorem st_beq (l m : List Nat) : (st l == st m) = decide (l = m) := by
  by_cases h : l = m
  · subst h; simp
  · rw [decide_eq_false h]
    exact beq_eq_false_iff_ne.mpr fun e => h (st_inj.mp e)
theorem sh_wd {l : List Nat} (h : DL l) : Sh 0 (wd l) := sh_str (ok_st h)
theorem eq_wd {l m : List Nat} (h : DL l) (h' : DL m) : eqT (wd l) (wd m) = some (decide (l = m)) := by
  rw [eq_sh (sh_wd h) (sh_wd h') (by decide) (d := .str (st l)) (e := .str (st m)) rfl rfl]
  show some (st l == st m) = _
  rw [st_beq]
theorem eq_one {c e : Nat} (h : Dg c) (h' : Dg e) : eqT (one c) (one e) = some (decide (c = e)) := by
  have := eq_wd (l := [c]) (m := [e]) (fun x hx => by rw [List.mem_singleton.mp hx]; exact h) (fun x hx => by rw [List.mem_singleton.mp hx]; exact h')
  have e2 : decide ([c] = [e]) = decide (c = e) := by simp
  rw [e2] at this
  exact this
abbrev DR (R : Rows) : Prop := ∀ l ∈ R, DL l
theorem py_rw : ∀ R : Rows, pyTs (rw R) = some (R.map fun l => PyData.str (st l))
  | [] => rfl
  | l :: R => by
    show (some (PyData.str (st l))).bind (fun d => (pyTs (rw R)).map (d :: ·)) = _
    rw [py_rw R]; rfl
theorem eqv_rw : ∀ R Q : Rows, PyData.eqvAll (R.map fun l => PyData.str (st l)) (Q.map fun l => PyData.str (st l)) = decide (R = Q)
  | [], [] => rfl
  | [], _ :: _ => rfl
  | _ :: _, [] => rfl
  | l :: R, m :: Q => by
    show ((st l == st m) && PyData.eqvAll (R.map fun l => PyData.str (st l)) (Q.map fun l => PyData.str (st l))) = _
    rw [st_beq, eqv_rw R Q]
    by_cases h : l = m <;> by_cases h2 : R = Q <;> simp [h, h2]
theorem sh_rw {R : Rows} (h : DR R) : ∀ t ∈ rw R, Sh 0 t := fun t ht => by
  obtain ⟨l, hl, rfl⟩ := List.mem_map.mp ht
  exact sh_wd (h l hl)
abbrev shp (A B D : Int) (N : Rows) : T := .tup [.int A, .int B, .int D, .tup (rw N)]
theorem sh_shp {A B D : Int} {N : Rows} (h : DR N) : Sh 2 (shp A B D N) := sh_tup fun t ht => by
  simp only [List.mem_cons, List.not_mem_nil, or_false] at ht
  rcases ht with rfl | rfl | rfl | rfl
  · exact sh_mono (sh_int _) (by decide)
  · exact sh_mono (sh_int _) (by decide)
  · exact sh_mono (sh_int _) (by decide)
  · exact sh_tup (sh_rw h)
theorem py_shp (A B D : Int) (N : Rows) : pyT (shp A B D N) = some (.tuple [.int A, .int B, .int D, .tuple (N.map fun l => PyData.str (st l))]) := by
  show (((some (PyData.int A)).bind (fun d => ((some (PyData.int B)).bind (fun d => ((some (PyData.int D)).bind (fun d => ((((pyTs (rw N)).map PyData.tuple)).bind (fun d => (some []).map (d :: ·))).map (d :: ·))).map (d :: ·))).map (d :: ·))).map PyData.tuple) = _
  rw [py_rw]; rfl
theorem eq_shp {A B D A' B' D' : Int} {N N' : Rows} (h : DR N) (h' : DR N') : eqT (shp A B D N) (shp A' B' D' N') = some (decide (A = A' ∧ B = B' ∧ D = D' ∧ N = N')) := by
  rw [eq_sh (n := 2) (sh_shp h) (sh_shp h') (by decide) (d := .tuple [.int A, .int B, .int D, .tuple (N.map fun l => PyData.str (st l))]) (e := .tuple [.int A', .int B', .int D', .tuple (N'.map fun l => PyData.str (st l))]) ?_ ?_]
  · show some ((A == A') && ((B == B') && ((D == D') && (PyData.eqvAll _ _ && true)))) = _
    rw [eqv_rw]
    congr 1
    by_cases h1 : A = A' <;> by_cases h2 : B = B' <;> by_cases h3 : D = D' <;> by_cases h4 : N = N' <;> simp [h1, h2, h3, h4]
  · exact py_shp A B D N
  · exact py_shp A' B' D' N'
abbrev chrs (l : List Nat) : List T := l.map one
theorem strsW : ∀ ws : List (List Nat), strsT (ws.map wd) = some (ws.map fun (w : List Nat) => (⟨w.toArray⟩ : Str))
  | [] => rfl
  | w :: ws => by
    show (strsT (ws.map wd)).map (_ :: ·) = _
    rw [strsW ws]; rfl
theorem fold_glue : ∀ (ws : List (List Nat)) (acc : Array Nat), ((ws.map fun (w : List Nat) => (⟨w.toArray⟩ : Str)).foldl (fun acc p => acc ++ ("" : Str).cps ++ p.cps) acc).toList = acc.toList ++ ws.flatten
  | [], acc => by simp
  | w :: ws, acc => by
    rw [List.map_cons, List.foldl_cons, fold_glue ws]
    have : ("" : Str).cps = #[] := by rfl
    rw [this]
    simp
theorem joinW {ws : List (List Nat)} (h : ws.flatten.length ≤ 16000000) : joinT "" (.lst (ws.map wd)) = some (wd ws.flatten) := by
  show ((strsT (ws.map wd)).bind fun ys => if (ys.map (·.length)).sum + ys.length * ("" : Str).length ≤ 16777216 then some (T.str (Txt.join "" ys)) else none) = _
  rw [strsW ws]
  show (if _ then some (T.str (Txt.join "" (ws.map fun (w : List Nat) => (⟨w.toArray⟩ : Str)))) else none) = _
  have e1 : ((ws.map fun (w : List Nat) => (⟨w.toArray⟩ : Str)).map (·.length)).sum = ws.flatten.length := by
    rw [List.length_flatten, List.map_map]
    congr 1
  have e2 : ("" : Str).length = 0 := by rfl
  rw [e1, e2, Nat.mul_zero, if_pos (by omega)]
  have e3 : Txt.join "" (ws.map fun (w : List Nat) => (⟨w.toArray⟩ : Str)) = ⟨ws.flatten.toArray⟩ := by
    cases ws with
    | nil => rfl
    | cons w ws =>
      show (⟨((ws.map fun (w : List Nat) => (⟨w.toArray⟩ : Str)).foldl (fun acc p => acc ++ ("" : Str).cps ++ p.cps) w.toArray)⟩ : Str) = _
      congr 1
      apply Array.toList_inj.mp
      rw [fold_glue]
      simp
  rw [e3]
theorem chrs_wd (l : List Nat) : chrs l = (l.map fun c => [c]).map wd := by
  rw [List.map_map]; rfl
theorem flat1 : ∀ l : List Nat, (l.map fun c => [c]).flatten = l
  | [] => rfl
  | c :: l => by rw [List.map_cons, List.flatten_cons, flat1 l]; rfl
theorem joinC {l : List Nat} (h : l.length ≤ 16000000) : joinT "" (.lst (chrs l)) = some (wd l) := by
  have := joinW (ws := l.map fun c => [c]) (by rw [flat1]; exact h)
  rw [flat1] at this
  rw [chrs_wd]; exact this
theorem rng2 {f g : Ep.Env → M T} {env : Ep.Env} {r : RS} {i j : Int} (h1 : f env r = .ok (.int i) r) (h2 : g env r = .ok (.int j) r) (hi : -(2 ^ 62) ≤ i ∧ i < 2 ^ 62) (hj : -(2 ^ 62) ≤ j ∧ j < 2 ^ 62) : fRng2 f g env r = .ok (rngL i (j - i).toNat) r := by
  refine bind_ok (a := [.int i, .int j]) (r1 := r) (e_cons (x := .int i) (r1 := r) h1 (e_cons (x := .int j) (r1 := r) h2 rfl)) ?_
  show M.lift (if -(2 ^ 62) ≤ i ∧ i < 2 ^ 62 ∧ -(2 ^ 62) ≤ j ∧ j < 2 ^ 62 then some (rngL i (j - i).toNat) else none) r = _
  rw [if_pos ⟨hi.1, hi.2, hj.1, hj.2⟩]; rfl
end K13
namespace K13
open PySem Ep L2
def cells (a d : Int) : List (Int × Int) := (List.range d.toNat).flatMap fun y => (List.range a.toNat).map fun x => (((0 + (x : Nat) : Int)), ((0 + (y : Nat) : Int)))
theorem mem_cells {a d : Int} (ha : 0 < a) (hd : 0 < d) {p : Int × Int} : p ∈ cells a d ↔ 0 ≤ p.1 ∧ p.1 < a ∧ 0 ≤ p.2 ∧ p.2 < d := by
  unfold cells
  simp only [List.mem_flatMap, List.mem_map, List.mem_range]
  constructor
  · rintro ⟨y, hy, x, hx, rfl⟩
    exact ⟨by simp, by simp; omega, by simp, by simp; omega⟩
  · rintro ⟨h1, h2, h3, h4⟩
    refine ⟨p.2.toNat, by omega, p.1.toNat, by omega, ?_⟩
    obtain ⟨x, y⟩ := p
    simp only [Prod.mk.injEq]
    exact ⟨by simp at h1 h2 ⊢; omega, by simp at h3 h4 ⊢; omega⟩
theorem flatMap_map {α β γ : Type} (f : α → β) (g : β → List γ) : ∀ l : List α, (l.map f).flatMap g = l.flatMap fun a => g (f a)
  | [] => rfl
  | a :: l => by rw [List.map_cons, List.flatMap_cons, List.flatMap_cons, flatMap_map f g l]
theorem map_flatMap' {α β γ : Type} (f : β → γ) (g : α → List β) : ∀ l : List α, (l.flatMap g).map f = l.flatMap fun a => (g a).map f
  | [] => rfl
  | a :: l => by rw [List.flatMap_cons, List.flatMap_cons, List.map_append, map_flatMap' f g l]
theorem rows_cells (a d : Int) : rows a d = (cells a d).map fun p => pr p.1 p.2 := by
  unfold rows cells
  rw [map_flatMap']
  show ((List.range d.toNat).map fun i => T.int (0 + (i : Nat))).flatMap (row a) = _
  rw [flatMap_map]
  congr 1
  funext y
  show ((List.range a.toNat).map fun i => T.int (0 + (i : Nat))).map _ = _
  rw [List.map_map, List.map_map]
  rfl
variable {a b d : Int} {R : Rows}
def perB (a b d : Int) (R : Rows) (u v : Int) : Bool := (cells a d).all fun p => decide (pl a b d R p.1 p.2 = pl a b d R (p.1 + u) (p.2 + v))
theorem pl_per (S : Sz a b d R) : Per (pl a b d R) a 0 ∧ Per (pl a b d R) b d := grid_per (g := cl R) S.a0 S.d0
theorem perB_iff (S : Sz a b d R) {u v : Int} : perB a b d R u v = true ↔ Per (pl a b d R) u v := by
  unfold perB
  rw [List.all_eq_true]
  constructor
  · intro h
    exact per_places S.a0 S.d0 (pl_per S).1 (pl_per S).2 fun x y x0 x1 y0 y1 => of_decide_eq_true (h (x, y) ((mem_cells S.a0 S.d0).mpr ⟨x0, x1, y0, y1⟩))
  · exact fun h p _ => decide_eq_true (h p.1 p.2).symm
def perG (a b d : Int) (R : Rows) (u v : Int) : T → T
  | .tup [.int x, .int y] => .bl (decide (pl a b d R x y = pl a b d R (x + u) (y + v)))
  | t => t
theorem bls_map {α : Type} (q : α → Bool) : ∀ l : List α, blsT (l.map fun p => T.bl (q p)) = some (l.map q)
  | [] => rfl
  | p :: l => by
    show (blsT (l.map fun p => T.bl (q p))).map (_ :: ·) = _
    rw [bls_map q l]; rfl
theorem all_map {α : Type} (q : α → Bool) (l : List α) (r : RS) : allT r (.lst (l.map fun p => T.bl (q p))) = some (.bl (l.all q)) := by
  show (blsT (l.map fun p => T.bl (q p))).map (fun bs => T.bl (bs.all _root_.id)) = _
  rw [bls_map, Option.map_some, List.all_map]
  rfl
theorem is_period (S : Sz a b d R) {u v : Int} (hu : u.natAbs < 2 ^ 800) (hv : v.natAbs < 2 ^ 800) (r : RS) : F_is_period_of [latt a b d, .tup (rw R), pr u v] r = .ok (.bl (perB a b d R u v)) r := by
  have sm := S.small
  have e : compF [6] (hName 6) fYes (fCmp eqT (fCall F_sign_at [] [(fVar 0), (fVar 1), (fVar 6)]) (fCall F_sign_at [] [(fVar 0), (fVar 1), (fTup [(fBin addT (fIx (fVar 6) (fC (.int 0))) (fVar 3)), (fBin addT (fIx (fVar 6) (fC (.int 1))) (fVar 4))])])) (rows a d) [] [.val (latt a b d), .val (.tup (rw R)), .val (pr u v), .val (.int u), .val (.int v), .val (.lst (rows a d)), .un] r = .ok ([] ++ (rows a d).map (perG a b d R u v)) r := by
    refine comp_map (perG a b d R u v) _ _ r (fun z hz => ?_) (by have := rows_len S.toLt S.few; simp only [List.length_nil]; omega)
    rw [rows_cells] at hz
    obtain ⟨p, hp, rfl⟩ := List.mem_map.mp hz
    obtain ⟨h1, h2, h3, h4⟩ := (mem_cells S.a0 S.d0).mp hp
    obtain ⟨x, y⟩ := p
    simp only at h1 h2 h3 h4
    refine ⟨[.val (latt a b d), .val (.tup (rw R)), .val (pr u v), .val (.int u), .val (.int v), .val (.lst (rows a d)), .val (pr x y)], rfl, rfl, ?_⟩
    refine e_cmp (x := one (pl a b d R x y)) (y := one (pl a b d R (x + u) (y + v))) (r1 := r) (r2 := r) (e_call (ts := [latt a b d, .tup (rw R), pr x y]) (r1 := r) rfl (sign_at S (by omega) (by omega) r)) (e_call (ts := [latt a b d, .tup (rw R), pr (x + u) (y + v)]) (r1 := r) rfl (sign_at S (by omega) (by omega) r)) ?_
    exact eq_one (pl_dg S.toLt S.toGr) (pl_dg S.toLt S.toGr)
  rw [List.nil_append] at e
  have e2 : (rows a d).map (perG a b d R u v) = (cells a d).map fun p => T.bl (decide (pl a b d R p.1 p.2 = pl a b d R (p.1 + u) (p.2 + v))) := by
    rw [rows_cells, List.map_map]; rfl
  rw [e2] at e
  refine n_fn (n_seq (n_asg (x := pr u v) (r1 := r) rfl rfl) (n_seq (n_set (t := .lst (rows a d)) (r1 := r) (e_meth (C := 5) (vs := [.int a, .int b, .int d]) (ts := []) (r1 := r) (r2 := r) rfl rfl (l_places S.toLt S.few r))) (n_seqR (n_ret (t := .bl (perB a b d R u v)) (r1 := r) (e_b1 (r1 := r) (e_own (bind_ok (a := rows a d) (r1 := r) rfl e)) (all_map _ _ r))))))
theorem loop_first {h : T → Ep.Env → Option Ep.Env} {s : Sm} {Fam : Ep.Env → Prop} {r : RS} {t v : T} : ∀ (pre post : List T) (env : Ep.Env), Fam env → (∀ x ∈ pre, ∀ env, Fam env → ∃ e1 e2, h x env = some e1 ∧ s e1 r = .nx e2 r ∧ Fam e2) → (∀ env, Fam env → ∃ e1, h t env = some e1 ∧ s e1 r = .rt v r) → loopF h s (pre ++ t :: post) env r = .rt v r
  | [], post, env, f, _, H => by
    obtain ⟨e1, h1, h2⟩ := H env f
    exact n_loopR h1 h2
  | x :: pre, post, env, f, G, H => by
    obtain ⟨e1, e2, h1, h2, f2⟩ := G x List.mem_cons_self env f
    exact n_loop h1 h2 (loop_first pre post e2 f2 (fun y hy => G y (List.mem_cons_of_mem _ hy)) H)
theorem rngL_split (lo : Int) (m n : Nat) : rngL lo (m + 1 + n) = rngL lo m ++ .int (lo + (m : Nat)) :: rngL (lo + (m : Nat) + 1) n := by
  unfold rngL
  rw [List.range_add, List.range_succ, List.map_append, List.map_append, List.map_map, List.append_assoc]
  congr 1
  show T.int (lo + (m : Nat)) :: _ = _
  congr 1
  refine List.map_congr_left fun i _ => ?_
  show T.int (lo + ((m + 1 + i : Nat) : Int)) = T.int (lo + (m : Nat) + 1 + (i : Nat))
  congr 1
  omega
theorem mem_rngL {lo : Int} {n : Nat} {x : T} (h : x ∈ rngL lo n) : ∃ i : Int, x = .int i ∧ lo ≤ i ∧ i < lo + n := by
  obtain ⟨k, hk, rfl⟩ := List.mem_map.mp h
  have := List.mem_range.mp hk
  exact ⟨_, rfl, by omega, by omega⟩
def dv (n : Int) : T → Bool
  | .int i => decide (n % i = 0)
  | _ => false
theorem eqI (i j : Int) : eqT (.int i) (.int j) = some (decide (i = j)) := rfl
theorem divisors {n : Int} (h0 : 0 < n) (h1 : n < 100) (r : RS) : F_divisors_of [.int n] r = .ok (.lst ((rngL 1 n.toNat).filter (dv n))) r := by
  have e : compF [1] (hName 1) (fCmpB eqT (fBin modT (fB1 intTS (fVar 0)) (fVar 1)) (fC (.int 0))) (fVar 1) (rngL 1 n.toNat) [] [.val (.int n), .un] r = .ok ([] ++ (rngL 1 n.toNat).filter (dv n)) r := by
    refine comp_fil (dv n) _ _ r (fun x hx => ?_) (by rw [rng_len]; simp only [List.length_nil]; omega)
    obtain ⟨i, rfl, i0, i1⟩ := mem_rngL hx
    refine ⟨[.val (.int n), .val (.int i)], rfl, ?_, fun _ => rfl⟩
    exact e_cmpB (x := .int (n % i)) (y := .int 0) (r1 := r) (r2 := r) (e_bin (x := .int n) (y := .int i) (r1 := r) rfl rfl (modP (by omega))) rfl (eqI _ _)
  rw [List.nil_append] at e
  exact n_fn (n_seqR (n_ret (e_own (bind_ok (a := rngL 1 n.toNat) (r1 := r) (rng2 (i := 1) (j := n + 1) rfl rfl (by omega) (by omega) |>.trans (by rw [show (n + 1 - 1).toNat = n.toNat by omega])) e))))
theorem div_split {n A : Int} (h0 : 0 < n) (hA : 0 < A) (hn : A ∣ n) : ∃ pre post, (rngL 1 n.toNat).filter (dv n) = pre ++ .int A :: post ∧ ∀ x ∈ pre, ∃ i : Int, x = .int i ∧ 0 < i ∧ i < A := by
  have hle : A ≤ n := Int.le_of_dvd h0 hn
  have e : n.toNat = (A.toNat - 1) + 1 + (n.toNat - A.toNat) := by omega
  rw [e, rngL_split, List.filter_append, List.filter_cons]
  have ea : (1 : Int) + ((A.toNat - 1 : Nat) : Int) = A := by omega
  rw [ea, if_pos (show dv n (.int A) = true from decide_eq_true (Int.emod_eq_zero_of_dvd hn))]
  refine ⟨_, _, rfl, fun x hx => ?_⟩
  obtain ⟨i, rfl, i0, i1⟩ := mem_rngL ((List.mem_filter.mp hx).1)
  exact ⟨i, rfl, by omega, by omega⟩
theorem nf_ex (S : Sz a b d R) : ∃ A B D, NF (pl a b d R) A B D ∧ A ∣ a ∧ A ≤ a ∧ D ∣ d ∧ D ≤ d := by
  obtain ⟨A, hA, hAa, dA, pA, mA⟩ := min_a S.a0 (pl_per S).1
  obtain ⟨D, hD, hDd, dD, ⟨u, pD⟩, mD⟩ := min_d S.d0 (pl_per S).2
  exact ⟨A, u % A, D, ⟨hA, Int.emod_nonneg _ (by omega), Int.emod_lt_of_pos _ hA, hD, pA, mA, per_mod hA pA pD, mD⟩, dA, hAa, dD, hDd⟩
theorem level (S : Sz a b d R) {A : Int} (hA : 0 < A) (dA : A ∣ a) (pA : Per (pl a b d R) A 0) (mA : ∀ u, 0 < u → u < A → ¬ Per (pl a b d R) u 0) (r : RS) : F_level_period [latt a b d, .tup (rw R)] r = .ok (.int A) r := by
  have sm := S.small
  obtain ⟨pre, post, e, hp⟩ := div_split S.a0 hA dA
  have hle : A ≤ a := Int.le_of_dvd S.a0 dA
  have test : ∀ i : Int, 0 < i → i ≤ a → (fTru (fCall F_is_period_of [] [(fVar 0), (fVar 1), (fTup [(fVar 2), (fC (.int 0))])])) [.val (latt a b d), .val (.tup (rw R)), .val (.int i)] r = .ok (perB a b d R i 0) r := fun i i0 i1 =>
    e_tru (x := .bl (perB a b d R i 0)) (e_call (ts := [latt a b d, .tup (rw R), pr i 0]) (r1 := r) rfl (is_period S (by omega) (by decide) r)) rfl
  refine n_fn (n_seqR (n_for (xs := (rngL 1 a.toNat).filter (dv a)) (r1 := r) ?_ ?_))
  · exact bind_ok (a := T.lst ((rngL 1 a.toNat).filter (dv a))) (r1 := r) (e_call (ts := [.int a]) (r1 := r) rfl (divisors S.a0 sm.1 r)) rfl
  · rw [e]
    refine loop_first (Fam := fun env => ∃ s, env = [.val (latt a b d), .val (.tup (rw R)), s]) _ _ _ ⟨.un, rfl⟩ (fun x hx env ⟨s, es⟩ => ?_) (fun env ⟨s, es⟩ => ?_)
    · obtain ⟨i, rfl, i0, i1⟩ := hp x hx
      subst es
      refine ⟨[.val (latt a b d), .val (.tup (rw R)), .val (.int i)], [.val (latt a b d), .val (.tup (rw R)), .val (.int i)], rfl, n_seq (n_ifF (r1 := r) ((test i i0 (by omega)).trans ?_) rfl) rfl, ⟨_, rfl⟩⟩
      rw [show perB a b d R i 0 = false from by
        cases q : perB a b d R i 0 with
        | false => rfl
        | true => exact absurd ((perB_iff S).mp q) (mA i i0 i1)]
    · subst es
      refine ⟨[.val (latt a b d), .val (.tup (rw R)), .val (.int A)], rfl, n_seqR (n_ifT (r1 := r) ((test A hA hle).trans (by rw [(perB_iff S).mpr pA])) (n_seqR (n_ret (t := .int A) (r1 := r) rfl)))⟩
end K13
namespace K13
open PySem Ep L2
variable {a b d : Int} {R : Rows}
theorem NF.bs {C : Int → Int → Nat} {A B D : Int} (n : NF C A B D) {u : Int} (h0 : 0 ≤ u) (h1 : u < B) : ¬ Per C u D := fun p => by
  have q := n.pb.sub p
  rw [Int.sub_self] at q
  have := n.b1
  exact n.ma (B - u) (by omega) (by omega) q
theorem loop_pass {h : T → Ep.Env → Option Ep.Env} {s : Sm} {Fam : Ep.Env → Prop} {r : RS} : ∀ (xs : List T) (env : Ep.Env), Fam env → (∀ x ∈ xs, ∀ env, Fam env → ∃ e1 e2, h x env = some e1 ∧ s e1 r = .nx e2 r ∧ Fam e2) → ∃ e2, loopF h s xs env r = .nx e2 r ∧ Fam e2
  | [], env, f, _ => ⟨env, rfl, f⟩
  | x :: xs, env, f, G => by
    obtain ⟨e1, e2, h1, h2, f2⟩ := G x List.mem_cons_self env f
    obtain ⟨e3, h3, f3⟩ := loop_pass xs e2 f2 fun y hy => G y (List.mem_cons_of_mem _ hy)
    exact ⟨e3, n_loop h1 h2 h3, f3⟩
abbrev rl (R : Rows) : T := .tup (rw R)
theorem least (S : Sz a b d R) {A B D : Int} (n : NF (pl a b d R) A B D) (dA : A ∣ a) (dD : D ∣ d) (r : RS) : F_least_lattice [latt a b d, rl R] r = .ok (latt A B D) r := by
  have sm := S.small
  have hA := Int.le_of_dvd S.a0 dA
  have hD := Int.le_of_dvd S.d0 dD
  have nb := n.b0; have nb1 := n.b1; have na := n.a0; have nd := n.d0
  have LL : Lt A B D := ⟨n.a0, n.b0, n.b1, n.d0, by omega, by omega⟩
  obtain ⟨pre, post, e, hp⟩ := div_split S.d0 n.d0 dD
  have test : ∀ i j : Int, 0 ≤ i → i < 100 → 0 < j → j < 100 → (fTru (fCall F_is_period_of [] [(fVar 0), (fVar 1), (fTup [(fVar 4), (fVar 3)])])) [.val (latt a b d), .val (rl R), .val (.int A), .val (.int j), .val (.int i)] r = .ok (perB a b d R i j) r := fun i j i0 i1 j0 j1 =>
    e_tru (x := .bl (perB a b d R i j)) (e_call (ts := [latt a b d, rl R, pr i j]) (r1 := r) rfl (is_period S (by omega) (by omega) r)) rfl
  have no : ∀ i j, ¬ Per (pl a b d R) i j → perB a b d R i j = false := fun i j h => by
    cases q : perB a b d R i j with
    | false => rfl
    | true => exact absurd ((perB_iff S).mp q) h
  have rng : ∀ (j : Int) (s : Slot), fRng1 (fVar 2) [.val (latt a b d), .val (rl R), .val (.int A), .val (.int j), s] r = .ok (rngL 0 A.toNat) r := fun j s => bind_ok (a := [T.int A]) (r1 := r) rfl (by rw [rng1 (by omega) (by omega)]; rfl)
  refine n_fn (n_seq (n_set (t := .int A) (r1 := r) (e_call (ts := [latt a b d, rl R]) (r1 := r) rfl (level S n.a0 dA n.pa n.ma r))) (n_seqR (n_for (xs := (rngL 1 d.toNat).filter (dv d)) (r1 := r) ?_ ?_)))
  · exact bind_ok (a := T.lst ((rngL 1 d.toNat).filter (dv d))) (r1 := r) (e_call (ts := [.int d]) (r1 := r) rfl (divisors S.d0 sm.2 r)) rfl
  · rw [e]
    refine loop_first (Fam := fun env => ∃ s u, env = [.val (latt a b d), .val (rl R), .val (.int A), s, u]) _ _ _ ⟨.un, .un, rfl⟩ (fun x hx env ⟨s, u, es⟩ => ?_) (fun env ⟨s, u, es⟩ => ?_)
    · obtain ⟨j, rfl, j0, j1⟩ := hp x hx
      subst es
      obtain ⟨e2, l2, ⟨u2, rfl⟩⟩ := loop_pass (h := hName 4) (s := (qSeq (qIf (fTru (fCall F_is_period_of [] [(fVar 0), (fVar 1), (fTup [(fVar 4), (fVar 3)])])) (qSeq (qRet (fMake 5 F_Lattice_init [] [(fVar 2), (fVar 4), (fVar 3)])) qNil) qNil) qNil)) (Fam := fun env => ∃ u, env = [.val (latt a b d), .val (rl R), .val (.int A), .val (.int j), u]) (r := r) (rngL 0 A.toNat) _ ⟨u, rfl⟩ (fun x hx env ⟨v, ev⟩ => by
        obtain ⟨i, rfl, i0, i1⟩ := mem_rngL hx
        subst ev
        refine ⟨[.val (latt a b d), .val (rl R), .val (.int A), .val (.int j), .val (.int i)], [.val (latt a b d), .val (rl R), .val (.int A), .val (.int j), .val (.int i)], rfl, n_seq (n_ifF (r1 := r) ((test i j i0 (by omega) j0 (by omega)).trans (by rw [no i j (n.md i j j0 j1)])) rfl) rfl, ⟨_, rfl⟩⟩)
      exact ⟨[.val (latt a b d), .val (rl R), .val (.int A), .val (.int j), u], _, rfl, n_seq (n_for (rng j u) l2) rfl, ⟨_, _, rfl⟩⟩
    · subst es
      refine ⟨[.val (latt a b d), .val (rl R), .val (.int A), .val (.int D), u], rfl, n_seqR (n_for (rng D u) ?_)⟩
      have e3 : A.toNat = B.toNat + 1 + (A.toNat - B.toNat - 1) := by omega
      rw [e3, rngL_split, show (0 : Int) + (B.toNat : Nat) = B by omega]
      refine loop_first (Fam := fun env => ∃ u, env = [.val (latt a b d), .val (rl R), .val (.int A), .val (.int D), u]) _ _ _ ⟨u, rfl⟩ (fun x hx env ⟨v, ev⟩ => ?_) (fun env ⟨v, ev⟩ => ?_)
      · obtain ⟨i, rfl, i0, i1⟩ := mem_rngL hx
        subst ev
        exact ⟨[.val (latt a b d), .val (rl R), .val (.int A), .val (.int D), .val (.int i)], [.val (latt a b d), .val (rl R), .val (.int A), .val (.int D), .val (.int i)], rfl, n_seq (n_ifF (r1 := r) ((test i D i0 (by omega) n.d0 (by omega)).trans (by rw [no i D (n.bs i0 (by omega))])) rfl) rfl, ⟨_, rfl⟩⟩
      · subst ev
        exact ⟨[.val (latt a b d), .val (rl R), .val (.int A), .val (.int D), .val (.int B)], rfl, n_seqR (n_ifT (r1 := r) ((test B D n.b0 (by omega) n.d0 (by omega)).trans (by rw [(perB_iff S).mpr n.pb])) (n_seqR (n_ret (t := latt A B D) (r1 := r) (e_make (ts := [.int A, .int B, .int D]) (r1 := r) rfl (init LL r)))))⟩
def nrow (C : Int → Int → Nat) (A y : Int) : List Nat := (List.range A.toNat).map fun x => C (0 + (x : Nat)) y
def nrm (C : Int → Int → Nat) (A D : Int) : Rows := (List.range D.toNat).map fun y => nrow C A (0 + (y : Nat))
theorem str1 {f : Ep.Env → M T} {env : Ep.Env} {r r1 : RS} {l : List Nat} (h2 : f env r = .ok (.lst (chrs l)) r1) (h3 : l.length ≤ 16000000) : fStr1 joinT (fC (.str "")) f env r = .ok (wd l) r1 := by
  refine bind_ok (a := .str "") rfl (bind_ok h2 ?_)
  rw [joinC h3]; rfl
def sgG (C : Int → Int → Nat) (y : Int) : T → T
  | .int x => one (C x y)
  | t => t
theorem sg_row (C : Int → Int → Nat) (A y : Int) : (rngL 0 A.toNat).map (sgG C y) = chrs (nrow C A y) := by
  show ((List.range A.toNat).map _).map _ = ((List.range A.toNat).map _).map _
  rw [List.map_map, List.map_map]; rfl
theorem row_text (S : Sz a b d R) {A B D : Int} (hA : 0 < A) (hA1 : A < 100) {y : Int} (hy : 0 ≤ y) (hy1 : y < 100) (s3 s5 : Slot) (r : RS) :
    (fStr1 joinT (fC (.str "")) (fOwn (fComp [5] (hName 5) fYes (fCall F_sign_at [] [(fVar 0), (fVar 1), (fTup [(fVar 5), (fVar 4)])]) (fRng1 (fFld m_a (fVar 2)))))) [.val (latt a b d), .val (rl R), .val (latt A B D), s3, .val (.int y), s5] r = .ok (wd (nrow (pl a b d R) A y)) r := by
  have e : compF [5] (hName 5) fYes (fCall F_sign_at [] [(fVar 0), (fVar 1), (fTup [(fVar 5), (fVar 4)])]) (rngL 0 A.toNat) [] [.val (latt a b d), .val (rl R), .val (latt A B D), s3, .val (.int y), s5] r = .ok ([] ++ (rngL 0 A.toNat).map (sgG (pl a b d R) y)) r := by
    refine comp_map (sgG (pl a b d R) y) _ _ r (fun z hz => ?_) (by rw [rng_len]; simp only [List.length_nil]; omega)
    obtain ⟨x, rfl, x0, x1⟩ := mem_rngL hz
    exact ⟨[.val (latt a b d), .val (rl R), .val (latt A B D), s3, .val (.int y), .val (.int x)], rfl, rfl, e_call (ts := [latt a b d, rl R, pr x y]) (r1 := r) rfl (sign_at S (by omega) (by omega) r)⟩
  rw [List.nil_append, sg_row] at e
  exact str1 (e_own (bind_ok (a := rngL 0 A.toNat) (r1 := r) (bind_ok (a := [T.int A]) (r1 := r) rfl (by rw [rng1 (by omega) hA1]; rfl)) e)) (by unfold nrow; rw [List.length_map, List.length_range]; omega)
abbrev nBody : Sm := (qSeq (qApp 3 (fStr1 joinT (fC (.str "")) (fOwn (fComp [5] (hName 5) fYes (fCall F_sign_at [] [(fVar 0), (fVar 1), (fTup [(fVar 5), (fVar 4)])]) (fRng1 (fFld m_a (fVar 2))))))) qNil)
def nwG (C : Int → Int → Nat) (A : Int) : T → T
  | .int y => wd (nrow C A y)
  | t => t
theorem n_loopA (S : Sz a b d R) {A B D : Int} (hA : 0 < A) (hA1 : A < 100) (r : RS) : ∀ (ys acc : List T) (s4 s5 : Slot), (∀ y ∈ ys, ∃ i : Int, y = .int i ∧ 0 ≤ i ∧ i < 100) → acc.length + ys.length < 1000 → ∃ s4' s5', loopF (hName 4) nBody ys [.val (latt a b d), .val (rl R), .val (latt A B D), .own acc, s4, s5] r = .nx [.val (latt a b d), .val (rl R), .val (latt A B D), .own (acc ++ ys.map (nwG (pl a b d R) A)), s4', s5'] r
  | [], acc, s4, s5, _, _ => ⟨s4, s5, by rw [List.map_nil, List.append_nil]; rfl⟩
  | y :: ys, acc, s4, s5, h, hl => by
    obtain ⟨i, rfl, i0, i1⟩ := h y List.mem_cons_self
    rw [List.length_cons] at hl
    obtain ⟨t4, t5, ih⟩ := n_loopA S hA hA1 r ys (acc ++ [nwG (pl a b d R) A (.int i)]) (.val (.int i)) s5 (fun z hz => h z (List.mem_cons_of_mem _ hz)) (by rw [List.length_append]; simp only [List.length_cons, List.length_nil]; omega)
    refine ⟨t4, t5, n_loop (env' := [.val (latt a b d), .val (rl R), .val (latt A B D), .own acc, .val (.int i), s5]) rfl (n_seq (n_app rfl (by omega) (row_text S hA hA1 i0 i1 (.own acc) s5 r)) rfl) ?_⟩
    rw [List.map_cons]
    rw [List.append_assoc] at ih
    exact ih
theorem nw_rows (C : Int → Int → Nat) (A D : Int) : (rngL 0 D.toNat).map (nwG C A) = rw (nrm C A D) := by
  show ((List.range D.toNat).map _).map _ = ((List.range D.toNat).map _).map _
  rw [List.map_map, List.map_map]; rfl
theorem normal (S : Sz a b d R) {A B D : Int} (hA : 0 < A) (hA1 : A < 100) (hD : 0 < D) (hD1 : D < 100) (r : RS) : F_normal_rows [latt a b d, rl R, latt A B D] r = .ok (rl (nrm (pl a b d R) A D)) r := by
  obtain ⟨t4, t5, e⟩ := n_loopA S hA hA1 (B := B) (D := D) r (rngL 0 D.toNat) [] .un .un (fun y hy => by
    obtain ⟨i, rfl, i0, i1⟩ := mem_rngL hy
    exact ⟨i, rfl, i0, by omega⟩) (by rw [rng_len]; simp only [List.length_nil]; omega)
  rw [List.nil_append, nw_rows] at e
  exact n_fn (n_seq (n_own (xs := []) (r1 := r) rfl) (n_seq (n_for (xs := rngL 0 D.toNat) (r1 := r) (bind_ok (a := [T.int D]) (r1 := r) rfl (by rw [rng1 (by omega) hD1]; rfl)) e) (n_seqR (n_frz (n_ret (t := rl (nrm (pl a b d R) A D)) (r1 := r) rfl)))))
end K13
namespace K13
open PySem Ep L2
variable {a b d : Int} {R : Rows}
def figs : Str := "0123456789"
def fig (c : Nat) : Bool := decide (c ∈ figs.cps.toList)
theorem fig_dg {c : Nat} (h : Dg c) : fig c = true := dig (P := fun c => fig c = true) h (ten (P := fun i => fig (48 + i) = true) (by kernel_rfl) (by kernel_rfl) (by kernel_rfl) (by kernel_rfl) (by kernel_rfl) (by kernel_rfl) (by kernel_rfl) (by kernel_rfl) (by kernel_rfl) (by kernel_rfl))
def figG : T → T
  | .str z => .bl (fig (z.cps.getD 0 0))
  | t => t
theorem len_wd {l : List Nat} (h : l.length ≤ 100000) (r : RS) : lenT r (wd l) = some (.int (l.length : Int)) := by
  show (if l.toArray.size ≤ 100000 then some (T.int (l.toArray.size : Nat)) else none) = _
  rw [List.size_toArray, if_pos h]
theorem is_row {l : List Nat} (hl : l.length ≤ 1000) (a : Int) (r : RS) : F_is_row [wd l, .int a] r = .ok (.bl (decide ((l.length : Int) = a) && l.all fig)) r := by
  have e : compF [2] (hName 2) fYes (fCmp inT (fVar 2) (fC (.str "0123456789"))) (chrs l) [] [.val (wd l), .val (.int a), .un] r = .ok ([] ++ (chrs l).map figG) r := by
    refine comp_map figG _ _ r (fun z hz => ?_) (by rw [List.length_map]; simp only [List.length_nil]; omega)
    obtain ⟨c, hc, rfl⟩ := List.mem_map.mp hz
    exact ⟨[.val (wd l), .val (.int a), .val (one c)], rfl, rfl, e_cmp (x := one c) (y := .str "0123456789") (r1 := r) (r2 := r) rfl rfl rfl⟩
  rw [List.nil_append] at e
  have e2 : (chrs l).map figG = l.map fun c => T.bl (fig c) := by rw [List.map_map]; rfl
  rw [e2] at e
  refine n_fn (n_seqR (n_ret (e_andT (r1 := r) rfl ?_)))
  have e3 : (fCmp eqT (fB1 lenT (fVar 0)) (fVar 1)) [.val (wd l), .val (.int a), .un] r = .ok (.bl (decide ((l.length : Int) = a))) r := e_cmp (x := .int (l.length : Int)) (y := .int a) (r1 := r) (r2 := r) (e_b1 (x := wd l) rfl (len_wd (by omega) r)) rfl rfl
  cases q : decide ((l.length : Int) = a) with
  | false => rw [q] at e3; exact e_andF e3
  | true => rw [q] at e3; exact e_andT e3 (e_b1 (r1 := r) (e_own (bind_ok (a := chrs l) (r1 := r) rfl e)) (all_map fig l r))
structure RV (r : RS) (v : T) (xs : List T) : Prop where
  len : lenT r v = some (.int xs.length)
  tup : tupT r v = some (.tup xs)
  en : ∃ c, EnTltR r v = some (xs, c) ∧ chkR c r
  lis : F_is_list [v] r = .ok (.bl true) r
theorem RV.lst (r : RS) (xs : List T) : RV r (.lst xs) xs := ⟨rfl, rfl, ⟨none, rfl, trivial⟩, rfl⟩
theorem RV.tp (r : RS) (xs : List T) : RV r (.tup xs) xs := ⟨rfl, rfl, ⟨none, rfl, trivial⟩, rfl⟩
theorem RV.ref {r : RS} {k : Nat} {xs : List T} (h : r[k]? = some xs) : RV r (.ref k) xs :=
  ⟨by show (r[k]?).map _ = _; rw [h]; rfl, by show (r[k]?).map _ = _; rw [h]; rfl, ⟨some (k, xs), by show (r[k]?).map _ = _; rw [h]; rfl, h⟩, rfl⟩
abbrev cBody : Sm := (qSeq (qIf (fNotB (fTru (fCall F_is_row [] [(fVar 4), (fVar 1)]))) (qSeq (qRaise 2 (fVar 3)) qNil) qNil) qNil)
abbrev cTg : T → Ep.Env → Option Ep.Env := hTupL 2 (hCons (hName 3) (hCons (hName 4) hNil))
theorem fig_all {l : List Nat} (h : DL l) : l.all fig = true := List.all_eq_true.mpr fun c hc => fig_dg (h c hc)
theorem c_step {c : Option (Nat × List T)} {r : RS} (hc : chkR c r) (v s3 s4 : Slot) {a : Int} {d : Slot} {l : List Nat} {n : Nat} {xs : List T} (hl : (l.length : Int) = a) (ha : a < 1000) (hd : DL l) : loopG c cTg cBody (.tup [.int (n : Nat), wd l] :: xs) [v, .val (.int a), d, s3, s4] r = loopG c cTg cBody xs [v, .val (.int a), d, .val (.int (n : Nat)), .val (wd l)] r := by
  rw [loopG_cons hc]
  have e : cBody [v, .val (.int a), d, .val (.int (n : Nat)), .val (wd l)] r = .nx [v, .val (.int a), d, .val (.int (n : Nat)), .val (wd l)] r :=
    n_seq (n_ifF (r1 := r) (e_notB (b := true) (e_tru (x := .bl true) (e_call (ts := [wd l, .int a]) (r1 := r) rfl ((is_row (by omega) a r).trans (by rw [fig_all hd, decide_eq_true hl]; rfl))) rfl)) rfl) rfl
  show (match cBody [v, .val (.int a), d, .val (.int (n : Nat)), .val (wd l)] r with
    | .nx e r' => loopG c cTg cBody xs e r'
    | .ct e r' => loopG c cTg cBody xs e r'
    | .bk e r' => .nx e r'
    | .rt t r' => .rt t r'
    | .exn c p e r' => .exn c p e r'
    | .bad => .bad) = _
  rw [e]
theorem c_loop {c : Option (Nat × List T)} {r : RS} (hc : chkR c r) (v d : Slot) {a : Int} (ha : a < 1000) : ∀ (R : Rows) (n : Nat) (ys : List T) (s3 s4 : Slot), (∀ l ∈ R, (l.length : Int) = a ∧ DL l) → ∃ s3' s4', loopG c cTg cBody (enumL n (rw R ++ ys)) [v, .val (.int a), d, s3, s4] r = loopG c cTg cBody (enumL (n + R.length) ys) [v, .val (.int a), d, s3', s4'] r
  | [], n, ys, s3, s4, _ => ⟨s3, s4, rfl⟩
  | l :: R, n, ys, s3, s4, h => by
    obtain ⟨h1, h2⟩ := h l List.mem_cons_self
    obtain ⟨t3, t4, ih⟩ := c_loop hc v d ha R (n + 1) ys (.val (.int (n : Nat))) (.val (wd l)) fun m hm => h m (List.mem_cons_of_mem _ hm)
    refine ⟨t3, t4, ?_⟩
    show loopG c cTg cBody (.tup [.int (n : Nat), wd l] :: enumL (n + 1) (rw R ++ ys)) _ r = _
    rw [c_step hc v s3 s4 h1 ha h2, ih, List.length_cons, show n + 1 + R.length = n + (R.length + 1) by omega]
theorem rows_ok (S : Sz a b d R) {r : RS} {v : T} (h : RV r v (rw R)) : F_check_rows [v, .int a, .int d] r = .ok .non r := by
  obtain ⟨c, en, hc⟩ := h.en
  have sm := S.small
  obtain ⟨t3, t4, e⟩ := c_loop (a := a) hc (.val v) (.val (.int d)) (by omega) R 0 [] .un .un S.row
  rw [List.append_nil] at e
  have fin : loopG c cTg cBody (enumL (0 + R.length) []) [.val v, .val (.int a), .val (.int d), t3, t4] r = .nx [.val v, .val (.int a), .val (.int d), t3, t4] r := loopG_nil hc
  rw [fin] at e
  have hlen : ((rw R).length : Int) = d := by rw [List.length_map]; exact S.len
  refine n_fnN (env' := [.val v, .val (.int a), .val (.int d), t3, t4]) (n_seq (n_ifF (r1 := r) (e_orBF (r1 := r) (e_notB (b := true) (e_tru (x := .bl true) (e_call (ts := [v]) (r1 := r) rfl h.lis) rfl)) (e_cmpB (x := .int ((rw R).length : Int)) (y := .int d) (r1 := r) (r2 := r) (e_b1 (x := v) rfl h.len) rfl (by rw [neI, hlen]; simp))) rfl) (n_seq ?_ rfl))
  show ofM _ (fun p r => loopG p.2 cTg cBody p.1 _ r) (fEnumG (fVar 0) _ r) = _
  have ee : fEnumG (fVar 0) [.val v, .val (.int a), .val (.int d), .un, .un] r = .ok (enumL 0 (rw R), c) r := bind_ok (a := v) (r1 := r) rfl (by
    show M.lift ((EnTltR r v).map fun p => (enumL 0 p.1, p.2)) r = _
    rw [en]; rfl)
  show ofM _ (fun p r => loopG p.2 cTg cBody p.1 _ r) (fEnumG (fVar 0) [.val v, .val (.int a), .val (.int d), .un, .un] r) = _
  rw [ee]
  exact e
theorem n_fld {i C n : Nat} {f : Ep.Env → M T} {env : Ep.Env} {r r1 : RS} {t : T} {ts : List T} (he : env[i]? = some (.ins C ts)) (hl : ts.length = n) (h : f env r = .ok t r1) : qFld i C n f env r = .nx (env.set i (.ins C (ts ++ [t]))) r1 := by
  unfold qFld
  rw [he]
  show (if C = C ∧ ts.length = n then ofM env (fun t r => .nx (env.set i (.ins C (ts ++ [t]))) r) (f env r) else .bad) = _
  rw [if_pos ⟨rfl, hl⟩, h]; rfl
theorem lt_sub (S : Sz a b d R) {A B D : Int} (n : NF (pl a b d R) A B D) (dA : A ∣ a) (dD : D ∣ d) : Lt A B D ∧ A < 100 ∧ D < 100 := by
  have sm := S.small
  have hA := Int.le_of_dvd S.a0 dA
  have hD := Int.le_of_dvd S.d0 dD
  exact ⟨⟨n.a0, n.b0, n.b1, n.d0, by omega, by omega⟩, by omega, by omega⟩
theorem size_ok {n : Int} (h : n ≤ 144) (r : RS) : F_check_size [.int n] r = .ok .non r :=
  n_fnN (env' := envOf 0 [.int n]) (n_seq (n_ifF (r1 := r) (e_cmpB (x := .int n) (y := .int 144) (r1 := r) (r2 := r) rfl rfl (by rw [gt_ii, decide_eq_false (by omega)])) rfl) rfl)
abbrev crp (a b d : Int) (R : Rows) (A B D : Int) : T := .obj 6 [.int a, .int b, .int d, rl R, latt A B D, shp A B D (nrm (pl a b d R) A D)]
theorem mulS (S : Sz a b d R) : mulT (.int a) (.int d) = some (.int (a * d)) := mulL (by have := S.a0; omega) (by have := S.small; omega)
theorem init_c (S : Sz a b d R) {r : RS} {v : T} (h : RV r v (rw R)) {A B D : Int} (n : NF (pl a b d R) A B D) (dA : A ∣ a) (dD : D ∣ d) :
    F_Carpet_init [.int a, .int b, .int d, v] r = .ok [.int a, .int b, .int d, rl R, latt A B D, shp A B D (nrm (pl a b d R) A D)] r := by
  obtain ⟨LL, A1, D1⟩ := lt_sub S n dA dD
  have go : g_Carpet_init (.ins 6 [] :: envOf 1 [.int a, .int b, .int d, v]) r = .nx [.ins 6 [.int a, .int b, .int d, rl R, latt A B D, shp A B D (nrm (pl a b d R) A D)], .val (.int a), .val (.int b), .val (.int d), .val v, .val (latt a b d)] r :=
    n_seq (n_expr (e_call (ts := [.int a, .int b, .int d]) (r1 := r) rfl (basis S.toLt r)))
    (n_seq (n_expr (e_call (ts := [.int (a * d)]) (r1 := r) (e_cons (e_bin (x := .int a) (y := .int d) (r1 := r) rfl rfl (mulS S)) rfl) (size_ok (by have := S.few; omega) r)))
    (n_seq (n_expr (e_call (ts := [v, .int a, .int d]) (r1 := r) rfl (rows_ok S h)))
    (n_seq (n_fld (t := .int a) (ts := []) (r1 := r) rfl rfl rfl)
    (n_seq (n_fld (t := .int b) (ts := [.int a]) (r1 := r) rfl rfl rfl)
    (n_seq (n_fld (t := .int d) (ts := [.int a, .int b]) (r1 := r) rfl rfl rfl)
    (n_seq (n_fld (t := rl R) (ts := [.int a, .int b, .int d]) (r1 := r) rfl rfl (e_b1 (x := v) (r1 := r) rfl h.tup))
    (n_seq (n_set (t := latt a b d) (r1 := r) (e_make (ts := [.int a, .int b, .int d]) (r1 := r) rfl (init S.toLt r)))
    (n_seq (n_fld (t := latt A B D) (ts := [.int a, .int b, .int d, rl R]) (r1 := r) rfl rfl (e_call (ts := [latt a b d, rl R]) (r1 := r) rfl (least S n dA dD r)))
    (n_seq (n_fld (t := shp A B D (nrm (pl a b d R) A D)) (ts := [.int a, .int b, .int d, rl R, latt A B D]) (r1 := r) rfl rfl (e_tup (e_cons (x := .int A) (r1 := r) rfl (e_cons (x := .int B) (r1 := r) rfl (e_cons (x := .int D) (r1 := r) rfl (e_cons (x := rl (nrm (pl a b d R) A D)) (r1 := r) (e_call (ts := [latt a b d, rl R, latt A B D]) (r1 := r) rfl (normal S LL.a0 A1 LL.d0 D1 r)) rfl)))))) rfl)))))))))
  unfold F_Carpet_init fnI
  rw [go]
  rfl
end K13
namespace K13
open PySem Ep L2
theorem fSl0 {f b : Ep.Env → M T} {env : Ep.Env} {r : RS} {x y : T} {j : Int} (h1 : f env r = .ok x r) (h3 : b env r = .ok (.int j) r) (h4 : slT r x none (some j) = some y) : fSl f none (some b) env r = .ok y r := by
  refine bind_ok h1 (bind_ok (a := none) (r1 := r) rfl (bind_ok (a := some j) (r1 := r) (bind_ok h3 rfl) ?_))
  rw [h4]; rfl
theorem chrs_of : ∀ {ys : List T}, (∀ y ∈ ys, ∃ c, y = one c ∧ Dg c) → ∃ l, ys = chrs l ∧ DL l
  | [], _ => ⟨[], rfl, fun _ h => by cases h⟩
  | y :: ys, h => by
    obtain ⟨c, rfl, hc⟩ := h y List.mem_cons_self
    obtain ⟨l, e, hl⟩ := chrs_of fun z hz => h z (List.mem_cons_of_mem _ hz)
    refine ⟨c :: l, by rw [e]; rfl, fun d hd => ?_⟩
    rcases List.mem_cons.mp hd with rfl | hd
    · exact hc
    · exact hl d hd
abbrev signs : List T := [.str "01", .str "01", .str "012", .str "0123", .str "7788", .str "0001", .str "0"]
theorem dl_of {l : List Nat} (h : l.all (fun c => decide (48 ≤ c) && decide (c ≤ 57)) = true) : DL l := fun c hc => by
  have := List.all_eq_true.mp h c hc
  simp only [Bool.and_eq_true, decide_eq_true_eq] at this
  exact this
theorem signs_wd {t : T} (h : t ∈ signs) : ∃ l, t = wd l ∧ DL l ∧ 0 < l.length ∧ l.length ≤ 4 := by
  simp only [signs, List.mem_cons, List.not_mem_nil, or_false] at h
  rcases h with rfl | rfl | rfl | rfl | rfl | rfl | rfl
  · exact ⟨[48, 49], rfl, dl_of (by decide), by decide, by decide⟩
  · exact ⟨[48, 49], rfl, dl_of (by decide), by decide, by decide⟩
  · exact ⟨[48, 49, 50], rfl, dl_of (by decide), by decide, by decide⟩
  · exact ⟨[48, 49, 50, 51], rfl, dl_of (by decide), by decide, by decide⟩
  · exact ⟨[55, 55, 56, 56], rfl, dl_of (by decide), by decide, by decide⟩
  · exact ⟨[48, 48, 48, 49], rfl, dl_of (by decide), by decide, by decide⟩
  · exact ⟨[48], rfl, dl_of (by decide), by decide, by decide⟩
theorem rng1s {f : Ep.Env → M T} {env : Ep.Env} {r r1 : RS} {i : Int} (h1 : f env r = .ok (.int i) r1) (h : -(2 ^ 62) ≤ i ∧ i < 2 ^ 62) : fRng1 f env r = .ok (rngL 0 i.toNat) r1 := by
  refine bind_ok (a := [.int i]) (r1 := r1) (e_cons (x := .int i) (r1 := r1) h1 rfl) ?_
  show M.lift (if -(2 ^ 62) ≤ i ∧ i < 2 ^ 62 then some (rngL 0 i.toNat) else none) r1 = _
  rw [if_pos h]; rfl
abbrev rText : Ep.Env → M T := (fStr1 joinT (fC (.str "")) (fOwn (fComp [5] (hName 5) fYes (fIx (fVar 2) (fCall F__law_draw [] [(fVar 0), (fB1 lenT (fVar 2))])) (fRng1 (fIx (fVar 1) (fC (.int 0)))))))
theorem r_text {k : Nat} {a b d : Int} {l : List Nat} (hl : DL l) (l0 : 0 < l.length) (l4 : l.length ≤ 4) (a0 : 0 < a) (a1 : a < 100) (s3 s4 s5 : Slot) {r : RS} (h : Pool k r) :
    ∃ m r', rText [.val (.ref k), .val (three a b d), .val (wd l), s3, s4, s5] r = .ok (wd m) r' ∧ Pool k r' ∧ (m.length : Int) = a ∧ DL m := by
  obtain ⟨ys, r2, c2, h2, q2, l2⟩ := comp_st (vs := [5]) (h := hName 5) (p := fYes) (f := fIx (fVar 2) (fCall F__law_draw [] [(fVar 0), (fB1 lenT (fVar 2))])) (env := [.val (.ref k), .val (three a b d), .val (wd l), s3, s4, s5]) (I := Pool k) (Q := fun y => ∃ c, y = one c ∧ Dg c) (rngL 0 a.toNat) [] r h (fun x hx r hr => by
    obtain ⟨v, r', e, h', v0, v1⟩ := draw' (n := l.length) hr (by omega) (by omega)
    have hv : v.toNat < l.length := by omega
    refine ⟨[.val (.ref k), .val (three a b d), .val (wd l), s3, s4, .val x], one l[v.toNat], r', rfl, rfl, ?_, h', _, rfl, hl _ (List.getElem_mem hv)⟩
    exact e_ix (x := wd l) (y := .int v) (r1 := r) rfl (e_call (ts := [.ref k, .int l.length]) (r1 := r) (e_cons (x := .ref k) rfl (e_cons (e_b1 (x := wd l) (r1 := r) rfl (len_wd (by omega) r)) rfl)) e) (ix_wd v0 (List.getElem?_eq_getElem hv) (by omega) r')) (fun y hy => by cases hy) (by rw [rng_len]; simp only [List.length_nil]; omega)
  obtain ⟨m, rfl, hm⟩ := chrs_of q2
  have lm : m.length = a.toNat := by
    have : (chrs m).length = m.length := List.length_map _
    rw [this, rng_len] at l2
    simpa using l2
  exact ⟨m, r2, str1 (e_own (bind_ok (a := rngL 0 a.toNat) (r1 := r) (rng1s (i := a) rfl (by omega)) c2)) (by omega), h2, by omega, hm⟩
structure RowsOk (a : Int) (R : Rows) : Prop where
  row : ∀ l ∈ R, (l.length : Int) = a ∧ DL l
theorem RowsOk.snoc {a : Int} {R : Rows} (h : RowsOk a R) {m : List Nat} (h1 : (m.length : Int) = a) (h2 : DL m) : RowsOk a (R ++ [m]) := ⟨fun l hl => by
  rcases List.mem_append.mp hl with hl | hl
  · exact h.row l hl
  · rw [List.mem_singleton.mp hl]; exact ⟨h1, h2⟩⟩
theorem rw_snoc (R : Rows) (m : List Nat) : rw (R ++ [m]) = rw R ++ [wd m] := List.map_append
abbrev rBody : Sm := (qSeq (qApp 3 rText) qNil)
theorem r_loop {k : Nat} {a b d : Int} {l : List Nat} (hl : DL l) (l0 : 0 < l.length) (l4 : l.length ≤ 4) (a0 : 0 < a) (a1 : a < 100) : ∀ (ys : List T) (R : Rows) (s4 s5 : Slot) (r : RS), Pool k r → RowsOk a R → R.length + ys.length < 1000 →
    ∃ Q s4' s5' r', loopF (hName 4) rBody ys [.val (.ref k), .val (three a b d), .val (wd l), .own (rw R), s4, s5] r = .nx [.val (.ref k), .val (three a b d), .val (wd l), .own (rw Q), s4', s5'] r' ∧ Pool k r' ∧ RowsOk a Q ∧ Q.length = R.length + ys.length
  | [], R, s4, s5, r, hk, hR, _ => ⟨R, s4, s5, r, rfl, hk, hR, rfl⟩
  | y :: ys, R, s4, s5, r, hk, hR, hz => by
    rw [List.length_cons] at hz
    obtain ⟨m, r1, e, h1, m1, m2⟩ := r_text (b := b) (d := d) hl l0 l4 a0 a1 (.own (rw R)) (.val y) s5 hk
    obtain ⟨Q, t4, t5, r2, e2, h2, hQ, lQ⟩ := r_loop (b := b) (d := d) hl l0 l4 a0 a1 ys (R ++ [m]) (.val y) s5 r1 h1 (hR.snoc m1 m2) (by rw [List.length_append]; simp only [List.length_cons, List.length_nil]; omega)
    rw [rw_snoc] at e2
    refine ⟨Q, t4, t5, r2, n_loop (env' := [.val (.ref k), .val (three a b d), .val (wd l), .own (rw R), .val y, s5]) rfl (n_seq (n_app rfl (by rw [List.length_map]; omega) e) rfl) e2, h2, hQ, ?_⟩
    rw [lQ, List.length_append, List.length_cons]; simp only [List.length_cons, List.length_nil]; omega
theorem rowsR {k : Nat} {a b d : Int} (L : Lt a b d) (a1 : a < 100) (d1 : d < 100) {r : RS} (h : Pool k r) : ∃ R r', F__law_rows [.ref k, three a b d] r = .ok (.lst (rw R)) r' ∧ Pool k r' ∧ Gr a d R := by
  obtain ⟨t, r1, e1, h1, ht⟩ := pick (xs := signs) h (by decide) (by decide)
  obtain ⟨l, rfl, hl, l0, l4⟩ := signs_wd ht
  have d0 := L.d0
  obtain ⟨Q, t4, t5, r2, e2, h2, hQ, lQ⟩ := r_loop (b := b) (d := d) hl l0 l4 L.a0 a1 (rngL 0 d.toNat) [] .un .un r1 h1 ⟨fun l hl => by cases hl⟩ (by rw [rng_len]; simp only [List.length_nil]; omega)
  refine ⟨Q, r2, ?_, h2, ⟨by rw [lQ, rng_len]; simp only [List.length_nil]; omega, hQ.row⟩⟩
  exact n_fn (n_seq (n_set (e_call (ts := [.ref k, .lst signs]) (r1 := r) rfl e1)) (n_seq (n_own (xs := []) (r1 := r1) rfl) (n_seq (n_for (xs := rngL 0 d.toNat) (r1 := r1) (rng1s (i := d) rfl (by omega)) e2) (n_seqR (n_frz (n_ret (t := .lst (rw Q)) (r1 := r2) rfl))))))
end K13
namespace K13
open PySem Ep L2
variable {a b d : Int} {R : Rows}
theorem nrm_cl {C : Int → Int → Nat} {A D x y : Int} (x0 : 0 ≤ x) (x1 : x < A) (y0 : 0 ≤ y) (y1 : y < D) : cl (nrm C A D) x y = C x y := by
  unfold cl nrm
  have e1 : ((List.range D.toNat).map fun y => nrow C A (0 + (y : Nat))).getD y.toNat [] = nrow C A y := by
    rw [List.getD_eq_getElem?_getD, List.getElem?_map, List.getElem?_range (by omega)]
    show nrow C A (0 + ((y.toNat : Nat) : Int)) = _
    rw [show (0 : Int) + ((y.toNat : Nat) : Int) = y by omega]
  rw [e1]
  unfold nrow
  rw [List.getD_eq_getElem?_getD, List.getElem?_map, List.getElem?_range (by omega)]
  show C (0 + ((x.toNat : Nat) : Int)) y = _
  rw [show (0 : Int) + ((x.toNat : Nat) : Int) = x by omega]
theorem nrm_gr {C : Int → Int → Nat} (hC : ∀ x y, Dg (C x y)) {A D : Int} (hA : 0 ≤ A) (hD : 0 ≤ D) : Gr A D (nrm C A D) := by
  refine ⟨by unfold nrm; rw [List.length_map, List.length_range]; omega, fun l hl => ?_⟩
  obtain ⟨y, _, rfl⟩ := List.mem_map.mp hl
  refine ⟨by unfold nrow; rw [List.length_map, List.length_range]; omega, fun c hc => ?_⟩
  obtain ⟨x, _, rfl⟩ := List.mem_map.mp hc
  exact hC _ _
theorem coarse_pl (S : Sz a b d R) {s t w : Int} (s0 : 0 < s) (t0 : 0 < t) : pl (a * s) ((b * t + a * w) % (a * s)) (d * t) (nrm (pl a b d R) (a * s) (d * t)) = pl a b d R := by
  have ha : 0 < a * s := Int.mul_pos S.a0 s0
  have hd : 0 < d * t := Int.mul_pos S.d0 t0
  have p1 : Per (pl a b d R) (a * s) 0 := by
    have := (pl_per S).1.mul s
    rwa [Int.zero_mul] at this
  have p2 : Per (pl a b d R) ((b * t + a * w) % (a * s)) (d * t) := by
    have q1 := (pl_per S).2.mul t
    have q2 := (pl_per S).1.mul w
    rw [Int.zero_mul] at q2
    have q3 := q1.add q2
    rw [Int.add_zero] at q3
    exact per_mod ha p1 q3
  funext x y
  have h1 := Int.emod_nonneg (x - (b * t + a * w) % (a * s) * (y / (d * t))) (show a * s ≠ 0 by omega)
  have h2 := Int.emod_lt_of_pos (x - (b * t + a * w) % (a * s) * (y / (d * t))) ha
  have h3 := Int.emod_nonneg y (show d * t ≠ 0 by omega)
  have h4 := Int.emod_lt_of_pos y hd
  have e : pl (a * s) ((b * t + a * w) % (a * s)) (d * t) (nrm (pl a b d R) (a * s) (d * t)) x y = pl a b d R ((x - (b * t + a * w) % (a * s) * (y / (d * t))) % (a * s)) (y % (d * t)) := nrm_cl h1 h2 h3 h4
  rw [e]
  exact (at_place ha hd p1 p2 x y).symm
theorem str_dg (r : RS) {c : Nat} (h : Dg c) : strI r (.int ((c : Int) - 48)) = some (one c) :=
  dig (P := fun c => strI r (.int ((c : Int) - 48)) = some (one c)) h (ten (P := fun i => strI r (.int (((48 + i : Nat) : Int) - 48)) = some (one (48 + i))) (by kernel_rfl) (by kernel_rfl) (by kernel_rfl) (by kernel_rfl) (by kernel_rfl) (by kernel_rfl) (by kernel_rfl) (by kernel_rfl) (by kernel_rfl) (by kernel_rfl))
abbrev kText : Ep.Env → M T := (fStr1 joinT (fC (.str "")) (fOwn (fComp [10] (hName 10) fYes (fB1 strI (fCall F__law_colour [] [(fVar 1), (fVar 10), (fVar 9)])) (fRng1 (fIx (fVar 7) (fC (.int 0)))))))
theorem k_text (S : Sz a b d R) {A B D : Int} (hA : 0 < A) (hA1 : A < 100) {y : Int} (hy : 0 ≤ y) (hy1 : y < 100) (s0 s2 s3 s4 s5 s6 s8 s10 : Slot) (r : RS) :
    kText [s0, .val (told a b d R), s2, s3, s4, s5, s6, .val (three A B D), s8, .val (.int y), s10] r = .ok (wd (nrow (pl a b d R) A y)) r := by
  have e : compF [10] (hName 10) fYes (fB1 strI (fCall F__law_colour [] [(fVar 1), (fVar 10), (fVar 9)])) (rngL 0 A.toNat) [] [s0, .val (told a b d R), s2, s3, s4, s5, s6, .val (three A B D), s8, .val (.int y), s10] r = .ok ([] ++ (rngL 0 A.toNat).map (sgG (pl a b d R) y)) r := by
    refine comp_map (sgG (pl a b d R) y) _ _ r (fun z hz => ?_) (by rw [rng_len]; simp only [List.length_nil]; omega)
    obtain ⟨x, rfl, x0, x1⟩ := mem_rngL hz
    exact ⟨[s0, .val (told a b d R), s2, s3, s4, s5, s6, .val (three A B D), s8, .val (.int y), .val (.int x)], rfl, rfl, e_b1 (x := .int ((pl a b d R x y : Int) - 48)) (r1 := r) (e_call (ts := [told a b d R, .int x, .int y]) (r1 := r) rfl (colour S (by omega) (by omega) r)) (str_dg r (pl_dg S.toLt S.toGr))⟩
  rw [List.nil_append, sg_row] at e
  exact str1 (e_own (bind_ok (a := rngL 0 A.toNat) (r1 := r) (rng1s (i := A) rfl (by omega)) e)) (by unfold nrow; rw [List.length_map, List.length_range]; omega)
abbrev kBody : Sm := (qSeq (qApp 8 kText) qNil)
theorem k_loop (S : Sz a b d R) {A B D : Int} (hA : 0 < A) (hA1 : A < 100) (s0 s2 s3 s4 s5 s6 : Slot) (r : RS) : ∀ (ys acc : List T) (s9 s10 : Slot), (∀ y ∈ ys, ∃ i : Int, y = .int i ∧ 0 ≤ i ∧ i < 100) → acc.length + ys.length < 1000 → ∃ s9' s10', loopF (hName 9) kBody ys [s0, .val (told a b d R), s2, s3, s4, s5, s6, .val (three A B D), .own acc, s9, s10] r = .nx [s0, .val (told a b d R), s2, s3, s4, s5, s6, .val (three A B D), .own (acc ++ ys.map (nwG (pl a b d R) A)), s9', s10'] r
  | [], acc, s9, s10, _, _ => ⟨s9, s10, by rw [List.map_nil, List.append_nil]; rfl⟩
  | y :: ys, acc, s9, s10, h, hl => by
    obtain ⟨i, rfl, i0, i1⟩ := h y List.mem_cons_self
    rw [List.length_cons] at hl
    obtain ⟨t9, t10, ih⟩ := k_loop S (B := B) (D := D) hA hA1 s0 s2 s3 s4 s5 s6 r ys (acc ++ [nwG (pl a b d R) A (.int i)]) (.val (.int i)) s10 (fun z hz => h z (List.mem_cons_of_mem _ hz)) (by rw [List.length_append]; simp only [List.length_cons, List.length_nil]; omega)
    refine ⟨t9, t10, n_loop (env' := [s0, .val (told a b d R), s2, s3, s4, s5, s6, .val (three A B D), .own acc, .val (.int i), s10]) rfl (n_seq (n_app rfl (by omega) (k_text S hA hA1 i0 i1 s0 s2 s3 s4 s5 s6 (.own acc) s10 r)) rfl) ?_⟩
    rw [List.map_cons]
    rw [List.append_assoc] at ih
    exact ih
theorem n_par2vo {i j : Nat} {f : Ep.Env → M T} {g : Ep.Env → M (List T)} {env : Ep.Env} {r r1 r2 : RS} {u : T} {xs : List T} (h1 : f env r = .ok u r1) (h2 : g env r1 = .ok xs r2) : qPar2vo i j f g env r = .nx ((env.set j (.own xs)).set i (.val u)) r2 := by
  unfold qPar2vo ofM; rw [h1]; dsimp only; rw [h2]
abbrev acr : List T := [.int 1, .int 1, .int 2, .int 3]
abbrev ups : List T := [.int 1, .int 2, .int 2, .int 3]
theorem small3 {xs : List T} (hx : xs = acr ∨ xs = ups) {t : T} (h : t ∈ xs) : ∃ z, t = .int z ∧ 0 < z ∧ z ≤ 3 := by
  rcases hx with rfl | rfl <;> simp only [acr, ups, List.mem_cons, List.not_mem_nil, or_false] at h <;> rcases h with rfl | rfl | rfl | rfl <;> exact ⟨_, rfl, by decide, by decide⟩
abbrev cRest : Sm := (qSeq (qPar2vo 7 8 (fLst [(fBin mulT (fVar 2) (fVar 5)), (fBin modT (fBin addT (fBin mulT (fVar 3) (fVar 6)) (fBin mulT (fVar 2) (fCall F__law_draw [] [(fVar 0), (fVar 5)]))) (fBin mulT (fVar 2) (fVar 5))), (fBin mulT (fVar 4) (fVar 6))]) (fAll []))
    (qSeq (qFor (fRng1 (fIx (fVar 7) (fC (.int 2)))) (hName 9) kBody)
    (qSeq (qFrz [8] (qRet (fLst [(fVar 7), (fVar 8)])))
    qNil)))
theorem c_rest (S : Sz a b d R) (a6 : a ≤ 6) (d6 : d ≤ 6) {k : Nat} {s t : Int} (s0 : 0 < s) (s3 : s ≤ 3) (t0 : 0 < t) (t3 : t ≤ 3) (few : a * s * (d * t) < 100) {r : RS} (h : Pool k r) : ∃ b' r', cRest [.val (.ref k), .val (told a b d R), .val (.int a), .val (.int b), .val (.int d), .val (.int s), .val (.int t), .un, .un, .un, .un] r = .rt (told (a * s) b' (d * t) (nrm (pl a b d R) (a * s) (d * t))) r' ∧ Pool k r' ∧
    Sz (a * s) b' (d * t) (nrm (pl a b d R) (a * s) (d * t)) ∧ pl (a * s) b' (d * t) (nrm (pl a b d R) (a * s) (d * t)) = pl a b d R := by
  have h1 := S.a0; have h2 := S.b0; have h3 := S.b1; have h4 := S.d0
  have ha : 0 < a * s := Int.mul_pos h1 s0
  have hd : 0 < d * t := Int.mul_pos h4 t0
  have ha1 : a * s ≤ 18 := by
    have : a * s ≤ 6 * s := Int.mul_le_mul_of_nonneg_right a6 (by omega)
    omega
  have hd1 : d * t ≤ 18 := by
    have : d * t ≤ 6 * t := Int.mul_le_mul_of_nonneg_right d6 (by omega)
    omega
  obtain ⟨w, r1, e1, p1, w0, w1⟩ := draw' (n := s) h s0 (by omega)
  have q0 := Int.emod_nonneg (b * t + a * w) (show a * s ≠ 0 by omega)
  have q1 := Int.emod_lt_of_pos (b * t + a * w) ha
  have m1 : mulT (.int a) (.int s) = some (.int (a * s)) := mulL (by omega) (by omega)
  have m2 : mulT (.int b) (.int t) = some (.int (b * t)) := mulL (by omega) (by omega)
  have m3 : mulT (.int a) (.int w) = some (.int (a * w)) := mulL (by omega) (by omega)
  have m4 : mulT (.int d) (.int t) = some (.int (d * t)) := mulL (by omega) (by omega)
  have md : modT (.int (b * t + a * w)) (.int (a * s)) = some (.int ((b * t + a * w) % (a * s))) := modP ha
  generalize eb : (b * t + a * w) % (a * s) = b' at q0 q1 md
  have SS : Sz (a * s) b' (d * t) (nrm (pl a b d R) (a * s) (d * t)) := ⟨⟨ha, q0, q1, hd, by omega, by omega⟩, nrm_gr (fun x y => pl_dg S.toLt S.toGr) (by omega) (by omega), few⟩
  obtain ⟨t9, t10, el⟩ := k_loop S (A := a * s) (B := b') (D := d * t) ha (by omega) (.val (.ref k)) (.val (.int a)) (.val (.int b)) (.val (.int d)) (.val (.int s)) (.val (.int t)) r1 (rngL 0 (d * t).toNat) [] .un .un (fun y hy => by
    obtain ⟨i, rfl, i0, i1⟩ := mem_rngL hy
    exact ⟨i, rfl, i0, by omega⟩) (by rw [rng_len]; simp only [List.length_nil]; omega)
  rw [List.nil_append, nw_rows] at el
  refine ⟨b', r1, ?_, p1, SS, by rw [← eb]; exact coarse_pl S s0 t0⟩
  exact n_seq (n_par2vo (u := three (a * s) b' (d * t)) (r1 := r1) (e_lst (e_cons (e_bin (x := .int a) (y := .int s) (r1 := r) rfl rfl m1) (e_cons (e_bin (x := .int (b * t + a * w)) (y := .int (a * s)) (r1 := r1) (e_bin (x := .int (b * t)) (y := .int (a * w)) (r1 := r) (e_bin (x := .int b) (y := .int t) (r1 := r) rfl rfl m2) (e_bin (x := .int a) (y := .int w) (r1 := r) rfl (e_call (ts := [.ref k, .int s]) (r1 := r) rfl e1) m3) rfl) (e_bin (x := .int a) (y := .int s) (r1 := r1) rfl rfl m1) md) (e_cons (e_bin (x := .int d) (y := .int t) (r1 := r1) rfl rfl m4) rfl)))) (xs := []) rfl)
    (n_seq (n_for (xs := rngL 0 (d * t).toNat) (r1 := r1) (rng1s (i := d * t) rfl (by omega)) el) (n_seqR (n_frz (n_ret (t := told (a * s) b' (d * t) (nrm (pl a b d R) (a * s) (d * t))) (r1 := r1) rfl))))
theorem coarser (S : Sz a b d R) (a6 : a ≤ 6) (d6 : d ≤ 6) {k : Nat} {r : RS} (h : Pool k r) : ∃ a' b' d' R' r', F__law_coarser [.ref k, told a b d R] r = .ok (told a' b' d' R') r' ∧ Pool k r' ∧ Sz a' b' d' R' ∧ pl a' b' d' R' = pl a b d R := by
  have h1 := S.a0; have h4 := S.d0
  obtain ⟨x, r1, e1, p1, hx⟩ := pick (xs := acr) h (by decide) (by decide)
  obtain ⟨s, rfl, s0, s3⟩ := small3 (.inl rfl) hx
  obtain ⟨y, r2, e2, p2, hy⟩ := pick (xs := ups) p1 (by decide) (by decide)
  obtain ⟨t, rfl, t0, t3⟩ := small3 (.inr rfl) hy
  have m1 : mulT (.int a) (.int s) = some (.int (a * s)) := mulL (by omega) (by omega)
  have m2 : mulT (.int (a * s)) (.int d) = some (.int (a * s * d)) := mulR (by omega) (by omega)
  have m3 : mulT (.int (a * s * d)) (.int t) = some (.int (a * s * d * t)) := mulR (by omega) (by omega)
  have test : (fCmpB gtT (fBin mulT (fBin mulT (fBin mulT (fVar 2) (fVar 5)) (fVar 4)) (fVar 6)) (fC (.int 48))) [.val (.ref k), .val (told a b d R), .val (.int a), .val (.int b), .val (.int d), .val (.int s), .val (.int t), .un, .un, .un, .un] r2 = .ok (decide (48 < a * s * d * t)) r2 :=
    e_cmpB (x := .int (a * s * d * t)) (y := .int 48) (r1 := r2) (r2 := r2) (e_bin (x := .int (a * s * d)) (y := .int t) (r1 := r2) (e_bin (x := .int (a * s)) (y := .int d) (r1 := r2) (e_bin (x := .int a) (y := .int s) (r1 := r2) rfl rfl m1) rfl m2) rfl m3) rfl rfl
  have pre : ∀ so, (qSeq (qIf (fCmpB gtT (fBin mulT (fBin mulT (fBin mulT (fVar 2) (fVar 5)) (fVar 4)) (fVar 6)) (fC (.int 48))) (qSeq (qAsg (fTup [(fC (.int 1)), (fC (.int 1))]) (hTupL 2 (hCons (hName 5) (hCons (hName 6) hNil)))) qNil) qNil) cRest) [.val (.ref k), .val (told a b d R), .val (.int a), .val (.int b), .val (.int d), .val (.int s), .val (.int t), .un, .un, .un, .un] r2 = so → g__law_coarser (envOf 9 [.ref k, told a b d R]) r = so := fun so hso =>
    n_seq (n_asg (x := three a b d) (r1 := r) rfl rfl) (n_seq (n_par2 (x := .int s) (y := .int t) (e_call (ts := [.ref k, .lst acr]) (r1 := r) rfl e1) (e_call (ts := [.ref k, .lst ups]) (r1 := r1) rfl e2)) hso)
  by_cases c : 48 < a * s * d * t
  · have few : a * 1 * (d * 1) < 100 := by have := S.few; rw [Int.mul_one, Int.mul_one]; exact this
    obtain ⟨b', r3, e3, p3, SS, ep⟩ := c_rest S a6 d6 (s := 1) (t := 1) (by decide) (by decide) (by decide) (by decide) few p2
    exact ⟨_, b', _, _, r3, n_fn (pre _ (n_seq (n_ifT (test.trans (by rw [decide_eq_true c])) (n_seq (n_asg (x := .tup [.int 1, .int 1]) (r1 := r2) rfl rfl) rfl)) e3)), p3, SS, ep⟩
  · have few : a * s * (d * t) < 100 := by rw [← Int.mul_assoc]; omega
    obtain ⟨b', r3, e3, p3, SS, ep⟩ := c_rest S a6 d6 s0 s3 t0 t3 few p2
    exact ⟨_, b', _, _, r3, n_fn (pre _ (n_seq (n_ifF (test.trans (by rw [decide_eq_false c])) rfl) e3)), p3, SS, ep⟩
end K13
namespace K13
open PySem Ep L2
variable {a b d : Int} {R : Rows} {a' b' d' : Int} {R' : Rows} {A B D : Int}
theorem c_eq {C C' : Int → Int → Nat} {N N' : Rows} (dn : DR N) (dn' : DR N') {x1 x2 x3 x4 x5 y1 y2 y3 y4 y5 : T} {A' B' D' : Int} (r : RS) : F_Carpet_eq [.obj 6 [x1, x2, x3, x4, x5, shp A B D N], .obj 6 [y1, y2, y3, y4, y5, shp A' B' D' N']] r = .ok (.bl (decide (A = A' ∧ B = B' ∧ D = D' ∧ N = N'))) r :=
  n_fn (n_seqR (n_ret (e_andT (r1 := r) rfl (e_cmp (x := shp A B D N) (y := shp A' B' D' N') (r1 := r) (r2 := r) rfl rfl (eq_shp dn dn')))))
theorem nrm_dr (S : Sz a b d R) (A D : Int) : DR (nrm (pl a b d R) A D) := fun l hl c hc => by
  obtain ⟨y, _, rfl⟩ := List.mem_map.mp hl
  obtain ⟨x, _, rfl⟩ := List.mem_map.mp hc
  exact pl_dg S.toLt S.toGr
theorem c_eq' (S : Sz a b d R) (S' : Sz a' b' d' R') {A' B' D' : Int} (r : RS) : F_Carpet_eq [crp a b d R A B D, crp a' b' d' R' A' B' D'] r = .ok (.bl (decide (A = A' ∧ B = B' ∧ D = D' ∧ nrm (pl a b d R) A D = nrm (pl a' b' d' R') A' D'))) r :=
  c_eq (C := fun _ _ => 0) (C' := fun _ _ => 0) (nrm_dr S A D) (nrm_dr S' A' D') r
theorem nrm_pl (S : Sz a b d R) (n : NF (pl a b d R) A B D) (x y : Int) : pl a b d R x y = cl (nrm (pl a b d R) A D) ((x - B * (y / D)) % A) (y % D) := by
  rw [nrm_cl (Int.emod_nonneg _ (by have := n.a0; omega)) (Int.emod_lt_of_pos _ n.a0) (Int.emod_nonneg _ (by have := n.d0; omega)) (Int.emod_lt_of_pos _ n.d0)]
  exact at_place n.a0 n.d0 n.pa n.pb x y
theorem alike (S : Sz a b d R) (S' : Sz a' b' d' R') {A' B' D' : Int} (n : NF (pl a b d R) A B D) (n' : NF (pl a' b' d' R') A' B' D') : (A = A' ∧ B = B' ∧ D = D' ∧ nrm (pl a b d R) A D = nrm (pl a' b' d' R') A' D') ↔ pl a b d R = pl a' b' d' R' := by
  constructor
  · rintro ⟨rfl, rfl, rfl, e⟩
    funext x y
    rw [nrm_pl S n, nrm_pl S' n', e]
  · intro e
    rw [e] at n
    obtain ⟨rfl, rfl, rfl⟩ := n.uniq n'
    exact ⟨rfl, rfl, rfl, by rw [e]⟩
end K13
namespace K13
open PySem Ep L2
variable {a b d : Int} {R : Rows} {A B D : Int}
theorem c_lat (S : Sz a b d R) (r : RS) : F_Carpet_lattice [crp a b d R A B D] r = .ok (latt a b d) r := n_fn (n_seqR (n_ret (e_make (ts := [.int a, .int b, .int d]) (r1 := r) rfl (init S.toLt r))))
theorem ne_four (a b d : Int) (h : DR R) : neT (.lst [.int a, .int b, .int d, rl R]) (.lst [.int a, .int b, .int d, rl R]) = some false := ne_self (n := 2) (sh_lst fun t ht => by
  simp only [List.mem_cons, List.not_mem_nil, or_false] at ht
  rcases ht with rfl | rfl | rfl | rfl
  · exact sh_mono (sh_int _) (by decide)
  · exact sh_mono (sh_int _) (by decide)
  · exact sh_mono (sh_int _) (by decide)
  · exact sh_tup (sh_rw h)) (by decide)
theorem dr_of (S : Sz a b d R) : DR R := fun l hl => (S.row l hl).2
theorem ne_bl (x : Bool) : neT (.bl x) (.bl x) = some false := by cases x <;> rfl
theorem Pool.app {k : Nat} {r : RS} (h : Pool k r) (x : RS) : Pool k (r ++ x) := by
  obtain ⟨a, b, h⟩ := h
  exact ⟨a, b, by rw [List.getElem?_append_left (List.getElem?_eq_some_iff.mp h).1]; exact h⟩
theorem Pool.at_ {k j : Nat} {r : RS} (h : Pool k r) (x : List T) (hj : j ≠ k) : Pool k (r.set j x) := by
  obtain ⟨a, b, h⟩ := h
  exact ⟨a, b, by rw [List.getElem?_set_ne hj]; exact h⟩
theorem init_s {a b d : Int} {R : Rows} {A B D : Int} (S : Sz a b d R) (n : NF (pl a b d R) A B D) (dA : A ∣ a) (dD : D ∣ d) (r : RS) : F_Carpet_init [.int a, .int b, .int d, .lst (rw R)] r = .ok [.int a, .int b, .int d, rl R, latt A B D, shp A B D (nrm (pl a b d R) A D)] r := init_c S (RV.lst r _) n dA dD
end K13
namespace K13
open PySem Ep L2
variable {a b d : Int} {R : Rows} {A B D : Int}
def EndB (c : Bool) (v : T) (r : RS) (P : Ep.Env → Prop) (so : SO) : Prop := (c = true → so = .rt v r) ∧ (c = false → ∃ e2, so = .nx e2 r ∧ P e2)
theorem loop_any {h : T → Ep.Env → Option Ep.Env} {s : Sm} {P : Ep.Env → Prop} {r : RS} {v : T} (c : T → Bool) : ∀ (xs : List T) (env : Ep.Env), P env → (∀ x ∈ xs, ∀ env, P env → ∃ e1, h x env = some e1 ∧ EndB (c x) v r P (s e1 r)) → EndB (xs.any c) v r P (loopF h s xs env r)
  | [], env, p, _ => ⟨fun z => by simp at z, fun _ => ⟨env, rfl, p⟩⟩
  | x :: xs, env, p, H => by
    obtain ⟨e1, h1, h2, h3⟩ := H x List.mem_cons_self env p
    rw [List.any_cons]
    cases q : c x with
    | true => exact ⟨fun _ => n_loopR h1 (h2 q), fun z => by simp at z⟩
    | false =>
      obtain ⟨e2, h4, p2⟩ := h3 q
      obtain ⟨k1, k2⟩ := loop_any (h := h) (s := s) (P := P) (r := r) (v := v) c xs e2 p2 fun y hy => H y (List.mem_cons_of_mem _ hy)
      rw [Bool.false_or]
      exact ⟨fun z => n_loop h1 h4 (k1 z), fun z => by
        obtain ⟨e3, h5, p3⟩ := k2 z
        exact ⟨e3, n_loop h1 h4 h5, p3⟩⟩
def unl (a b d : Int) (R : Rows) (x y j : Int) : T → Bool
  | .int i => !(decide (pl a b d R i j = pl a b d R (i + x) (j + y)))
  | _ => false
def unr (a b d : Int) (R : Rows) (x y : Int) : T → Bool
  | .int j => (rngL 0 a.toNat).any (unl a b d R x y j)
  | _ => false
theorem mem_rng0 {n : Nat} {i : Int} (h0 : 0 ≤ i) (h1 : i < n) : T.int i ∈ rngL 0 n := List.mem_map.mpr ⟨i.toNat, List.mem_range.mpr (by omega), by show T.int (0 + ((i.toNat : Nat) : Int)) = _; rw [show (0 : Int) + ((i.toNat : Nat) : Int) = i by omega]⟩
theorem any_per (S : Sz a b d R) (x y : Int) : (rngL 0 d.toNat).any (unr a b d R x y) = !(perB a b d R x y) := by
  cases q : perB a b d R x y with
  | true =>
    have all := (perB_iff S).mp q
    refine List.any_eq_false.mpr fun z hz w => ?_
    obtain ⟨j, rfl, j0, j1⟩ := mem_rngL hz
    obtain ⟨u, hu, w⟩ := List.any_eq_true.mp w
    obtain ⟨i, rfl, i0, i1⟩ := mem_rngL hu
    have w : (!(decide (pl a b d R i j = pl a b d R (i + x) (j + y)))) = true := w
    rw [decide_eq_true (all i j).symm] at w
    exact absurd w (by decide)
  | false =>
    unfold perB at q
    obtain ⟨p, hp, h⟩ := List.all_eq_false.mp q
    obtain ⟨h1, h2, h3, h4⟩ := (mem_cells S.a0 S.d0).mp hp
    refine List.any_eq_true.mpr ⟨.int p.2, mem_rng0 h3 (by omega), List.any_eq_true.mpr ⟨.int p.1, mem_rng0 h1 (by omega), ?_⟩⟩
    show (!(decide (pl a b d R p.1 p.2 = pl a b d R (p.1 + x) (p.2 + y)))) = true
    rw [decide_eq_false fun z => h (decide_eq_true z)]
    rfl
theorem is_per (S : Sz a b d R) {x y : Int} (hx : x.natAbs < 2 ^ 800) (hy : y.natAbs < 2 ^ 800) (r : RS) : F__law_is_period [told a b d R, .int x, .int y] r = .ok (.bl (perB a b d R x y)) r := by
  have sm := S.small
  have h1 := S.a0; have h4 := S.d0
  have test : ∀ i j : Int, 0 ≤ i → i < a → 0 ≤ j → j < d → (fCmpB neT (fCall F__law_colour [] [(fVar 0), (fVar 7), (fVar 6)]) (fCall F__law_colour [] [(fVar 0), (fBin addT (fVar 7) (fVar 1)), (fBin addT (fVar 6) (fVar 2))])) [.val (told a b d R), .val (.int x), .val (.int y), .val (.int a), .val (.int b), .val (.int d), .val (.int j), .val (.int i)] r = .ok (!(decide (pl a b d R i j = pl a b d R (i + x) (j + y)))) r := fun i j i0 i1 j0 j1 => by
    refine e_cmpB (x := .int ((pl a b d R i j : Int) - 48)) (y := .int ((pl a b d R (i + x) (j + y) : Int) - 48)) (r1 := r) (r2 := r) (e_call (ts := [told a b d R, .int i, .int j]) (r1 := r) rfl (colour S (by omega) (by omega) r)) (e_call (ts := [told a b d R, .int (i + x), .int (j + y)]) (r1 := r) rfl (colour S (by omega) (by omega) r)) ?_
    rw [neI]
    congr 2
    by_cases q : pl a b d R i j = pl a b d R (i + x) (j + y)
    · rw [q, decide_eq_true rfl, beq_self_eq_true]
    · rw [decide_eq_false q]
      exact beq_eq_false_iff_ne.mpr fun z => q (by omega)
  have L := loop_any (h := hName 6) (s := (qSeq (qFor (fRng1 (fVar 3)) (hName 7) (qSeq (qIf (fCmpB neT (fCall F__law_colour [] [(fVar 0), (fVar 7), (fVar 6)]) (fCall F__law_colour [] [(fVar 0), (fBin addT (fVar 7) (fVar 1)), (fBin addT (fVar 6) (fVar 2))])) (qSeq (qRet (fC (.bl false))) qNil) qNil) qNil)) qNil)) (r := r) (v := .bl false) (P := fun env => ∃ u v, env = [.val (told a b d R), .val (.int x), .val (.int y), .val (.int a), .val (.int b), .val (.int d), u, v])
    (unr a b d R x y) (rngL 0 d.toNat) [.val (told a b d R), .val (.int x), .val (.int y), .val (.int a), .val (.int b), .val (.int d), .un, .un] ⟨_, _, rfl⟩ fun z hz env ⟨u, v, e⟩ => by
      subst e
      obtain ⟨j, rfl, j0, j1⟩ := mem_rngL hz
      obtain ⟨k1, k2⟩ := loop_any (h := hName 7) (s := (qSeq (qIf (fCmpB neT (fCall F__law_colour [] [(fVar 0), (fVar 7), (fVar 6)]) (fCall F__law_colour [] [(fVar 0), (fBin addT (fVar 7) (fVar 1)), (fBin addT (fVar 6) (fVar 2))])) (qSeq (qRet (fC (.bl false))) qNil) qNil) qNil)) (r := r) (v := .bl false) (P := fun env => ∃ w, env = [.val (told a b d R), .val (.int x), .val (.int y), .val (.int a), .val (.int b), .val (.int d), .val (.int j), w])
        (unl a b d R x y j) (rngL 0 a.toNat) [.val (told a b d R), .val (.int x), .val (.int y), .val (.int a), .val (.int b), .val (.int d), .val (.int j), v] ⟨_, rfl⟩ fun z hz env ⟨w, e⟩ => by
          subst e
          obtain ⟨i, rfl, i0, i1⟩ := mem_rngL hz
          have t := test i j i0 (by omega) j0 (by omega)
          exact ⟨_, rfl, fun c => n_seqR (n_ifT (t.trans (by rw [show (!(decide (pl a b d R i j = pl a b d R (i + x) (j + y)))) = true from c])) (n_seqR (n_ret (t := .bl false) (r1 := r) rfl))), fun c => ⟨_, n_seq (n_ifF (t.trans (by rw [show (!(decide (pl a b d R i j = pl a b d R (i + x) (j + y)))) = false from c])) rfl) rfl, ⟨_, rfl⟩⟩⟩
      exact ⟨_, rfl, fun c => n_seqR (n_for (rng1s (i := a) rfl (by omega)) (k1 c)), fun c => by
        obtain ⟨e2, l2, ⟨w, rfl⟩⟩ := k2 c
        exact ⟨_, n_seq (n_for (rng1s (i := a) rfl (by omega)) l2) rfl, ⟨_, _, rfl⟩⟩⟩
  rw [any_per S] at L
  refine n_fn (n_seq (n_asg (x := three a b d) (r1 := r) rfl rfl) ?_)
  cases q : perB a b d R x y with
  | true =>
    obtain ⟨e2, l2, ⟨u, v, rfl⟩⟩ := L.2 (by rw [q]; rfl)
    exact n_seq (n_for (rng1s (i := d) rfl (by omega)) l2) (n_seqR (n_ret (t := .bl true) (r1 := r) rfl))
  | false => exact n_seqR (n_for (rng1s (i := d) rfl (by omega)) (L.1 (by rw [q]; rfl)))
theorem fil_head {c : T → Bool} {pre post : List T} {t : T} (h1 : ∀ x ∈ pre, c x = false) (h2 : c t = true) : (pre ++ t :: post).filter c = t :: post.filter c := by
  rw [List.filter_append, List.filter_eq_nil_iff.mpr fun x hx => by rw [h1 x hx]; decide, List.filter_cons, if_pos h2]
  rfl
def perX (a b d : Int) (R : Rows) (y : Int) : T → Bool
  | .int x => perB a b d R x y
  | _ => false
theorem rng_at {lo : Int} {n : Nat} {A : Int} (h0 : lo ≤ A) (h1 : A < lo + n) : ∃ pre post, rngL lo n = pre ++ .int A :: post ∧ ∀ x ∈ pre, ∃ i : Int, x = .int i ∧ lo ≤ i ∧ i < A := by
  have e : n = (A - lo).toNat + 1 + (n - (A - lo).toNat - 1) := by omega
  refine ⟨_, _, by rw [e, rngL_split, show lo + (((A - lo).toNat : Nat) : Int) = A by omega], fun x hx => ?_⟩
  obtain ⟨i, rfl, i0, i1⟩ := mem_rngL hx
  exact ⟨i, rfl, i0, by omega⟩
theorem no_per (S : Sz a b d R) {i j : Int} (h : ¬ Per (pl a b d R) i j) : perB a b d R i j = false := by
  cases q : perB a b d R i j with
  | false => rfl
  | true => exact absurd ((perB_iff S).mp q) h
theorem across (S : Sz a b d R) (n : NF (pl a b d R) A B D) (hA : A ≤ a) : ∃ xs, (rngL 1 a.toNat).filter (perX a b d R 0) = .int A :: xs := by
  obtain ⟨pre, post, e, hp⟩ := rng_at (lo := 1) (n := a.toNat) (A := A) (by have := n.a0; omega) (by omega)
  rw [e]
  exact ⟨_, fil_head (fun x hx => by
    obtain ⟨i, rfl, i0, i1⟩ := hp x hx
    exact no_per S (n.ma i (by omega) i1)) ((perB_iff S).mpr n.pa)⟩
theorem slant (S : Sz a b d R) (n : NF (pl a b d R) A B D) : ∃ xs, (rngL 0 A.toNat).filter (perX a b d R D) = .int B :: xs := by
  obtain ⟨pre, post, e, hp⟩ := rng_at (lo := 0) (n := A.toNat) (A := B) n.b0 (by have := n.b1; omega)
  rw [e]
  exact ⟨_, fil_head (fun x hx => by
    obtain ⟨i, rfl, i0, i1⟩ := hp x hx
    exact no_per S (n.bs i0 i1)) ((perB_iff S).mpr n.pb)⟩
theorem none_low (S : Sz a b d R) (n : NF (pl a b d R) A B D) {y : Int} (y0 : 0 < y) (y1 : y < D) : (rngL 0 A.toNat).filter (perX a b d R y) = [] :=
  List.filter_eq_nil_iff.mpr fun x hx => by
    obtain ⟨i, rfl, i0, i1⟩ := mem_rngL hx
    rw [show perX a b d R y (.int i) = false from no_per S (n.md i y y0 y1)]
    decide
theorem ne_nilL (x : Int) (xs : List T) (h : ∀ t ∈ xs, ∃ i : Int, t = .int i) : neT (.lst (.int x :: xs)) (.lst []) = some true := by
  have sh : ∀ t ∈ (T.int x :: xs), Sh 0 t := fun t ht => by
    rcases List.mem_cons.mp ht with rfl | ht
    · exact sh_int _
    · obtain ⟨i, rfl⟩ := h t ht
      exact sh_int _
  obtain ⟨ds, f1, _, _, f4⟩ := sh_all sh
  unfold neT
  rw [eq_sh (n := 1) (sh_lst sh) (sh_lst fun t ht => by cases ht) (by decide) (d := .list ds) (e := .list []) (by show (pyTs _).map _ = _; rw [f1]; rfl) rfl]
  cases ds with
  | nil => simp at f4
  | cons d ds => rfl
theorem ne_nil0 : neT (.lst []) (.lst []) = some false := rfl
theorem fil_int {c : T → Bool} {lo : Int} {n : Nat} {x : Int} {xs : List T} (h : (rngL lo n).filter c = .int x :: xs) : ∀ t ∈ xs, ∃ i : Int, t = .int i := fun t ht => by
  have : t ∈ (rngL lo n).filter c := by rw [h]; exact List.mem_cons_of_mem _ ht
  obtain ⟨i, rfl, _, _⟩ := mem_rngL (List.mem_filter.mp this).1
  exact ⟨i, rfl⟩
theorem ix_hd (x : T) (xs : List T) (r : RS) : ixT r (.lst (x :: xs)) (.int 0) = some x := atI_nat (xs := x :: xs) (j := 0) rfl
theorem law_least (S : Sz a b d R) (n : NF (pl a b d R) A B D) (hA : A ≤ a) (hD : D ≤ d) (r : RS) : F__law_least [told a b d R] r = .ok (three A B D) r := by
  have sm := S.small
  have na := n.a0; have nd := n.d0; have nb := n.b0; have nb1 := n.b1
  have per : ∀ (E : Ep.Env) (f : Ep.Env → M T) (i j : Int), E[0]? = some (.val (told a b d R)) → E[7]? = some (.val (.int i)) → f E r = .ok (.int j) r → 0 ≤ i → i ≤ 100 → 0 ≤ j → j ≤ 100 → (fTru (fCall F__law_is_period [] [(fVar 0), (fVar 7), f])) E r = .ok (perX a b d R j (.int i)) r := fun E f i j h0 h7 hf i0 i1 j0 j1 =>
    e_tru (x := .bl (perB a b d R i j)) (e_call (ts := [told a b d R, .int i, .int j]) (r1 := r) (e_cons (x := told a b d R) (r1 := r) (by unfold fVar; rw [h0]; rfl) (e_cons (x := .int i) (r1 := r) (by unfold fVar; rw [h7]; rfl) (e_cons hf rfl))) (is_per S (by omega) (by omega) r)) rfl
  obtain ⟨xs, ex⟩ := across S n hA
  obtain ⟨ys, ey⟩ := slant S n
  have c1 : compF [7] (hName 7) (fTru (fCall F__law_is_period [] [(fVar 0), (fVar 7), (fC (.int 0))])) (fVar 7) (rngL 1 a.toNat) [] [.val (told a b d R), .val (.int a), .val (.int b), .val (.int d), .un, .un, .un, .un] r = .ok ([] ++ (rngL 1 a.toNat).filter (perX a b d R 0)) r :=
    comp_fil (perX a b d R 0) _ _ r (fun x hx => by
      obtain ⟨i, rfl, i0, i1⟩ := mem_rngL hx
      exact ⟨_, rfl, per _ _ i 0 rfl rfl rfl (by omega) (by omega) (by omega) (by omega), fun _ => rfl⟩) (by rw [rng_len]; simp only [List.length_nil]; omega)
  rw [List.nil_append, ex] at c1
  have c2 : ∀ (y : Int) (s5 s6 s7 : Slot), 0 ≤ y → y ≤ 100 → s5 = .val (.int y) → compF [7] (hName 7) (fTru (fCall F__law_is_period [] [(fVar 0), (fVar 7), (fVar 5)])) (fVar 7) (rngL 0 A.toNat) [] [.val (told a b d R), .val (.int a), .val (.int b), .val (.int d), .val (.int A), s5, s6, s7] r = .ok ([] ++ (rngL 0 A.toNat).filter (perX a b d R y)) r := fun y s5 s6 s7 y0 y1 e5 => by
    subst e5
    exact comp_fil (perX a b d R y) _ _ r (fun x hx => by
      obtain ⟨i, rfl, i0, i1⟩ := mem_rngL hx
      exact ⟨_, rfl, per _ _ i y rfl rfl rfl (by omega) (by omega) (by omega) (by omega), fun _ => rfl⟩) (by rw [rng_len]; simp only [List.length_nil]; omega)
  obtain ⟨pre, post, er, hp⟩ := rng_at (lo := 1) (n := d.toNat) (A := D) (by omega) (by omega)
  refine n_fn (n_seq (n_asg (x := three a b d) (r1 := r) rfl rfl) (n_seq (n_set (t := .int A) (r1 := r) (e_ix (x := .lst (.int A :: xs)) (y := .int 0) (r1 := r) (r2 := r) (e_own (x_comp (rng2 (i := 1) (j := a + 1) rfl rfl (by omega) (by omega) |>.trans (by rw [show (a + 1 - 1).toNat = a.toNat by omega])) c1)) rfl (ix_hd _ _ _))) (n_seqR (n_for (xs := rngL 1 d.toNat) (r1 := r) (rng2 (i := 1) (j := d + 1) rfl rfl (by omega) (by omega) |>.trans (by rw [show (d + 1 - 1).toNat = d.toNat by omega])) ?_))))
  rw [er]
  refine loop_first (Fam := fun env => ∃ s5 s6 s7, env = [.val (told a b d R), .val (.int a), .val (.int b), .val (.int d), .val (.int A), s5, s6, s7]) _ _ _ ⟨_, _, _, rfl⟩ (fun x hx env ⟨s5, s6, s7, es⟩ => ?_) (fun env ⟨s5, s6, s7, es⟩ => ?_)
  · subst es
    obtain ⟨y, rfl, y0, y1⟩ := hp x hx
    have c := c2 y (.val (.int y)) s6 s7 (by omega) (by omega) rfl
    rw [List.nil_append, none_low S n (by omega) y1] at c
    exact ⟨[.val (told a b d R), .val (.int a), .val (.int b), .val (.int d), .val (.int A), .val (.int y), s6, s7], _, rfl, n_seq (n_set (t := .lst []) (r1 := r) (e_own (x_comp (rng1s (i := A) rfl (by omega)) c))) (n_seq (n_ifF (r1 := r) (e_cmpB (x := .lst []) (y := .lst []) (r1 := r) (r2 := r) rfl rfl ne_nil0) rfl) rfl), ⟨_, _, _, rfl⟩⟩
  · subst es
    have c := c2 D (.val (.int D)) s6 s7 (by omega) (by omega) rfl
    rw [List.nil_append, ey] at c
    exact ⟨[.val (told a b d R), .val (.int a), .val (.int b), .val (.int d), .val (.int A), .val (.int D), s6, s7], rfl, n_seq (n_set (t := .lst (.int B :: ys)) (r1 := r) (e_own (x_comp (rng1s (i := A) rfl (by omega)) c))) (n_seqR (n_ifT (r1 := r) (e_cmpB (x := .lst (.int B :: ys)) (y := .lst []) (r1 := r) (r2 := r) rfl rfl (ne_nilL _ _ (fil_int ey))) (n_seqR (n_ret (t := three A B D) (r1 := r) (e_lst (e_cons (x := .int A) (r1 := r) rfl (e_cons (x := .int B) (r1 := r) (e_ix (x := .lst (.int B :: ys)) (y := .int 0) (r1 := r) (r2 := r) rfl rfl (ix_hd _ _ _)) (e_cons (x := .int D) (r1 := r) rfl rfl))))))))⟩
end K13
namespace K13
open PySem Ep L2
variable {a b d : Int} {R : Rows} {A B D : Int}
theorem mtext (S : Sz a b d R) {A : Int} (hA : 0 < A) (hA1 : A < 100) {y : Int} (hy : 0 ≤ y) (hy1 : y < 100) (s2 s3 s4 s6 : Slot) (r : RS) :
    (fStr1 joinT (fC (.str "")) (fOwn (fComp [6] (hName 6) fYes (fB1 strI (fCall F__law_colour [] [(fVar 0), (fVar 6), (fVar 5)])) (fRng1 (fVar 1))))) [.val (told a b d R), .val (.int A), s2, s3, s4, .val (.int y), s6] r = .ok (wd (nrow (pl a b d R) A y)) r := by
  have e : compF [6] (hName 6) fYes (fB1 strI (fCall F__law_colour [] [(fVar 0), (fVar 6), (fVar 5)])) (rngL 0 A.toNat) [] [.val (told a b d R), .val (.int A), s2, s3, s4, .val (.int y), s6] r = .ok ([] ++ (rngL 0 A.toNat).map (sgG (pl a b d R) y)) r := by
    refine comp_map (sgG (pl a b d R) y) _ _ r (fun z hz => ?_) (by rw [rng_len]; simp only [List.length_nil]; omega)
    obtain ⟨x, rfl, x0, x1⟩ := mem_rngL hz
    exact ⟨_, rfl, rfl, e_b1 (x := .int ((pl a b d R x y : Int) - 48)) (r1 := r) (e_call (ts := [told a b d R, .int x, .int y]) (r1 := r) rfl (colour S (by omega) (by omega) r)) (str_dg r (pl_dg S.toLt S.toGr))⟩
  rw [List.nil_append, sg_row] at e
  exact str1 (e_own (bind_ok (a := rngL 0 A.toNat) (r1 := r) (rng1s (i := A) rfl (by omega)) e)) (by unfold nrow; rw [List.length_map, List.length_range]; omega)
theorem law_normal (S : Sz a b d R) (n : NF (pl a b d R) A B D) (hA : A ≤ a) (hD : D ≤ d) (r : RS) : F__law_normal [told a b d R] r = .ok (shp A B D (nrm (pl a b d R) A D)) r := by
  have sm := S.small
  have na := n.a0; have nd := n.d0
  have L : ∀ (ys acc : List T) (s5 s6 : Slot), (∀ y ∈ ys, ∃ i : Int, y = .int i ∧ 0 ≤ i ∧ i < 100) → acc.length + ys.length < 1000 → ∃ s5' s6', loopF (hName 5) (qSeq (qApp 4 (fStr1 joinT (fC (.str "")) (fOwn (fComp [6] (hName 6) fYes (fB1 strI (fCall F__law_colour [] [(fVar 0), (fVar 6), (fVar 5)])) (fRng1 (fVar 1)))))) qNil) ys [.val (told a b d R), .val (.int A), .val (.int B), .val (.int D), .own acc, s5, s6] r = .nx [.val (told a b d R), .val (.int A), .val (.int B), .val (.int D), .own (acc ++ ys.map (nwG (pl a b d R) A)), s5', s6'] r := by
    intro ys
    induction ys with
    | nil => intro acc s5 s6 _ _; exact ⟨s5, s6, by rw [List.map_nil, List.append_nil]; rfl⟩
    | cons y ys ih =>
      intro acc s5 s6 h hl
      obtain ⟨i, rfl, i0, i1⟩ := h y List.mem_cons_self
      rw [List.length_cons] at hl
      obtain ⟨t5, t6, e⟩ := ih (acc ++ [nwG (pl a b d R) A (.int i)]) (.val (.int i)) s6 (fun z hz => h z (List.mem_cons_of_mem _ hz)) (by rw [List.length_append]; simp only [List.length_cons, List.length_nil]; omega)
      rw [List.append_assoc] at e
      refine ⟨t5, t6, n_loop (env' := [.val (told a b d R), .val (.int A), .val (.int B), .val (.int D), .own acc, .val (.int i), s6]) rfl (n_seq (n_app rfl (by omega) (mtext S na (by omega) i0 i1 _ _ _ _ r)) rfl) ?_⟩
      rw [List.map_cons]
      exact e
  obtain ⟨t5, t6, e⟩ := L (rngL 0 D.toNat) [] .un .un (fun y hy => by
    obtain ⟨i, rfl, i0, i1⟩ := mem_rngL hy
    exact ⟨i, rfl, i0, by omega⟩) (by rw [rng_len]; simp only [List.length_nil]; omega)
  rw [List.nil_append, nw_rows] at e
  refine n_fn (n_seq (n_asg (x := three A B D) (r1 := r) (e_call (ts := [told a b d R]) (r1 := r) rfl (law_least S n hA hD r)) rfl) (n_seq (n_own (xs := []) (r1 := r) rfl) (n_seq (n_for (xs := rngL 0 D.toNat) (r1 := r) (rng1s (i := D) rfl (by omega)) e) (n_seqR (n_frz (n_ret (t := shp A B D (nrm (pl a b d R) A D)) (r1 := r) rfl))))))
theorem ne_shp {A B D : Int} {N : Rows} (h : DR N) : neT (shp A B D N) (shp A B D N) = some false := ne_self (sh_shp h) (by decide)
theorem nf_dvd {C : Int → Int → Nat} (n : NF C A B D) {u : Int} (h : Per C u 0) : u % A = 0 := by
  have e0 := Int.emod_nonneg u (show A ≠ 0 by have := n.a0; omega)
  have e1 := Int.emod_lt_of_pos u n.a0
  by_cases c : u % A = 0
  · exact c
  · exact absurd (per_mod n.a0 n.pa h) (n.ma _ (by omega) e1)
/-! ### moved pictures -/
def sft (C : Int → Int → Nat) (u v : Int) : Int → Int → Nat := fun x y => C (x - u) (y - v)
theorem per_sft {C : Int → Int → Nat} {u v p q : Int} : Per (sft C u v) p q ↔ Per C p q := by
  refine ⟨fun h x y => ?_, fun h x y => ?_⟩
  · have := h (x + u) (y + v)
    unfold sft at this
    rw [show x + u + p - u = x + p by omega, show y + v + q - v = y + q by omega, show x + u - u = x by omega, show y + v - v = y by omega] at this
    exact this
  · show C (x + p - u) (y + q - v) = C (x - u) (y - v)
    rw [show x + p - u = x - u + p by omega, show y + q - v = y - v + q by omega]
    exact h _ _
theorem nf_sft {C : Int → Int → Nat} (n : NF C A B D) (u v : Int) : NF (sft C u v) A B D :=
  ⟨n.a0, n.b0, n.b1, n.d0, per_sft.mpr n.pa, fun w h1 h2 p => n.ma w h1 h2 (per_sft.mp p), per_sft.mpr n.pb, fun w z h1 h2 p => n.md w z h1 h2 (per_sft.mp p)⟩
theorem sft_sft (C : Int → Int → Nat) (u v p q : Int) : sft (sft C u v) p q = sft C (u + p) (v + q) := by
  funext x y
  show C (x - p - u) (y - q - v) = C (x - (u + p)) (y - (v + q))
  rw [show x - p - u = x - (u + p) by omega, show y - q - v = y - (v + q) by omega]
theorem sft0 (C : Int → Int → Nat) : sft C 0 0 = C := by
  funext x y
  show C (x - 0) (y - 0) = C x y
  rw [Int.sub_zero, Int.sub_zero]
theorem sft_eq {C : Int → Int → Nat} {u v p q : Int} : sft C u v = sft C p q ↔ Per C (u - p) (v - q) := by
  refine ⟨fun h x y => ?_, fun h => ?_⟩
  · have e := congrFun (congrFun h (x + u)) (y + v)
    unfold sft at e
    rw [show x + u - u = x by omega, show y + v - v = y by omega, show x + u - p = x + (u - p) by omega, show y + v - q = y + (v - q) by omega] at e
    exact e.symm
  · funext x y
    show C (x - u) (y - v) = C (x - p) (y - q)
    have := h (x - u) (y - v)
    rw [show x - u + (u - p) = x - p by omega, show y - v + (v - q) = y - q by omega] at this
    exact this.symm
/-- a grid cut from a picture with the grid's periods tells that picture -/
theorem grid_pl {C : Int → Int → Nat} (ha : 0 < a) (hd : 0 < d) (pa : Per C a 0) (pb : Per C b d) : pl a b d (nrm C a d) = C := by
  funext x y
  rw [at_place ha hd pa pb x y]
  exact nrm_cl (Int.emod_nonneg _ (by omega)) (Int.emod_lt_of_pos _ ha) (Int.emod_nonneg _ (by omega)) (Int.emod_lt_of_pos _ hd)
theorem dg_sft {C : Int → Int → Nat} (h : ∀ x y, Dg (C x y)) (u v : Int) : ∀ x y, Dg (sft C u v x y) := fun x y => h _ _
theorem grid_sz {C : Int → Int → Nat} (L : Lt a b d) (few : a * d < 100) (h : ∀ x y, Dg (C x y)) : Sz a b d (nrm C a d) := ⟨L, nrm_gr h (by have := L.a0; omega) (by have := L.d0; omega), few⟩
theorem nf_few (S : Sz a b d R) (n : NF (pl a b d R) A B D) (dA : A ∣ a) (dD : D ∣ d) : A * D < 100 := by
  have h1 := Int.le_of_dvd S.a0 dA
  have h2 := Int.le_of_dvd S.d0 dD
  have q1 : A * D ≤ a * D := Int.mul_le_mul_of_nonneg_right h1 (by have := n.d0; omega)
  have q2 : a * D ≤ a * d := Int.mul_le_mul_of_nonneg_left h2 (by have := S.a0; omega)
  have := S.few
  omega
/-! ### rows_by -/
theorem rows_by {C : Int → Int → Nat} (hA : 0 < A) (hA1 : A < 100) (hD : 0 < D) (hD1 : D < 100) {act : List T → M T} (r : RS) (h : ∀ i j : Int, 0 ≤ i → i < A → 0 ≤ j → j < D → act [pr i j] r = .ok (one (C i j)) r) : F_rows_by act [latt A B D] r = .ok (rl (nrm C A D)) r := by
  have row : ∀ j : Int, 0 ≤ j → j < D → ∀ s3 : Slot, (fStr1 joinT (fC (.str "")) (fOwn (fComp [3] (hName 3) fYes (fAct 1 act [(fTup [(fVar 3), (fVar 2)])]) (fRng1 (fFld m_a (fVar 0)))))) [.val (latt A B D), .fn, .val (.int j), s3] r = .ok (wd (nrow C A j)) r := fun j j0 j1 s3 => by
    have e : compF [3] (hName 3) fYes (fAct 1 act [(fTup [(fVar 3), (fVar 2)])]) (rngL 0 A.toNat) [] [.val (latt A B D), .fn, .val (.int j), s3] r = .ok ([] ++ (rngL 0 A.toNat).map (sgG C j)) r := by
      refine comp_map (sgG C j) _ _ r (fun z hz => ?_) (by rw [rng_len]; simp only [List.length_nil]; omega)
      obtain ⟨x, rfl, x0, x1⟩ := mem_rngL hz
      exact ⟨_, rfl, rfl, x_act (ts := [pr x j]) (r1 := r) rfl rfl (h x j x0 (by omega) j0 j1)⟩
    rw [List.nil_append, sg_row] at e
    exact str1 (e_own (bind_ok (a := rngL 0 A.toNat) (r1 := r) (rng1s (i := A) rfl (by omega)) e)) (by unfold nrow; rw [List.length_map, List.length_range]; omega)
  have e : compF [2] (hName 2) fYes (fStr1 joinT (fC (.str "")) (fOwn (fComp [3] (hName 3) fYes (fAct 1 act [(fTup [(fVar 3), (fVar 2)])]) (fRng1 (fFld m_a (fVar 0)))))) (rngL 0 D.toNat) [] [.val (latt A B D), .fn, .un, .un] r = .ok ([] ++ (rngL 0 D.toNat).map (nwG C A)) r := by
    refine comp_map (nwG C A) _ _ r (fun z hz => ?_) (by rw [rng_len]; simp only [List.length_nil]; omega)
    obtain ⟨j, rfl, j0, j1⟩ := mem_rngL hz
    exact ⟨_, rfl, rfl, row j j0 (by omega) _⟩
  rw [List.nil_append, nw_rows] at e
  exact n_fnH (n_seqR (n_ret (e_b1 (x := .lst (rw (nrm C A D))) (r1 := r) (e_own (bind_ok (a := rngL 0 D.toNat) (r1 := r) (rng1s (i := D) rfl (by omega)) e)) rfl)))
theorem sign (S : Sz a b d R) {x y : Int} (hx : x.natAbs < 2 ^ 900) (hy : y.natAbs < 2 ^ 900) (r : RS) : F_Carpet_sign [crp a b d R A B D, pr x y] r = .ok (one (pl a b d R x y)) r :=
  n_fn (n_seqR (n_ret (x_call (ts := [latt a b d, rl R, pr x y]) (r1 := r) (e_cons (x_meth (vs := [.int a, .int b, .int d, rl R, latt A B D, shp A B D (nrm (pl a b d R) A D)]) (ts := []) (r1 := r) (r2 := r) rfl rfl (c_lat S r)) (e_cons rfl (e_cons rfl e_nil))) (sign_at S hx hy r))))
/-! ### moved_by -/
theorem moved_by (S : Sz a b d R) (n : NF (pl a b d R) A B D) (dA : A ∣ a) (dD : D ∣ d) {x y : Int} (hx : x.natAbs < 2 ^ 800) (hy : y.natAbs < 2 ^ 800) (r : RS) : F_Carpet_moved_by [crp a b d R A B D, pr x y] r = .ok (crp A B D (nrm (sft (pl a b d R) x y) A D) A B D) r := by
  obtain ⟨LL, A1, D1⟩ := lt_sub S n dA dD
  have n1 := nf_sft n x y
  have e1 := grid_pl n1.a0 n1.d0 n1.pa n1.pb
  have Z : Sz A B D (nrm (sft (pl a b d R) x y) A D) := grid_sz LL (nf_few S n dA dD) (dg_sft (fun _ _ => pl_dg S.toLt S.toGr) x y)
  have n2 : NF (pl A B D (nrm (sft (pl a b d R) x y) A D)) A B D := by rw [e1]; exact n1
  have q := init_c Z (RV.tp r _) n2 ⟨1, by omega⟩ ⟨1, by omega⟩
  refine n_fn (n_seq (n_expr (t := .non) (r1 := r) (x_call (ts := [pr x y]) (r1 := r) rfl rfl)) (n_seq (n_set (t := latt A B D) (r1 := r) rfl) (n_seq (n_set (t := rl (nrm (sft (pl a b d R) x y) A D)) (r1 := r) (x_hear (ts := [latt A B D]) (r1 := r) rfl rfl (rows_by n.a0 A1 n.d0 D1 r fun i j i0 i1 j0 j1 => ?_))) (n_seqR (n_ret (e_make (ts := [.int A, .int B, .int D, rl (nrm (sft (pl a b d R) x y) A D)]) (r1 := r) rfl q))))))
  exact x_meth (vs := [.int a, .int b, .int d, rl R, latt A B D, shp A B D (nrm (pl a b d R) A D)]) (ts := [pr (i - x) (j - y)]) (r1 := r) (r2 := r) rfl rfl (sign S (by omega) (by omega) r)
end K13
namespace K13
open PySem Ep L2
variable {a b d : Int} {R : Rows} {A B D : Int}
/-! ### the lattice's cells are the periods -/
theorem per_cell {C : Int → Int → Nat} (n : NF C A B D) (x y : Int) : (plX A B D x y = 0 ∧ plY D y = 0) ↔ Per C x y := by
  have d0 := n.d0
  have base : Per C (x - B * (y / D)) (y % D) ↔ Per C x y := by
    have q := n.pb.mul (y / D)
    have e : y % D = y - D * (y / D) := by have := Int.emod_add_mul_ediv y D; omega
    rw [e]
    refine ⟨fun h => ?_, fun h => h.sub q⟩
    have := h.add q
    rw [show x - B * (y / D) + B * (y / D) = x by omega, show y - D * (y / D) + D * (y / D) = y by omega] at this
    exact this
  have y0 := Int.emod_nonneg y (show D ≠ 0 by omega)
  have y1 := Int.emod_lt_of_pos y d0
  refine ⟨fun ⟨h1, h2⟩ => base.mp ?_, fun h => ?_⟩
  · unfold plX at h1
    unfold plY at h2
    rw [h2]
    have q := n.pa.mul ((x - B * (y / D)) / A)
    rw [Int.zero_mul, Int.mul_ediv_cancel' (Int.dvd_of_emod_eq_zero h1)] at q
    exact q
  · have h := base.mpr h
    have z : y % D = 0 := by
      by_cases c : y % D = 0
      · exact c
      · exact absurd h (n.md _ _ (by omega) y1)
    rw [z] at h
    exact ⟨nf_dvd n h, z⟩
theorem within {x y : Int} (L : Lt a b d) (hx : x.natAbs < 2 ^ 900) (hy : y.natAbs < 2 ^ 900) (r : RS) : F_Lattice_contains [latt a b d, pr x y] r = .ok (.bl (decide (plX a b d x y = 0) && decide (plY d y = 0))) r :=
  n_fn (n_seqR (n_ret (e_andT (r1 := r) (e_call (ts := [pr x y]) (r1 := r) rfl (is_shift_pr x y r)) (e_cmp (x := pr (plX a b d x y) (plY d y)) (y := pr 0 0) (r1 := r) (r2 := r) (e_meth (C := 5) (vs := [.int a, .int b, .int d]) (ts := [pr x y]) (r1 := r) (r2 := r) rfl rfl (l_place L hx hy r)) rfl (eq2 _ _ _ _)))))
theorem is_period_c (S : Sz a b d R) (n : NF (pl a b d R) A B D) (dA : A ∣ a) (dD : D ∣ d) {x y : Int} (hx : x.natAbs < 2 ^ 800) (hy : y.natAbs < 2 ^ 800) (r : RS) : F_Carpet_is_period [crp a b d R A B D, pr x y] r = .ok (.bl (perB a b d R x y)) r := by
  obtain ⟨LL, A1, D1⟩ := lt_sub S n dA dD
  have e : (decide (plX A B D x y = 0) && decide (plY D y = 0)) = perB a b d R x y := by
    rw [← Bool.decide_and]
    cases q : perB a b d R x y with
    | true => exact decide_eq_true ((per_cell n x y).mpr ((perB_iff S).mp q))
    | false =>
      refine decide_eq_false fun h => ?_
      have := (perB_iff S).mpr ((per_cell n x y).mp h)
      rw [q] at this
      cases this
  have w := within (x := x) (y := y) LL (by omega) (by omega) r
  rw [e] at w
  exact n_fn (n_seq (n_expr (t := .non) (r1 := r) (x_call (ts := [pr x y]) (r1 := r) rfl rfl)) (n_seqR (n_ret (x_own2c (x := pr x y) (y := latt A B D) (r1 := r) (r2 := r) rfl rfl (y_own2c (C := 5) (vs := [.int A, .int B, .int D]) (F := F_Lattice_contains) w)))))
/-! ### the law's moved rows -/
theorem law_moved (S : Sz a b d R) {x y : Int} (hx : x.natAbs < 2 ^ 800) (hy : y.natAbs < 2 ^ 800) (r : RS) : F__law_moved [told a b d R, .int x, .int y] r = .ok (told a b d (nrm (sft (pl a b d R) x y) a d)) r := by
  have sm := S.small
  have a0 := S.a0; have d0 := S.d0
  have txt : ∀ j : Int, 0 ≤ j → j < d → ∀ s3 s5 : Slot, (fStr1 joinT (fC (.str "")) (fOwn (fComp [5] (hName 5) fYes (fB1 strI (fCall F__law_colour [] [(fVar 0), (fBin subT (fVar 5) (fVar 1)), (fBin subT (fVar 4) (fVar 2))])) (fRng1 (fIx (fIx (fVar 0) (fC (.int 0))) (fC (.int 0))))))) [.val (told a b d R), .val (.int x), .val (.int y), s3, .val (.int j), s5] r = .ok (wd (nrow (sft (pl a b d R) x y) a j)) r := fun j j0 j1 s3 s5 => by
    have e : compF [5] (hName 5) fYes (fB1 strI (fCall F__law_colour [] [(fVar 0), (fBin subT (fVar 5) (fVar 1)), (fBin subT (fVar 4) (fVar 2))])) (rngL 0 a.toNat) [] [.val (told a b d R), .val (.int x), .val (.int y), s3, .val (.int j), s5] r = .ok ([] ++ (rngL 0 a.toNat).map (sgG (sft (pl a b d R) x y) j)) r := by
      refine comp_map (sgG (sft (pl a b d R) x y) j) _ _ r (fun z hz => ?_) (by rw [rng_len]; simp only [List.length_nil]; omega)
      obtain ⟨i, rfl, i0, i1⟩ := mem_rngL hz
      exact ⟨_, rfl, rfl, e_b1 (x := .int ((pl a b d R (i - x) (j - y) : Int) - 48)) (r1 := r) (x_call (ts := [told a b d R, .int (i - x), .int (j - y)]) (r1 := r) rfl (colour S (by omega) (by omega) r)) (str_dg r (pl_dg S.toLt S.toGr))⟩
    rw [List.nil_append, sg_row] at e
    exact str1 (e_own (bind_ok (a := rngL 0 a.toNat) (r1 := r) (rng1s (i := a) rfl (by omega)) e)) (by unfold nrow; rw [List.length_map, List.length_range]; omega)
  have L : ∀ (ys acc : List T) (s4 s5 : Slot), (∀ z ∈ ys, ∃ i : Int, z = .int i ∧ 0 ≤ i ∧ i < d) → acc.length + ys.length < 1000 → ∃ s4' s5', loopF (hName 4) (qSeq (qApp 3 (fStr1 joinT (fC (.str "")) (fOwn (fComp [5] (hName 5) fYes (fB1 strI (fCall F__law_colour [] [(fVar 0), (fBin subT (fVar 5) (fVar 1)), (fBin subT (fVar 4) (fVar 2))])) (fRng1 (fIx (fIx (fVar 0) (fC (.int 0))) (fC (.int 0)))))))) qNil) ys [.val (told a b d R), .val (.int x), .val (.int y), .own acc, s4, s5] r = .nx [.val (told a b d R), .val (.int x), .val (.int y), .own (acc ++ ys.map (nwG (sft (pl a b d R) x y) a)), s4', s5'] r := by
    intro ys
    induction ys with
    | nil => intro acc s4 s5 _ _; exact ⟨s4, s5, by rw [List.map_nil, List.append_nil]; rfl⟩
    | cons z ys ih =>
      intro acc s4 s5 h hl
      obtain ⟨i, rfl, i0, i1⟩ := h z List.mem_cons_self
      rw [List.length_cons] at hl
      obtain ⟨t4, t5, e⟩ := ih (acc ++ [nwG (sft (pl a b d R) x y) a (.int i)]) (.val (.int i)) s5 (fun z hz => h z (List.mem_cons_of_mem _ hz)) (by rw [List.length_append]; simp only [List.length_cons, List.length_nil]; omega)
      rw [List.append_assoc] at e
      refine ⟨t4, t5, n_loop (env' := [.val (told a b d R), .val (.int x), .val (.int y), .own acc, .val (.int i), s5]) rfl (n_seq (n_app rfl (by omega) (txt i i0 i1 _ _)) rfl) ?_⟩
      rw [List.map_cons]
      exact e
  obtain ⟨t4, t5, e⟩ := L (rngL 0 d.toNat) [] .un .un (fun y hy => by
    obtain ⟨i, rfl, i0, i1⟩ := mem_rngL hy
    exact ⟨i, rfl, i0, by omega⟩) (by rw [rng_len]; simp only [List.length_nil]; omega)
  rw [List.nil_append, nw_rows] at e
  exact n_fn (n_seq (n_own (xs := []) (r1 := r) rfl) (n_seq (n_for (xs := rngL 0 d.toNat) (r1 := r) (rng1s (i := d) rfl (by omega)) e) (n_seqR (n_frz (n_ret (t := told a b d (nrm (sft (pl a b d R) x y) a d)) (r1 := r) rfl)))))
/-! ### one shift asked -/
theorem sft_pl (S : Sz a b d R) (x y : Int) : pl a b d (nrm (sft (pl a b d R) x y) a d) = sft (pl a b d R) x y := grid_pl S.a0 S.d0 (per_sft.mpr (pl_per S).1) (per_sft.mpr (pl_per S).2)
theorem sft_sz (S : Sz a b d R) (x y : Int) : Sz a b d (nrm (sft (pl a b d R) x y) a d) := grid_sz S.toLt S.few (dg_sft (fun _ _ => pl_dg S.toLt S.toGr) x y)
theorem due_of (S : Sz a b d R) (n : NF (pl a b d R) A B D) (dA : A ∣ a) (dD : D ∣ d) (x y : Int) (r : RS) : F__law_normal [told a b d (nrm (sft (pl a b d R) x y) a d)] r = .ok (shp A B D (nrm (sft (pl a b d R) x y) A D)) r := by
  have Z := sft_sz S x y
  have n1 : NF (pl a b d (nrm (sft (pl a b d R) x y) a d)) A B D := by rw [sft_pl S]; exact nf_sft n x y
  have q := law_normal Z n1 (Int.le_of_dvd S.a0 dA) (Int.le_of_dvd S.d0 dD) r
  rw [sft_pl S] at q
  exact q
/-- the carpet of a moved picture -/
abbrev mcp (C : Int → Int → Nat) (A B D x y : Int) : T := crp A B D (nrm (sft C x y) A D) A B D
structure Pic (C : Int → Int → Nat) (A B D : Int) : Prop where
  lt : Lt A B D
  few : A * D < 100
  dg : ∀ x y, Dg (C x y)
  nf : NF C A B D
theorem Pic.of (S : Sz a b d R) (n : NF (pl a b d R) A B D) (dA : A ∣ a) (dD : D ∣ d) : Pic (pl a b d R) A B D := ⟨(lt_sub S n dA dD).1, nf_few S n dA dD, fun _ _ => pl_dg S.toLt S.toGr, n⟩
theorem Pic.sz {C : Int → Int → Nat} (p : Pic C A B D) (x y : Int) : Sz A B D (nrm (sft C x y) A D) := grid_sz p.lt p.few (dg_sft p.dg x y)
theorem Pic.pl {C : Int → Int → Nat} (p : Pic C A B D) (x y : Int) : K13.pl A B D (nrm (sft C x y) A D) = sft C x y := grid_pl p.nf.a0 p.nf.d0 (per_sft.mpr p.nf.pa) (per_sft.mpr p.nf.pb)
theorem Pic.nf2 {C : Int → Int → Nat} (p : Pic C A B D) (x y : Int) : NF (K13.pl A B D (nrm (sft C x y) A D)) A B D := by rw [p.pl]; exact nf_sft p.nf x y
theorem Pic.moved {C : Int → Int → Nat} (p : Pic C A B D) (x y : Int) {u v : Int} (hu : u.natAbs < 2 ^ 800) (hv : v.natAbs < 2 ^ 800) (r : RS) : F_Carpet_moved_by [mcp C A B D x y, pr u v] r = .ok (mcp C A B D (x + u) (y + v)) r := by
  have q := moved_by (p.sz x y) (p.nf2 x y) ⟨1, by omega⟩ ⟨1, by omega⟩ hu hv r
  rw [p.pl, sft_sft] at q
  exact q
/-- == of two carpets -/
theorem eq_crp (S : Sz a b d R) {a' b' d' : Int} {R' : Rows} (S' : Sz a' b' d' R') (n : NF (pl a b d R) A B D) (n' : NF (pl a' b' d' R') A B D) {β : Bool} (hb : β = true ↔ pl a b d R = pl a' b' d' R') (r : RS) : F_Carpet_eq [crp a b d R A B D, crp a' b' d' R' A B D] r = .ok (.bl β) r := by
  rw [c_eq' S S' r]
  congr 2
  cases β with
  | true => exact decide_eq_true ((alike S S' n n').mpr (hb.mp rfl))
  | false => exact decide_eq_false fun h => Bool.false_ne_true (hb.mpr ((alike S S' n n').mp h))
end K13
namespace K13
open PySem Ep L2
variable {a b d : Int} {R : Rows} {A B D : Int}
/-! ### one shift asked of a carpet -/
theorem normal_of {C : Int → Int → Nat} (p : Pic C A B D) (x y : Int) (r : RS) : F_Carpet_normal [mcp C A B D x y] r = .ok (shp A B D (nrm (sft C x y) A D)) r := by
  have e : F_Carpet_normal [mcp C A B D x y] r = .ok (shp A B D (nrm (K13.pl A B D (nrm (sft C x y) A D)) A D)) r := rfl
  rw [p.pl] at e
  exact e
theorem same_moved (S : Sz a b d R) (n : NF (pl a b d R) A B D) (dA : A ∣ a) (dD : D ∣ d) (x y : Int) {β : Bool} (hb : β = true ↔ Per (pl a b d R) x y) (r : RS) : F_Carpet_eq [mcp (pl a b d R) A B D x y, crp a b d R A B D] r = .ok (.bl β) r := by
  have p := Pic.of S n dA dD
  refine eq_crp (p.sz x y) S (p.nf2 x y) n ?_ r
  rw [p.pl, hb]
  have e := @sft_eq (pl a b d R) x y 0 0
  rw [sft0, Int.sub_zero, Int.sub_zero] at e
  exact e.symm
theorem same_mcp {C : Int → Int → Nat} (p : Pic C A B D) (x y : Int) (r : RS) : F_Carpet_eq [mcp C A B D x y, mcp C A B D x y] r = .ok (.bl true) r := eq_crp (p.sz x y) (p.sz x y) (p.nf2 x y) (p.nf2 x y) ⟨fun _ => rfl, fun _ => rfl⟩ r
theorem ne_rows {N : Rows} (h : DR N) : neT (.lst [.int A, .int B, .int D, rl N]) (.lst [.int A, .int B, .int D, rl N]) = some false := ne_four A B D h
theorem shift_right (S : Sz a b d R) (n : NF (pl a b d R) A B D) (dA : A ∣ a) (dD : D ∣ d) {x y : Int} (hx : x.natAbs < 2 ^ 700) (hy : y.natAbs < 2 ^ 700) (r : RS) : F__law_shift_right [crp a b d R A B D, told a b d R, .int x, .int y] r = .ok (.bl true) r := by
  have p := Pic.of S n dA dD
  generalize hC : pl a b d R = C at n p
  have f1 := moved_by S (hC ▸ n) dA dD (x := x) (y := y) (by omega) (by omega) r
  have f2 := law_moved S (x := x) (y := y) (by omega) (by omega) r
  have f3 := due_of S (hC ▸ n) dA dD x y r
  have f4 := normal_of p x y r
  have f5 := same_moved S (hC ▸ n) dA dD x y (β := perB a b d R x y) (perB_iff S) r
  have f6 := is_period_c S (hC ▸ n) dA dD (x := x) (y := y) (by omega) (by omega) r
  have f7 := is_per S (x := x) (y := y) (by omega) (by omega) r
  have f8 := p.moved x y (u := 0 - x) (v := 0 - y) (by omega) (by omega) r
  have f9 := same_moved S (hC ▸ n) dA dD (x + (0 - x)) (y + (0 - y)) (β := true) ⟨fun _ => by rw [show x + (0 - x) = 0 by omega, show y + (0 - y) = 0 by omega]; exact Per.zero, fun _ => rfl⟩ r
  have f10 := p.moved x y (u := 2) (v := 1) (by decide) (by decide) r
  have f11 := moved_by S (hC ▸ n) dA dD (x := x + 2) (y := y + 1) (by omega) (by omega) r
  have f12 := same_mcp p (x + 2) (y + 1) r
  rw [hC] at f1 f2 f3 f5 f9 f11
  generalize perB a b d R x y = β at f5 f6 f7
  have g1 := ne_shp (A := A) (B := B) (D := D) (dr_of (p.sz x y))
  have g2 := ne_rows (A := A) (B := B) (D := D) (dr_of (p.sz x y))
  have g3 := ne_bl β
  refine n_fn ?_
  refine (Ep.n_seq (Ep.n_set (Ep.x_meth rfl (Ep.e_cons (Ep.e_tup (Ep.e_cons rfl (Ep.e_cons rfl Ep.e_nil))) Ep.e_nil) f1)) (Ep.n_seq (Ep.n_set (Ep.x_call (Ep.e_cons (Ep.x_call (Ep.e_cons rfl (Ep.e_cons rfl (Ep.e_cons rfl Ep.e_nil))) f2) Ep.e_nil) f3)) (Ep.n_seq (Ep.n_ifF (Ep.e_orBF (Ep.e_cmpB (Ep.x_meth rfl Ep.e_nil f4) rfl g1) (Ep.e_cmpB (Ep.e_lst (Ep.e_cons (Ep.x_fld rfl rfl rfl) (Ep.e_cons (Ep.x_fld rfl rfl rfl) (Ep.e_cons (Ep.x_fld rfl rfl rfl) (Ep.e_cons (Ep.x_fld rfl rfl rfl) Ep.e_nil))))) (Ep.e_b1 rfl rfl) g2)) (Ep.w_nil)) (Ep.n_seq (Ep.n_ifF (Ep.e_orBF (Ep.e_cmpB (Ep.x_own2s rfl rfl (Ep.y_own2s f5)) (Ep.x_call (Ep.e_cons rfl (Ep.e_cons rfl (Ep.e_cons rfl Ep.e_nil))) f7) g3) (Ep.e_cmpB (Ep.x_meth rfl (Ep.e_cons (Ep.e_tup (Ep.e_cons rfl (Ep.e_cons rfl Ep.e_nil))) Ep.e_nil) f6) (Ep.x_own2s rfl rfl (Ep.y_own2s f5)) g3)) (Ep.w_nil)) (Ep.n_seqR (Ep.n_ret (Ep.e_andT (Ep.x_own2s (Ep.x_meth rfl (Ep.e_cons (Ep.e_tup (Ep.e_cons (Ep.e_bin rfl rfl rfl) (Ep.e_cons (Ep.e_bin rfl rfl rfl) Ep.e_nil))) Ep.e_nil) f8) rfl (Ep.y_own2s f9)) (Ep.x_own2s (Ep.x_meth rfl (Ep.e_cons (Ep.e_tup (Ep.e_cons rfl (Ep.e_cons rfl Ep.e_nil))) Ep.e_nil) f10) (Ep.x_meth rfl (Ep.e_cons (Ep.e_tup (Ep.e_cons (Ep.e_bin rfl rfl rfl) (Ep.e_cons (Ep.e_bin rfl rfl rfl) Ep.e_nil))) Ep.e_nil) f11) (Ep.y_own2s f12)))))))))
end K13
namespace K13
open PySem Ep L2
variable {a b d : Int} {R : Rows} {A B D : Int}
/-! ### the moved forms are all unlike -/
def fm (C : Int → Int → Nat) (A B D : Int) (i j : Nat) : T := shp A B D (nrm (sft C (0 + (i : Int)) (0 + (j : Int))) A D)
def mvs (C : Int → Int → Nat) (A B D : Int) (m : Nat) : List T := (List.range m).flatMap fun j => (List.range A.toNat).map fun i => fm C A B D i j
theorem mvs_succ (C : Int → Int → Nat) (A B D : Int) (m : Nat) : mvs C A B D (m + 1) = mvs C A B D m ++ (List.range A.toNat).map fun i => fm C A B D i m := by
  unfold mvs
  rw [List.range_succ, List.flatMap_append, List.flatMap_singleton]
theorem mvs_len (C : Int → Int → Nat) (A B D : Int) : ∀ m : Nat, (mvs C A B D m).length = m * A.toNat
  | 0 => by rw [Nat.zero_mul]; rfl
  | m + 1 => by rw [mvs_succ, List.length_append, mvs_len C A B D m, List.length_map, List.length_range, Nat.succ_mul]
theorem wd_inj {l m : List Nat} (h : wd l = wd m) : l = m := by
  injection h with h
  injection h with h
  have := congrArg Array.toList h
  exact this
theorem rw_inj : ∀ {N N' : Rows}, rw N = rw N' → N = N'
  | [], [], _ => rfl
  | [], _ :: _, h => by cases h
  | _ :: _, [], h => by cases h
  | l :: N, l' :: N', h => by
    have h1 := (List.cons.inj h).1
    have h2 := (List.cons.inj h).2
    rw [wd_inj h1, rw_inj h2]
theorem fm_inj {C : Int → Int → Nat} (p : Pic C A B D) {i j i' j' : Nat} (h : fm C A B D i j = fm C A B D i' j') : Per C ((i : Int) - i') ((j : Int) - j') := by
  have h1 : nrm (sft C (0 + (i : Int)) (0 + (j : Int))) A D = nrm (sft C (0 + (i' : Int)) (0 + (j' : Int))) A D := by
    unfold fm at h
    injection h with h
    injection h with _ h
    injection h with _ h
    injection h with _ h
    injection h with h _
    injection h with h
    exact rw_inj h
  have e1 := p.pl (0 + (i : Int)) (0 + (j : Int))
  have e2 := p.pl (0 + (i' : Int)) (0 + (j' : Int))
  rw [h1] at e1
  have := sft_eq.mp (e1.symm.trans e2)
  rw [show 0 + (i : Int) - (0 + (i' : Int)) = (i : Int) - i' by omega, show 0 + (j : Int) - (0 + (j' : Int)) = (j : Int) - j' by omega] at this
  exact this
theorem no_small {C : Int → Int → Nat} (n : NF C A B D) {u v : Int} (hu : -A < u ∧ u < A) (hv : -D < v ∧ v < D) (h : Per C u v) : u = 0 ∧ v = 0 := by
  have v0 : v = 0 := by
    by_cases c : v = 0
    · exact c
    · by_cases c' : 0 < v
      · exact absurd h (n.md u v c' hv.2)
      · exact absurd h.neg (n.md (-u) (-v) (by omega) (by omega))
  subst v0
  refine ⟨?_, rfl⟩
  by_cases c : u = 0
  · exact c
  · by_cases c' : 0 < u
    · exact absurd h (n.ma u c' hu.2)
    · have q := h.neg
      rw [show -(0 : Int) = 0 from rfl] at q
      exact absurd q (n.ma (-u) (by omega) (by omega))
theorem mvs_nodup {C : Int → Int → Nat} (p : Pic C A B D) {m : Nat} (hm : (m : Int) ≤ D) : (mvs C A B D m).Nodup := by
  unfold mvs List.Nodup
  rw [List.pairwise_flatMap]
  refine ⟨fun j hj => ?_, ?_⟩
  · rw [List.pairwise_map]
    refine List.Pairwise.imp_of_mem (fun {i i'} hi hi' l e => ?_) (List.pairwise_lt_range (n := A.toNat))
    have hi := List.mem_range.mp hi
    have hi' := List.mem_range.mp hi'
    have := (no_small p.nf (u := (i : Int) - i') (v := (j : Int) - j) (by omega) (by have := p.nf.d0; omega) (fm_inj p e)).1
    omega
  · refine List.Pairwise.imp_of_mem (fun {j j'} hj hj' l => ?_) (List.pairwise_lt_range (n := m))
    intro x hx y hy e
    have hj := List.mem_range.mp hj
    have hj' := List.mem_range.mp hj'
    obtain ⟨i, hi, rfl⟩ := List.mem_map.mp hx
    obtain ⟨i', hi', rfl⟩ := List.mem_map.mp hy
    have hi := List.mem_range.mp hi
    have hi' := List.mem_range.mp hi'
    have := (no_small p.nf (u := (i : Int) - i') (v := (j : Int) - j') (by omega) (by omega) (fm_inj p e)).2
    omega
theorem pt_shp {N : Rows} (h : DR N) : Pt LfI 2 (shp A B D N) := Pt.tup fun t ht => by
  simp only [List.mem_cons, List.not_mem_nil, or_false] at ht
  rcases ht with rfl | rfl | rfl | rfl
  · exact Pt.leaf (.inr (.inl ⟨_, rfl⟩)) 1
  · exact Pt.leaf (.inr (.inl ⟨_, rfl⟩)) 1
  · exact Pt.leaf (.inr (.inl ⟨_, rfl⟩)) 1
  · refine Pt.tup fun t ht => ?_
    obtain ⟨l, hl, rfl⟩ := List.mem_map.mp ht
    exact .inr (.inr ⟨_, rfl, ok_st (h l hl)⟩)
theorem mvs_pt {C : Int → Int → Nat} (p : Pic C A B D) (m : Nat) : ∀ t ∈ mvs C A B D m, Pt LfI 2 t := fun t ht => by
  obtain ⟨j, _, ht⟩ := List.mem_flatMap.mp ht
  obtain ⟨i, _, rfl⟩ := List.mem_map.mp ht
  exact pt_shp (dr_of (p.sz _ _))
theorem none_again {C : Int → Int → Nat} (p : Pic C A B D) {m k : Nat} (hm : (m : Int) ≤ D) {t : T} (hk : (mvs C A B D m)[k]? = some t) : inT t (.lst ((mvs C A B D m).take k)) = some false := by
  have hp := mvs_pt p m
  refine in_lst lfI (hp t (List.mem_of_getElem? hk)) (fun x hx => hp x (List.mem_of_mem_take hx)) (by decide) ⟨fun h => absurd h Bool.false_ne_true, fun h => ?_⟩
  exfalso
  obtain ⟨i, hi⟩ := List.mem_iff_getElem?.mp h
  rw [List.getElem?_take] at hi
  split at hi
  · rename_i c
    obtain ⟨l1, e1⟩ := List.getElem?_eq_some_iff.mp hi
    obtain ⟨l2, e2⟩ := List.getElem?_eq_some_iff.mp hk
    have := List.pairwise_iff_getElem.mp (mvs_nodup p hm) i k l1 l2 c
    exact this (e1.trans e2.symm)
  · cases hi
end K13
namespace K13
open PySem Ep L2
variable {a b d : Int} {R : Rows} {A B D : Int}
theorem intR {k : Nat} {r : RS} (h : Pool k r) : ∃ v r', F__law_int [.ref k] r = .ok (.int v) r' ∧ Pool k r' ∧ v.natAbs < 2 ^ 110 := by
  obtain ⟨t, r1, e1, p1, ht⟩ := pick (xs := sizes) h (by decide) (by decide)
  obtain ⟨z, rfl, z0, z1⟩ : ∃ z, t = .int z ∧ 0 < z ∧ z ≤ 10 ^ 30 := by
    simp only [sizes, List.mem_cons, List.not_mem_nil, or_false] at ht
    rcases ht with rfl | rfl | rfl | rfl | rfl <;> exact ⟨_, rfl, by decide, by decide⟩
  obtain ⟨v1, r2, e2, p2, v10, v11⟩ := draw' (n := z) p1 z0 (by omega)
  obtain ⟨v2, r3, e3, p3, v20, v21⟩ := draw' (n := 2) p2 (by decide) (by decide)
  obtain ⟨v3, r4, e4, p4, v30, v31⟩ := draw' (n := z) p3 z0 (by omega)
  have w1 : powT (.int 10) (.int 3) = some (.int (10 ^ 3)) := rfl
  have w2 : powT (.int 10) (.int 30) = some (.int (10 ^ 30)) := rfl
  have c : v2 * v3 = 0 ∨ v2 * v3 = v3 := by
    have : v2 = 0 ∨ v2 = 1 := by omega
    rcases this with h | h <;> subst h <;> simp
  have m1 : mulT (.int v2) (.int v3) = some (.int (v2 * v3)) := mulB (by omega) (by omega)
  have m2 : mulT (.int (v2 * v3)) (.int 3) = some (.int (v2 * v3 * 3)) := mulB (by rcases c with c | c <;> rw [c] <;> omega) (by decide)
  have e1 : F__law_pick [.ref k, .lst [.int 3, .int 7, .int 20, .int (10 ^ 3), .int (10 ^ 30)]] r = .ok (.int z) r1 := e1
  refine ⟨v1 - v2 * v3 * 3, r4, ?_, p4, by rcases c with c | c <;> rw [c] <;> omega⟩
  simp only [F__law_int, g__law_int, fnS, envOf, qSeq, qSet, qRet, ofM, fVar, fC, fCall, fLst, fAll, fBin, subT, bindR, bndO, pureR, mpureR, liftS, w1, w2, List.append_nil, List.map_cons, List.map_nil, List.replicate, List.cons_append, List.nil_append, List.getElem?_cons_zero, List.getElem?_cons_succ, List.set_cons_zero, List.set_cons_succ, e1, e2, e3, e4, m1, m2]
/-! ### what is refused -/
theorem heardP {act : M T} {r r' : RS} {p : T} (h : act r = .exn 0 p r') : heardS 2 hs__law_refused rest__law_refused act r = .ok (.lst [.str "part", p]) r' :=
  heard_rt ((qTry_x (ofM_x h)).trans rfl)
def odds : List T := [.non, .tup [.int 1], .lst [.int 0, .int 0], .tup [.bl true, .int 0], .str "00"]
theorem check_x {o : T} (h : o ∈ odds) (r : RS) : F_check_shift [o] r = .exn 0 (.str "shift") r := by
  simp only [odds, List.mem_cons, List.not_mem_nil, or_false] at h
  rcases h with rfl | rfl | rfl | rfl | rfl <;> rfl
theorem moved_x {o v : T} (h : o ∈ odds) (r : RS) : F_Carpet_moved_by [v, o] r = .exn 0 (.str "shift") r := by
  have c : fCall F_check_shift [] [(fVar 1)] [.val v, .val o, .un, .un] r = .exn 0 (.str "shift") r := x_call (ts := [o]) (r1 := r) rfl (check_x h r)
  have e : g_Carpet_moved_by (envOf 2 [v, o]) r = .exn 0 (.str "shift") [.val v, .val o, .un, .un] r := x_seqX (ofM_x c)
  unfold F_Carpet_moved_by fnS
  rw [e]
/-! ### the forms of all moves -/
def nmG (C : Int → Int → Nat) (A B D y : Int) : T → T
  | .int i => shp A B D (nrm (sft C i y) A D)
  | t => t
theorem moves_row (S : Sz a b d R) (n : NF (pl a b d R) A B D) (dA : A ∣ a) (dD : D ∣ d) (j : Nat) (j1 : (j : Int) < D) {s0 s1 s2 s3 s4 s5 s7 s9 s10 s11 s13 s14 s15 : Slot} (r : RS) :
    fComp [14] (hName 14) fYes (fMeth 6 F_Carpet_normal [] (fMeth 6 F_Carpet_moved_by [] (fVar 6) [(fTup [(fVar 14), (fVar 12)])]) []) (fRng1 (fVar 8)) [s0, s1, s2, s3, s4, s5, .val (crp a b d R A B D), s7, .val (.int A), s9, s10, s11, .val (.int (0 + (j : Int))), s13, s14, s15] r = .ok ((List.range A.toNat).map fun i => fm (pl a b d R) A B D i j) r := by
  obtain ⟨LL, A1, D1⟩ := lt_sub S n dA dD
  have p := Pic.of S n dA dD
  have e : compF [14] (hName 14) fYes (fMeth 6 F_Carpet_normal [] (fMeth 6 F_Carpet_moved_by [] (fVar 6) [(fTup [(fVar 14), (fVar 12)])]) []) (rngL 0 A.toNat) [] [s0, s1, s2, s3, s4, s5, .val (crp a b d R A B D), s7, .val (.int A), s9, s10, s11, .val (.int (0 + (j : Int))), s13, s14, s15] r = .ok ([] ++ (rngL 0 A.toNat).map (nmG (pl a b d R) A B D (0 + (j : Int)))) r := by
    refine comp_map _ _ _ r (fun z hz => ?_) (by rw [rng_len]; simp only [List.length_nil]; omega)
    obtain ⟨x, rfl, x0, x1⟩ := mem_rngL hz
    refine ⟨_, rfl, rfl, ?_⟩
    have h1 := moved_by S n dA dD (x := x) (y := 0 + (j : Int)) (by omega) (by omega) r
    have h2 := normal_of p x (0 + (j : Int)) r
    exact x_meth (vs := [.int A, .int B, .int D, rl (nrm (sft (pl a b d R) x (0 + (j : Int))) A D), latt A B D, shp A B D (nrm (K13.pl A B D (nrm (sft (pl a b d R) x (0 + (j : Int))) A D)) A D)]) (ts := []) (r1 := r) (r2 := r) (x_meth (vs := [.int a, .int b, .int d, rl R, latt A B D, shp A B D (nrm (pl a b d R) A D)]) (ts := [pr x (0 + (j : Int))]) (r1 := r) (r2 := r) rfl rfl h1) rfl h2
  rw [List.nil_append, show (rngL 0 A.toNat).map (nmG (pl a b d R) A B D (0 + (j : Int))) = (List.range A.toNat).map fun i => fm (pl a b d R) A B D i j by
    unfold rngL
    rw [List.map_map]
    rfl] at e
  exact bind_ok (a := rngL 0 A.toNat) (r1 := r) (rng1s (i := A) rfl (by have := n.a0; omega)) e
theorem none_twice {C : Int → Int → Nat} (p : Pic C A B D) {m : Nat} (hm : (m : Int) ≤ D) {s0 s1 s2 s3 s4 s5 s6 s7 s8 s9 s10 s12 s13 s14 s15 : Slot} (r : RS) :
    fComp [15] (hName 15) (fCmpB inT (fIx (fVar 11) (fVar 15)) (fSl (fVar 11) none (some (fVar 15)))) (fVar 15) (fRng1 (fB1 lenT (fVar 11))) [s0, s1, s2, s3, s4, s5, s6, s7, s8, s9, s10, .val (.lst (mvs C A B D m)), s12, s13, s14, s15] r = .ok [] r := by
  have hl : (mvs C A B D m).length < 10000 := by
    rw [mvs_len]
    have h1 := p.lt.aB
    have h2 := p.lt.dB
    have h3 := p.few
    have a0 := p.nf.a0
    have d0 := p.nf.d0
    have q : (m : Int) * A ≤ D * A := Int.mul_le_mul_of_nonneg_right hm (by omega)
    rw [Int.mul_comm D A] at q
    have e : ((m * A.toNat : Nat) : Int) = (m : Int) * A := by rw [Int.natCast_mul, Int.toNat_of_nonneg (by omega)]
    omega
  have e : compF [15] (hName 15) (fCmpB inT (fIx (fVar 11) (fVar 15)) (fSl (fVar 11) none (some (fVar 15)))) (fVar 15) (rngL 0 (mvs C A B D m).length) [] [s0, s1, s2, s3, s4, s5, s6, s7, s8, s9, s10, .val (.lst (mvs C A B D m)), s12, s13, s14, s15] r = .ok ([] ++ (rngL 0 (mvs C A B D m).length).filter fun _ => false) r := by
    refine comp_fil (fun _ => false) _ _ r (fun z hz => ?_) (by rw [rng_len]; simp only [List.length_nil]; omega)
    obtain ⟨x, rfl, x0, x1⟩ := mem_rngL hz
    obtain ⟨k, rfl⟩ : ∃ k : Nat, x = (k : Int) := ⟨x.toNat, by omega⟩
    have kl : k < (mvs C A B D m).length := by omega
    have g1 : (mvs C A B D m)[k]? = some (mvs C A B D m)[k] := List.getElem?_eq_getElem kl
    have g2 : ixT r (.lst (mvs C A B D m)) (.int (k : Int)) = some (mvs C A B D m)[k] := atI_nat g1
    have g3 : slT r (.lst (mvs C A B D m)) none (some (k : Int)) = some (.lst ((mvs C A B D m).take k)) := by
      show some (T.lst (cutT (mvs C A B D m) none (some (k : Int)))) = _
      rw [show cutT (mvs C A B D m) none (some (k : Int)) = (mvs C A B D m).take k from Dr.cut_take _ _]
    have g4 := none_again p hm g1
    exact ⟨_, rfl, e_cmpB (r1 := r) (r2 := r) (e_ix (x := .lst (mvs C A B D m)) (y := .int (k : Int)) (r1 := r) (r2 := r) rfl rfl g2) (fSl0 (x := .lst (mvs C A B D m)) rfl rfl g3) g4, fun h => absurd h Bool.false_ne_true⟩
  rw [List.nil_append, List.filter_eq_nil_iff.mpr fun _ _ h => Bool.false_ne_true h] at e
  refine bind_ok (a := rngL 0 (mvs C A B D m).length) (r1 := r) ?_ e
  have := rng1s (f := fB1 lenT (fVar 11)) (env := [s0, s1, s2, s3, s4, s5, s6, s7, s8, s9, s10, .val (.lst (mvs C A B D m)), s12, s13, s14, s15]) (r := r) (r1 := r) (i := ((mvs C A B D m).length : Int)) rfl (by omega)
  rw [Int.toNat_natCast] at this
  exact this
end K13
namespace K13
open PySem Ep L2
variable {a b d : Int} {R : Rows} {A B D : Int}
abbrev fours : List T := [.int 1, .int 2, .int 3, .int 4]
def Form (C : Int → Int → Nat) (t : T) : Prop := ∃ a b d R, t = told a b d R ∧ Sz a b d R ∧ pl a b d R = C
/-- a form drawn -/
theorem formed {k : Nat} {r : RS} (h : Pool k r) : ∃ z r1 a b d R r2 r3 t r4 t' r5, F__law_pick [.ref k, .lst [.int 1, .int 2, .int 3, .int 4]] r = .ok (.int z) r1 ∧ F__law_three [.ref k, .int z] r1 = .ok (three a b d) r2 ∧ F__law_rows [.ref k, three a b d] r2 = .ok (.lst (rw R)) r3 ∧
    F__law_coarser [.ref k, told a b d R] r3 = .ok t r4 ∧ F__law_pick [.ref k, .lst [told a b d R, t]] r4 = .ok t' r5 ∧ Pool k r5 ∧ ∃ C, Form C t' := by
  obtain ⟨t, r1, e1, h1, ht⟩ := pick (xs := fours) h (by decide) (by decide)
  obtain ⟨z, rfl, z0, z1⟩ : ∃ z, t = .int z ∧ 0 < z ∧ z ≤ 6 := by
    simp only [fours, List.mem_cons, List.not_mem_nil, or_false] at ht
    rcases ht with rfl | rfl | rfl | rfl <;> exact ⟨_, rfl, by decide, by decide⟩
  obtain ⟨a, b, d, r2, e2, h2, L, a6, d6⟩ := threeR (m := z) h1 z0 (by omega)
  obtain ⟨R, r3, e3, h3, g⟩ := rowsR L (by omega) (by omega) h2
  have few : a * d < 100 := by
    have := L.a0
    have := L.d0
    have q1 : a * d ≤ 6 * d := Int.mul_le_mul_of_nonneg_right (by omega) (by omega)
    omega
  have S : Sz a b d R := ⟨L, g, few⟩
  obtain ⟨a', b', d', R', r4, e4, h4, S', ep⟩ := coarser S (by omega) (by omega) h3
  obtain ⟨t', r5, e5, h5, ht'⟩ := pick (xs := [told a b d R, told a' b' d' R']) h4 (by simp only [List.length_cons, List.length_nil]; decide) (by simp only [List.length_cons, List.length_nil]; decide)
  refine ⟨z, r1, a, b, d, R, r2, r3, _, r4, t', r5, e1, e2, e3, e4, e5, h5, pl a b d R, ?_⟩
  simp only [List.mem_cons, List.not_mem_nil, or_false] at ht'
  rcases ht' with rfl | rfl
  · exact ⟨_, _, _, _, rfl, S, rfl⟩
  · exact ⟨_, _, _, _, rfl, S', ep⟩
/-- a shift drawn -/
theorem shifts {k : Nat} {r : RS} (h : Pool k r) : ∃ v r1 w r2 x r3 y r4, F__law_int [.ref k] r = .ok (.int v) r1 ∧ F__law_draw [.ref k, .int 7] r1 = .ok (.int w) r2 ∧ F__law_pick [.ref k, .lst [.int v, .int (w - 3)]] r2 = .ok (.int x) r3 ∧ F__law_draw [.ref k, .int 7] r3 = .ok (.int y) r4 ∧ Pool k r4 ∧ x.natAbs < 2 ^ 110 ∧ (y - 3).natAbs < 2 ^ 110 := by
  obtain ⟨v, r1, e1, h1, b1⟩ := intR h
  obtain ⟨w, r2, e2, h2, w0, w1⟩ := draw' (n := 7) h1 (by decide) (by decide)
  obtain ⟨t, r3, e3, h3, ht⟩ := pick (xs := [.int v, .int (w - 3)]) h2 (by simp only [List.length_cons, List.length_nil]; decide) (by simp only [List.length_cons, List.length_nil]; decide)
  obtain ⟨y, r4, e4, h4, y0, y1⟩ := draw' (n := 7) h3 (by decide) (by decide)
  obtain ⟨x, rfl, bx⟩ : ∃ x, t = .int x ∧ x.natAbs < 2 ^ 110 := by
    simp only [List.mem_cons, List.not_mem_nil, or_false] at ht
    rcases ht with rfl | rfl
    · exact ⟨_, rfl, b1⟩
    · exact ⟨_, rfl, by omega⟩
  exact ⟨v, r1, w, r2, x, r3, y, r4, e1, e2, e3, e4, h4, bx, by omega⟩
theorem made (S : Sz a b d R) (n : NF (pl a b d R) A B D) (dA : A ∣ a) (dD : D ∣ d) (r : RS) : F__law_made [told a b d R] r = .ok (crp a b d R A B D) r := by
  have q := init_s S n dA dD r
  refine n_fn ?_
  refine (Ep.n_seqR (Ep.n_ret (Ep.x_make (Ep.e_cons (Ep.e_ix (Ep.e_ix rfl rfl rfl) rfl rfl) (Ep.e_cons (Ep.e_ix (Ep.e_ix rfl rfl rfl) rfl rfl) (Ep.e_cons (Ep.e_ix (Ep.e_ix rfl rfl rfl) rfl rfl) (Ep.e_cons (Ep.e_ix rfl rfl rfl) Ep.e_nil)))) q)))
theorem ne_part : neT (.lst [.str "part", .str "shift"]) (.lst [.str "part", .str "shift"]) = some false := by kernel_rfl
theorem rngN (ns : List Int) (hl : ns.length ≤ 63) (s : List Slot) : ∃ n : Nat, (fRng1 (fBin max2T (fC (.int 1)) (fBin min2T (fC (.int 2)) (fB1 lenT (fVar 0))))) (.val (.kls (ns.map T.int)) :: s) [] = .ok (rngL 0 n) [] ∧ n ≤ 5 := by
  have l : ∀ m : Int, -(2 ^ 62) ≤ m → m < 2 ^ 62 → rng1T [.int m] = some (rngL 0 m.toNat) := fun m h1 h2 => if_pos ⟨h1, h2⟩
  have e0 : (fBin max2T (fC (.int 1)) (fBin min2T (fC (.int 2)) (fB1 lenT (fVar 0)))) (.val (.kls (ns.map T.int)) :: s) [] = .ok (.int (if (if (ns.length : Int) < 2 then (ns.length : Int) else 2) > 1 then (if (ns.length : Int) < 2 then (ns.length : Int) else 2) else 1)) [] := by
    refine e_bin (x := .int 1) (y := .int (if (ns.length : Int) < 2 then (ns.length : Int) else 2)) (r1 := []) rfl (e_bin (x := .int 2) (y := .int ns.length) (r1 := []) rfl (e_b1 (x := .kls (ns.map T.int)) rfl ?_) rfl) rfl
    show some (T.int ((ns.map T.int).length : Nat)) = _
    rw [List.length_map]
  generalize hm : (if (if (ns.length : Int) < 2 then (ns.length : Int) else 2) > 1 then (if (ns.length : Int) < 2 then (ns.length : Int) else 2) else 1) = m at e0
  have b1 : 1 ≤ m ∧ m ≤ 5 := by
    subst hm
    split <;> split at * <;> omega
  exact ⟨m.toNat, bind_ok (e_cons e0 e_nil) (by rw [l m (by omega) (by omega)]; rfl), by omega⟩
end K13
namespace K13
open PySem Ep L2
variable {a b d : Int} {R : Rows} {A B D : Int}
def Lw2 (ns : List Int) (env : Ep.Env) (_ : RS) : Prop := ∃ s1 s2 s3 s4 s5 s6 s7 s8 s9 s10 s11 s12 s13 s14 s15, env = [.val (.kls (ns.map T.int)), s1, s2, s3, s4, s5, s6, s7, s8, s9, s10, s11, s12, s13, s14, s15]
theorem rg_step {i : Nat} {ys : List Nat} {k m : Nat} (e : i :: ys = List.range' k m) : ∃ m', m = m' + 1 ∧ k = i ∧ ys = List.range' (i + 1) m' := by
  cases m with
  | zero => cases e
  | succ m =>
    injection e with e1 e2
    subst e1
    exact ⟨m, rfl, rfl, e2⟩
theorem law_holds (ns : List Int) (hl : ns.length ≤ 63) : ∃ r, F_law [.kls (ns.map T.int)] [] = .ok (.bl true) r := by
  obtain ⟨n, en, n5⟩ := rngN ns hl [.un, .un, .un, .un, .un, .un, .un, .un, .un, .un, .un, .un, .un, .un, .un]
  have H : ∃ r', F_law [.kls (ns.map T.int)] [] = .ok (.bl true) r' ∧ True := ho_fnB ?_
  · obtain ⟨r', h, _⟩ := H
    exact ⟨r', h⟩
  refine ho_for (xs := rngL 0 n) (Lw2 ns) en ⟨_, _, _, _, _, _, _, _, _, _, _, _, _, _, _, rfl⟩ (fun x hx env r ⟨s1, s2, s3, s4, s5, s6, s7, s8, s9, s10, s11, s12, s13, s14, s15, ee⟩ => ?_) fun env r _ => ho_ret (n_ret (t := .bl true) (r1 := r) rfl) ⟨r, rfl, trivial⟩
  subst ee
  obtain ⟨i, rfl, i0, i1⟩ := mem_rngL hx
  obtain ⟨w1, w2, q0⟩ := opened ns hl i (by omega) (by omega) r
  have p0 : Pool r.length (r ++ [[.int w1, .int w2]]) := ⟨w1, w2, by simp⟩
  generalize hr0 : r ++ [[T.int w1, T.int w2]] = r0 at q0 p0
  generalize r.length = k at q0 p0
  obtain ⟨z, r1, a0, b0, d0, R0, r2, r3, t, r4, t', r5, e1, e2, e3, e4, e5, p5, C, F⟩ := formed p0
  obtain ⟨a, b, d, R, rfl, S, hC⟩ := F
  obtain ⟨A, B, D, nf, dA, hA, dD, hD⟩ := nf_ex S
  have e6 := made S nf dA dD r5
  refine ⟨_, rfl, ?_⟩
  refine (Ep.ho_env [_, _, _, _, _, _, _, _, _, _, _, _, _, _, _, _] rfl (Ep.ho_seq (Ep.n_set (Ep.x_call (Ep.e_cons rfl (Ep.e_cons rfl Ep.e_nil)) q0))
     (Ep.ho_env [_, _, _, _, _, _, _, _, _, _, _, _, _, _, _, _] rfl (Ep.ho_seq (Ep.n_set (Ep.x_call (Ep.e_cons rfl (Ep.e_cons (Ep.x_call (Ep.e_cons rfl (Ep.e_cons (Ep.e_lst (Ep.e_cons rfl (Ep.e_cons rfl (Ep.e_cons rfl (Ep.e_cons rfl Ep.e_nil))))) Ep.e_nil)) e1) Ep.e_nil)) e2))
     (Ep.ho_env [_, _, _, _, _, _, _, _, _, _, _, _, _, _, _, _] rfl (Ep.ho_seq (Ep.n_set (Ep.e_lst (Ep.e_cons rfl (Ep.e_cons (Ep.x_call (Ep.e_cons rfl (Ep.e_cons rfl Ep.e_nil)) e3) Ep.e_nil))))
     (Ep.ho_env [_, _, _, _, _, _, _, _, _, _, _, _, _, _, _, _] rfl (Ep.ho_seq (Ep.n_set (Ep.x_call (Ep.e_cons rfl (Ep.e_cons (Ep.e_lst (Ep.e_cons rfl (Ep.e_cons (Ep.x_call (Ep.e_cons rfl (Ep.e_cons rfl Ep.e_nil)) e4) Ep.e_nil))) Ep.e_nil)) e5))
     (Ep.ho_env [_, _, _, _, _, _, _, _, _, _, _, _, _, _, _, _] rfl (Ep.ho_seq (Ep.n_set (Ep.x_call (Ep.e_cons rfl Ep.e_nil) e6))
     (Ep.ho_env [_, _, _, _, _, _, _, _, _, _, _, _, _, _, _, _] rfl ?_)))))))))))
  refine Ep.ho_forV [.k, .k, .k, .k, .k, .k, .k, .v, .k, .k, .k, .k, .v, .k, .v, .k] (fun s => Pool k s) (Ep.w_rng1i rfl ⟨(by decide), (by decide)⟩) rfl ?_ ?_ ?_
  · exact p5
  · intro t ht σ s ps
    clear e1 e2 e3 e4 e5 e6
    obtain ⟨v, s1, w, s2, x, s3, y, s4, f1, f2, f3, f4, p4, bx, bz⟩ := shifts ps
    have f5 := shift_right S nf dA dD (x := x) (y := y - 3) (by omega) (by omega) s4
    refine ⟨_, rfl, ?_⟩
    refine (Ep.ho_env [_, _, _, _, _, _, _, _, _, _, _, _, _, _, _, _] rfl (Ep.ho_seq (Ep.n_asg (Ep.e_tup (Ep.e_cons (Ep.x_call (Ep.e_cons rfl (Ep.e_cons (Ep.e_lst (Ep.e_cons (Ep.x_call (Ep.e_cons rfl Ep.e_nil) f1) (Ep.e_cons (Ep.e_bin (Ep.x_call (Ep.e_cons rfl (Ep.e_cons rfl Ep.e_nil)) f2) rfl rfl) Ep.e_nil))) Ep.e_nil)) f3) (Ep.e_cons (Ep.e_bin (Ep.x_call (Ep.e_cons rfl (Ep.e_cons rfl Ep.e_nil)) f4) rfl rfl) Ep.e_nil))) rfl)
       (Ep.ho_env [_, _, _, _, _, _, _, _, _, _, _, _, _, _, _, _] rfl (Ep.ho_ifF (Ep.x_notF (Ep.e_tru (Ep.x_call (Ep.e_cons rfl (Ep.e_cons rfl (Ep.e_cons rfl (Ep.e_cons rfl Ep.e_nil)))) f5) rfl))
       (Ep.ho_skip (Ep.ho_nil ⟨_, ⟨_, ⟨rfl, ⟨rfl, (by assumption)⟩⟩⟩⟩))))))
  · intro σ s ps
    clear e1 e2 e3 e4 e5 e6
    have sm := S.small
    have na := nf.a0
    have nb := nf.b0
    have nb1 := nf.b1
    have nd := nf.d0
    have g1 := law_least S nf hA hD s
    have g2 := shift_right S nf dA dD (x := B * 10 ^ 12 - A) (y := D * 10 ^ 12) (by omega) (by omega) s
    have g3 : mulT (.int B) (.int (10 ^ 12)) = some (.int (B * 10 ^ 12)) := mulL (by omega) (by omega)
    have g4 : mulT (.int D) (.int (10 ^ 12)) = some (.int (D * 10 ^ 12)) := mulL (by omega) (by omega)
    have g5 : powT (.int 10) (.int 12) = some (.int (10 ^ 12)) := rfl
    refine (Ep.ho_env [_, _, _, _, _, _, _, _, _, _, _, _, _, _, _, _] rfl (Ep.ho_seq (Ep.n_asg (Ep.x_call (Ep.e_cons rfl Ep.e_nil) g1) rfl)
       (Ep.ho_env [_, _, _, _, _, _, _, _, _, _, _, _, _, _, _, _] rfl (Ep.ho_ifF (Ep.x_notF (Ep.e_tru (Ep.x_call (Ep.e_cons rfl (Ep.e_cons rfl (Ep.e_cons (Ep.e_bin (Ep.e_bin rfl (Ep.e_bin rfl rfl g5) g3) rfl rfl) (Ep.e_cons (Ep.e_bin rfl (Ep.e_bin rfl rfl g5) g4) Ep.e_nil)))) g2) rfl))
       (Ep.ho_skip (Ep.ho_seq (Ep.n_set (Ep.e_lst Ep.e_nil))
       (Ep.ho_env [_, _, _, _, _, _, _, _, _, _, _, _, _, _, _, _] rfl ?_)))))))
    have pc : Pic C A B D := hC ▸ Pic.of S nf dA dD
    refine Ep.ho_forL (fun j : Nat => T.int (0 + (j : Int))) (List.range D.toNat) (fun a => [.k, .k, .k, .k, .k, .k, .k, .k, .k, .k, .k, .s (.val (.lst (mvs C A B D a))), .v, .k, .v, .k]) (fun ys (m : Nat) s' => ys = List.range' m (D.toNat - m) ∧ m ≤ D.toNat ∧ s' = s) (0 : Nat) (Ep.w_rng1i rfl ⟨(by omega), (by omega)⟩) rfl rfl ?_ ?_ ?_
    · exact ⟨List.range_eq_range', Nat.zero_le _, rfl⟩
    · rintro j ys m σ s' ⟨h1, h2, rfl⟩
      obtain ⟨m', h3, rfl, rfl⟩ := rg_step h1
      have j1 : (m : Int) < D := by omega
      have row := fun s0 s1 s2 s3 s4 s5 s7 s9 s10 s11 s13 s14 s15 => moves_row S nf dA dD m j1 (s0 := s0) (s1 := s1) (s2 := s2) (s3 := s3) (s4 := s4) (s5 := s5) (s7 := s7) (s9 := s9) (s10 := s10) (s11 := s11) (s13 := s13) (s14 := s14) (s15 := s15) s'
      rw [hC] at row
      have ml : (mvs C A B D m).length = m * A.toNat := mvs_len _ _ _ _ _
      have mu : m * A.toNat ≤ 100 * 100 := Nat.mul_le_mul (by omega) (by omega)
      have ad : addT (.lst (mvs C A B D m)) (.lst ((List.range A.toNat).map fun i => fm C A B D i m)) = some (.lst (mvs C A B D (m + 1))) := by
        show (if _ ≤ 100000 then _ else _) = _
        rw [if_pos (by rw [ml, List.length_map, List.length_range]; omega), mvs_succ]
      refine ⟨_, rfl, ?_⟩
      refine ho_pick (m + 1) ?_
      refine (Ep.ho_env [_, _, _, _, _, _, _, _, _, _, _, _, _, _, _, _] rfl (Ep.ho_seq (Ep.n_set (Ep.e_bin rfl (Ep.e_own (row _ _ _ _ _ _ _ _ _ _ _ _ _)) ad))
         (Ep.ho_env [_, _, _, _, _, _, _, _, _, _, _, _, _, _, _, _] rfl (Ep.ho_nil ⟨_, ⟨_, ⟨rfl, ⟨rfl, ⟨?_, ⟨(by omega), rfl⟩⟩⟩⟩⟩⟩))))
      rw [show D.toNat - (m + 1) = m' by omega]
    · rintro m σ s' ⟨h1, h2, rfl⟩
      have none := fun s0 s1 s2 s3 s4 s5 s6 s7 s8 s9 s10 s12 s13 s14 s15 => none_twice pc (m := m) (by omega) (s0 := s0) (s1 := s1) (s2 := s2) (s3 := s3) (s4 := s4) (s5 := s5) (s6 := s6) (s7 := s7) (s8 := s8) (s9 := s9) (s10 := s10) (s12 := s12) (s13 := s13) (s14 := s14) (s15 := s15) s'
      refine (Ep.ho_env [_, _, _, _, _, _, _, _, _, _, _, _, _, _, _, _] rfl (Ep.ho_ifF (Ep.e_cmpB (Ep.e_own (none _ _ _ _ _ _ _ _ _ _ _ _ _ _ _)) (Ep.e_lst Ep.e_nil) rfl)
         (Ep.ho_skip ?_)))
      refine Ep.ho_forV [.k, .k, .k, .k, .k, .k, .k, .k, .k, .k, .k, .k, .k, .v, .k, .k] (fun s'' => s'' = s') (Ep.x_it (Ep.e_lst (Ep.e_cons rfl (Ep.e_cons (Ep.e_tup (Ep.e_cons rfl Ep.e_nil)) (Ep.e_cons (Ep.e_lst (Ep.e_cons rfl (Ep.e_cons rfl Ep.e_nil))) (Ep.e_cons (Ep.e_tup (Ep.e_cons rfl (Ep.e_cons rfl Ep.e_nil))) (Ep.e_cons rfl Ep.e_nil)))))) rfl) rfl ?_ ?_ ?_
      · rfl
      · intro t ht σ s'' ps
        refine ⟨_, rfl, ?_⟩
        refine ho_ifF (r1 := s'') (e_cmpB (x := .lst [.str "part", .str "shift"]) (y := .lst [.str "part", .str "shift"]) (r1 := s'') (r2 := s'') (heardP (r' := s'') (x_meth (vs := [.int a, .int b, .int d, rl R, latt A B D, shp A B D (nrm (pl a b d R) A D)]) (ts := [t]) (r1 := s'') (r2 := s'') rfl rfl (moved_x ht s''))) rfl ne_part) ?_
        refine (Ep.ho_env [_, _, _, _, _, _, _, _, _, _, _, _, _, _, _, _] rfl (Ep.ho_skip (Ep.ho_nil ⟨_, ⟨_, ⟨rfl, ⟨rfl, (by assumption)⟩⟩⟩⟩)))
      · intro σ s'' ps
        refine (Ep.ho_env [_, _, _, _, _, _, _, _, _, _, _, _, _, _, _, _] rfl (Ep.ho_nil ⟨_, ⟨_, ⟨rfl, ?_⟩⟩⟩))
        exact ⟨_, _, _, _, _, _, _, _, _, _, _, _, _, _, _, rfl⟩
end K13
namespace K13
open PySem PySem.Spec L2 He Ep PyProof.Rows
theorem final {w : World} {K : PySem.W.Frag} {h : Heap} {mg : Str → Option Value} {f0 : Addr} (KX : K.In h) (Ns : h.Ns mainGlobals mg) (hm : mg "law" = some (.ref f0)) (c : SaysD fa fns K) (ck : (chk K).all id = true)
    (MT : ∀ p ∈ ms K, h.get? p = some tab0) (e_BadIndex : supW K (ma K (ga K "BadIndex") "__init__") = supV "BadIndex.__init__" s_BadIndex_init) (e_BadPart : supW K (ma K (ga K "BadPart") "__init__") = supV "BadPart.__init__" s_BadPart_init) (e_TooMany : supW K (ma K (ga K "TooMany") "__init__") = supV "TooMany.__init__" s_TooMany_init) :
    ∃ (G : Gm) (f : List T → M T) (fd : FuncData) (cs : List (Addr × Addr)), G.K = K ∧ G.mg = mg ∧ (∀ (s : Shared) (u : Value), BindsTo s fd ⟨[u], []⟩ [("_law_script", u)]) ∧
      (∀ p ∈ cs, (∃ y ∈ [("law" : Str)], PySem.W.tabIn K y = some p) ∨ PySem.W.codeHdIn K p.1 p.2 = true ∧ h.get? p.2 = some tab0) ∧ (∀ p ∈ cs, K.lookup p.2 = none) ∧ (∀ t ∈ G.tb, ∃ c, (c, t.1) ∈ cs) ∧
      (∀ ns : List Int, ns.length ≤ 63 → (∀ z ∈ ns, Builtin.Int.intBits z ≤ 1048576) → ∃ r, f [.kls (ns.map T.int)] [] = .ok (.bl true) r) ∧ ∀ base : Heap, K.In base → base.Ns mainGlobals mg → (∀ p ∈ cs, LamX.TabB base mg p.1 p.2) → FnOk PW w G.K G.mg base (L2.CX PW w) 17 f0 fd ["_law_script"] (spF G 1 f) := by
  obtain ⟨fd, F⟩ := c.def_ 43
  have cl : mg "law" = some (.ref (ga K "law")) := glo_ok KX Ns (c.fact 77)
  have e : f0 = ga K "law" := Value.ref.inj (Option.some.inj (hm.symm.trans cl))
  subst e
  have tklaw := tab_ok (chk_at ck 17)
  have tkCarpet_moved_by := tabM_ok (chk_at ck 18)
  refine ⟨GG K mg, F_law, fd, cs K, rfl, rfl, fun s u => F.bindsA (ps := ["_law_script"]) (fun _ _ _ _ _ _ us hl => match us, hl with | [_], _ => rfl) s [u] rfl, fun p hp => ?_, fun p hp => ?_, fun t ht => ?_, fun ns h _ => law_holds ns h, fun base _ _ TB => ?_⟩
  · simp only [cs, List.mem_cons, List.not_mem_nil, or_false] at hp
    rcases hp with rfl | rfl
    · exact .inl ⟨"law", by simp, tklaw.1⟩
    · exact .inr ⟨tkCarpet_moved_by.1, MT _ (by simp [ms])⟩
  · simp only [cs, List.mem_cons, List.not_mem_nil, or_false] at hp
    rcases hp with rfl | rfl
    · exact tklaw.2.1
    · exact tkCarpet_moved_by.2.1
  · have ht : t ∈ tb K := ht
    simp only [tb, List.mem_cons, List.not_mem_nil, or_false] at ht
    rcases ht with rfl | rfl
    · exact ⟨(tabW K "law").1, by simp [cs]⟩
    · exact ⟨(tabM K "Carpet" "moved_by").1, by simp [cs]⟩
  · exact run_law (tx_of (wd := w) KX Ns c ck e_BadIndex e_BadPart e_TooMany TB) F
def eq_ : EndQ := ⟨chk, fun K => [supW K (ma K (ga K "BadIndex") "__init__"), supW K (ma K (ga K "BadPart") "__init__"), supW K (ma K (ga K "TooMany") "__init__")], [supV "BadIndex.__init__" s_BadIndex_init, supV "BadPart.__init__" s_BadPart_init, supV "TooMany.__init__" s_TooMany_init], fun K => [], fun p => []⟩
abbrev RR : PySem.W.OpenRow := PySem.W.OpenLaw.row PySem.Challenge.rw_endlessplane_k13_whole_moved_carpets
noncomputable abbrev hk : PySem.W.Hook := hookT eq_ 20000 fa fns ms 1
noncomputable def ob (s : PySem.W.SharedT) : AlS × List (Option Obj) := obsT eq_ 20000 fa fns ms (HandSHeadRun.getT s)
theorem ob_eq (s : PySem.W.SharedT) : ob s = hk.obs s.abs := obsT_eq s
def names0 : List Str := ["_wall", "is_integer", "is_between", "is_list", "PlaneError", "BadPart", "BadNumber", "BadIndex", "NotSo", "TooMany", "is_shift", "check_shift", "check_cell", "check_basis", "Lattice", "MOST_CELLS", "FIGURES", "is_row", "check_rows", "check_size", "sign_at", "is_period_of", "divisors_of", "level_period", "least_lattice", "normal_rows", "rows_by", "Carpet", "_law_opened", "_law_draw"]
def names1 : List Str := ["_law_pick", "_law_int", "_law_three", "_law_place", "_law_rows", "_law_colour", "_law_coarser", "_law_is_period", "_law_least", "_law_normal", "_law_refused", "_law_made", "_law_moved", "_law_shift_right"]
def names_ : List Str := names0 ++ names1
namespace Cut
open PySem PySem.W PySem.Calls PyProof.Rows HandSHeadRun Ep.Hd
noncomputable section
abbrev P0 : Program := RR.prog
abbrev b_ (i : Nat) : Stmt := atB P0.main.body i
abbrev m_ (i j : Nat) : Stmt := atB (stB (b_ i)) j
def o0 (P : Params) : Obj := oO (vT "dict") none (.dict (List.toArray [dE P "__name__" 1 (vS "builtins" 160), dE P "__doc__" 2 (vB "builtins.__doc__:str#opaque"), dE P "__package__" 3 (vB "builtins.__package__:str#opaque"), dE P "__loader__" 4 (vB "builtins.__loader__:shared#opaque"), dE P "__spec__" 5 (vB "builtins.__spec__#opaque"), dE P "__build_class__" 6 (vB "__build_class__"), dE P "__import__" 7 (vB "__import__"), dE P "abs" 8 (vB "abs"), dE P "all" 9 (vB "all"), dE P "any" 10 (vB "any"), dE P "ascii" 11 (vB "ascii"), dE P "bin" 12 (vB "bin"), dE P "breakpoint" 13 (vB "breakpoint"), dE P "callable" 14 (vB "callable"), dE P "chr" 15 (vB "chr"), dE P "compile" 16 (vB "compile"), dE P "delattr" 17 (vB "delattr"), dE P "dir" 18 (vB "dir"), dE P "divmod" 19 (vB "divmod"), dE P "eval" 20 (vB "eval"), dE P "exec" 21 (vB "exec"), dE P "format" 22 (vB "format"), dE P "getattr" 23 (vB "getattr"), dE P "globals" 24 (vB "globals"), dE P "hasattr" 25 (vB "hasattr"), dE P "hash" 26 (vB "hash"), dE P "hex" 27 (vB "hex"), dE P "id" 28 (vB "id"), dE P "input" 29 (vB "input"), dE P "isinstance" 30 (vB "isinstance"), dE P "issubclass" 31 (vB "issubclass"), dE P "iter" 32 (vB "iter"), dE P "aiter" 33 (vB "aiter"), dE P "len" 34 (vB "len"), dE P "locals" 35 (vB "locals"), dE P "max" 36 (vB "max"), dE P "min" 37 (vB "min"), dE P "next" 38 (vB "next"), dE P "anext" 39 (vB "anext"), dE P "oct" 40 (vB "oct"), dE P "ord" 41 (vB "ord"), dE P "pow" 42 (vB "pow"), dE P "print" 43 (vB "print"), dE P "repr" 44 (vB "repr"), dE P "round" 45 (vB "round"), dE P "setattr" 46 (vB "setattr"), dE P "sorted" 47 (vB "sorted"), dE P "sum" 48 (vB "sum"), dE P "vars" 49 (vB "vars"), dE P "None" 50 vN, dE P "Ellipsis" 51 PySem.Value.ellipsis, dE P "NotImplemented" 52 PySem.Value.notImplemented, dE P "False" 53 (PySem.Value.bool false), dE P "True" 54 (PySem.Value.bool true), dE P "bool" 55 (vT "bool"), dE P "memoryview" 56 (vT "memoryview"), dE P "bytearray" 57 (vT "bytearray"), dE P "bytes" 58 (vT "bytes"), dE P "classmethod" 59 (vT "classmethod"), dE P "complex" 60 (vT "complex"), dE P "dict" 61 (vT "dict"), dE P "enumerate" 62 (vT "enumerate"), dE P "filter" 63 (vT "filter"), dE P "float" 64 (vT "float"), dE P "frozenset" 65 (vT "frozenset"), dE P "property" 66 (vT "property"), dE P "int" 67 (vT "int"), dE P "list" 68 (vT "list"), dE P "map" 69 (vT "map"), dE P "object" 70 (vT "object"), dE P "range" 71 (vT "range"), dE P "reversed" 72 (vT "reversed"), dE P "set" 73 (vT "set"), dE P "slice" 74 (vT "slice"), dE P "staticmethod" 75 (vT "staticmethod"), dE P "str" 76 (vT "str"), dE P "super" 77 (vT "super"), dE P "tuple" 78 (vT "tuple"), dE P "type" 79 (vT "type"), dE P "zip" 80 (vT "zip"), dE P "__debug__" 81 (PySem.Value.bool true), dE P "BaseException" 82 (vT "BaseException"), dE P "BaseExceptionGroup" 83 (vT "BaseExceptionGroup"), dE P "Exception" 84 (vT "Exception"), dE P "GeneratorExit" 85 (vT "GeneratorExit"), dE P "KeyboardInterrupt" 86 (vT "KeyboardInterrupt"), dE P "SystemExit" 87 (vT "SystemExit"), dE P "ArithmeticError" 88 (vT "ArithmeticError"), dE P "AssertionError" 89 (vT "AssertionError"), dE P "AttributeError" 90 (vT "AttributeError"), dE P "BufferError" 91 (vT "BufferError"), dE P "EOFError" 92 (vT "EOFError"), dE P "ImportError" 93 (vT "ImportError"), dE P "LookupError" 94 (vT "LookupError"), dE P "MemoryError" 95 (vT "MemoryError"), dE P "NameError" 96 (vT "NameError"), dE P "OSError" 97 (vT "OSError"), dE P "ReferenceError" 98 (vT "ReferenceError"), dE P "RuntimeError" 99 (vT "RuntimeError"), dE P "StopAsyncIteration" 100 (vT "StopAsyncIteration"), dE P "StopIteration" 101 (vT "StopIteration"), dE P "SyntaxError" 102 (vT "SyntaxError"), dE P "SystemError" 103 (vT "SystemError"), dE P "TypeError" 104 (vT "TypeError"), dE P "ValueError" 105 (vT "ValueError"), dE P "Warning" 106 (vT "Warning"), dE P "FloatingPointError" 107 (vT "FloatingPointError"), dE P "OverflowError" 108 (vT "OverflowError"), dE P "ZeroDivisionError" 109 (vT "ZeroDivisionError"), dE P "BytesWarning" 110 (vT "BytesWarning"), dE P "DeprecationWarning" 111 (vT "DeprecationWarning"), dE P "EncodingWarning" 112 (vT "EncodingWarning"), dE P "FutureWarning" 113 (vT "FutureWarning"), dE P "ImportWarning" 114 (vT "ImportWarning"), dE P "PendingDeprecationWarning" 115 (vT "PendingDeprecationWarning"), dE P "ResourceWarning" 116 (vT "ResourceWarning"), dE P "RuntimeWarning" 117 (vT "RuntimeWarning"), dE P "SyntaxWarning" 118 (vT "SyntaxWarning"), dE P "UnicodeWarning" 119 (vT "UnicodeWarning"), dE P "UserWarning" 120 (vT "UserWarning"), dE P "BlockingIOError" 121 (vT "BlockingIOError"), dE P "ChildProcessError" 122 (vT "ChildProcessError"), dE P "ConnectionError" 123 (vT "ConnectionError"), dE P "FileExistsError" 124 (vT "FileExistsError"), dE P "FileNotFoundError" 125 (vT "FileNotFoundError"), dE P "InterruptedError" 126 (vT "InterruptedError"), dE P "IsADirectoryError" 127 (vT "IsADirectoryError"), dE P "NotADirectoryError" 128 (vT "NotADirectoryError"), dE P "PermissionError" 129 (vT "PermissionError"), dE P "ProcessLookupError" 130 (vT "ProcessLookupError"), dE P "TimeoutError" 131 (vT "TimeoutError"), dE P "IndentationError" 132 (vT "IndentationError"), dE P "_IncompleteInputError" 133 (vT "_IncompleteInputError"), dE P "IndexError" 134 (vT "IndexError"), dE P "KeyError" 135 (vT "KeyError"), dE P "ModuleNotFoundError" 136 (vT "ModuleNotFoundError"), dE P "NotImplementedError" 137 (vT "NotImplementedError"), dE P "PythonFinalizationError" 138 (vT "PythonFinalizationError"), dE P "RecursionError" 139 (vT "RecursionError"), dE P "UnboundLocalError" 140 (vT "UnboundLocalError"), dE P "UnicodeError" 141 (vT "UnicodeError"), dE P "BrokenPipeError" 142 (vT "BrokenPipeError"), dE P "ConnectionAbortedError" 143 (vT "ConnectionAbortedError"), dE P "ConnectionRefusedError" 144 (vT "ConnectionRefusedError"), dE P "ConnectionResetError" 145 (vT "ConnectionResetError"), dE P "TabError" 146 (vT "TabError"), dE P "UnicodeDecodeError" 147 (vT "UnicodeDecodeError"), dE P "UnicodeEncodeError" 148 (vT "UnicodeEncodeError"), dE P "UnicodeTranslateError" 149 (vT "UnicodeTranslateError"), dE P "ExceptionGroup" 150 (vT "ExceptionGroup"), dE P "EnvironmentError" 151 (vT "OSError"), dE P "IOError" 152 (vT "OSError"), dE P "open" 153 (vB "open"), dE P "quit" 154 (vB "builtins.quit#opaque"), dE P "exit" 155 (vB "builtins.exit#opaque"), dE P "copyright" 156 (vB "builtins.copyright#opaque"), dE P "credits" 157 (vB "builtins.credits#opaque"), dE P "license" 158 (vB "builtins.license#opaque"), dE P "help" 159 (vB "builtins.help#opaque")]) 159) []
def o1 (P : Params) : Obj := oO (vT "dict") none (.dict (List.toArray [dE P "builtins" 162 (vR 4), dE P "__main__" 163 (vR 5)]) 2) []
def o2 : Obj := oO vN none (.dict (List.toArray []) 0) []
def o3 (P : Params) : Obj := oO (vT "dict") none (.dict (List.toArray [dE P "__name__" 165 (vS "__main__" 164), dE P "__doc__" 166 vN, dE P "__package__" 167 vN, dE P "__loader__" 168 (vB "__main__.__loader__#opaque"), dE P "__spec__" 169 vN, dE P "__annotations__" 170 (vR 6), dE P "__builtins__" 171 (vR 4), dE P "__file__" 173 (vS "/claim/cut.py" 172), dE P "__cached__" 174 vN]) 9) []
def o4 : Obj := oO (vT "module") (some 0) PySem.Data.plain []
def o5 : Obj := oO (vT "module") (some 3) PySem.Data.plain []
def o6 : Obj := oO (vT "dict") none (.dict (List.toArray []) 0) []
def o7 : Obj := oT []
def o8 : Obj := oF []
def o9 : Obj := cD "<module>" "<module>" 176 1 0 0 0 0 7 false 175 8 [vN, vN, vN, vN] 179 1
def o10 : Obj := oO (vT "frame") none PySem.Data.plain [(some (vR 9)), (some (vR 3)), (some (vR 3)), none, (some (vS "__main__" 164)), none, (some (vR 0))]
def o11 : Obj := cD "<module>" "<module>" 182 1 0 0 0 0 11 false 181 12 [vN, vN, vN, vN] 185 1
def o12 : Obj := oO (vT "frame") none PySem.Data.plain [(some (vR 13)), (some (vR 3)), (some (vR 3)), none, (some (vS "__main__" 164)), none, (some (vR 0))]
def tA (P : Params) : BT := (nN (o0 P) (nN (o1 P) (nN (o3 P) (nN o7 nL nL) (nN o7 nL nL)) (nN o5 (nN o9 nL nL) (nN o11 nL nL))) (nN o2 (nN o4 (nN o8 nL nL) (nN o8 nL nL)) (nN o6 (nN o10 nL nL) (nN o12 nL nL))))
def fA : Fin_ := ⟨tA, 15, (PySem.Life.mk [] [] [] 0 [] [] false (List.toArray []) [] 0 false false false 0 [2000, 10, 10] false 0 true [] [] 0 false), (List.toArray []), (PySem.Drawn.mk 0 0 0 0), 187⟩
def fB : Fin_ := ⟨tA, 15, (PySem.Life.mk [] [] [] 0 [] [] false (List.toArray []) [] 0 false false false 0 [2000, 10, 10] false 0 true [] [] 0 false), (List.toArray []), (PySem.Drawn.mk 0 0 0 0), 187⟩
def o13 (P : Params) : Obj := oO vN none (.dict (List.toArray [dE P "type.__subclasses__.OverflowError.0" 374 (vI 158 0), dE P "type.__subclasses__.OverflowError.n" 375 (vI 1 0)]) 2) []
def o14 (P : Params) : Obj := oO (vT "dict") none (.dict (List.toArray [dE P "__name__" 165 (vS "endlessplane.periods" 378), dE P "__doc__" 166 vN, dE P "__package__" 167 vN, dE P "__loader__" 168 (vB "__main__.__loader__#opaque"), dE P "__spec__" 169 vN, dE P "__annotations__" 170 (vR 6), dE P "__builtins__" 171 (vR 4), dE P "__file__" 173 (vS "/claim/cut.py" 172), dE P "__cached__" 174 vN, dE P "_wall" 193 (vR 21), dE P "is_integer" 202 (vR 28), dE P "is_between" 211 (vR 35), dE P "is_list" 218 (vR 42), dE P "PlaneError" 238 (vR 52), dE P "BadPart" 265 (vR 74), dE P "BadNumber" 292 (vR 95), dE P "BadIndex" 319 (vR 116), dE P "NotSo" 346 (vR 137), dE P "TooMany" 377 (vR 158), dE P "is_shift" 386 (vR 168), dE P "check_shift" 393 (vR 175), dE P "check_cell" 400 (vR 182), dE P "check_basis" 409 (vR 189), dE P "Lattice" 499 (vR 253)]) 24) []
def o15 : Obj := oF [(vI 1 0), (vI 0 0), (vR 20), (vI 5 0), (vI 0 0), (vR 27), (vI 7 0), (vI 0 0), (vR 34), (vI 9 0), (vI 0 0), (vR 41), (vI 12 0), (vI 0 0), (vR 48), (vI 14 0), (vI 0 0), (vR 62), (vI 19 0), (vI 0 0), (vR 83), (vI 24 0), (vI 0 0), (vR 104), (vI 29 0), (vI 0 0), (vR 125), (vI 34 0), (vI 0 0), (vR 146), (vI 40 0), (vI 0 0), (vR 167), (vI 42 0), (vI 0 0), (vR 174), (vI 45 0), (vI 0 0), (vR 181), (vI 48 0), (vI 0 0), (vR 188), (vI 55 0), (vI 0 0), (vR 195)]
def o16 : Obj := oT [(vS "k" 190)]
def o17 : Obj := rD "_wall" "_wall" (stA (b_ 0)) (b_ 0)
def o18 : Obj := cD "_wall" "_wall" 187 1 1 0 0 3 15 true 181 16 [vN, (vR 17), (vR 18), (vR 19)] 191 1
def o19 : Obj := fD "_wall" "_wall" (b_ 0) [] vN vN vN "__main__" 164 20 vN
def o20 : Obj := oT [(vS "value" 199)]
def o21 : Obj := rD "is_integer" "is_integer" (stA (b_ 2)) (b_ 2)
def o22 : Obj := cD "is_integer" "is_integer" 196 5 1 0 0 3 22 true 181 23 [vN, (vR 24), (vR 25), (vR 26)] 200 5
def o23 : Obj := fD "is_integer" "is_integer" (b_ 2) [] vN vN vN "endlessplane.common" 194 27 vN
def o24 : Obj := oT [(vS "value" 206), (vS "least" 207), (vS "most" 208)]
def o25 : Obj := rD "is_between" "is_between" (stA (b_ 3)) (b_ 3)
def o26 : Obj := cD "is_between" "is_between" 203 7 3 0 0 3 29 true 181 30 [vN, (vR 31), (vR 32), (vR 33)] 209 7
def o27 : Obj := fD "is_between" "is_between" (b_ 3) [] vN vN vN "endlessplane.common" 194 34 vN
def o28 : Obj := oT [(vS "value" 215)]
def o29 : Obj := rD "is_list" "is_list" (stA (b_ 4)) (b_ 4)
def o30 : Obj := cD "is_list" "is_list" 212 9 1 0 0 3 36 true 181 37 [vN, (vR 38), (vR 39), (vR 40)] 216 9
def o31 : Obj := fD "is_list" "is_list" (b_ 4) [] vN vN vN "endlessplane.common" 194 41 vN
def o32 : Obj := oT [(vT "ValueError")]
def o33 : Obj := oO (vT "builtin_function_or_method") none (.fields (List.toArray [(vB "type.__prepare__"), (vT "type")])) []
def o34 (P : Params) : Obj := oO (vT "dict") none (.dict (List.toArray [dE P "__module__" 228 (vS "endlessplane.errors" 219), dE P "__qualname__" 230 (vS "PlaneError" 229), dE P "__firstlineno__" 232 (vI 12 231), dE P "__static_attributes__" 233 (vR 50)]) 4) []
def o35 : Obj := cD "PlaneError" "PlaneError" 223 12 0 0 0 0 46 false 181 47 [vN, vN, vN, vN] 226 12
def o36 : Obj := oO (vT "frame") none PySem.Data.plain [(some (vR 48)), (some (vR 3)), (some (vR 45)), none, (some (vS "endlessplane.errors" 219)), none, (some (vR 0))]
def o37 (P : Params) : Obj := oO (vT "dict") none (.dict (List.toArray [dE P "__module__" 228 (vS "endlessplane.errors" 219), dE P "__firstlineno__" 232 (vI 12 231), dE P "__static_attributes__" 233 (vR 50), dE P "__weakref__" 235 (vR 53), dE P "__doc__" 236 vN]) 3) []
def o38 : Obj := oO (vT "type") none (PySem.Data.cls (PySem.ClassData.mk (PySem.Str.ofString "PlaneError") [(vT "ValueError")] [(vR 52), (vT "ValueError"), (vT "Exception"), (vT "BaseException"), (vT "object")] 51 (PySem.Str.ofString "PlaneError") true [] [(vR 74), (vR 95), (vR 116), (vR 137)] false (Option.none) false)) [(some (vR 43)), none, (some (vS "PlaneError" 221)), (some (vS "PlaneError" 229)), (some (vB "ValueError.__new__")), (some (PySem.Value.bool true))]
def o39 : Obj := oO (vT "getset_descriptor") none (.fields (List.toArray [(vS "__weakref__" 234), (vR 52), (vB "ExceptionGroup.__weakref__"), vN])) []
def o40 : Obj := oO (vT "super") none (.fields (List.toArray [(vR 52), (vR 52), (vR 52)])) []
def o41 : Obj := oO (vT "builtin_function_or_method") none (.fields (List.toArray [(vB "object.__init_subclass__"), (vR 52)])) []
def o42 : Obj := oT [(vR 52)]
def o43 (P : Params) : Obj := oO (vT "dict") none (.dict (List.toArray [dE P "__module__" 246 (vS "endlessplane.errors" 219), dE P "__qualname__" 248 (vS "BadPart" 247), dE P "__firstlineno__" 250 (vI 14 249), dE P "__init__" 259 (vR 71), dE P "__static_attributes__" 261 (vR 72), dE P "__classcell__" 262 (vR 59)]) 6) []
def o44 : Obj := oO (vT "cell") none (PySem.Data.cell (Option.some (vR 74))) []
def o45 : Obj := oF [(vI 16 0), (vI 4 0), (vR 70)]
def o46 : Obj := cD "BadPart" "BadPart" 241 14 0 0 0 0 60 false 181 61 [vN, vN, vN, vN] 244 14
def o47 : Obj := oO (vT "frame") none PySem.Data.plain [(some (vR 62)), (some (vR 3)), (some (vR 58)), none, (some (vS "endlessplane.errors" 219)), none, (some (vR 0))]
def o48 : Obj := oT [(vR 59)]
def o49 : Obj := oT [(vS "__class__" 254)]
def o50 : Obj := oT [(vS "self" 255), (vS "part" 256)]
def o51 : Obj := rD "__init__" "BadPart.__init__" (stA (m_ 7 0)) (m_ 7 0)
def o52 : Obj := cD "__init__" "BadPart.__init__" 251 16 2 0 0 3 65 true 181 66 [vN, (vR 67), (vR 68), (vR 69)] 257 16
def o53 : Obj := fD "__init__" "BadPart.__init__" (m_ 7 0) [(Prod.mk (PySem.Str.ofString "__class__") 59)] vN vN vN "endlessplane.errors" 219 70 (vR 64)
def o54 : Obj := oT [(vS "part" 260)]
def o55 (P : Params) : Obj := oO (vT "dict") none (.dict (List.toArray [dE P "__module__" 246 (vS "endlessplane.errors" 219), dE P "__firstlineno__" 250 (vI 14 249), dE P "__init__" 259 (vR 71), dE P "__static_attributes__" 261 (vR 72), dE P "__doc__" 263 vN]) 3) []
def o56 : Obj := oO (vT "type") none (PySem.Data.cls (PySem.ClassData.mk (PySem.Str.ofString "BadPart") [(vR 52)] [(vR 74), (vR 52), (vT "ValueError"), (vT "Exception"), (vT "BaseException"), (vT "object")] 73 (PySem.Str.ofString "BadPart") true [] [] false (Option.none) false)) [(some (vR 56)), none, (some (vS "BadPart" 239)), (some (vS "BadPart" 247)), (some (vB "ValueError.__new__")), (some (PySem.Value.bool true))]
def o57 : Obj := oO (vT "super") none (.fields (List.toArray [(vR 74), (vR 74), (vR 74)])) []
def o58 : Obj := oO (vT "builtin_function_or_method") none (.fields (List.toArray [(vB "object.__init_subclass__"), (vR 74)])) []
def o59 (P : Params) : Obj := oO (vT "dict") none (.dict (List.toArray [dE P "__module__" 273 (vS "endlessplane.errors" 219), dE P "__qualname__" 275 (vS "BadNumber" 274), dE P "__firstlineno__" 277 (vI 19 276), dE P "__init__" 286 (vR 92), dE P "__static_attributes__" 288 (vR 93), dE P "__classcell__" 289 (vR 80)]) 6) []
def o60 : Obj := oO (vT "cell") none (PySem.Data.cell (Option.some (vR 95))) []
def o61 : Obj := oF [(vI 21 0), (vI 4 0), (vR 91)]
def o62 : Obj := cD "BadNumber" "BadNumber" 268 19 0 0 0 0 81 false 181 82 [vN, vN, vN, vN] 271 19
def o63 : Obj := oO (vT "frame") none PySem.Data.plain [(some (vR 83)), (some (vR 3)), (some (vR 79)), none, (some (vS "endlessplane.errors" 219)), none, (some (vR 0))]
def o64 : Obj := oT [(vR 80)]
def o65 : Obj := oT [(vS "__class__" 281)]
def o66 : Obj := oT [(vS "self" 282), (vS "number" 283)]
def o67 : Obj := rD "__init__" "BadNumber.__init__" (stA (m_ 8 0)) (m_ 8 0)
def o68 : Obj := cD "__init__" "BadNumber.__init__" 278 21 2 0 0 3 86 true 181 87 [vN, (vR 88), (vR 89), (vR 90)] 284 21
def o69 : Obj := fD "__init__" "BadNumber.__init__" (m_ 8 0) [(Prod.mk (PySem.Str.ofString "__class__") 80)] vN vN vN "endlessplane.errors" 219 91 (vR 85)
def o70 : Obj := oT [(vS "number" 287)]
def o71 (P : Params) : Obj := oO (vT "dict") none (.dict (List.toArray [dE P "__module__" 273 (vS "endlessplane.errors" 219), dE P "__firstlineno__" 277 (vI 19 276), dE P "__init__" 286 (vR 92), dE P "__static_attributes__" 288 (vR 93), dE P "__doc__" 290 vN]) 3) []
def o72 : Obj := oO (vT "type") none (PySem.Data.cls (PySem.ClassData.mk (PySem.Str.ofString "BadNumber") [(vR 52)] [(vR 95), (vR 52), (vT "ValueError"), (vT "Exception"), (vT "BaseException"), (vT "object")] 94 (PySem.Str.ofString "BadNumber") true [] [] false (Option.none) false)) [(some (vR 77)), none, (some (vS "BadNumber" 266)), (some (vS "BadNumber" 274)), (some (vB "ValueError.__new__")), (some (PySem.Value.bool true))]
def o73 : Obj := oO (vT "super") none (.fields (List.toArray [(vR 95), (vR 95), (vR 95)])) []
def o74 : Obj := oO (vT "builtin_function_or_method") none (.fields (List.toArray [(vB "object.__init_subclass__"), (vR 95)])) []
def o75 (P : Params) : Obj := oO (vT "dict") none (.dict (List.toArray [dE P "__module__" 300 (vS "endlessplane.errors" 219), dE P "__qualname__" 302 (vS "BadIndex" 301), dE P "__firstlineno__" 304 (vI 24 303), dE P "__init__" 313 (vR 113), dE P "__static_attributes__" 315 (vR 114), dE P "__classcell__" 316 (vR 101)]) 6) []
def o76 : Obj := oO (vT "cell") none (PySem.Data.cell (Option.some (vR 116))) []
def o77 : Obj := oF [(vI 26 0), (vI 4 0), (vR 112)]
def o78 : Obj := cD "BadIndex" "BadIndex" 295 24 0 0 0 0 102 false 181 103 [vN, vN, vN, vN] 298 24
def o79 : Obj := oO (vT "frame") none PySem.Data.plain [(some (vR 104)), (some (vR 3)), (some (vR 100)), none, (some (vS "endlessplane.errors" 219)), none, (some (vR 0))]
def o80 : Obj := oT [(vR 101)]
def o81 : Obj := oT [(vS "__class__" 308)]
def o82 : Obj := oT [(vS "self" 309), (vS "index" 310)]
def o83 : Obj := rD "__init__" "BadIndex.__init__" (stA (m_ 9 0)) (m_ 9 0)
def o84 : Obj := cD "__init__" "BadIndex.__init__" 305 26 2 0 0 3 107 true 181 108 [vN, (vR 109), (vR 110), (vR 111)] 311 26
def o85 : Obj := fD "__init__" "BadIndex.__init__" (m_ 9 0) [(Prod.mk (PySem.Str.ofString "__class__") 101)] vN vN vN "endlessplane.errors" 219 112 (vR 106)
def o86 : Obj := oT [(vS "index" 314)]
def o87 (P : Params) : Obj := oO (vT "dict") none (.dict (List.toArray [dE P "__module__" 300 (vS "endlessplane.errors" 219), dE P "__firstlineno__" 304 (vI 24 303), dE P "__init__" 313 (vR 113), dE P "__static_attributes__" 315 (vR 114), dE P "__doc__" 317 vN]) 3) []
def o88 : Obj := oO (vT "type") none (PySem.Data.cls (PySem.ClassData.mk (PySem.Str.ofString "BadIndex") [(vR 52)] [(vR 116), (vR 52), (vT "ValueError"), (vT "Exception"), (vT "BaseException"), (vT "object")] 115 (PySem.Str.ofString "BadIndex") true [] [] false (Option.none) false)) [(some (vR 98)), none, (some (vS "BadIndex" 293)), (some (vS "BadIndex" 301)), (some (vB "ValueError.__new__")), (some (PySem.Value.bool true))]
def o89 : Obj := oO (vT "super") none (.fields (List.toArray [(vR 116), (vR 116), (vR 116)])) []
def o90 : Obj := oO (vT "builtin_function_or_method") none (.fields (List.toArray [(vB "object.__init_subclass__"), (vR 116)])) []
def o91 (P : Params) : Obj := oO (vT "dict") none (.dict (List.toArray [dE P "__module__" 327 (vS "endlessplane.errors" 219), dE P "__qualname__" 329 (vS "NotSo" 328), dE P "__firstlineno__" 331 (vI 29 330), dE P "__init__" 340 (vR 134), dE P "__static_attributes__" 342 (vR 135), dE P "__classcell__" 343 (vR 122)]) 6) []
def o92 : Obj := oO (vT "cell") none (PySem.Data.cell (Option.some (vR 137))) []
def o93 : Obj := oF [(vI 31 0), (vI 4 0), (vR 133)]
def o94 : Obj := cD "NotSo" "NotSo" 322 29 0 0 0 0 123 false 181 124 [vN, vN, vN, vN] 325 29
def o95 : Obj := oO (vT "frame") none PySem.Data.plain [(some (vR 125)), (some (vR 3)), (some (vR 121)), none, (some (vS "endlessplane.errors" 219)), none, (some (vR 0))]
def o96 : Obj := oT [(vR 122)]
def o97 : Obj := oT [(vS "__class__" 335)]
def o98 : Obj := oT [(vS "self" 336), (vS "word" 337)]
def o99 : Obj := rD "__init__" "NotSo.__init__" (stA (m_ 10 0)) (m_ 10 0)
def o100 : Obj := cD "__init__" "NotSo.__init__" 332 31 2 0 0 3 128 true 181 129 [vN, (vR 130), (vR 131), (vR 132)] 338 31
def o101 : Obj := fD "__init__" "NotSo.__init__" (m_ 10 0) [(Prod.mk (PySem.Str.ofString "__class__") 122)] vN vN vN "endlessplane.errors" 219 133 (vR 127)
def o102 : Obj := oT [(vS "word" 341)]
def o103 (P : Params) : Obj := oO (vT "dict") none (.dict (List.toArray [dE P "__module__" 327 (vS "endlessplane.errors" 219), dE P "__firstlineno__" 331 (vI 29 330), dE P "__init__" 340 (vR 134), dE P "__static_attributes__" 342 (vR 135), dE P "__doc__" 344 vN]) 3) []
def o104 : Obj := oO (vT "type") none (PySem.Data.cls (PySem.ClassData.mk (PySem.Str.ofString "NotSo") [(vR 52)] [(vR 137), (vR 52), (vT "ValueError"), (vT "Exception"), (vT "BaseException"), (vT "object")] 136 (PySem.Str.ofString "NotSo") true [] [] false (Option.none) false)) [(some (vR 119)), none, (some (vS "NotSo" 320)), (some (vS "NotSo" 328)), (some (vB "ValueError.__new__")), (some (PySem.Value.bool true))]
def o105 : Obj := oO (vT "super") none (.fields (List.toArray [(vR 137), (vR 137), (vR 137)])) []
def o106 : Obj := oO (vT "builtin_function_or_method") none (.fields (List.toArray [(vB "object.__init_subclass__"), (vR 137)])) []
def o107 : Obj := oT [(vT "OverflowError")]
def o108 (P : Params) : Obj := oO (vT "dict") none (.dict (List.toArray [dE P "__module__" 354 (vS "endlessplane.errors" 219), dE P "__qualname__" 356 (vS "TooMany" 355), dE P "__firstlineno__" 358 (vI 34 357), dE P "__init__" 367 (vR 155), dE P "__static_attributes__" 369 (vR 156), dE P "__classcell__" 370 (vR 143)]) 6) []
def o109 : Obj := oO (vT "cell") none (PySem.Data.cell (Option.some (vR 158))) []
def o110 : Obj := oF [(vI 36 0), (vI 4 0), (vR 154)]
def o111 : Obj := cD "TooMany" "TooMany" 349 34 0 0 0 0 144 false 181 145 [vN, vN, vN, vN] 352 34
def o112 : Obj := oO (vT "frame") none PySem.Data.plain [(some (vR 146)), (some (vR 3)), (some (vR 142)), none, (some (vS "endlessplane.errors" 219)), none, (some (vR 0))]
def o113 : Obj := oT [(vR 143)]
def o114 : Obj := oT [(vS "__class__" 362)]
def o115 : Obj := oT [(vS "self" 363), (vS "limit" 364)]
def o116 : Obj := rD "__init__" "TooMany.__init__" (stA (m_ 11 0)) (m_ 11 0)
def o117 : Obj := cD "__init__" "TooMany.__init__" 359 36 2 0 0 3 149 true 181 150 [vN, (vR 151), (vR 152), (vR 153)] 365 36
def o118 : Obj := fD "__init__" "TooMany.__init__" (m_ 11 0) [(Prod.mk (PySem.Str.ofString "__class__") 143)] vN vN vN "endlessplane.errors" 219 154 (vR 148)
def o119 : Obj := oT [(vS "limit" 368)]
def o120 (P : Params) : Obj := oO (vT "dict") none (.dict (List.toArray [dE P "__module__" 354 (vS "endlessplane.errors" 219), dE P "__firstlineno__" 358 (vI 34 357), dE P "__init__" 367 (vR 155), dE P "__static_attributes__" 369 (vR 156), dE P "__weakref__" 372 (vR 159), dE P "__doc__" 373 vN]) 4) []
def o121 : Obj := oO (vT "type") none (PySem.Data.cls (PySem.ClassData.mk (PySem.Str.ofString "TooMany") [(vT "OverflowError")] [(vR 158), (vT "OverflowError"), (vT "ArithmeticError"), (vT "Exception"), (vT "BaseException"), (vT "object")] 157 (PySem.Str.ofString "TooMany") true [] [] false (Option.none) false)) [(some (vR 140)), none, (some (vS "TooMany" 347)), (some (vS "TooMany" 355)), (some (vB "OverflowError.__new__")), (some (PySem.Value.bool true))]
def o122 : Obj := oO (vT "getset_descriptor") none (.fields (List.toArray [(vS "__weakref__" 371), (vR 158), (vB "ExceptionGroup.__weakref__"), vN])) []
def o123 : Obj := oO (vT "super") none (.fields (List.toArray [(vR 158), (vR 158), (vR 158)])) []
def o124 : Obj := oO (vT "builtin_function_or_method") none (.fields (List.toArray [(vB "object.__init_subclass__"), (vR 158)])) []
def o125 : Obj := oT [(vS "value" 383)]
def o126 : Obj := rD "is_shift" "is_shift" (stA (b_ 13)) (b_ 13)
def o127 : Obj := cD "is_shift" "is_shift" 380 40 1 0 0 3 162 true 181 163 [vN, (vR 164), (vR 165), (vR 166)] 384 40
def o128 : Obj := fD "is_shift" "is_shift" (b_ 13) [] vN vN vN "endlessplane.periods" 378 167 vN
def o129 : Obj := oT [(vS "value" 390)]
def o130 : Obj := rD "check_shift" "check_shift" (stA (b_ 14)) (b_ 14)
def o131 : Obj := cD "check_shift" "check_shift" 387 42 1 0 0 3 169 true 181 170 [vN, (vR 171), (vR 172), (vR 173)] 391 42
def o132 : Obj := fD "check_shift" "check_shift" (b_ 14) [] vN vN vN "endlessplane.periods" 378 174 vN
def o133 : Obj := oT [(vS "value" 397)]
def o134 : Obj := rD "check_cell" "check_cell" (stA (b_ 15)) (b_ 15)
def o135 : Obj := cD "check_cell" "check_cell" 394 45 1 0 0 3 176 true 181 177 [vN, (vR 178), (vR 179), (vR 180)] 398 45
def o136 : Obj := fD "check_cell" "check_cell" (b_ 15) [] vN vN vN "endlessplane.periods" 378 181 vN
def o137 : Obj := oT [(vS "a" 404), (vS "b" 405), (vS "d" 406)]
def o138 : Obj := rD "check_basis" "check_basis" (stA (b_ 16)) (b_ 16)
def o139 : Obj := cD "check_basis" "check_basis" 401 48 3 0 0 3 183 true 181 184 [vN, (vR 185), (vR 186), (vR 187)] 407 48
def o140 : Obj := fD "check_basis" "check_basis" (b_ 16) [] vN vN vN "endlessplane.periods" 378 188 vN
def o141 (P : Params) : Obj := oO (vT "dict") none (.dict (List.toArray [dE P "__module__" 417 (vS "endlessplane.periods" 378), dE P "__qualname__" 419 (vS "Lattice" 418), dE P "__firstlineno__" 421 (vI 55 420), dE P "__init__" 431 (vR 203), dE P "__eq__" 439 (vR 210), dE P "__contains__" 447 (vR 217), dE P "__le__" 455 (vR 224), dE P "area" 462 (vR 231), dE P "place" 473 (vR 238), dE P "order" 481 (vR 245), dE P "places" 487 (vR 250), dE P "__static_attributes__" 491 (vR 251)]) 12) []
def o142 : Obj := oF [(vI 57 0), (vI 4 0), (vR 202), (vI 63 0), (vI 4 0), (vR 209), (vI 66 0), (vI 4 0), (vR 216), (vI 69 0), (vI 4 0), (vR 223), (vI 72 0), (vI 4 0), (vR 230), (vI 75 0), (vI 4 0), (vR 237), (vI 81 0), (vI 4 0), (vR 244), (vI 84 0), (vI 4 0), (vR 249)]
def o143 : Obj := cD "Lattice" "Lattice" 412 55 0 0 0 0 193 false 181 194 [vN, vN, vN, vN] 415 55
def o144 : Obj := oO (vT "frame") none PySem.Data.plain [(some (vR 195)), (some (vR 3)), (some (vR 192)), none, (some (vS "endlessplane.periods" 378)), none, (some (vR 0))]
def o145 : Obj := oT [(vS "self" 425), (vS "a" 426), (vS "b" 427), (vS "d" 428)]
def o146 : Obj := rD "__init__" "Lattice.__init__" (stA (m_ 17 0)) (m_ 17 0)
def o147 : Obj := cD "__init__" "Lattice.__init__" 422 57 4 0 0 3 197 true 181 198 [vN, (vR 199), (vR 200), (vR 201)] 429 57
def o148 : Obj := fD "__init__" "Lattice.__init__" (m_ 17 0) [] vN vN vN "endlessplane.periods" 378 202 vN
def o149 : Obj := oT [(vS "self" 435), (vS "other" 436)]
def o150 : Obj := rD "__eq__" "Lattice.__eq__" (stA (m_ 17 1)) (m_ 17 1)
def o151 : Obj := cD "__eq__" "Lattice.__eq__" 432 63 2 0 0 3 204 true 181 205 [vN, (vR 206), (vR 207), (vR 208)] 437 63
def o152 : Obj := fD "__eq__" "Lattice.__eq__" (m_ 17 1) [] vN vN vN "endlessplane.periods" 378 209 vN
def o153 : Obj := oT [(vS "self" 443), (vS "value" 444)]
def o154 : Obj := rD "__contains__" "Lattice.__contains__" (stA (m_ 17 2)) (m_ 17 2)
def o155 : Obj := cD "__contains__" "Lattice.__contains__" 440 66 2 0 0 3 211 true 181 212 [vN, (vR 213), (vR 214), (vR 215)] 445 66
def o156 : Obj := fD "__contains__" "Lattice.__contains__" (m_ 17 2) [] vN vN vN "endlessplane.periods" 378 216 vN
def o157 : Obj := oT [(vS "self" 451), (vS "other" 452)]
def o158 : Obj := rD "__le__" "Lattice.__le__" (stA (m_ 17 3)) (m_ 17 3)
def o159 : Obj := cD "__le__" "Lattice.__le__" 448 69 2 0 0 3 218 true 181 219 [vN, (vR 220), (vR 221), (vR 222)] 453 69
def o160 : Obj := fD "__le__" "Lattice.__le__" (m_ 17 3) [] vN vN vN "endlessplane.periods" 378 223 vN
def o161 : Obj := oT [(vS "self" 459)]
def o162 : Obj := rD "area" "Lattice.area" (stA (m_ 17 4)) (m_ 17 4)
def o163 : Obj := cD "area" "Lattice.area" 456 72 1 0 0 3 225 true 181 226 [vN, (vR 227), (vR 228), (vR 229)] 460 72
def o164 : Obj := fD "area" "Lattice.area" (m_ 17 4) [] vN vN vN "endlessplane.periods" 378 230 vN
def o165 : Obj := oT [(vS "self" 466), (vS "cell" 467), (vS "x" 468), (vS "y" 469), (vS "many" 470)]
def o166 : Obj := rD "place" "Lattice.place" (stA (m_ 17 5)) (m_ 17 5)
def o167 : Obj := cD "place" "Lattice.place" 463 75 2 0 0 3 232 true 181 233 [vN, (vR 234), (vR 235), (vR 236)] 471 75
def o168 : Obj := fD "place" "Lattice.place" (m_ 17 5) [] vN vN vN "endlessplane.periods" 378 237 vN
def o169 : Obj := oT [(vS "self" 477), (vS "shift" 478)]
def o170 : Obj := rD "order" "Lattice.order" (stA (m_ 17 6)) (m_ 17 6)
def o171 : Obj := cD "order" "Lattice.order" 474 81 2 0 0 3 239 true 181 240 [vN, (vR 241), (vR 242), (vR 243)] 479 81
def o172 : Obj := fD "order" "Lattice.order" (m_ 17 6) [] vN vN vN "endlessplane.periods" 378 244 vN
def o173 : Obj := rD "places" "Lattice.places" (stA (m_ 17 7)) (m_ 17 7)
def o174 : Obj := cD "places" "Lattice.places" 482 84 1 0 0 3 246 true 181 247 [vN, vN, vN, (vR 248)] 485 84
def o175 : Obj := fD "places" "Lattice.places" (m_ 17 7) [] vN vN vN "endlessplane.periods" 378 249 vN
def o176 : Obj := oT [(vS "a" 488), (vS "b" 489), (vS "d" 490)]
def o177 (P : Params) : Obj := oO (vT "dict") none (.dict (List.toArray [dE P "__module__" 417 (vS "endlessplane.periods" 378), dE P "__firstlineno__" 421 (vI 55 420), dE P "__init__" 431 (vR 203), dE P "__eq__" 439 (vR 210), dE P "__contains__" 447 (vR 217), dE P "__le__" 455 (vR 224), dE P "area" 462 (vR 231), dE P "place" 473 (vR 238), dE P "order" 481 (vR 245), dE P "places" 487 (vR 250), dE P "__static_attributes__" 491 (vR 251), dE P "__dict__" 493 (vR 254), dE P "__weakref__" 495 (vR 255), dE P "__doc__" 496 vN, dE P "__hash__" 497 vN]) 5) []
def o178 : Obj := oO (vT "type") none (PySem.Data.cls (PySem.ClassData.mk (PySem.Str.ofString "Lattice") [(vT "object")] [(vR 253), (vT "object")] 252 (PySem.Str.ofString "Lattice") true [] [] false (Option.none) false)) [none, none, (some (vS "Lattice" 410)), (some (vS "Lattice" 418)), (some (vB "object.__new__")), (some (PySem.Value.bool true))]
def o179 : Obj := oO (vT "getset_descriptor") none (.fields (List.toArray [(vS "__dict__" 492), (vR 253), (vB "function.__dict__"), (vB "function.__dict__#set")])) []
def o180 : Obj := oO (vT "getset_descriptor") none (.fields (List.toArray [(vS "__weakref__" 494), (vR 253), (vB "ExceptionGroup.__weakref__"), vN])) []
def o181 : Obj := oO (vT "super") none (.fields (List.toArray [(vR 253), (vR 253), (vR 253)])) []
def o182 : Obj := oO (vT "builtin_function_or_method") none (.fields (List.toArray [(vB "object.__init_subclass__"), (vR 253)])) []
def t0 (P : Params) : BT := (nN (o0 P) (nN (o1 P) (nN (o14 P) (nN o7 (nN o7 (nN o24 (nN o47 (nN o96 (nN o180 nL nL) nL) (nN o33 nL nL)) (nN o72 (nN o122 nL nL) (nN o159 nL nL))) (nN o8 (nN (o59 P) (nN o109 nL nL) (nN o7 nL nL)) (nN o83 (nN o132 nL nL) (nN o7 nL nL)))) (nN o8 (nN o7 (nN o53 (nN o102 nL nL) (nN o145 nL nL)) (nN o77 (nN o127 nL nL) (nN o164 nL nL))) (nN o41 (nN o8 (nN o115 nL nL) (nN o154 nL nL)) (nN o42 (nN o7 nL nL) (nN o8 nL nL))))) (nN o7 (nN o17 (nN o27 (nN o50 (nN o7 nL nL) (nN o143 nL nL)) (nN o33 (nN o8 nL nL) (nN o161 nL nL))) (nN (o37 P) (nN o62 (nN o112 nL nL) (nN o7 nL nL)) (nN (o87 P) (nN o7 nL nL) (nN o170 nL nL)))) (nN o22 (nN o32 (nN o57 (nN o106 nL nL) (nN o148 nL nL)) (nN o81 (nN o129 nL nL) (nN o7 nL nL))) (nN o44 (nN o68 (nN o118 nL nL) (nN o8 nL nL)) (nN o7 (nN o138 nL nL) (nN o176 nL nL)))))) (nN o5 (nN o9 (nN o16 (nN o25 (nN o49 (nN o8 (nN o182 nL nL) nL) (nN o7 nL nL)) (nN o74 (nN o124 nL nL) (nN o7 nL nL))) (nN o36 (nN o7 (nN o110 nL nL) (nN o151 nL nL)) (nN o85 (nN o8 nL nL) (nN o169 nL nL)))) (nN o7 (nN o30 (nN (o55 P) (nN o104 nL nL) (nN o146 nL nL)) (nN o79 (nN o7 nL nL) (nN o8 nL nL))) (nN o33 (nN o7 (nN o116 nL nL) (nN o156 nL nL)) (nN (o91 P) (nN o137 nL nL) (nN o174 nL nL))))) (nN o11 (nN o19 (nN o8 (nN o51 (nN o100 nL nL) (nN o7 nL nL)) (nN o76 (nN o7 nL nL) (nN o162 nL nL))) (nN o39 (nN o64 (nN o114 nL nL) (nN o153 nL nL)) (nN o89 (nN o135 nL nL) (nN o172 nL nL)))) (nN o7 (nN (o34 P) (nN o42 (nN o33 nL nL) (nN o8 nL nL)) (nN o82 (nN o130 nL nL) (nN o167 nL nL))) (nN o45 (nN o70 (nN (o120 P) nL nL) (nN o7 nL nL)) (nN o94 (nN o140 nL nL) (nN o178 nL nL))))))) (nN (o13 P) (nN o4 (nN o8 (nN o8 (nN o7 (nN o48 (nN o97 (nN o181 nL nL) nL) (nN (o141 P) nL nL)) (nN o73 (nN o123 nL nL) (nN o160 nL nL))) (nN o35 (nN o60 (nN o7 nL nL) (nN o150 nL nL)) (nN o84 (nN o7 nL nL) (nN o8 nL nL)))) (nN o20 (nN o29 (nN o54 (nN (o103 P) nL nL) (nN o7 nL nL)) (nN o78 (nN o128 nL nL) (nN o7 nL nL))) (nN o42 (nN o66 (nN o7 nL nL) (nN o155 nL nL)) (nN o33 (nN o8 nL nL) (nN o173 nL nL))))) (nN o15 (nN o18 (nN o7 (nN o7 (nN o99 nL nL) (nN o144 nL nL)) (nN (o75 P) (nN o125 nL nL) (nN o7 nL nL))) (nN o38 (nN o63 (nN o113 nL nL) (nN o8 nL nL)) (nN o88 (nN o134 nL nL) (nN o171 nL nL)))) (nN o23 (nN o33 (nN o58 (nN o107 nL nL) (nN o7 nL nL)) (nN o8 (nN o7 nL nL) (nN o166 nL nL))) (nN o7 (nN o69 (nN o119 nL nL) (nN o157 nL nL)) (nN o93 (nN o139 nL nL) (nN (o177 P) nL nL)))))) (nN o6 (nN o10 (nN o7 (nN o26 (nN o8 (nN o98 nL nL) (nN o142 nL nL)) (nN o42 (nN o7 nL nL) (nN o8 nL nL))) (nN o7 (nN o61 (nN o111 nL nL) (nN o152 nL nL)) (nN o86 (nN o133 nL nL) (nN o7 nL nL)))) (nN o21 (nN o31 (nN o56 (nN o105 nL nL) (nN o147 nL nL)) (nN o80 (nN o8 nL nL) (nN o165 nL nL))) (nN (o43 P) (nN o67 (nN o117 nL nL) (nN o7 nL nL)) (nN o92 (nN o7 nL nL) (nN o175 nL nL))))) (nN o12 (nN o7 (nN o28 (nN o52 (nN o101 nL nL) (nN o8 nL nL)) (nN o7 (nN o126 nL nL) (nN o163 nL nL))) (nN o40 (nN o65 (nN o8 nL nL) (nN o7 nL nL)) (nN o90 (nN o136 nL nL) (nN o7 nL nL)))) (nN o8 (nN o7 (nN o33 (nN (o108 P) nL nL) (nN o149 nL nL)) (nN o7 (nN o131 nL nL) (nN o168 nL nL))) (nN o46 (nN (o71 P) (nN o121 nL nL) (nN o158 nL nL)) (nN o95 (nN o7 nL nL) (nN o179 nL nL))))))))
def f0 : Fin_ := ⟨t0, 258, (PySem.Life.mk [] [] [] 0 [] [] false (List.toArray []) [] 0 false false false 0 [2000, 10, 10] false 0 true [] [] 0 false), (List.toArray []), (PySem.Drawn.mk 0 0 0 0), 500⟩
def o183 (P : Params) : Obj := oO (vT "dict") none (.dict (List.toArray [dE P "__name__" 165 (vS "law_endlessplane_k13_whole_moved_carpets" 703), dE P "__doc__" 166 vN, dE P "__package__" 167 vN, dE P "__loader__" 168 (vB "__main__.__loader__#opaque"), dE P "__spec__" 169 vN, dE P "__annotations__" 170 (vR 6), dE P "__builtins__" 171 (vR 4), dE P "__file__" 173 (vS "/claim/cut.py" 172), dE P "__cached__" 174 vN, dE P "_wall" 193 (vR 21), dE P "is_integer" 202 (vR 28), dE P "is_between" 211 (vR 35), dE P "is_list" 218 (vR 42), dE P "PlaneError" 238 (vR 52), dE P "BadPart" 265 (vR 74), dE P "BadNumber" 292 (vR 95), dE P "BadIndex" 319 (vR 116), dE P "NotSo" 346 (vR 137), dE P "TooMany" 377 (vR 158), dE P "is_shift" 386 (vR 168), dE P "check_shift" 393 (vR 175), dE P "check_cell" 400 (vR 182), dE P "check_basis" 409 (vR 189), dE P "Lattice" 499 (vR 253), dE P "MOST_CELLS" 503 (vI 144 502), dE P "FIGURES" 505 (vS "0123456789" 504), dE P "is_row" 511 (vR 262), dE P "check_rows" 522 (vR 269), dE P "check_size" 529 (vR 276), dE P "sign_at" 540 (vR 283), dE P "is_period_of" 546 (vR 288), dE P "divisors_of" 552 (vR 293), dE P "level_period" 561 (vR 300), dE P "least_lattice" 572 (vR 307), dE P "normal_rows" 578 (vR 312), dE P "rows_by" 584 (vR 317), dE P "Carpet" 702 (vR 404), dE P "_law_opened" 715 (vR 415), dE P "_law_draw" 724 (vR 422), dE P "_law_pick" 732 (vR 429), dE P "_law_int" 740 (vR 436), dE P "_law_three" 749 (vR 443), dE P "_law_place" 761 (vR 450), dE P "_law_rows" 767 (vR 455), dE P "_law_colour" 777 (vR 462), dE P "_law_coarser" 783 (vR 467), dE P "_law_is_period" 797 (vR 474), dE P "_law_least" 803 (vR 479), dE P "_law_normal" 809 (vR 484), dE P "_law_refused" 817 (vR 491), dE P "_law_made" 824 (vR 498), dE P "_law_moved" 830 (vR 503), dE P "_law_shift_right" 842 (vR 510), dE P "law" 848 (vR 515)]) 54) []
def o184 : Obj := oF [(vI 1 0), (vI 0 0), (vR 20), (vI 5 0), (vI 0 0), (vR 27), (vI 7 0), (vI 0 0), (vR 34), (vI 9 0), (vI 0 0), (vR 41), (vI 12 0), (vI 0 0), (vR 48), (vI 14 0), (vI 0 0), (vR 62), (vI 19 0), (vI 0 0), (vR 83), (vI 24 0), (vI 0 0), (vR 104), (vI 29 0), (vI 0 0), (vR 125), (vI 34 0), (vI 0 0), (vR 146), (vI 40 0), (vI 0 0), (vR 167), (vI 42 0), (vI 0 0), (vR 174), (vI 45 0), (vI 0 0), (vR 181), (vI 48 0), (vI 0 0), (vR 188), (vI 55 0), (vI 0 0), (vR 195), (vI 89 0), (vI 0 0), (vR 261), (vI 91 0), (vI 0 0), (vR 268), (vI 97 0), (vI 0 0), (vR 275), (vI 100 0), (vI 0 0), (vR 282), (vI 103 0), (vI 0 0), (vR 287), (vI 107 0), (vI 0 0), (vR 292), (vI 109 0), (vI 0 0), (vR 299), (vI 114 0), (vI 0 0), (vR 306), (vI 121 0), (vI 0 0), (vR 311), (vI 126 0), (vI 0 0), (vR 316), (vI 128 0), (vI 0 0), (vR 323), (vI 177 0), (vI 0 0), (vR 414), (vI 182 0), (vI 0 0), (vR 421), (vI 189 0), (vI 0 0), (vR 428), (vI 191 0), (vI 0 0), (vR 435), (vI 194 0), (vI 0 0), (vR 442), (vI 197 0), (vI 0 0), (vR 449), (vI 200 0), (vI 0 0), (vR 454), (vI 206 0), (vI 0 0), (vR 461), (vI 209 0), (vI 0 0), (vR 466), (vI 218 0), (vI 0 0), (vR 473), (vI 225 0), (vI 0 0), (vR 478), (vI 233 0), (vI 0 0), (vR 483), (vI 239 0), (vI 0 0), (vR 490), (vI 253 0), (vI 0 0), (vR 497), (vI 255 0), (vI 0 0), (vR 502), (vI 260 0), (vI 0 0), (vR 509), (vI 268 0), (vI 0 0), (vR 514)]
def o185 : Obj := rD "is_row" "is_row" (stA (b_ 21)) (b_ 21)
def o186 : Obj := cD "is_row" "is_row" 506 89 2 0 0 3 258 true 181 259 [vN, vN, vN, (vR 260)] 509 89
def o187 : Obj := fD "is_row" "is_row" (b_ 21) [] vN vN vN "endlessplane.carpets" 500 261 vN
def o188 : Obj := oT [(vS "rows" 515), (vS "a" 516), (vS "d" 517), (vS "index" 518), (vS "row" 519)]
def o189 : Obj := rD "check_rows" "check_rows" (stA (b_ 22)) (b_ 22)
def o190 : Obj := cD "check_rows" "check_rows" 512 91 3 0 0 3 263 true 181 264 [vN, (vR 265), (vR 266), (vR 267)] 520 91
def o191 : Obj := fD "check_rows" "check_rows" (b_ 22) [] vN vN vN "endlessplane.carpets" 500 268 vN
def o192 : Obj := oT [(vS "many" 526)]
def o193 : Obj := rD "check_size" "check_size" (stA (b_ 23)) (b_ 23)
def o194 : Obj := cD "check_size" "check_size" 523 97 1 0 0 3 270 true 181 271 [vN, (vR 272), (vR 273), (vR 274)] 527 97
def o195 : Obj := fD "check_size" "check_size" (b_ 23) [] vN vN vN "endlessplane.carpets" 500 275 vN
def o196 : Obj := oT [(vS "lattice" 533), (vS "rows" 534), (vS "cell" 535), (vS "x" 536), (vS "y" 537)]
def o197 : Obj := rD "sign_at" "sign_at" (stA (b_ 24)) (b_ 24)
def o198 : Obj := cD "sign_at" "sign_at" 530 100 3 0 0 3 277 true 181 278 [vN, (vR 279), (vR 280), (vR 281)] 538 100
def o199 : Obj := fD "sign_at" "sign_at" (b_ 24) [] vN vN vN "endlessplane.carpets" 500 282 vN
def o200 : Obj := rD "is_period_of" "is_period_of" (stA (b_ 25)) (b_ 25)
def o201 : Obj := cD "is_period_of" "is_period_of" 541 103 3 0 0 3 284 true 181 285 [vN, vN, vN, (vR 286)] 544 103
def o202 : Obj := fD "is_period_of" "is_period_of" (b_ 25) [] vN vN vN "endlessplane.carpets" 500 287 vN
def o203 : Obj := rD "divisors_of" "divisors_of" (stA (b_ 26)) (b_ 26)
def o204 : Obj := cD "divisors_of" "divisors_of" 547 107 1 0 0 3 289 true 181 290 [vN, vN, vN, (vR 291)] 550 107
def o205 : Obj := fD "divisors_of" "divisors_of" (b_ 26) [] vN vN vN "endlessplane.carpets" 500 292 vN
def o206 : Obj := oT [(vS "lattice" 556), (vS "rows" 557), (vS "a" 558)]
def o207 : Obj := rD "level_period" "level_period" (stA (b_ 27)) (b_ 27)
def o208 : Obj := cD "level_period" "level_period" 553 109 2 0 0 3 294 true 181 295 [vN, (vR 296), (vR 297), (vR 298)] 559 109
def o209 : Obj := fD "level_period" "level_period" (b_ 27) [] vN vN vN "endlessplane.carpets" 500 299 vN
def o210 : Obj := oT [(vS "lattice" 565), (vS "rows" 566), (vS "a" 567), (vS "d" 568), (vS "b" 569)]
def o211 : Obj := rD "least_lattice" "least_lattice" (stA (b_ 28)) (b_ 28)
def o212 : Obj := cD "least_lattice" "least_lattice" 562 114 2 0 0 3 301 true 181 302 [vN, (vR 303), (vR 304), (vR 305)] 570 114
def o213 : Obj := fD "least_lattice" "least_lattice" (b_ 28) [] vN vN vN "endlessplane.carpets" 500 306 vN
def o214 : Obj := rD "normal_rows" "normal_rows" (stA (b_ 29)) (b_ 29)
def o215 : Obj := cD "normal_rows" "normal_rows" 573 121 3 0 0 3 308 true 181 309 [vN, vN, vN, (vR 310)] 576 121
def o216 : Obj := fD "normal_rows" "normal_rows" (b_ 29) [] vN vN vN "endlessplane.carpets" 500 311 vN
def o217 : Obj := rD "rows_by" "rows_by" (stA (b_ 30)) (b_ 30)
def o218 : Obj := cD "rows_by" "rows_by" 579 126 2 0 0 3 313 true 181 314 [vN, vN, vN, (vR 315)] 582 126
def o219 : Obj := fD "rows_by" "rows_by" (b_ 30) [] vN vN vN "endlessplane.carpets" 500 316 vN
def o220 (P : Params) : Obj := oO (vT "dict") none (.dict (List.toArray [dE P "__module__" 592 (vS "endlessplane.carpets" 500), dE P "__qualname__" 594 (vS "Carpet" 593), dE P "__firstlineno__" 596 (vI 128 595), dE P "__init__" 608 (vR 331), dE P "__eq__" 616 (vR 338), dE P "sign" 624 (vR 345), dE P "colour" 632 (vR 352), dE P "lattice" 639 (vR 359), dE P "least" 646 (vR 366), dE P "normal" 653 (vR 373), dE P "in_normal" 660 (vR 380), dE P "shares" 667 (vR 387), dE P "moved_by" 679 (vR 394), dE P "is_period" 687 (vR 401), dE P "__static_attributes__" 694 (vR 402)]) 15) []
def o221 : Obj := oF [(vI 130 0), (vI 4 0), (vR 330), (vI 142 0), (vI 4 0), (vR 337), (vI 145 0), (vI 4 0), (vR 344), (vI 148 0), (vI 4 0), (vR 351), (vI 152 0), (vI 4 0), (vR 358), (vI 155 0), (vI 4 0), (vR 365), (vI 158 0), (vI 4 0), (vR 372), (vI 161 0), (vI 4 0), (vR 379), (vI 164 0), (vI 4 0), (vR 386), (vI 167 0), (vI 4 0), (vR 393), (vI 173 0), (vI 4 0), (vR 400)]
def o222 : Obj := cD "Carpet" "Carpet" 587 128 0 0 0 0 321 false 181 322 [vN, vN, vN, vN] 590 128
def o223 : Obj := oO (vT "frame") none PySem.Data.plain [(some (vR 323)), (some (vR 3)), (some (vR 320)), none, (some (vS "endlessplane.carpets" 500)), none, (some (vR 0))]
def o224 : Obj := oT [(vS "self" 600), (vS "a" 601), (vS "b" 602), (vS "d" 603), (vS "rows" 604), (vS "told" 605)]
def o225 : Obj := rD "__init__" "Carpet.__init__" (stA (m_ 31 0)) (m_ 31 0)
def o226 : Obj := cD "__init__" "Carpet.__init__" 597 130 5 0 0 3 325 true 181 326 [vN, (vR 327), (vR 328), (vR 329)] 606 130
def o227 : Obj := fD "__init__" "Carpet.__init__" (m_ 31 0) [] vN vN vN "endlessplane.carpets" 500 330 vN
def o228 : Obj := oT [(vS "self" 612), (vS "other" 613)]
def o229 : Obj := rD "__eq__" "Carpet.__eq__" (stA (m_ 31 1)) (m_ 31 1)
def o230 : Obj := cD "__eq__" "Carpet.__eq__" 609 142 2 0 0 3 332 true 181 333 [vN, (vR 334), (vR 335), (vR 336)] 614 142
def o231 : Obj := fD "__eq__" "Carpet.__eq__" (m_ 31 1) [] vN vN vN "endlessplane.carpets" 500 337 vN
def o232 : Obj := oT [(vS "self" 620), (vS "cell" 621)]
def o233 : Obj := rD "sign" "Carpet.sign" (stA (m_ 31 2)) (m_ 31 2)
def o234 : Obj := cD "sign" "Carpet.sign" 617 145 2 0 0 3 339 true 181 340 [vN, (vR 341), (vR 342), (vR 343)] 622 145
def o235 : Obj := fD "sign" "Carpet.sign" (m_ 31 2) [] vN vN vN "endlessplane.carpets" 500 344 vN
def o236 : Obj := oT [(vS "self" 628), (vS "cell" 629)]
def o237 : Obj := rD "colour" "Carpet.colour" (stA (m_ 31 3)) (m_ 31 3)
def o238 : Obj := cD "colour" "Carpet.colour" 625 148 2 0 0 3 346 true 181 347 [vN, (vR 348), (vR 349), (vR 350)] 630 148
def o239 : Obj := fD "colour" "Carpet.colour" (m_ 31 3) [] vN vN vN "endlessplane.carpets" 500 351 vN
def o240 : Obj := oT [(vS "self" 636)]
def o241 : Obj := rD "lattice" "Carpet.lattice" (stA (m_ 31 4)) (m_ 31 4)
def o242 : Obj := cD "lattice" "Carpet.lattice" 633 152 1 0 0 3 353 true 181 354 [vN, (vR 355), (vR 356), (vR 357)] 637 152
def o243 : Obj := fD "lattice" "Carpet.lattice" (m_ 31 4) [] vN vN vN "endlessplane.carpets" 500 358 vN
def o244 : Obj := oT [(vS "self" 643)]
def o245 : Obj := rD "least" "Carpet.least" (stA (m_ 31 5)) (m_ 31 5)
def o246 : Obj := cD "least" "Carpet.least" 640 155 1 0 0 3 360 true 181 361 [vN, (vR 362), (vR 363), (vR 364)] 644 155
def o247 : Obj := fD "least" "Carpet.least" (m_ 31 5) [] vN vN vN "endlessplane.carpets" 500 365 vN
def o248 : Obj := oT [(vS "self" 650)]
def o249 : Obj := rD "normal" "Carpet.normal" (stA (m_ 31 6)) (m_ 31 6)
def o250 : Obj := cD "normal" "Carpet.normal" 647 158 1 0 0 3 367 true 181 368 [vN, (vR 369), (vR 370), (vR 371)] 651 158
def o251 : Obj := fD "normal" "Carpet.normal" (m_ 31 6) [] vN vN vN "endlessplane.carpets" 500 372 vN
def o252 : Obj := oT [(vS "self" 657)]
def o253 : Obj := rD "in_normal" "Carpet.in_normal" (stA (m_ 31 7)) (m_ 31 7)
def o254 : Obj := cD "in_normal" "Carpet.in_normal" 654 161 1 0 0 3 374 true 181 375 [vN, (vR 376), (vR 377), (vR 378)] 658 161
def o255 : Obj := fD "in_normal" "Carpet.in_normal" (m_ 31 7) [] vN vN vN "endlessplane.carpets" 500 379 vN
def o256 : Obj := oT [(vS "self" 664)]
def o257 : Obj := rD "shares" "Carpet.shares" (stA (m_ 31 8)) (m_ 31 8)
def o258 : Obj := cD "shares" "Carpet.shares" 661 164 1 0 0 3 381 true 181 382 [vN, (vR 383), (vR 384), (vR 385)] 665 164
def o259 : Obj := fD "shares" "Carpet.shares" (m_ 31 8) [] vN vN vN "endlessplane.carpets" 500 386 vN
def o260 : Obj := oT [(vS "self" 671), (vS "shift" 672), (vS "least" 673), (vS "rows" 674)]
def o261 : Obj := oT [(vS "self" 675), (vS "shift" 676)]
def o262 : Obj := rD "moved_by" "Carpet.moved_by" (stA (m_ 31 9)) (m_ 31 9)
def o263 : Obj := cD "moved_by" "Carpet.moved_by" 668 167 2 0 0 3 388 true 181 389 [vN, (vR 390), (vR 391), (vR 392)] 677 167
def o264 : Obj := fD "moved_by" "Carpet.moved_by" (m_ 31 9) [] vN vN vN "endlessplane.carpets" 500 393 vN
def o265 : Obj := oT [(vS "self" 683), (vS "shift" 684)]
def o266 : Obj := rD "is_period" "Carpet.is_period" (stA (m_ 31 10)) (m_ 31 10)
def o267 : Obj := cD "is_period" "Carpet.is_period" 680 173 2 0 0 3 395 true 181 396 [vN, (vR 397), (vR 398), (vR 399)] 685 173
def o268 : Obj := fD "is_period" "Carpet.is_period" (m_ 31 10) [] vN vN vN "endlessplane.carpets" 500 400 vN
def o269 : Obj := oT [(vS "a" 688), (vS "b" 689), (vS "basis" 690), (vS "d" 691), (vS "rows" 692), (vS "shape" 693)]
def o270 (P : Params) : Obj := oO (vT "dict") none (.dict (List.toArray [dE P "__module__" 592 (vS "endlessplane.carpets" 500), dE P "__firstlineno__" 596 (vI 128 595), dE P "__init__" 608 (vR 331), dE P "__eq__" 616 (vR 338), dE P "sign" 624 (vR 345), dE P "colour" 632 (vR 352), dE P "lattice" 639 (vR 359), dE P "least" 646 (vR 366), dE P "normal" 653 (vR 373), dE P "in_normal" 660 (vR 380), dE P "shares" 667 (vR 387), dE P "moved_by" 679 (vR 394), dE P "is_period" 687 (vR 401), dE P "__static_attributes__" 694 (vR 402), dE P "__dict__" 696 (vR 405), dE P "__weakref__" 698 (vR 406), dE P "__doc__" 699 vN, dE P "__hash__" 700 vN]) 5) []
def o271 : Obj := oO (vT "type") none (PySem.Data.cls (PySem.ClassData.mk (PySem.Str.ofString "Carpet") [(vT "object")] [(vR 404), (vT "object")] 403 (PySem.Str.ofString "Carpet") true [] [] false (Option.none) false)) [none, none, (some (vS "Carpet" 585)), (some (vS "Carpet" 593)), (some (vB "object.__new__")), (some (PySem.Value.bool true))]
def o272 : Obj := oO (vT "getset_descriptor") none (.fields (List.toArray [(vS "__dict__" 695), (vR 404), (vB "function.__dict__"), (vB "function.__dict__#set")])) []
def o273 : Obj := oO (vT "getset_descriptor") none (.fields (List.toArray [(vS "__weakref__" 697), (vR 404), (vB "ExceptionGroup.__weakref__"), vN])) []
def o274 : Obj := oO (vT "super") none (.fields (List.toArray [(vR 404), (vR 404), (vR 404)])) []
def o275 : Obj := oO (vT "builtin_function_or_method") none (.fields (List.toArray [(vB "object.__init_subclass__"), (vR 404)])) []
def o276 : Obj := oT [(vS "_law_script" 708), (vS "_law_k" 709), (vS "_law_start" 710), (vS "_law_whole" 711), (vS "_law_seed" 712)]
def o277 : Obj := rD "_law_opened" "_law_opened" (stA (b_ 33)) (b_ 33)
def o278 : Obj := cD "_law_opened" "_law_opened" 705 177 2 0 0 3 409 true 181 410 [vN, (vR 411), (vR 412), (vR 413)] 713 177
def o279 : Obj := fD "_law_opened" "_law_opened" (b_ 33) [] vN vN vN "law_endlessplane_k13_whole_moved_carpets" 703 414 vN
def o280 : Obj := oT [(vS "_law_pool" 719), (vS "_law_many" 720), (vS "_law_found" 721)]
def o281 : Obj := rD "_law_draw" "_law_draw" (stA (b_ 34)) (b_ 34)
def o282 : Obj := cD "_law_draw" "_law_draw" 716 182 2 0 0 3 416 true 181 417 [vN, (vR 418), (vR 419), (vR 420)] 722 182
def o283 : Obj := fD "_law_draw" "_law_draw" (b_ 34) [] vN vN vN "law_endlessplane_k13_whole_moved_carpets" 703 421 vN
def o284 : Obj := oT [(vS "_law_pool" 728), (vS "_law_some" 729)]
def o285 : Obj := rD "_law_pick" "_law_pick" (stA (b_ 35)) (b_ 35)
def o286 : Obj := cD "_law_pick" "_law_pick" 725 189 2 0 0 3 423 true 181 424 [vN, (vR 425), (vR 426), (vR 427)] 730 189
def o287 : Obj := fD "_law_pick" "_law_pick" (b_ 35) [] vN vN vN "law_endlessplane_k13_whole_moved_carpets" 703 428 vN
def o288 : Obj := oT [(vS "_law_pool" 736), (vS "_law_size" 737)]
def o289 : Obj := rD "_law_int" "_law_int" (stA (b_ 36)) (b_ 36)
def o290 : Obj := cD "_law_int" "_law_int" 733 191 1 0 0 3 430 true 181 431 [vN, (vR 432), (vR 433), (vR 434)] 738 191
def o291 : Obj := fD "_law_int" "_law_int" (b_ 36) [] vN vN vN "law_endlessplane_k13_whole_moved_carpets" 703 435 vN
def o292 : Obj := oT [(vS "_law_pool" 744), (vS "_law_most" 745), (vS "_law_wide" 746)]
def o293 : Obj := rD "_law_three" "_law_three" (stA (b_ 37)) (b_ 37)
def o294 : Obj := cD "_law_three" "_law_three" 741 194 2 0 0 3 437 true 181 438 [vN, (vR 439), (vR 440), (vR 441)] 747 194
def o295 : Obj := fD "_law_three" "_law_three" (b_ 37) [] vN vN vN "law_endlessplane_k13_whole_moved_carpets" 703 442 vN
def o296 : Obj := oT [(vS "_law_three_here" 753), (vS "_law_x" 754), (vS "_law_y" 755), (vS "_law_wide" 756), (vS "_law_slant" 757), (vS "_law_high" 758)]
def o297 : Obj := rD "_law_place" "_law_place" (stA (b_ 38)) (b_ 38)
def o298 : Obj := cD "_law_place" "_law_place" 750 197 3 0 0 3 444 true 181 445 [vN, (vR 446), (vR 447), (vR 448)] 759 197
def o299 : Obj := fD "_law_place" "_law_place" (b_ 38) [] vN vN vN "law_endlessplane_k13_whole_moved_carpets" 703 449 vN
def o300 : Obj := rD "_law_rows" "_law_rows" (stA (b_ 39)) (b_ 39)
def o301 : Obj := cD "_law_rows" "_law_rows" 762 200 2 0 0 3 451 true 181 452 [vN, vN, vN, (vR 453)] 765 200
def o302 : Obj := fD "_law_rows" "_law_rows" (b_ 39) [] vN vN vN "law_endlessplane_k13_whole_moved_carpets" 703 454 vN
def o303 : Obj := oT [(vS "_law_told" 771), (vS "_law_x" 772), (vS "_law_y" 773), (vS "_law_place_here" 774)]
def o304 : Obj := rD "_law_colour" "_law_colour" (stA (b_ 40)) (b_ 40)
def o305 : Obj := cD "_law_colour" "_law_colour" 768 206 3 0 0 3 456 true 181 457 [vN, (vR 458), (vR 459), (vR 460)] 775 206
def o306 : Obj := fD "_law_colour" "_law_colour" (b_ 40) [] vN vN vN "law_endlessplane_k13_whole_moved_carpets" 703 461 vN
def o307 : Obj := rD "_law_coarser" "_law_coarser" (stA (b_ 41)) (b_ 41)
def o308 : Obj := cD "_law_coarser" "_law_coarser" 778 209 2 0 0 3 463 true 181 464 [vN, vN, vN, (vR 465)] 781 209
def o309 : Obj := fD "_law_coarser" "_law_coarser" (b_ 41) [] vN vN vN "law_endlessplane_k13_whole_moved_carpets" 703 466 vN
def o310 : Obj := oT [(vS "_law_told" 787), (vS "_law_x" 788), (vS "_law_y" 789), (vS "_law_a" 790), (vS "_law_b" 791), (vS "_law_d" 792), (vS "_law_j" 793), (vS "_law_i" 794)]
def o311 : Obj := rD "_law_is_period" "_law_is_period" (stA (b_ 42)) (b_ 42)
def o312 : Obj := cD "_law_is_period" "_law_is_period" 784 218 3 0 0 3 468 true 181 469 [vN, (vR 470), (vR 471), (vR 472)] 795 218
def o313 : Obj := fD "_law_is_period" "_law_is_period" (b_ 42) [] vN vN vN "law_endlessplane_k13_whole_moved_carpets" 703 473 vN
def o314 : Obj := rD "_law_least" "_law_least" (stA (b_ 43)) (b_ 43)
def o315 : Obj := cD "_law_least" "_law_least" 798 225 1 0 0 3 475 true 181 476 [vN, vN, vN, (vR 477)] 801 225
def o316 : Obj := fD "_law_least" "_law_least" (b_ 43) [] vN vN vN "law_endlessplane_k13_whole_moved_carpets" 703 478 vN
def o317 : Obj := rD "_law_normal" "_law_normal" (stA (b_ 44)) (b_ 44)
def o318 : Obj := cD "_law_normal" "_law_normal" 804 233 1 0 0 3 480 true 181 481 [vN, vN, vN, (vR 482)] 807 233
def o319 : Obj := fD "_law_normal" "_law_normal" (b_ 44) [] vN vN vN "law_endlessplane_k13_whole_moved_carpets" 703 483 vN
def o320 : Obj := oT [(vS "_law_call" 813), (vS "e" 814)]
def o321 : Obj := rD "_law_refused" "_law_refused" (stA (b_ 45)) (b_ 45)
def o322 : Obj := cD "_law_refused" "_law_refused" 810 239 1 0 0 3 485 true 181 486 [vN, (vR 487), (vR 488), (vR 489)] 815 239
def o323 : Obj := fD "_law_refused" "_law_refused" (b_ 45) [] vN vN vN "law_endlessplane_k13_whole_moved_carpets" 703 490 vN
def o324 : Obj := oT [(vS "_law_told" 821)]
def o325 : Obj := rD "_law_made" "_law_made" (stA (b_ 46)) (b_ 46)
def o326 : Obj := cD "_law_made" "_law_made" 818 253 1 0 0 3 492 true 181 493 [vN, (vR 494), (vR 495), (vR 496)] 822 253
def o327 : Obj := fD "_law_made" "_law_made" (b_ 46) [] vN vN vN "law_endlessplane_k13_whole_moved_carpets" 703 497 vN
def o328 : Obj := rD "_law_moved" "_law_moved" (stA (b_ 47)) (b_ 47)
def o329 : Obj := cD "_law_moved" "_law_moved" 825 255 3 0 0 3 499 true 181 500 [vN, vN, vN, (vR 501)] 828 255
def o330 : Obj := fD "_law_moved" "_law_moved" (b_ 47) [] vN vN vN "law_endlessplane_k13_whole_moved_carpets" 703 502 vN
def o331 : Obj := oT [(vS "_law_carpet" 834), (vS "_law_told" 835), (vS "_law_x" 836), (vS "_law_y" 837), (vS "_law_later" 838), (vS "_law_due" 839)]
def o332 : Obj := rD "_law_shift_right" "_law_shift_right" (stA (b_ 48)) (b_ 48)
def o333 : Obj := cD "_law_shift_right" "_law_shift_right" 831 260 4 0 0 3 504 true 181 505 [vN, (vR 506), (vR 507), (vR 508)] 840 260
def o334 : Obj := fD "_law_shift_right" "_law_shift_right" (b_ 48) [] vN vN vN "law_endlessplane_k13_whole_moved_carpets" 703 509 vN
def o335 : Obj := rD "law" "law" (stA (b_ 49)) (b_ 49)
def o336 : Obj := cD "law" "law" 843 268 1 0 0 3 511 true 181 512 [vN, vN, vN, (vR 513)] 846 268
def o337 : Obj := fD "law" "law" (b_ 49) [] vN vN vN "law_endlessplane_k13_whole_moved_carpets" 703 514 vN
def t1 (P : Params) : BT := (nN (o0 P) (nN (o1 P) (nN (o183 P) (nN o7 (nN o7 (nN o24 (nN o47 (nN o96 (nN o180 (nN o7 nL nL) nL) (nN o256 nL nL)) (nN o33 (nN o33 nL nL) (nN o7 nL nL))) (nN o72 (nN o122 (nN o201 nL nL) (nN o279 nL nL)) (nN o159 (nN o238 nL nL) (nN o316 nL nL)))) (nN o8 (nN (o59 P) (nN o109 (nN o8 nL nL) (nN o266 nL nL)) (nN o7 (nN o7 nL nL) (nN o7 nL nL))) (nN o83 (nN o132 (nN o210 nL nL) (nN o8 nL nL)) (nN o7 (nN o7 nL nL) (nN o7 nL nL))))) (nN o8 (nN o7 (nN o53 (nN o102 (nN o7 nL nL) (nN o261 nL nL)) (nN o145 (nN o224 nL nL) (nN o302 nL nL))) (nN o77 (nN o127 (nN o8 nL nL) (nN o7 nL nL)) (nN o164 (nN o243 nL nL) (nN o320 nL nL)))) (nN o41 (nN o8 (nN o115 (nN o196 nL nL) (nN o274 nL nL)) (nN o154 (nN o233 nL nL) (nN o7 nL nL))) (nN o42 (nN o7 (nN o215 nL nL) (nN o292 nL nL)) (nN o8 (nN o8 nL nL) (nN o330 nL nL)))))) (nN o7 (nN o17 (nN o27 (nN o50 (nN o7 (nN o8 (nN o337 nL nL) nL) (nN o259 nL nL)) (nN o143 (nN o222 nL nL) (nN o7 nL nL))) (nN o33 (nN o8 (nN o203 nL nL) (nN o7 nL nL)) (nN o161 (nN o240 nL nL) (nN o318 nL nL)))) (nN (o37 P) (nN o62 (nN o112 (nN o194 nL nL) (nN (o270 P) nL nL)) (nN o7 (nN o7 nL nL) (nN o309 nL nL))) (nN (o87 P) (nN o7 (nN o213 nL nL) (nN o290 nL nL)) (nN o170 (nN o249 nL nL) (nN o7 nL nL))))) (nN o22 (nN o32 (nN o57 (nN o106 (nN o189 nL nL) (nN o7 nL nL)) (nN o148 (nN o227 nL nL) (nN o7 nL nL))) (nN o81 (nN o129 (nN o208 nL nL) (nN o285 nL nL)) (nN o7 (nN o7 nL nL) (nN o323 nL nL)))) (nN o44 (nN o68 (nN o118 (nN o199 nL nL) (nN o276 nL nL)) (nN o8 (nN o8 nL nL) (nN o7 nL nL))) (nN o7 (nN o138 (nN o217 nL nL) (nN o295 nL nL)) (nN o176 (nN o254 nL nL) (nN o7 nL nL))))))) (nN o5 (nN o9 (nN o16 (nN o25 (nN o49 (nN o8 (nN o182 (nN o335 nL nL) nL) (nN o257 nL nL)) (nN o7 (nN o7 nL nL) (nN o298 nL nL))) (nN o74 (nN o124 (nN o7 nL nL) (nN o8 nL nL)) (nN o7 (nN o7 nL nL) (nN o8 nL nL)))) (nN o36 (nN o7 (nN o110 (nN o7 nL nL) (nN o268 nL nL)) (nN o151 (nN o230 nL nL) (nN o307 nL nL))) (nN o85 (nN o8 (nN o211 nL nL) (nN o7 nL nL)) (nN o169 (nN o248 nL nL) (nN o326 nL nL))))) (nN o7 (nN o30 (nN (o55 P) (nN o104 (nN o188 nL nL) (nN o263 nL nL)) (nN o146 (nN o225 nL nL) (nN o8 nL nL))) (nN o79 (nN o7 (nN o7 nL nL) (nN o284 nL nL)) (nN o8 (nN o8 nL nL) (nN o321 nL nL)))) (nN o33 (nN o7 (nN o116 (nN o197 nL nL) (nN o7 nL nL)) (nN o156 (nN o235 nL nL) (nN o312 nL nL))) (nN (o91 P) (nN o137 (nN o7 nL nL) (nN o293 nL nL)) (nN o174 (nN o7 nL nL) (nN o8 nL nL)))))) (nN o11 (nN o19 (nN o8 (nN o51 (nN o100 (nN o186 nL nL) (nN o8 nL nL)) (nN o7 (nN o7 nL nL) (nN o300 nL nL))) (nN o76 (nN o7 (nN o205 nL nL) (nN o282 nL nL)) (nN o162 (nN o241 nL nL) (nN o7 nL nL)))) (nN o39 (nN o64 (nN o114 (nN o7 nL nL) (nN o272 nL nL)) (nN o153 (nN o232 nL nL) (nN o8 nL nL))) (nN o89 (nN o135 (nN o8 nL nL) (nN o7 nL nL)) (nN o172 (nN o251 nL nL) (nN o328 nL nL))))) (nN o7 (nN (o34 P) (nN o42 (nN o33 (nN o191 nL nL) (nN o265 nL nL)) (nN o8 (nN o8 nL nL) (nN o305 nL nL))) (nN o82 (nN o130 (nN o7 nL nL) (nN o287 nL nL)) (nN o167 (nN o246 nL nL) (nN o8 nL nL)))) (nN o45 (nN o70 (nN (o120 P) (nN o8 nL nL) (nN o277 nL nL)) (nN o7 (nN o7 nL nL) (nN o314 nL nL))) (nN o94 (nN o140 (nN o219 nL nL) (nN o8 nL nL)) (nN o178 (nN o7 nL nL) (nN o333 nL nL)))))))) (nN (o13 P) (nN o4 (nN o8 (nN o8 (nN o7 (nN o48 (nN o97 (nN o181 (nN o8 nL nL) nL) (nN o7 nL nL)) (nN (o141 P) (nN (o220 P) nL nL) (nN o297 nL nL))) (nN o73 (nN o123 (nN o202 nL nL) (nN o7 nL nL)) (nN o160 (nN o239 nL nL) (nN o7 nL nL)))) (nN o35 (nN o60 (nN o7 (nN o192 nL nL) (nN o267 nL nL)) (nN o150 (nN o229 nL nL) (nN o8 nL nL))) (nN o84 (nN o7 (nN o7 nL nL) (nN o288 nL nL)) (nN o8 (nN o8 nL nL) (nN o325 nL nL))))) (nN o20 (nN o29 (nN o54 (nN (o103 P) (nN o8 nL nL) (nN o262 nL nL)) (nN o7 (nN o7 nL nL) (nN o7 nL nL))) (nN o78 (nN o128 (nN o206 nL nL) (nN o8 nL nL)) (nN o7 (nN o7 nL nL) (nN o7 nL nL)))) (nN o42 (nN o66 (nN o7 (nN o7 nL nL) (nN o275 nL nL)) (nN o155 (nN o234 nL nL) (nN o311 nL nL))) (nN o33 (nN o8 (nN o216 nL nL) (nN o7 nL nL)) (nN o173 (nN o252 nL nL) (nN o7 nL nL)))))) (nN o184 (nN o18 (nN o7 (nN o7 (nN o99 (nN o185 nL nL) (nN o7 nL nL)) (nN o144 (nN o223 nL nL) (nN o8 nL nL))) (nN (o75 P) (nN o125 (nN o204 nL nL) (nN o281 nL nL)) (nN o7 (nN o7 nL nL) (nN o319 nL nL)))) (nN o38 (nN o63 (nN o113 (nN o195 nL nL) (nN o271 nL nL)) (nN o8 (nN o8 nL nL) (nN o7 nL nL))) (nN o88 (nN o134 (nN o7 nL nL) (nN o291 nL nL)) (nN o171 (nN o250 nL nL) (nN o8 nL nL))))) (nN o23 (nN o33 (nN o58 (nN o107 (nN o190 nL nL) (nN o8 nL nL)) (nN o7 (nN o7 nL nL) (nN o304 nL nL))) (nN o8 (nN o7 (nN o209 nL nL) (nN o286 nL nL)) (nN o166 (nN o245 nL nL) (nN o7 nL nL)))) (nN o7 (nN o69 (nN o119 (nN o7 nL nL) (nN o7 nL nL)) (nN o157 (nN o236 nL nL) (nN o8 nL nL))) (nN o93 (nN o139 (nN o218 nL nL) (nN o7 nL nL)) (nN (o177 P) (nN o255 nL nL) (nN o332 nL nL))))))) (nN o6 (nN o10 (nN o7 (nN o26 (nN o8 (nN o98 (nN o7 (nN o336 nL nL) nL) (nN o258 nL nL)) (nN o142 (nN o221 nL nL) (nN o299 nL nL))) (nN o42 (nN o7 (nN o8 nL nL) (nN o280 nL nL)) (nN o8 (nN o8 nL nL) (nN o317 nL nL)))) (nN o7 (nN o61 (nN o111 (nN o193 nL nL) (nN o269 nL nL)) (nN o152 (nN o231 nL nL) (nN o308 nL nL))) (nN o86 (nN o133 (nN o212 nL nL) (nN o289 nL nL)) (nN o7 (nN o7 nL nL) (nN o327 nL nL))))) (nN o21 (nN o31 (nN o56 (nN o105 (nN o7 nL nL) (nN o264 nL nL)) (nN o147 (nN o226 nL nL) (nN o303 nL nL))) (nN o80 (nN o8 (nN o207 nL nL) (nN o7 nL nL)) (nN o165 (nN o244 nL nL) (nN o322 nL nL)))) (nN (o43 P) (nN o67 (nN o117 (nN o198 nL nL) (nN o8 nL nL)) (nN o7 (nN o7 nL nL) (nN o313 nL nL))) (nN o92 (nN o7 (nN o8 nL nL) (nN o294 nL nL)) (nN o175 (nN o253 nL nL) (nN o331 nL nL)))))) (nN o12 (nN o7 (nN o28 (nN o52 (nN o101 (nN o187 nL nL) (nN o260 nL nL)) (nN o8 (nN o8 nL nL) (nN o301 nL nL))) (nN o7 (nN o126 (nN o7 nL nL) (nN o283 nL nL)) (nN o163 (nN o242 nL nL) (nN o8 nL nL)))) (nN o40 (nN o65 (nN o8 (nN o8 nL nL) (nN o273 nL nL)) (nN o7 (nN o7 nL nL) (nN o310 nL nL))) (nN o90 (nN o136 (nN o214 nL nL) (nN o8 nL nL)) (nN o7 (nN o7 nL nL) (nN o329 nL nL))))) (nN o8 (nN o7 (nN o33 (nN (o108 P) (nN o7 nL nL) (nN o7 nL nL)) (nN o149 (nN o228 nL nL) (nN o306 nL nL))) (nN o7 (nN o131 (nN o8 nL nL) (nN o7 nL nL)) (nN o168 (nN o247 nL nL) (nN o324 nL nL)))) (nN o46 (nN (o71 P) (nN o121 (nN o200 nL nL) (nN o278 nL nL)) (nN o158 (nN o237 nL nL) (nN o315 nL nL))) (nN o95 (nN o7 (nN o7 nL nL) (nN o296 nL nL)) (nN o179 (nN o8 nL nL) (nN o334 nL nL)))))))))
def f1 : Fin_ := ⟨t1, 516, (PySem.Life.mk [] [] [] 0 [] [] false (List.toArray []) [] 0 false false false 0 [2000, 10, 10] false 0 true [] [] 0 false), (List.toArray []), (PySem.Drawn.mk 0 0 0 0), 849⟩
def fF : Fin_ := ⟨t1, 516, (PySem.Life.mk [] [] [] 0 [] [] false (List.toArray []) [] 0 false false false 0 [2000, 10, 10] false 0 true [] [] 0 false), (List.toArray []), (PySem.Drawn.mk 0 0 0 0), 849⟩
def KK (P : Params) : PySem.W.Frag := [(3, (o183 P)), (6, o6), (4, o4), (0, (o0 P)), (21, o19), (20, o18), (28, o23), (27, o22), (35, o27), (34, o26), (42, o31), (41, o30), (52, o38), (51, (o37 P)), (50, o7), (53, o39), (74, o56), (73, (o55 P)), (71, o53), (70, o52), (59, o44), (72, o54), (95, o72), (94, (o71 P)), (92, o69), (91, o68), (80, o60), (93, o70), (116, o88), (115, (o87 P)), (113, o85), (112, o84), (101, o76), (114, o86), (137, o104), (136, (o103 P)), (134, o101), (133, o100), (122, o92), (135, o102), (158, o121), (157, (o120 P)), (155, o118), (154, o117), (143, o109), (156, o119), (159, o122), (168, o128), (167, o127), (175, o132), (174, o131), (182, o136), (181, o135), (189, o140), (188, o139), (253, o178), (252, (o177 P)), (203, o148), (202, o147), (210, o152), (209, o151), (217, o156), (216, o155), (224, o160), (223, o159), (231, o164), (230, o163), (238, o168), (237, o167), (245, o172), (244, o171), (250, o175), (249, o174), (251, o176), (254, o179), (255, o180), (262, o187), (261, o186), (269, o191), (268, o190), (276, o195), (275, o194), (283, o199), (282, o198), (288, o202), (287, o201), (293, o205), (292, o204), (300, o209), (299, o208), (307, o213), (306, o212), (312, o216), (311, o215), (317, o219), (316, o218), (404, o271), (403, (o270 P)), (331, o227), (330, o226), (338, o231), (337, o230), (345, o235), (344, o234), (352, o239), (351, o238), (359, o243), (358, o242), (366, o247), (365, o246), (373, o251), (372, o250), (380, o255), (379, o254), (387, o259), (386, o258), (394, o264), (393, o263), (401, o268), (400, o267), (402, o269), (405, o272), (406, o273), (415, o279), (414, o278), (422, o283), (421, o282), (429, o287), (428, o286), (436, o291), (435, o290), (443, o295), (442, o294), (450, o299), (449, o298), (455, o302), (454, o301), (462, o306), (461, o305), (467, o309), (466, o308), (474, o313), (473, o312), (479, o316), (478, o315), (484, o319), (483, o318), (491, o323), (490, o322), (498, o327), (497, o326), (503, o330), (502, o329), (510, o334), (509, o333), (515, o337), (514, o336), (2, (o13 P))]
def env0 : PySem.Env := { scope := P0.main.scope, locals := mainNs, globals := mainNs, cells := [], code := (vR 13), frame := some 14 }
def q0 : Pos := (PySem.Pos.mk 0 0 0 0)
def posA : Pos := (PySem.Pos.mk 0 0 0 0)
def posB : Pos := (PySem.Pos.mk 0 0 0 0)
def pos0 : Pos := (PySem.Pos.mk 55 0 85 69)
def pos1 : Pos := (PySem.Pos.mk 268 0 290 15)
def body0 : List Stmt := behindTheImports P0
def c0 : Code := .body body0 env0
abbrev B0 : List Frame := [topFrame q0]
def l0 : List Stmt := (body0.drop 0).take 18
def l1 : List Stmt := (body0.drop 18).take 32
def t00 (w : World) : BT := match putAll (boot_heap w.params).objs.toList .nil 0 with | some (t, _) => t | none => .nil
theorem boot0 (w : World) : putAll (boot_heap w.params).objs.toList .nil 0 = some (t00 w, 11) := by kernel_rfl
theorem ha (w : World) (os : OsState) : topF (stQ P0 w) 11 (some (vR 6)) 12 (bootT w os (t00 w, 11)) (topStub P0) = some (fA.at w os, ⟨denQ tabQ (.body body0 env0), c0, posA, B0⟩) := by kernel_rfl
theorem hb (w : World) (os : OsState) : segF (stQ P0 w) 11 (some (vR 6)) 1 1 (fA.at w os) (headQ body0 env0 c0 posA B0) = some (.next, fB.at w os, c0, posB) := by kernel_rfl
theorem g0 (w : World) (os : OsState) : segF (stQ P0 w) 11 (some (vR 6)) 1 2192 (fB.at w os) (someQ l0 env0 c0 posB B0) = some (.next, f0.at w os, c0, pos0) := by kernel_rfl
theorem g1 (w : World) (os : OsState) : segF (stQ P0 w) 11 (some (vR 6)) 1 1388 (f0.at w os) (someQ l1 env0 c0 pos0 B0) = some (.next, f1.at w os, c0, pos1) := by kernel_rfl
theorem he (w : World) (os : OsState) : goF (stQ P0 w) 11 (some (vR 6)) 2 (f1.at w os) ⟨doneF .next, c0, pos1, B0⟩ = some (fF.at w os) := by kernel_rfl
theorem hbody : body0 = l0 ++ (l1 ++ ([])) := by kernel_rfl
theorem run_ (w : World) (os : OsState) : topRun treeTable P0 w 11 (some (vR 6)) (12 + (1 + (2192 + (1388 + (2))))) ⟨boot_heap w.params, Array.mk [], boot_drawn, boot_toks, os⟩ (topStub P0) = some (fF.at w os).abs := by
  have r := ahead (ha w os) (hb w os) hbody (lot (g0 w os) (lot (g1 w os) ((behind (he w os)))))
  rw [boot_abs (boot0 w)] at r
  exact r
theorem size_ (w : World) : ((boot_heap w.params).isNs mainGlobals && (Array.mk [] : Array GenState).size == 0, (boot_heap w.params).objs.size, (boot_heap w.params).nsMap mainGlobals "__annotations__") = (true, 11, (some (vR 6))) := by kernel_rfl
theorem look1 (w : World) (os : OsState) : looksF P0 (boot_heap w.params) (fF.at w os).abs = true := by kernel_rfl
theorem look2 (w : World) (os : OsState) : seenQ (PySem.W.view RR.prog [49]) names_ (importedModules P0.main.body) (fun s => xlAt (PySem.W.view RR.prog [49]) [] s && recOk RR.toRowW.records s) (fF.at w os).abs = openGood (PySem.W.view RR.prog [49]) names_ := by kernel_rfl
theorem frag_ (w : World) (os : OsState) : fragF (getT (fF.at w os)) 20000 = KK w.params := by kernel_rfl
theorem look_f (w : World) : (fa.all fun f => f.ok (KK w.params)) = true := by kernel_rfl
theorem look_d1 (w : World) : ((fns.take 70).all fun d => d.ok (KK w.params)) = true := by kernel_rfl
theorem look_d2 (w : World) : ((fns.drop 70).all fun d => d.ok (KK w.params)) = true := by kernel_rfl
theorem look_e (w : World) : (fns.map fun d => He.fnW (KK w.params) d.at_) = fns.map He.DefD.val := by kernel_rfl
theorem look_c (w : World) : ((eq_.ck (KK w.params)).all id, eq_.su (KK w.params), eq_.ds (KK w.params)) = (true, eq_.sv, eq_.dv w.params) := by kernel_rfl
theorem look_t (w : World) (os : OsState) : (ms (KK w.params)).map (getT (fF.at w os)) = List.replicate 1 (some tab0) := by kernel_rfl
theorem look3 (w : World) (os : OsState) : ob (fF.at w os) = hk.val w := Prod.ext (obs_join (frag_ w os) (look_f w) (all_cut 70 (look_d1 w) (look_d2 w)) (look_e w) (look_c w)) (by
  show (ms (fragF (getT (fF.at w os)) 20000)).map (getT (fF.at w os)) = _
  rw [frag_ w os]
  exact look_t w os)
theorem left_ : LeftO P0 (PySem.W.view RR.prog [49]) names_ (fun s => xlAt (PySem.W.view RR.prog [49]) [] s && recOk RR.toRowW.records s) hk.obs hk.val 100000 true :=
  left_lots fF (by kernel_rfl) (by rfl) (fun s => by kernel_rfl) (by rfl) size_ run_ look1 look2 fun w os => (ob_eq _).symm.trans (look3 w os)
def q_0 : List Stmt := (P0.main.body.drop 0).take 16
theorem w_0 : sumsQ TablesWhole.holds P0.main.scope ⟨P0.main.scope, [], [], [], none⟩ P0.main.scope q_0 = true := by kernel_rfl
def q_1 : List Stmt := (P0.main.body.drop 16).take 16
theorem w_1 : sumsQ TablesWhole.holds P0.main.scope ⟨P0.main.scope, [], [], [], none⟩ P0.main.scope q_1 = true := by kernel_rfl
def q_2 : List Stmt := (P0.main.body.drop 32).take 16
theorem w_2 : sumsQ TablesWhole.holds P0.main.scope ⟨P0.main.scope, [], [], [], none⟩ P0.main.scope q_2 = true := by kernel_rfl
def q_3 : List Stmt := (P0.main.body.drop 48).take 100000
theorem w_3 : sumsQ TablesWhole.holds P0.main.scope ⟨P0.main.scope, [], [], [], none⟩ P0.main.scope q_3 = true := by kernel_rfl
theorem told_ : toldQ TablesWhole.gather P0.main.scope ⟨P0.main.scope, [], [], [], none⟩ P0.main.scope P0.main.body = [] := by kernel_rfl
theorem wbody : P0.main.body = q_0 ++ (q_1 ++ (q_2 ++ (q_3 ++ ([])))) := by kernel_rfl
theorem whole_ : P0.tablesWhole = true := whole_of rfl rfl rfl told_ (by kernel_rfl) (sums_is wbody (sums_more w_0 (sums_more w_1 (sums_more w_2 (sums_more w_3 (by kernel_rfl))))))
end
end Cut
end K13
open PySem PySem.Calls PySem.W
open PyProof.Rows
set_option maxHeartbeats 0 in
theorem PySem.Challenge.cw_endlessplane_k13_whole_moved_carpets_holds : PySem.Challenge.rw_endlessplane_k13_whole_moved_carpets.Holds := by
  w_on
  o_law
  refine Ep.Hd.head_lots (r := K13.RR) (q := view K13.RR.prog [49]) (Hk := K13.hk) (ls := K13.names_) (df := HandSHeadRun.topDef K13.RR.prog 49) (kws := []) K13.Cut.left_ (by kernel_rfl) (by kernel_rfl) (by kernel_rfl) (by rfl) (by first | assumption | decide +kernel) (by decide +kernel) ⟨rfl, rfl, rfl, rfl, rfl, K13.Cut.whole_⟩ ?hw ?hc
  case hw => w_witness2
  case hc =>
    refine Ep.law_endM (l := PySem.Challenge.rw_endlessplane_k13_whole_moved_carpets) (x := "_law_script") 17 ["law"] rfl (by kernel_rfl) ⟨rfl, by decide, by decide⟩ ?hx ?F
    case hx =>
      intro y hy
      simp only [List.mem_cons, List.not_mem_nil, or_false] at hy
      rcases hy with rfl
      · kernel_rfl
    intro w mg fa h Y Ns hm0
    obtain ⟨K, KX, c, MT⟩ := Y
    have hm : mg ("law" : PySem.Str) = some (.ref fa) := by
      have e : (HandSHeadRun.topDef K13.RR.prog 49).name = ("law" : PySem.Str) := by kernel_rfl
      rw [← e]
      exact hm0
    exact ⟨K, KX, K13.final KX Ns hm c.d c.ck MT (List.cons.inj c.su).1 (List.cons.inj (List.cons.inj c.su).2).1 (List.cons.inj (List.cons.inj (List.cons.inj c.su).2).2).1⟩
