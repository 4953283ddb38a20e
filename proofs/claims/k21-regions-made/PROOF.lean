import PyProof.Rows.All
import Wide.All
import OpenK.AllK
import Wide.FinOn
import HandS.ForMost
import HandS.Walk
import HandS.Wide
import HandS.Defaults
import HandS.IsInst
import HandS.Exc
import HandS.Lambda
import HandS.CallSlots
import HandS.TupAny
import HandS.Deep
import HandS.Style
import HandS.TupMul
import PyProof.Rows.StrMul
import HandS.SortInts
import HandS.RaiseMore
import HandS.Text
import HandS.Zip
import HandS.TryOnly
import HandS.WordsExc
import HandS.Iter
import HandS.Comp
import HandS.Dict
import HandS.More
import KE.KIndexOf
import HandS.SlotsOwn
import HandS.HeadHook2
import HandS.HeadHook3
import HandS.EndTab
import HandS.ForExc
import HandS.ExcSuper
import KE.KExcSuper
import HandS.TryMany
import HandS.ExcIs
import KE.KExcIs
import KE.GoesEnum
import HandS.Star
import HandS.Conv
import HandS.DictComp
import KE.KDictZip
import KE.GoesMore
import HandS.GenBody
import PySem.Challenge.RW_endlessplane_k21_regions_made_and_refuse
set_option Elab.async false
set_option linter.all false
set_option maxRecDepth 100000
set_option maxHeartbeats 8000000
/-! Values as trees, worlds, what a value denotes. -/
namespace Ep
open PySem PySem.Spec L2
/-- a value, tuples and lists by their items; kls: a list that is never changed (the script, one of the top); gl: a def or class of the top; ref: a list that is changed by several defs -/
inductive T where
  | non | bl (b : Bool) | int (i : Int) | str (x : Str)
  | tup (xs : List T) | lst (xs : List T) | kls (xs : List T)
  | obj (C : Nat) (vs : List T)
  | gl (x : Str) | cl (C : Nat) | ty (n : String) | ref (k : Nat)
  | dct (ks : List Key) (vs : List T) | dtt (ks : List (List Key)) (vs : List T)
abbrev RS := List (List T)
inductive Out (α : Type) where
  | ok (a : α) (r : RS) | exn (c : Nat) (p : T) (r : RS) | bad
def M (α : Type) := RS → Out α
@[simp] def M.pure {α : Type} (a : α) : M α := fun r => .ok a r
@[simp] def M.bind {α β : Type} (m : M α) (k : α → M β) : M β := fun r => match m r with
  | .ok a r' => k a r'
  | .exn c p r' => .exn c p r'
  | .bad => .bad
instance : Monad M where
  pure := M.pure
  bind := M.bind
@[simp] def M.bad {α : Type} : M α := fun _ => .bad
@[simp] def M.lift {α : Type} : Option α → M α
  | some a => M.pure a
  | none => M.bad
/-- the program: its written part, its names, the classes' names and their fields -/
structure Gm where
  K : PySem.W.Frag
  mg : Str → Option Value
  cn : Nat → Str
  fl : Nat → List Str
  tb : List (Addr × Str) := []
/-- a world: what stands still (public), the changed lists' addresses -/
structure Fx where
  me : Addr
  xa : Addr
  xd : Addr
structure Wd where
  P : Hp
  R : List Addr
  fx : Fx
/-- a tuple that stands: tracked, or of the written part -/
def TupAt (K : PySem.W.Frag) (H : Hp) (a : Addr) (xs : List V) : Prop := H a = some (.tup xs) ∨ ∃ (o : Obj) (its : Array Value) (n : Nat), K.lookup a = some o ∧ o.cls = .type "tuple" ∧ o.data = .seq its n ∧ its.size ≤ sizeLine ∧ Vals xs its.toList
theorem tup_sq {K : PySem.W.Frag} {P H : Hp} {a : Addr} {xs : List V} (s : Same P H) (h : TupAt K P a xs) : SqT K H a xs := by
  rcases h with h | h
  · exact .inl (.inl (s _ _ h))
  · exact .inr h
theorem TupAt.mono {K : PySem.W.Frag} {P H : Hp} {a : Addr} {xs : List V} (h : TupAt K P a xs) (s : Same P H) : TupAt K H a xs := by
  rcases h with h | h
  · exact .inl (s _ _ h)
  · exact .inr h
mutual
inductive Den (G : Gm) (w : Wd) : V → T → Prop
  | non : Den G w .non .non
  | bl (b : Bool) : Den G w (.bl b) (.bl b)
  | int (i : Int) : Den G w (.int i) (.int i)
  | str (x : Str) : Den G w (.str x) (.str x)
  | tup {a : Addr} {vs : List V} {ts : List T} (h : TupAt G.K w.P a vs) (z : ts.length ≤ sizeLine) (d : Dens G w vs ts) : Den G w (.ref a) (.tup ts)
  | lst {a : Addr} {vs : List V} {ts : List T} (h : w.P a = some (.lst vs)) (z : ts.length ≤ sizeLine) (d : Dens G w vs ts) : Den G w (.ref a) (.lst ts)
  | kls {a : Addr} {vs : List V} {ts : List T} (h : SqL G.K w.P a vs) (z : ts.length ≤ sizeLine) (d : Dens G w vs ts) : Den G w (.ref a) (.kls ts)
  | obj {a cA dx : Addr} {C : Nat} {vs : List V} {ts : List T} (c : G.mg (G.cn C) = some (.ref cA)) (h : w.P a = some (.ins cA dx ((G.fl C).zip vs))) (l : (G.fl C).length = vs.length) (d : Dens G w vs ts) : Den G w (.ref a) (.obj C ts)
  | gl {x : Str} {a : Addr} (h : G.mg x = some (.ref a)) : Den G w (.ref a) (.gl x)
  | cl {C : Nat} {a : Addr} (h : G.mg (G.cn C) = some (.ref a)) : Den G w (.ref a) (.cl C)
  | ty (n : String) : Den G w (.ty n) (.ty n)
  | ref {k : Nat} {a : Addr} (h : w.R[k]? = some a) : Den G w (.ref a) (.ref k)
  | dct {a : Addr} {ks : List Key} {vs : List V} {ts : List T} (h : w.P a = some (.dK (ks.zip vs))) (l : ks.length = ts.length) (d : Dens G w vs ts) : Den G w (.ref a) (.dct ks ts)
  | dtt {a : Addr} {ks : List (List Key)} {vs : List V} {ts : List T} (h : w.P a = some (.dT (ks.zip vs))) (l : ks.length = ts.length) (d : Dens G w vs ts) : Den G w (.ref a) (.dtt ks ts)
inductive Dens (G : Gm) (w : Wd) : List V → List T → Prop
  | nil : Dens G w [] []
  | cons {v : V} {vs : List V} {t : T} {ts : List T} (h : Den G w v t) (r : Dens G w vs ts) : Dens G w (v :: vs) (t :: ts)
end
/-- what a later world keeps -/
structure Later (w w' : Wd) : Prop where
  pub : Same w.P w'.P
  refs : ∃ more, w'.R = w.R ++ more
theorem Later.refl (w : Wd) : Later w w := ⟨Same.refl _, [], by simp⟩
theorem Later.trans {w w1 w2 : Wd} (a : Later w w1) (b : Later w1 w2) : Later w w2 := ⟨a.pub.trans b.pub, by
  obtain ⟨m, e⟩ := a.refs
  obtain ⟨m', e'⟩ := b.refs
  exact ⟨m ++ m', by rw [e', e, List.append_assoc]⟩⟩
theorem same_t {K : PySem.W.Frag} {H H' : Hp} {a : Addr} {xs : List V} (e : Same H H') (h : SqT K H a xs) : SqT K H' a xs := by
  rcases h with (h | ⟨o, h⟩) | h
  · exact .inl (.inl (e _ _ h))
  · exact .inl (.inr ⟨o, e _ _ h⟩)
  · exact .inr h
mutual
theorem Den.mono {G : Gm} {w w' : Wd} (L : Later w w') : ∀ {v : V} {t : T}, Den G w v t → Den G w' v t
  | _, _, .non => .non
  | _, _, .bl b => .bl b
  | _, _, .int i => .int i
  | _, _, .str x => .str x
  | _, _, .tup h z d => .tup (h.mono L.pub) z (Dens.mono L d)
  | _, _, .lst h z d => .lst (L.pub _ _ h) z (Dens.mono L d)
  | _, _, .kls h z d => .kls (L.pub.seq h) z (Dens.mono L d)
  | _, _, .obj c h l d => .obj c (L.pub _ _ h) l (Dens.mono L d)
  | _, _, .gl h => .gl h
  | _, _, .cl h => .cl h
  | _, _, .ty n => .ty n
  | _, _, .dct h l d => .dct (L.pub _ _ h) l (Dens.mono L d)
  | _, _, .dtt h l d => .dtt (L.pub _ _ h) l (Dens.mono L d)
  | _, _, .ref (k := k) (a := a) h => .ref (by
      obtain ⟨m, e⟩ := L.refs
      rw [e, List.getElem?_append_left (by
        have := (List.getElem?_eq_some_iff.mp h).1
        exact this)]
      exact h)
theorem Dens.mono {G : Gm} {w w' : Wd} (L : Later w w') : ∀ {vs : List V} {ts : List T}, Dens G w vs ts → Dens G w' vs ts
  | _, _, .nil => .nil
  | _, _, .cons h r => .cons (Den.mono L h) (Dens.mono L r)
end
theorem Dens.length {G : Gm} {w : Wd} : ∀ {vs : List V} {ts : List T}, Dens G w vs ts → vs.length = ts.length
  | _, _, .nil => rfl
  | _, _, .cons _ r => by simp [Dens.length r]
theorem Dens.append {G : Gm} {w : Wd} : ∀ {vs ws : List V} {ts us : List T}, Dens G w vs ts → Dens G w ws us → Dens G w (vs ++ ws) (ts ++ us)
  | _, _, _, _, .nil, s => s
  | _, _, _, _, .cons h r, s => .cons h (Dens.append r s)
theorem Dens.get {G : Gm} {w : Wd} : ∀ {vs : List V} {ts : List T} {i : Nat} {t : T}, Dens G w vs ts → ts[i]? = some t → ∃ v, vs[i]? = some v ∧ Den G w v t
  | _, _, _, _, .nil, e => by (simp at e)
  | _, _, 0, _, .cons h r, e => by simp at e; subst e; exact ⟨_, rfl, h⟩
  | _, _, i + 1, _, .cons h r, e => by
    obtain ⟨v, h1, h2⟩ := Dens.get (i := i) r (by simpa using e)
    exact ⟨v, by simpa using h1, h2⟩
theorem Dens.getV {G : Gm} {w : Wd} : ∀ {vs : List V} {ts : List T} {i : Nat} {v : V}, Dens G w vs ts → vs[i]? = some v → ∃ t, ts[i]? = some t ∧ Den G w v t
  | _, _, _, _, .nil, e => by (simp at e)
  | _, _, 0, _, .cons h r, e => by simp at e; subst e; exact ⟨_, rfl, h⟩
  | _, _, i + 1, _, .cons h r, e => by
    obtain ⟨v, h1, h2⟩ := Dens.getV (i := i) r (by simpa using e)
    exact ⟨v, by simpa using h1, h2⟩
theorem Dens.set {G : Gm} {w : Wd} {v : V} {t : T} (d : Den G w v t) : ∀ {vs : List V} {ts : List T} (i : Nat), Dens G w vs ts → Dens G w (vs.set i v) (ts.set i t)
  | _, _, _, .nil => .nil
  | _, _, 0, .cons _ r => .cons d r
  | _, _, i + 1, .cons h r => .cons h (Dens.set d i r)
theorem Dens.take {G : Gm} {w : Wd} : ∀ {vs : List V} {ts : List T} (n : Nat), Dens G w vs ts → Dens G w (vs.take n) (ts.take n)
  | _, _, 0, _ => .nil
  | _, _, n + 1, .nil => .nil
  | _, _, n + 1, .cons h r => .cons h (Dens.take n r)
theorem Dens.drop {G : Gm} {w : Wd} : ∀ {vs : List V} {ts : List T} (n : Nat), Dens G w vs ts → Dens G w (vs.drop n) (ts.drop n)
  | _, _, 0, h => h
  | _, _, n + 1, .nil => .nil
  | _, _, n + 1, .cons h r => Dens.drop n r
/-- the changed lists stand as r says -/
structure RefsOk (G : Gm) (w : Wd) (H : Hp) (r : RS) : Prop where
  nd : w.R.Nodup
  len : w.R.length = r.length
  out : ∀ a ∈ w.R, w.P a = none
  at_ : ∀ (k : Nat) (xs : List T), r[k]? = some xs → ∃ a vs, w.R[k]? = some a ∧ H a = some (.lst vs) ∧ Dens G w vs xs ∧ xs.length ≤ sizeLine
/-- no table of code objects -/
def NoTab (o : HO) : Prop := ∀ ps, o ≠ .tbl ps
/-- no table, nothing of the machine's own -/
structure Pl (o : HO) : Prop where
  tb : ∀ ps, o ≠ .tbl ps
  ex : ∀ f, o ≠ .ext f
/-- something stands there that is no table -/
def Vs (H : Hp) (a : Addr) : Prop := ∃ o, H a = some o ∧ NoTab o
theorem vs_of {H : Hp} {a : Addr} {o : HO} (h : H a = some o) (n : NoTab o := by intro ps e; cases e) : Vs H a := ⟨o, h, n⟩
theorem nvs {H : Hp} {a : Addr} (h : H a = none) : ¬ Vs H a := fun ⟨_, e, _⟩ => by rw [h] at e; cases e
theorem Vs.put {H : Hp} {a p : Addr} {o : HO} (h : Vs H a) (n : NoTab o) : Vs (upd H p o) a := by
  by_cases e : a = p
  · subst e; exact ⟨o, upd_same, n⟩
  · obtain ⟨u, h1, h2⟩ := h; exact ⟨u, by rw [upd_ne e]; exact h1, h2⟩
theorem ne_nv {H : Hp} {a p : Addr} {o : HO} (h : H a = some o) (n : NoTab o) (hp : ¬ Vs H p) : a ≠ p := fun e => hp (e ▸ ⟨o, h, n⟩)
structure Good (G : Gm) (w : Wd) (H : Hp) (r : RS) : Prop where
  sub : Same w.P H
  refs : RefsOk G w H r
  tabs : LamX.Tabs G.tb H
  nt : ∀ a o, w.P a = some o → NoTab o
theorem TabS.put {H : Hp} {T p : Addr} {q : Str} {o : HO} (t : LamX.TabS H T q) (h : H p = none ∨ ∃ u, H p = some u ∧ Pl u) : LamX.TabS (upd H p o) T q := by
  obtain ⟨ps, h1, h2, h3⟩ := t
  have nT : T ≠ p := fun e => by
    rcases h with z | ⟨u, z, k⟩
    · rw [e, z] at h1; cases h1
    · rw [e, z] at h1; exact k.tb ps (Option.some.inj h1)
  refine ⟨ps, by rw [upd_ne nT]; exact h1, h2, fun pos cv hc => ?_⟩
  obtain ⟨c, e1, e2⟩ := h3 pos cv hc
  have nc : c ≠ p := fun e => by
    rcases h with z | ⟨u, z, k⟩
    · rw [e, z] at e2; cases e2
    · rw [e, z] at e2; unfold LamX.CodeO at e2; exact k.ex _ (Option.some.inj e2)
  exact ⟨c, e1, by rw [upd_ne nc]; exact e2⟩
theorem tabs_put {tb : List (Addr × Str)} {H : Hp} {p : Addr} {o : HO} (t : LamX.Tabs tb H) (h : H p = none ∨ ∃ u, H p = some u ∧ Pl u) : LamX.Tabs tb (upd H p o) := fun q hq => TabS.put (t q hq) h
/-- from H to H': public things stay, the untracked of others stays hidden, all but the changed lists stays -/
structure Step (w : Wd) (H : Hp) (w' : Wd) (H' : Hp) : Prop where
  pub : Same w.P w'.P
  fr : ∀ a o, a ∉ w.R → H a = some o → NoTab o → H' a = some o
  keep : ∀ a, Vs H a → Vs H' a
  hid : ∀ a, a ∉ w.R → Vs H a → w.P a = none → w'.P a = none
  refs : ∃ more, w'.R = w.R ++ more ∧ ∀ a ∈ more, ¬ Vs H a
  me : w'.fx = w.fx
theorem Step.refl (w : Wd) (H : Hp) : Step w H w H := ⟨Same.refl _, fun _ _ _ h _ => h, fun _ h => h, fun _ _ _ h => h, ⟨[], by simp, by simp⟩, rfl⟩
theorem Step.later {w w' : Wd} {H H' : Hp} (s : Step w H w' H') : Later w w' := ⟨s.pub, by obtain ⟨m, e, _⟩ := s.refs; exact ⟨m, e⟩⟩
theorem Step.trans {w w1 w2 : Wd} {H H1 H2 : Hp} (a : Step w H w1 H1) (b : Step w1 H1 w2 H2) : Step w H w2 H2 := by
  obtain ⟨m, e, hm⟩ := a.refs
  obtain ⟨m2, e2, hm2⟩ := b.refs
  have notin : ∀ x, x ∉ w.R → Vs H x → x ∉ w1.R := fun x h1 h2 h3 => by
    rw [e] at h3
    rcases List.mem_append.mp h3 with h | h
    · exact h1 h
    · exact hm x h h2
  refine ⟨a.pub.trans b.pub, fun x o h1 h2 h4 => ?_, fun x h => b.keep x (a.keep x h), fun x h1 h2 h3 => ?_, ⟨m ++ m2, by rw [e2, e, List.append_assoc], fun x hx => ?_⟩, b.me.trans a.me⟩
  · exact b.fr x o (notin x h1 ⟨o, h2, h4⟩) (a.fr x o h1 h2 h4) h4
  · exact b.hid x (notin x h1 h2) (a.keep x h2) (a.hid x h1 h2 h3)
  · rcases List.mem_append.mp hx with h | h
    · exact hm x h
    · exact fun hn => hm2 x h (a.keep x hn)
theorem RefsOk.there {G : Gm} {w : Wd} {H : Hp} {r : RS} (x : RefsOk G w H r) {a : Addr} (h : a ∈ w.R) : ∃ vs, H a = some (.lst vs) := by
  obtain ⟨k, hk, e⟩ := List.getElem_of_mem h
  have hk' : k < r.length := by rw [← x.len]; exact hk
  obtain ⟨b, vs, h1, h2, _, _⟩ := x.at_ k r[k] (by simp [hk'])
  have : b = a := by
    rw [List.getElem?_eq_getElem hk] at h1
    exact (Option.some.inj h1).symm.trans e
  subst this
  exact ⟨vs, h2⟩
/-- a new thing, public at once -/
def Wd.add (w : Wd) (p : Addr) (o : HO) : Wd := ⟨upd w.P p o, w.R, w.fx⟩
section
variable {G : Gm} {w : Wd} {H : Hp} {r : RS} {p : Addr} {o : HO}
theorem Good.noref (g : Good G w H r) (hp : H p = none) : p ∉ w.R := fun h => by
  obtain ⟨vs, e⟩ := g.refs.there h
  rw [hp] at e
  cases e
theorem Good.nopub (g : Good G w H r) (hp : H p = none) : w.P p = none := by
  cases e : w.P p with
  | none => rfl
  | some u => exact absurd (g.sub p u e) (by rw [hp]; simp)
theorem Good.new (g : Good G w H r) (hp : H p = none) (no : NoTab o := by intro ps e; cases e) : Step w H (w.add p o) (upd H p o) ∧ Good G (w.add p o) (upd H p o) r := by
  have hP := g.nopub hp
  have hR := g.noref hp
  have st : Step w H (w.add p o) (upd H p o) := by
    refine ⟨fun a u e => ?_, fun a u _ e _ => ?_, fun a h => ?_, fun a _ h1 h2 => ?_, ⟨[], by simp [Wd.add], by simp⟩, rfl⟩
    · show upd w.P p o a = some u
      rw [upd_ne (ne_of_none e hP)]
      exact e
    · rw [upd_ne (ne_of_none e hp)]
      exact e
    · exact h.put no
    · show upd w.P p o a = none
      rw [upd_ne (fun e => nvs hp (by rw [← e]; exact h1))]
      exact h2
  refine ⟨st, fun a u e => ?_, ⟨g.refs.nd, g.refs.len, fun a ha => ?_, fun k xs hk => ?_⟩, tabs_put g.tabs (.inl hp), fun a u e => ?_⟩
  · have e : upd w.P p o a = some u := e
    by_cases h : a = p
    · subst h
      rw [upd_same] at e ⊢
      exact e
    · rw [upd_ne h] at e ⊢
      exact g.sub a u e
  · show upd w.P p o a = none
    rw [upd_ne (fun e => hR (by rw [← e]; exact ha))]
    exact g.refs.out a ha
  · obtain ⟨a, vs, h1, h2, h3, hz⟩ := g.refs.at_ k xs hk
    refine ⟨a, vs, h1, ?_, h3.mono st.later, hz⟩
    rw [upd_ne (ne_of_none h2 hp)]
    exact h2
  · have e : upd w.P p o a = some u := e
    by_cases h : a = p
    · subst h
      rw [upd_same] at e
      cases e
      exact no
    · rw [upd_ne h] at e
      exact g.nt a u e
end
/-- a slot of a def: nothing, a value, a list of its own that is still changed, an instance that is being made (its class's address, its fields so far) -/
inductive Pv where
  | lst (xs : List T) | ins (C : Nat) (vs : List T) | dk (ks : List Key) (vs : List T) | dt (ks : List (List Key)) (vs : List T)
inductive Slot where
  | un | val (t : T) | pv (o : Pv)
abbrev Slot.own (xs : List T) : Slot := .pv (.lst xs)
abbrev Slot.ins (C : Nat) (vs : List T) : Slot := .pv (.ins C vs)
abbrev Slot.dk (ks : List Key) (vs : List T) : Slot := .pv (.dk ks vs)
/-- a thing of a def's own, as it stands -/
inductive PvOk (G : Gm) (w : Wd) (a : Addr) : HO → Pv → Prop
  | lst {vs : List V} {xs : List T} (z : xs.length ≤ sizeLine) (d : Dens G w vs xs) : PvOk G w a (.lst vs) (.lst xs)
  | ins {C : Nat} {cA dx : Addr} {vs : List V} {ts : List T} (hm : a = w.fx.me) (c : G.mg (G.cn C) = some (.ref cA)) (l : ts.length ≤ (G.fl C).length) (d : Dens G w vs ts) : PvOk G w a (.ins cA dx (((G.fl C).take ts.length).zip vs)) (.ins C ts)
  | dk {ks : List Key} {vs : List V} {ts : List T} (l : ks.length = ts.length) (z : ks.length ≤ sizeLine) (d : Dens G w vs ts) : PvOk G w a (.dK (ks.zip vs)) (.dk ks ts)
  | dt {ks : List (List Key)} {vs : List V} {ts : List T} (l : ks.length = ts.length) (z : ks.length ≤ sizeLine) (d : Dens G w vs ts) : PvOk G w a (.dT (ks.zip vs)) (.dt ks ts)
theorem PvOk.mono {G : Gm} {w w' : Wd} {a : Addr} (L : Later w w') (em : w'.fx = w.fx) {o : HO} {p : Pv} (h : PvOk G w a o p) : PvOk G w' a o p := by
  cases h with
  | lst z d => exact .lst z (d.mono L)
  | ins hm c l d => exact .ins (hm.trans (by rw [em])) c l (d.mono L)
  | dk l z d => exact .dk l z (d.mono L)
  | dt l z d => exact .dt l z (d.mono L)
theorem PvOk.pl {G : Gm} {w : Wd} {a : Addr} {o : HO} {p : Pv} (h : PvOk G w a o p) : Pl o := by
  cases h <;> exact ⟨fun _ e => (by cases e), fun _ e => (by cases e)⟩
abbrev Env := List Slot
/-- the slots hold what env says; H0: the heap at the def's entry -/
def SlotAt (G : Gm) (w : Wd) (H0 H : Hp) (σ : L2.St) (oa : Nat → Addr) (i : Nat) : Slot → Prop
  | .un => True
  | .val t => ∃ v, σ[i]? = some (some v) ∧ Den G w v t
  | .pv q => σ[i]? = some (some (.ref (oa i))) ∧ w.P (oa i) = none ∧ oa i ∉ w.R ∧ ¬ Vs H0 (oa i) ∧ ∃ o, H (oa i) = some o ∧ PvOk G w (oa i) o q
def Slot.priv : Slot → Bool
  | .pv _ => true
  | _ => false
structure Slots (G : Gm) (w : Wd) (H0 H : Hp) (σ : L2.St) (env : Env) : Prop where
  len : σ.length = env.length
  ex : ∃ oa : Nat → Addr, (∀ (i : Nat) (s : Slot), env[i]? = some s → SlotAt G w H0 H σ oa i s) ∧ ∀ (i j : Nat) (s u : Slot), env[i]? = some s → env[j]? = some u → s.priv = true → u.priv = true → oa i = oa j → i = j
section
variable {G : Gm} {w w' : Wd} {H0 H H' : Hp} {r r' : RS} {σ : L2.St} {env : Env}
theorem Slots.step (s : Slots G w H0 H σ env) (st : Step w H w' H') : Slots G w' H0 H' σ env := by
  obtain ⟨oa, h1, h2⟩ := s.ex
  refine ⟨s.len, oa, fun i s hi => ?_, h2⟩
  have h := h1 i s hi
  have nr : ∀ a, a ∉ w.R → Vs H a → a ∉ w'.R := fun a ha hn hm => by
    obtain ⟨m, e, hm'⟩ := st.refs
    rw [e] at hm
    rcases List.mem_append.mp hm with z | z
    · exact ha z
    · exact hm' a z hn
  cases s with
  | un => trivial
  | val t =>
    obtain ⟨v, e, d⟩ := h
    exact ⟨v, e, d.mono st.later⟩
  | pv q =>
    obtain ⟨e, h3, h4, h5, o, h6, h7⟩ := h
    exact ⟨e, st.hid _ h4 ⟨o, h6, h7.pl.tb⟩ h3, nr _ h4 ⟨o, h6, h7.pl.tb⟩, h5, o, st.fr _ _ h4 h6 h7.pl.tb, h7.mono st.later st.me⟩
end
/-! ### what is wanted behind a computation -/
/-- an exception of the top's class c, made of one value -/
structure ExcIs (G : Gm) (w : Wd) (H : Hp) (c : Nat) (p : T) (cls : Value) (d : Option Addr) : Prop where
  ex : ∃ cA dd v f, G.mg (G.cn c) = some (.ref cA) ∧ cls = .ref cA ∧ d = some dd ∧ G.fl c = [f] ∧ H dd = some (.xd [(f, v)]) ∧ Den G w v p
def OutP {α : Type} (G : Gm) (w : Wd) (H : Hp) (E : XK) (okP : α → RS → Wd → Hp → Prop) : Out α → Prop
  | .ok a r' => ∀ w' H', Step w H w' H' → Good G w' H' r' → okP a r' w' H'
  | .exn c p r' => ∀ w' H' cls d, Step w H w' H' → Good G w' H' r' → ExcIs G w' H' c p cls d → E cls d H'
  | .bad => False
theorem OutP.mono {α : Type} {G : Gm} {w w1 : Wd} {H H1 : Hp} {E : XK} {P : α → RS → Wd → Hp → Prop} {o : Out α} (h : OutP G w H E P o) (s : Step w H w1 H1) : OutP G w1 H1 E P o := by
  cases o with
  | ok a r' => exact fun w' H' s' g => h w' H' (s.trans s') g
  | exn c p r' => exact fun w' H' cls d s' g x => h w' H' cls d (s.trans s') g x
  | bad => exact h
theorem OutP.imp {α : Type} {G : Gm} {w : Wd} {H : Hp} {E : XK} {P P' : α → RS → Wd → Hp → Prop} {o : Out α} (h : OutP G w H E P o) (hi : ∀ a r w' H', Step w H w' H' → Good G w' H' r → P a r w' H' → P' a r w' H') : OutP G w H E P' o := by
  cases o with
  | ok a r' => exact fun w' H' s' g => hi _ _ _ _ s' g (h w' H' s' g)
  | exn c p r' => exact h
  | bad => exact h
theorem OutP.bind {α β : Type} {G : Gm} {w : Wd} {H : Hp} {E : XK} {P : β → RS → Wd → Hp → Prop} {m : M α} {k : α → M β} {r : RS} (h : OutP G w H E P ((m >>= k) r)) :
    OutP G w H E (fun a r1 w1 H1 => OutP G w1 H1 E P (k a r1)) (m r) := by
  have e : (m >>= k) r = M.bind m k r := rfl
  rw [e] at h
  unfold M.bind at h
  cases q : m r with
  | ok a r' =>
    rw [q] at h
    exact fun w' H' s g => h.mono s
  | exn c p r' =>
    rw [q] at h
    exact h
  | bad =>
    rw [q] at h
    exact h
end Ep
namespace Ep
open PySem PySem.Spec L2
/-! ### readings by computations -/
abbrev WE0 (W : WX) (σ : L2.St) : XK := fun c d H => W c d σ H
def tS (G : Gm) (W : WX) (f : Env → M T) : TE := fun σ H Q => ∃ w H0 env r, Good G w H r ∧ Slots G w H0 H σ env ∧ OutP G w H (WE0 W σ) (fun t _ w' H' => ∀ v, Den G w' v t → Q v H') (f env r)
def tSB (G : Gm) (W : WX) (f : Env → M Bool) : TT := fun σ H Q => ∃ w H0 env r, Good G w H r ∧ Slots G w H0 H σ env ∧ OutP G w H (WE0 W σ) (fun b _ _ H' => Q b H') (f env r)
def fAll : List (Env → M T) → Env → M (List T)
  | [], _ => pure []
  | f :: fs, env => f env >>= fun x => fAll fs env >>= fun xs => pure (x :: xs)
def tSA (G : Gm) (W : WX) (fs : List (Env → M T)) : TA := fun σ H Q => ∃ w H0 env r, Good G w H r ∧ Slots G w H0 H σ env ∧ OutP G w H (WE0 W σ) (fun ts _ w' H' => ∀ vs, Dens G w' vs ts → ts.length = fs.length → Q vs H') (fAll fs env r)
abbrev SE (X : Cx) (G : Gm) (W : WX) (e : Expr) (f : Env → M T) : Prop := PE X e (tS G W f)
abbrev SB (X : Cx) (G : Gm) (W : WX) (e : Expr) (f : Env → M Bool) : Prop := PT X e (tSB G W f)
abbrev SW (X : Cx) (G : Gm) (W : WX) (e : Expr) (f : Env → M Bool) : Prop := PW X e (tSB G W f)
abbrev SA (X : Cx) (G : Gm) (W : WX) (es : List Expr) (fs : List (Env → M T)) : Prop := PA X es (tSA G W fs)
theorem pe_imp {X : Cx} {e : Expr} {t t' : TE} (h : PE X e t) (i : ∀ σ H Q, t' σ H Q → t σ H Q) : PE X e t' := ⟨fun pins s σ H Q I q => h.run pins s σ H Q I (i σ H Q q)⟩
theorem pt_imp {X : Cx} {e : Expr} {t t' : TT} (h : PT X e t) (i : ∀ σ H Q, t' σ H Q → t σ H Q) : PT X e t' := ⟨fun pins s σ H Q I q => h.run pins s σ H Q I (i σ H Q q)⟩
theorem pw_imp {X : Cx} {e : Expr} {t t' : TT} (h : PW X e t) (i : ∀ σ H Q, t' σ H Q → t σ H Q) : PW X e t' := ⟨fun wh pins s σ H Q I q => h.run wh pins s σ H Q I (i σ H Q q)⟩
theorem pa_imp {X : Cx} {e : List Expr} {t t' : TA} (h : PA X e t) (i : ∀ σ H Q, t' σ H Q → t σ H Q) : PA X e t' := ⟨fun pos pins s σ H Q I q => h.run pos pins s σ H Q I (i σ H Q q)⟩
section
variable {G : Gm} {W : WX} {w : Wd} {H0 H : Hp} {r : RS} {σ : L2.St} {env : Env}
/-- behind a first part the second one, in the world that is then -/
theorem seqE {α : Type} {f : Env → M T} {k : T → M α} {P : α → RS → Wd → Hp → Prop} {Q : VK} (g : Good G w H r) (s : Slots G w H0 H σ env) (h : OutP G w H (WE0 W σ) P ((f env >>= k) r))
    (n : ∀ t r1 w1 H1 v, Good G w1 H1 r1 → Slots G w1 H0 H1 σ env → Step w H w1 H1 → Den G w1 v t → OutP G w1 H1 (WE0 W σ) P (k t r1) → Q v H1) : tS G W f σ H Q :=
  ⟨w, H0, env, r, g, s, h.bind.imp fun t r1 w1 H1 st g1 o v d => n t r1 w1 H1 v g1 (s.step st) st d o⟩
theorem seqB {α : Type} {f : Env → M Bool} {k : Bool → M α} {P : α → RS → Wd → Hp → Prop} {Q : Bool → Hp → Prop} (g : Good G w H r) (s : Slots G w H0 H σ env) (h : OutP G w H (WE0 W σ) P ((f env >>= k) r))
    (n : ∀ b r1 w1 H1, Good G w1 H1 r1 → Slots G w1 H0 H1 σ env → Step w H w1 H1 → OutP G w1 H1 (WE0 W σ) P (k b r1) → Q b H1) : tSB G W f σ H Q :=
  ⟨w, H0, env, r, g, s, h.bind.imp fun t r1 w1 H1 st g1 o => n t r1 w1 H1 g1 (s.step st) st o⟩
theorem seqA {α : Type} {fs : List (Env → M T)} {k : List T → M α} {P : α → RS → Wd → Hp → Prop} {Q : List V → Hp → Prop} (g : Good G w H r) (s : Slots G w H0 H σ env) (h : OutP G w H (WE0 W σ) P ((fAll fs env >>= k) r))
    (n : ∀ t r1 w1 H1 v, Good G w1 H1 r1 → Slots G w1 H0 H1 σ env → Step w H w1 H1 → Dens G w1 v t → t.length = fs.length → OutP G w1 H1 (WE0 W σ) P (k t r1) → Q v H1) : tSA G W fs σ H Q :=
  ⟨w, H0, env, r, g, s, h.bind.imp fun t r1 w1 H1 st g1 o v d l => n t r1 w1 H1 v g1 (s.step st) st d l o⟩
theorem OutP.here {α : Type} {E : XK} {P : α → RS → Wd → Hp → Prop} {a : α} (g : Good G w H r) (h : OutP G w H E P (.ok a r)) : P a r w H := h w H (Step.refl _ _) g
end
/-! ### names, constants -/
section
variable {X : Cx} {G : Gm} {W : WX} {pos : Pos}
def fVar (i : Nat) : Env → M T := fun env => match env[i]? with
  | some (.val t) => pure t
  | _ => M.bad
theorem s_var {x : Str} (i : Nat) (hN : X.N[i]? = some x) (hv : Vis X.env.scope x) (hd : (x == ("__debug__" : Str)) = false := by decide) (hcd : (x == ("__classdict__" : Str)) = false := by decide) : SE X G W (.Name x pos) (fVar i) :=
  pe_imp (pe_var hN hv hd hcd) fun σ H Q ⟨w, H0, env, r, g, s, h⟩ => by
    unfold fVar at h
    cases e : env[i]? with
    | none => rw [e] at h; exact h.elim
    | some sl =>
      rw [e] at h
      cases sl with
      | val t =>
        obtain ⟨oa, hs, _⟩ := s.ex
        obtain ⟨v, e1, d⟩ := hs i _ e
        exact ⟨v, e1, OutP.here g h v d⟩
      | un => exact h.elim
      | pv _ => exact h.elim
def fC (t : T) : Env → M T := fun _ => pure t
theorem s_c {e : Expr} {v : V} {t : T} (h : PE X e (tC v)) (d : ∀ w, Den G w v t) : SE X G W e (fC t) := pe_imp h fun σ H Q ⟨w, H0, env, r, g, s, h⟩ => OutP.here g h v (d w)
theorem s_int {i : Int} {j : Nat} : SE X G W (.Constant (.int i) j pos) (fC (.int i)) := s_c pe_int fun _ => .int _
theorem s_bl {b : Bool} {j : Nat} : SE X G W (.Constant (.bool b) j pos) (fC (.bl b)) := s_c pe_bl fun _ => .bl _
theorem s_non {j : Nat} : SE X G W (.Constant .none j pos) (fC .non) := s_c pe_non fun _ => .non
theorem s_str {x : Str} {j : Nat} : SE X G W (.Constant (.str x) j pos) (fC (.str x)) := s_c pe_str fun _ => .str _
/-- a name of the top: its value denotes t in every world -/
theorem s_glob {x : Str} {v : V} {u : Value} {t : T} (hg : Gl X x) (hm : X.mg x = some u) (r : RelV v u) (d : ∀ w, Den G w v t) (hd : (x == ("__debug__" : Str)) = false := by decide) : SE X G W (.Name x pos) (fC t) := s_c (pe_glob hg hm r hd) d
theorem s_bltn {x : Str} {v : V} {u : Value} {t : T} (hg : Gl X x) (hm : X.mg x = none) (hv : bootBuiltins x = some u) (r : RelV v u) (d : ∀ w, Den G w v t) (hn : x ≠ "__name__" := by decide) (hd : (x == ("__debug__" : Str)) = false := by decide) : SE X G W (.Name x pos) (fC t) := s_c (pe_bltn hg hm hv r hn hd) d
end
/-! ### lists that are only looked at -/
/-- a value, or a list that the def still changes -/
def DenB (G : Gm) (w : Wd) (H : Hp) (v : V) (t : T) : Prop := Den G w v t ∨ ∃ a vs xs, v = .ref a ∧ t = .lst xs ∧ a ∉ w.R ∧ H a = some (.lst vs) ∧ Dens G w vs xs ∧ xs.length ≤ sizeLine
def tSK (G : Gm) (W : WX) (f : Env → M T) : TE := fun σ H Q => ∃ w H0 env r, Good G w H r ∧ Slots G w H0 H σ env ∧ OutP G w H (WE0 W σ) (fun t _ w' H' => ∀ v, DenB G w' H' v t → Q v H') (f env r)
abbrev SK (X : Cx) (G : Gm) (W : WX) (e : Expr) (f : Env → M T) : Prop := PE X e (tSK G W f)
theorem DenB.step {G : Gm} {w w' : Wd} {H H' : Hp} {v : V} {t : T} (d : DenB G w H v t) (s : Step w H w' H') : DenB G w' H' v t := by
  rcases d with d | ⟨a, vs, xs, e1, e2, h1, h2, h3, h4⟩
  · exact .inl (d.mono s.later)
  · refine .inr ⟨a, vs, xs, e1, e2, fun hm => ?_, s.fr _ _ h1 h2 (by intro _ e; cases e), h3.mono s.later, h4⟩
    obtain ⟨m, e, hm'⟩ := s.refs
    rw [e] at hm
    rcases List.mem_append.mp hm with z | z
    · exact h1 z
    · exact hm' a z (vs_of h2)
section
variable {X : Cx} {G : Gm} {W : WX} {pos : Pos} {a b : Expr} {f g : Env → M T}
theorem k_of (h : SE X G W a f) : SK X G W a f := pe_imp h fun σ H Q ⟨w, H0, env, r, g, s, h⟩ => ⟨w, H0, env, r, g, s, h.imp fun _ _ _ _ _ _ z v d => z v (.inl d)⟩
def fBor (i : Nat) : Env → M T := fun env => match env[i]? with
  | some (.val t) => pure t
  | some (.pv (.lst xs)) => pure (.lst xs)
  | _ => M.bad
theorem k_var {x : Str} (i : Nat) (hN : X.N[i]? = some x) (hv : Vis X.env.scope x) (hd : (x == ("__debug__" : Str)) = false := by decide) (hcd : (x == ("__classdict__" : Str)) = false := by decide) : SK X G W (.Name x pos) (fBor i) :=
  pe_imp (pe_var hN hv hd hcd) fun σ H Q ⟨w, H0, env, r, g, s, h⟩ => by
    unfold fBor at h
    cases e : env[i]? with
    | none => rw [e] at h; exact h.elim
    | some sl =>
      rw [e] at h
      obtain ⟨oa, hs, _⟩ := s.ex
      cases sl with
      | val t =>
        obtain ⟨v, e1, d⟩ := hs i _ e
        exact ⟨v, e1, OutP.here g h v (.inl d)⟩
      | pv o =>
        cases o with
        | lst xs =>
          obtain ⟨e1, h2, h3, h4, o, h5, h6⟩ := hs i _ e
          cases h6 with
          | lst hz h6 => exact ⟨_, e1, OutP.here g h _ (.inr ⟨_, _, xs, rfl, rfl, h3, h5, h6, hz⟩)⟩
        | _ => exact h.elim
      | un => exact h.elim
theorem seqK {α : Type} {w : Wd} {H0 H : Hp} {r : RS} {σ : L2.St} {env : Env} {k : T → M α} {P : α → RS → Wd → Hp → Prop} {Q : VK} (g : Good G w H r) (s : Slots G w H0 H σ env) (h : OutP G w H (WE0 W σ) P ((f env >>= k) r))
    (n : ∀ t r1 w1 H1 v, Good G w1 H1 r1 → Slots G w1 H0 H1 σ env → Step w H w1 H1 → DenB G w1 H1 v t → OutP G w1 H1 (WE0 W σ) P (k t r1) → Q v H1) : tSK G W f σ H Q :=
  ⟨w, H0, env, r, g, s, h.bind.imp fun t r1 w1 H1 st g1 o v d => n t r1 w1 H1 v g1 (s.step st) st d o⟩
end
/-! ### operators -/
section
variable {X : Cx} {G : Gm} {W : WX} {pos : Pos}
/-- a rule by values computes h -/
def OpV (G : Gm) (r2 : R2) (h : T → T → Option T) : Prop := ∀ w H r x y t u z Q, Good G w H r → Den G w x t → Den G w y u → h t u = some z → (∀ v w' H', Step w H w' H' → Good G w' H' r → Den G w' v z → Q v H') → r2 x y H Q
def fBin (h : T → T → Option T) (f g : Env → M T) : Env → M T := fun env => f env >>= fun x => g env >>= fun y => M.lift (h x y)
theorem liftP {α : Type} {w : Wd} {H : Hp} {E : XK} {r : RS} {P : α → RS → Wd → Hp → Prop} {o : Option α} (h : OutP G w H E P (M.lift o r)) : ∃ a, o = some a ∧ ∀ w' H', Step w H w' H' → Good G w' H' r → P a r w' H' := by
  cases o with
  | none => exact h.elim
  | some a => exact ⟨a, rfl, h⟩
variable {a b c : Expr} {f g k : Env → M T}
theorem op_use {r2 : R2} {h : T → T → Option T} {σ : L2.St} {H : Hp} {Q : VK} (hv : OpV G r2 h) (hq : tS G W (fBin h f g) σ H Q) : tOp r2 (tS G W f) (tS G W g) σ H Q := by
  obtain ⟨w, H0, env, r, g0, s, h0⟩ := hq
  refine seqE g0 s h0 fun t r1 w1 H1 x g1 s1 st1 d1 h1 => ?_
  refine seqE g1 s1 h1 fun u r2 w2 H2 y g2 s2 st2 d2 h2 => ?_
  obtain ⟨z, ez, hz⟩ := liftP h2
  exact hv w2 H2 r2 x y t u z Q g2 (d1.mono st2.later) d2 ez fun v w' H' st g' d => hz w' H' st g' v d
theorem s_bin {op : Operator} {r2 : R2} {h : T → T → Option T} (ho : OpR X (binaryOp op) r2) (hv : OpV G r2 h) (ha : SE X G W a f) (hb : SE X G W b g) : SE X G W (.BinOp a op b pos) (fBin h f g) :=
  pe_imp (pe_op ho ha hb) fun σ H Q hq => op_use hv hq
def UnV (G : Gm) (r1 : V → Hp → VK → Prop) (h : T → Option T) : Prop := ∀ w H r x t z Q, Good G w H r → Den G w x t → h t = some z → (∀ v w' H', Step w H w' H' → Good G w' H' r → Den G w' v z → Q v H') → r1 x H Q
def fUn (h : T → Option T) (f : Env → M T) : Env → M T := fun env => f env >>= fun x => M.lift (h x)
theorem s_un {op : UnaryOp} {r1 : V → Hp → VK → Prop} {h : T → Option T} (ho : UnR X (unaryOp op) r1) (hv : UnV G r1 h) (ha : SE X G W a f) : SE X G W (.UnaryOp op a pos) (fUn h f) :=
  pe_imp (pe_un ho ha) fun σ H Q ⟨w, H0, env, r, g0, s, h0⟩ => by
    refine seqE g0 s h0 fun t r1 w1 H1 x g1 s1 st1 d1 h1 => ?_
    obtain ⟨z, ez, hz⟩ := liftP h1
    exact hv w1 H1 r1 x t z Q g1 d1 ez fun v w' H' st g' d => hz w' H' st g' v d
/-- comparisons -/
def fCmp (h : T → T → Option Bool) (f g : Env → M T) : Env → M T := fBin (fun x y => (h x y).map T.bl) f g
def fCmpB (h : T → T → Option Bool) (f g : Env → M T) : Env → M Bool := fun env => f env >>= fun x => g env >>= fun y => M.lift (h x y)
def CmpV (G : Gm) (r2 : R2) (h : T → T → Option Bool) : Prop := ∀ w H r x y t u z Q, Good G w H r → DenB G w H x t → DenB G w H y u → h t u = some z → Q (.bl z) H → r2 x y H Q
theorem s_cmp {op : CmpOp} {r2 : R2} {h : T → T → Option Bool} (ho : OpR X (compareOp op) r2) (hv : CmpV G r2 h) (ha : SK X G W a f) (hb : SK X G W b g) (hm : behindInMarks op b = false) : SE X G W (.Compare a [op] [b] pos) (fCmp h f g) :=
  pe_imp (pe_cmpR ho ha hb hm) fun σ H Q ⟨w, H0, env, r, g0, s, h0⟩ => by
    refine seqK g0 s h0 fun t r1 w1 H1 x g1 s1 st1 d1 h1 => ?_
    refine seqK g1 s1 h1 fun u r2 w2 H2 y g2 s2 st2 d2 h2 => ?_
    obtain ⟨z, ez, hz⟩ := liftP h2
    have ez : (h t u).map T.bl = some z := ez
    cases e : h t u with
    | none => rw [e] at ez; cases ez
    | some b =>
      rw [e] at ez
      cases ez
      exact hv w2 H2 r2 x y t u b _ g2 (d1.step st2) d2 e (hz w2 H2 (Step.refl _ _) g2 _ (.bl b))
theorem s_cmpB {op : CmpOp} {r2 : R2} {h : T → T → Option Bool} (ho : OpR X (compareOp op) r2) (hv : CmpV G r2 h) (ha : SK X G W a f) (hb : SK X G W b g) (hm : behindInMarks op b = false) : SB X G W (.Compare a [op] [b] pos) (fCmpB h f g) :=
  pt_imp (pt_cmpR ho ha hb hm) fun σ H Q ⟨w, H0, env, r, g0, s, h0⟩ => by
    show tOp r2 (tSK G W f) (tSK G W g) σ H fun x H' => ∃ k, x = .bl k ∧ Q k H'
    refine seqK g0 s h0 fun t r1 w1 H1 x g1 s1 st1 d1 h1 => ?_
    refine seqK g1 s1 h1 fun u r2 w2 H2 y g2 s2 st2 d2 h2 => ?_
    obtain ⟨z, ez, hz⟩ := liftP h2
    exact hv w2 H2 r2 x y t u z _ g2 (d1.step st2) d2 ez ⟨z, rfl, hz w2 H2 (Step.refl _ _) g2⟩
def fChainB (h h' : T → T → Option Bool) (f g k : Env → M T) : Env → M Bool := fun env => f env >>= fun x => g env >>= fun y => M.lift (h x y) >>= fun c => if c = true then k env >>= fun z => M.lift (h' y z) else pure false
def fChain (h h' : T → T → Option Bool) (f g k : Env → M T) : Env → M T := fun env => f env >>= fun x => g env >>= fun y => M.lift (h x y) >>= fun c => if c = true then k env >>= fun z => M.lift ((h' y z).map T.bl) else pure (.bl false)
end
/-! ### chains, and, or, not, if .. else, arguments -/
section
variable {X : Cx} {G : Gm} {W : WX} {pos : Pos} {a b c : Expr} {f g k : Env → M T} {rest : List Expr} {p q : Env → M Bool}
theorem s_chain {op op' : CmpOp} {r2 r3 : R2} {h h' : T → T → Option Bool} (ho : OpR X (compareOp op) r2) (ho' : OpR X (compareOp op') r3) (hv : CmpV G r2 h) (hv' : CmpV G r3 h') (ha : SE X G W a f) (hb : SE X G W b g) (hc : SE X G W c k)
    (hm : lastMarks [op, op'] [b, c] = false) : SE X G W (.Compare a [op, op'] [b, c] pos) (fChain h h' f g k) :=
  pe_imp (pe_chain ho ho' ha hb hc hm) fun σ H Q ⟨w, H0, env, r, g0, s, h0⟩ => by
    refine seqE g0 s h0 fun t r1 w1 H1 x g1 s1 st1 d1 h1 => ?_
    refine seqE g1 s1 h1 fun u r2 w2 H2 y g2 s2 st2 d2 h2 => ?_
    obtain ⟨z, ez, h3⟩ := liftP h2.bind
    refine hv w2 H2 r2 x y t u z _ g2 (.inl (d1.mono st2.later)) (.inl d2) ez ⟨z, rfl, ?_⟩
    have h4 := h3 w2 H2 (Step.refl _ _) g2
    cases z with
    | true =>
      refine seqE g2 s2 h4 fun t3 r3 w3 H3 x3 g3 s3 st3 d3 h5 => ?_
      obtain ⟨z', ez', h6⟩ := liftP h5
      cases e : h' u t3 with
      | none => rw [e] at ez'; cases ez'
      | some b =>
        rw [e] at ez'
        cases ez'
        exact hv' w3 H3 r3 y x3 u t3 b _ g3 (.inl (d2.mono st3.later)) (.inl d3) e (h6 w3 H3 (Step.refl _ _) g3 _ (.bl b))
    | false => exact OutP.here g2 h4 _ (.bl false)
theorem s_chainB {op op' : CmpOp} {r2 r3 : R2} {h h' : T → T → Option Bool} (ho : OpR X (compareOp op) r2) (ho' : OpR X (compareOp op') r3) (hv : CmpV G r2 h) (hv' : CmpV G r3 h') (ha : SE X G W a f) (hb : SE X G W b g) (hc : SE X G W c k)
    (hm : lastMarks [op, op'] [b, c] = false) : SB X G W (.Compare a [op, op'] [b, c] pos) (fChainB h h' f g k) :=
  pt_imp (pt_chain ho ho' ha hb hc hm) fun σ H Q ⟨w, H0, env, r, g0, s, h0⟩ => by
    show tChain r2 r3 (tS G W f) (tS G W g) (tS G W k) σ H fun x H' => ∃ k, x = .bl k ∧ Q k H'
    refine seqE g0 s h0 fun t r1 w1 H1 x g1 s1 st1 d1 h1 => ?_
    refine seqE g1 s1 h1 fun u r2 w2 H2 y g2 s2 st2 d2 h2 => ?_
    obtain ⟨z, ez, h3⟩ := liftP h2.bind
    refine hv w2 H2 r2 x y t u z _ g2 (.inl (d1.mono st2.later)) (.inl d2) ez ⟨z, rfl, ?_⟩
    have h4 := h3 w2 H2 (Step.refl _ _) g2
    cases z with
    | true =>
      refine seqE g2 s2 h4 fun t3 r3 w3 H3 x3 g3 s3 st3 d3 h5 => ?_
      obtain ⟨z', ez', h6⟩ := liftP h5
      exact hv' w3 H3 r3 y x3 u t3 z' _ g3 (.inl (d2.mono st3.later)) (.inl d3) ez' ⟨z', rfl, h6 w3 H3 (Step.refl _ _) g3⟩
    | false => exact ⟨false, rfl, OutP.here g2 h4⟩
/-- a bool as a test -/
def fToB (f : Env → M T) : Env → M Bool := fun env => f env >>= fun x => match x with
  | .bl b => pure b
  | _ => M.bad
def fOfB (p : Env → M Bool) : Env → M T := fun env => p env >>= fun b => pure (.bl b)
theorem s_val (ha : SE X G W a f) (he : ∀ whole, isTrue a X.env whole = (do let v ← whole; standAt a.pos; holding [v] (truthy v)) := by intro _; rfl) : SB X G W a (fToB f) :=
  pt_imp (pt_val ha he) fun σ H Q ⟨w, H0, env, r, g0, s, h0⟩ => by
    refine seqE g0 s h0 fun t r1 w1 H1 x g1 s1 st1 d1 h1 => ?_
    cases d1 with
    | bl b => exact ⟨b, rfl, OutP.here g1 h1⟩
    | _ => exact h1.elim
/-- a value's truth -/
def truT : T → Option Bool
  | .non => some false
  | .bl b => some b
  | .int i => some (i != 0)
  | .str x => if x.length ≤ 100000 then some ((x.length : Int) != 0) else none
  | .tup xs => some (!xs.isEmpty)
  | .lst xs => some (!xs.isEmpty)
  | .kls xs => some (!xs.isEmpty)
  | _ => none
theorem Dens.emp {w : Wd} {vs : List V} {ts : List T} (d : Dens G w vs ts) : vs.isEmpty = ts.isEmpty := by cases d <;> rfl
def fTru (f : Env → M T) : Env → M Bool := fun env => f env >>= fun x => M.lift (truT x)
theorem s_tru (hK : X.K = G.K) (ha : SE X G W a f) (he : ∀ whole, isTrue a X.env whole = (do let v ← whole; standAt a.pos; holding [v] (truthy v)) := by intro _; rfl) : SB X G W a (fTru f) :=
  pt_imp (pt_truth ha he) fun σ H Q ⟨w, H0, env, r, g0, s, h0⟩ => by
    refine seqE g0 s h0 fun t r1 w1 H1 x g1 s1 st1 d1 h1 => ?_
    obtain ⟨z, ez, h2⟩ := liftP h1
    refine ⟨z, ?_, h2 w1 H1 (Step.refl _ _) g1⟩
    rw [hK]
    cases d1 with
    | non => cases ez; rfl
    | bl b => cases ez; rfl
    | int i => cases ez; rfl
    | str y =>
      have ez : (if y.length ≤ 100000 then some ((y.length : Int) != 0) else none) = some z := ez
      by_cases h : y.length ≤ 100000
      · rw [if_pos h] at ez
        cases ez
        exact ⟨Nat.le_trans h (by decide), rfl⟩
      · rw [if_neg h] at ez
        cases ez
    | tup hs _ d => cases ez; exact .inr (.inl ⟨_, tup_sq g1.sub hs, by rw [d.emp]⟩)
    | lst hs _ d => cases ez; exact .inl ⟨_, SqL.of (g1.sub _ _ hs), by rw [d.emp]⟩
    | kls hs _ d => cases ez; exact .inl ⟨_, g1.sub.seq hs, by rw [d.emp]⟩
    | _ => cases ez
def fAndB (p q : Env → M Bool) : Env → M Bool := fun env => p env >>= fun c => if c = true then q env else pure false
def fOrB (p q : Env → M Bool) : Env → M Bool := fun env => p env >>= fun c => if c = true then pure true else q env
def fNotB (p : Env → M Bool) : Env → M Bool := fun env => p env >>= fun c => pure (!c)
theorem w_and1 (ha : SB X G W a p) : SW X G W (.BoolOp .And [a] pos) p := pw_and1 ha
theorem w_or1 (ha : SB X G W a p) : SW X G W (.BoolOp .Or [a] pos) p := pw_or1 ha
theorem w_and (ha : SB X G W a p) (hb : SW X G W (.BoolOp .And (b :: rest) pos) q) : SW X G W (.BoolOp .And (a :: b :: rest) pos) (fAndB p q) :=
  pw_imp (pw_and ha hb) fun σ H Q ⟨w, H0, env, r, g0, s, h0⟩ => by
    refine seqB g0 s h0 fun t r1 w1 H1 g1 s1 st1 h1 => ?_
    cases t with
    | true => exact ⟨w1, H0, env, r1, g1, s1, h1⟩
    | false => exact OutP.here g1 h1
theorem w_or (ha : SB X G W a p) (hb : SW X G W (.BoolOp .Or (b :: rest) pos) q) : SW X G W (.BoolOp .Or (a :: b :: rest) pos) (fOrB p q) :=
  pw_imp (pw_or ha hb) fun σ H Q ⟨w, H0, env, r, g0, s, h0⟩ => by
    refine seqB g0 s h0 fun t r1 w1 H1 g1 s1 st1 h1 => ?_
    cases t with
    | false => exact ⟨w1, H0, env, r1, g1, s1, h1⟩
    | true => exact OutP.here g1 h1
theorem w_not (ha : SB X G W a p) : SB X G W (.UnaryOp .Not a pos) (fNotB p) :=
  pt_imp (pt_not ha) fun σ H Q ⟨w, H0, env, r, g0, s, h0⟩ => by
    refine seqB g0 s h0 fun t r1 w1 H1 g1 s1 st1 h1 => ?_
    exact OutP.here g1 h1
theorem w_t (ha : SW X G W a p) : SB X G W a p := ha.pt
/-- as values: bools -/
def fAnd (f g : Env → M T) : Env → M T := fun env => f env >>= fun x => match x with
  | .bl true => g env
  | .bl false => pure (.bl false)
  | _ => M.bad
def fOr (f g : Env → M T) : Env → M T := fun env => f env >>= fun x => match x with
  | .bl true => pure (.bl true)
  | .bl false => g env
  | _ => M.bad
def fNot (f : Env → M T) : Env → M T := fun env => f env >>= fun x => match x with
  | .bl b => pure (.bl (!b))
  | _ => M.bad
theorem s_one {op : BoolOp} (ha : SE X G W a f) : SE X G W (.BoolOp op [a] pos) f := pe_one ha
theorem s_and (ha : SE X G W a f) (hb : SE X G W (.BoolOp .And (b :: rest) pos) g) : SE X G W (.BoolOp .And (a :: b :: rest) pos) (fAnd f g) :=
  pe_imp (pe_and ha hb) fun σ H Q ⟨w, H0, env, r, g0, s, h0⟩ => by
    refine seqE g0 s h0 fun t r1 w1 H1 x g1 s1 st1 d1 h1 => ?_
    cases d1 with
    | bl b =>
      cases b with
      | true => exact ⟨true, rfl, w1, H0, env, r1, g1, s1, h1⟩
      | false => exact ⟨false, rfl, OutP.here g1 h1 _ (.bl false)⟩
    | _ => exact h1.elim
theorem s_or (ha : SE X G W a f) (hb : SE X G W (.BoolOp .Or (b :: rest) pos) g) : SE X G W (.BoolOp .Or (a :: b :: rest) pos) (fOr f g) :=
  pe_imp (pe_or ha hb) fun σ H Q ⟨w, H0, env, r, g0, s, h0⟩ => by
    refine seqE g0 s h0 fun t r1 w1 H1 x g1 s1 st1 d1 h1 => ?_
    cases d1 with
    | bl b =>
      cases b with
      | true => exact ⟨true, rfl, OutP.here g1 h1 _ (.bl true)⟩
      | false => exact ⟨false, rfl, w1, H0, env, r1, g1, s1, h1⟩
    | _ => exact h1.elim
theorem s_not (ha : SE X G W a f) : SE X G W (.UnaryOp .Not a pos) (fNot f) :=
  pe_imp (pe_not ha) fun σ H Q ⟨w, H0, env, r, g0, s, h0⟩ => by
    refine seqE g0 s h0 fun t r1 w1 H1 x g1 s1 st1 d1 h1 => ?_
    cases d1 with
    | bl b => exact ⟨b, rfl, OutP.here g1 h1 _ (.bl _)⟩
    | _ => exact h1.elim
def fIf (p : Env → M Bool) (f g : Env → M T) : Env → M T := fun env => p env >>= fun c => if c = true then f env else g env
theorem s_if (hc : SB X G W c p) (ha : SE X G W a f) (hb : SE X G W b g) : SE X G W (.IfExp c a b pos) (fIf p f g) :=
  pe_imp (pe_ifExp hc ha hb) fun σ H Q ⟨w, H0, env, r, g0, s, h0⟩ => by
    refine seqB g0 s h0 fun t r1 w1 H1 g1 s1 st1 h1 => ?_
    cases t with
    | true => exact ⟨w1, H0, env, r1, g1, s1, h1⟩
    | false => exact ⟨w1, H0, env, r1, g1, s1, h1⟩
theorem a_nil : SA X G W [] [] := pa_imp pa_nil fun σ H Q ⟨w, H0, env, r, g0, s, h0⟩ => OutP.here g0 h0 [] .nil rfl
theorem a_cons {e : Expr} {es : List Expr} {fs : List (Env → M T)} (ha : SE X G W e f) (hr : SA X G W es fs) (hs : starEach (e :: es) X.env = (false, eval e X.env) :: starEach es X.env := by rfl) : SA X G W (e :: es) (f :: fs) :=
  pa_imp (pa_cons ha hr hs) fun σ H Q ⟨w, H0, env, r, g0, s, h0⟩ => by
    refine seqE g0 s h0 fun t r1 w1 H1 x g1 s1 st1 d1 h1 => ?_
    refine seqA g1 s1 h1 fun ts r2 w2 H2 xs g2 s2 st2 d2 l h2 => ?_
    exact OutP.here g2 h2 (x :: xs) (.cons (d1.mono st2.later) d2) (by rw [List.length_cons, List.length_cons, l])
def fTup (fs : List (Env → M T)) : Env → M T := fun env => fAll fs env >>= fun ts => pure (.tup ts)
def fLst (fs : List (Env → M T)) : Env → M T := fun env => fAll fs env >>= fun ts => pure (.lst ts)
theorem s_tup {es : List Expr} {fs : List (Env → M T)} {j : Nat} (ha : SA X G W es fs) (hl : fs.length ≤ 1000 := by decide) : SE X G W (.Tuple es j pos) (fTup fs) :=
  pe_imp (pe_tup ha) fun σ H Q ⟨w, H0, env, r, g0, s, h0⟩ => by
    refine seqA g0 s h0 fun ts r1 w1 H1 vs g1 s1 st1 d1 l h1 => ?_
    have hz : ts.length ≤ sizeLine := by rw [l]; exact Nat.le_trans hl (by decide)
    refine ⟨by rw [d1.length]; exact hz, fun p hp => ?_⟩
    obtain ⟨st, g2⟩ := g1.new (o := .tup vs) hp
    exact h1 _ _ st g2 _ (.tup (.inl upd_same) hz (d1.mono st.later))
theorem s_lst {es : List Expr} {fs : List (Env → M T)} (ha : SA X G W es fs) (hl : fs.length ≤ 1000 := by decide) : SE X G W (.List es pos) (fLst fs) :=
  pe_imp (pe_lst ha) fun σ H Q ⟨w, H0, env, r, g0, s, h0⟩ => by
    refine seqA g0 s h0 fun ts r1 w1 H1 vs g1 s1 st1 d1 l h1 => ?_
    have hz : ts.length ≤ sizeLine := by rw [l]; exact Nat.le_trans hl (by decide)
    refine ⟨by rw [d1.length]; exact hz, fun p hp => ?_⟩
    obtain ⟨st, g2⟩ := g1.new (o := .lst vs) hp
    exact h1 _ _ st g2 _ (.lst upd_same hz (d1.mono st.later))
end
end Ep
namespace Ep
open PySem PySem.Spec L2
section
variable {X : Cx} {G : Gm} {W : WX} {pos : Pos} {a b : Expr} {f g : Env → M T}
/-- the items of a list, a tuple -/
def seqT (r : RS) : T → Option (List T)
  | .lst xs => some xs
  | .kls xs => some xs
  | .tup xs => some xs
  | .ref k => r[k]?
  | _ => none
inductive SeqD (G : Gm) (w : Wd) (H : Hp) (a : Addr) (xs : List T) : Prop where
  | l (vs : List V) (h : SqL G.K H a vs) (d : Dens G w vs xs) (z : xs.length ≤ sizeLine) : SeqD G w H a xs
  | t (vs : List V) (h : SqT G.K H a vs) (d : Dens G w vs xs) (z : xs.length ≤ sizeLine) : SeqD G w H a xs
theorem seq_of {w : Wd} {H : Hp} {r : RS} {v : V} {t : T} {xs : List T} (g : Good G w H r) (d : DenB G w H v t) (e : seqT r t = some xs) : ∃ a, v = .ref a ∧ SeqD G w H a xs := by
  rcases d with d | ⟨a, vs, ys, e1, e2, h1, h2, h3, h4⟩
  · cases d with
    | tup h z d => cases e; exact ⟨_, rfl, .t _ (tup_sq g.sub h) d z⟩
    | lst h z d => cases e; exact ⟨_, rfl, .l _ (SqL.of (g.sub _ _ h)) d z⟩
    | kls h z d => cases e; exact ⟨_, rfl, .l _ (g.sub.seq h) d z⟩
    | @ref k a h =>
      obtain ⟨b, vs, h1, h2, h3, h4⟩ := g.refs.at_ k xs e
      rw [h] at h1
      cases h1
      exact ⟨_, rfl, .l vs (SqL.of h2) h3 h4⟩
    | _ => cases e
  · subst e1 e2
    cases e
    exact ⟨_, rfl, .l vs (SqL.of h2) h3 h4⟩
theorem SeqD.z {w : Wd} {H : Hp} {a : Addr} {xs : List T} (h : SeqD G w H a xs) : xs.length ≤ sizeLine := by cases h <;> assumption
/-! ### items -/
def ixT (r : RS) (t : T) (i : T) : Option T := match t, i with
  | .str z, .int i => if z.length ≤ 100000 then (atI z.cps.toList i).map fun c => .str ⟨#[c]⟩ else none
  | t, .int i => (seqT r t).bind fun xs => atI xs i
  | _, _ => none
def fIx (f g : Env → M T) : Env → M T := fun env => f env >>= fun x => g env >>= fun y => fun r => M.lift (ixT r x y) r
theorem dens_at {w : Wd} {vs : List V} {xs : List T} {i : Int} {t : T} (d : Dens G w vs xs) (e : atI xs i = some t) : ∃ v, atI vs i = some v ∧ Den G w v t := by
  unfold atI at e ⊢
  rw [d.length]
  cases q : ixN xs.length i with
  | none => rw [q] at e; cases e
  | some j =>
    rw [q] at e
    exact d.get e
theorem s_ix (hK : X.K = G.K) (ha : SK X G W a f) (hb : SE X G W b g) (hs : PlainIx b) : SE X G W (.Subscript a b pos) (fIx f g) :=
  pe_imp (pe_ix ix_seq ha hb hs) fun σ H Q ⟨w, H0, env, r, g0, s, h0⟩ => by
    refine seqK g0 s h0 fun t r1 w1 H1 x g1 s1 st1 d1 h1 => ?_
    refine seqE g1 s1 h1 fun u r2 w2 H2 y g2 s2 st2 d2 h2 => ?_
    have d1 := d1.step st2
    obtain ⟨z, ez, h3⟩ := liftP h2
    have fin : ∀ v, Den G w2 v z → Q v H2 := fun v d => h3 w2 H2 (Step.refl _ _) g2 v d
    rw [hK]
    have seqs : ∀ i, y = .int i → ((seqT r2 t).bind fun xs => atI xs i) = some z → rIx G.K x y H2 Q := fun i ey e => by
      cases q : seqT r2 t with
      | none => rw [q] at e; cases e
      | some xs =>
        rw [q] at e
        obtain ⟨p, rfl, sd⟩ := seq_of g2 d1 q
        cases sd with
        | l vs hh dd _ =>
          obtain ⟨v, e1, e2⟩ := dens_at dd e
          exact .inl ⟨p, vs, i, v, rfl, ey, hh, e1, fin v e2⟩
        | t vs hh dd _ =>
          obtain ⟨v, e1, e2⟩ := dens_at dd e
          exact .inr (.inl ⟨p, vs, i, v, rfl, ey, hh, e1, fin v e2⟩)
    cases d2 with
    | int i =>
      cases t with
      | str zz =>
        have ez : (if zz.length ≤ 100000 then (atI zz.cps.toList i).map fun c => T.str ⟨#[c]⟩ else none) = some z := ez
        by_cases hz : zz.length ≤ 100000
        · rw [if_pos hz] at ez
          cases q : atI zz.cps.toList i with
          | none => rw [q] at ez; cases ez
          | some c =>
            rw [q] at ez
            cases ez
            have : x = .str zz := by
              rcases d1 with d1 | ⟨_, _, _, _, e2, _⟩
              · cases d1; rfl
              · cases e2
            subst this
            exact .inr (.inr ⟨zz, i, c, rfl, rfl, Nat.le_trans hz (by decide), q, fin _ (.str _)⟩)
        · rw [if_neg hz] at ez; cases ez
      | _ => exact seqs i rfl ez
    | _ => cases t <;> cases ez
/-! ### slices -/
def fO : Option (Env → M T) → Env → M (Option Int)
  | none, _ => pure none
  | some f, env => f env >>= fun x => match x with
    | .int i => pure (some i)
    | _ => M.bad
def tSO (G : Gm) (W : WX) (f : Option (Env → M T)) : TO := fun σ H Q => ∃ w H0 env r, Good G w H r ∧ Slots G w H0 H σ env ∧ OutP G w H (WE0 W σ) (fun o _ _ H' => Q o H') (fO f env r)
theorem po_imp {e : Option Expr} {t t' : TO} (h : PO X e t) (i : ∀ σ H Q, t' σ H Q → t σ H Q) : PO X e t' := ⟨fun pins s σ H Q I q => h.run pins s σ H Q I (i σ H Q q)⟩
theorem o_none : PO X none (tSO G W none) := po_imp po_none fun σ H Q ⟨w, H0, env, r, g, s, h⟩ => OutP.here g h
theorem o_some (ha : SE X G W a f) : PO X (some a) (tSO G W (some f)) := po_imp (po_some ha) fun σ H Q ⟨w, H0, env, r, g0, s, h0⟩ => by
  refine seqE g0 s h0 fun t r1 w1 H1 x g1 s1 st1 d1 h1 => ?_
  cases d1 with
  | int i => exact ⟨i, rfl, OutP.here g1 h1⟩
  | _ => exact h1.elim
def cutT (xs : List T) (lo hi : Option Int) : List T := (xs.drop (HT.sIx xs.length 0 lo)).take (HT.sIx xs.length xs.length hi - HT.sIx xs.length 0 lo)
def slT (r : RS) (t : T) (lo hi : Option Int) : Option T := match t with
  | .str z => if z.length ≤ 100000 then some (.str (cutS z lo hi)) else none
  | .lst xs => some (.lst (cutT xs lo hi))
  | .kls xs => some (.lst (cutT xs lo hi))
  | .ref k => r[k]?.map fun xs => .lst (cutT xs lo hi)
  | .tup xs => some (.tup (cutT xs lo hi))
  | _ => none
theorem Dens.cut {w : Wd} {vs : List V} {xs : List T} (d : Dens G w vs xs) (lo hi : Option Int) : Dens G w (cutV vs lo hi) (cutT xs lo hi) := by
  unfold cutV cutT
  rw [d.length]
  exact (d.drop _).take _
theorem cutT_length (xs : List T) (lo hi : Option Int) : (cutT xs lo hi).length ≤ xs.length := by
  unfold cutT
  rw [List.length_take, List.length_drop]
  omega
theorem tup_inj {K : PySem.W.Frag} : True := trivial
/-- a slice's value -/
def SlVal (X : Cx) (G : Gm) (r3 : V → Option Int → Option Int → Hp → VK → Prop) : Prop := ∀ w H r x t lo hi z Q, Good G w H r → DenB G w H x t → slT r t lo hi = some z → (∀ v w' H', Step w H w' H' → Good G w' H' r → Den G w' v z → Q v H') → r3 x lo hi H Q
theorem sl_use (hK : X.K = G.K) : SlVal X G (fun x lo hi H Q => rSlL X.K x lo hi H Q ∨ rSlA X.K x lo hi H Q ∨ rSlS x lo hi H Q) := by
  intro w H r x t lo hi z Q g d e q
  rw [hK]
  have lst : ∀ xs, seqT r t = some xs → z = .lst (cutT xs lo hi) → (∀ ys, t ≠ .tup ys) → rSlL G.K x lo hi H Q := fun xs e1 e2 nt => by
    obtain ⟨a, rfl, sd⟩ := seq_of g d e1
    have go : ∀ vs, SqL G.K H a vs → Dens G w vs xs → xs.length ≤ sizeLine → rSlL G.K (.ref a) lo hi H Q := fun vs h d z' => ⟨a, vs, rfl, h, fun p hp => by
      obtain ⟨st, g2⟩ := g.new (o := .lst (cutV vs lo hi)) hp
      subst e2
      exact q _ _ _ st g2 (.lst upd_same (Nat.le_trans (cutT_length _ _ _) z') ((d.cut lo hi).mono st.later))⟩
    rcases d with d | ⟨b, vs, ys, e3, e4, h1, h2, h3, h4⟩
    · cases d with
      | lst h z d => cases e1; exact go _ (SqL.of (g.sub _ _ h)) d z
      | kls h z d => cases e1; exact go _ (g.sub.seq h) d z
      | tup h z d => exact absurd rfl (nt _)
      | @ref k b h =>
        obtain ⟨b', vs, h1, h2, h3, h4⟩ := g.refs.at_ k xs e1
        rw [h] at h1
        cases h1
        exact go vs (SqL.of h2) h3 h4
      | _ => cases e1
    · cases e3
      subst e4
      cases e1
      exact go vs (SqL.of h2) h3 h4
  cases t with
  | str zz =>
    have e : (if zz.length ≤ 100000 then some (T.str (cutS zz lo hi)) else none) = some z := e
    by_cases hz : zz.length ≤ 100000
    · rw [if_pos hz] at e
      cases e
      have : x = .str zz := by
        rcases d with d1 | ⟨_, _, _, _, e2, _⟩
        · cases d1; rfl
        · cases e2
      subst this
      exact .inr (.inr ⟨zz, rfl, Nat.le_trans hz (by decide), q _ w H (Step.refl _ _) g (.str _)⟩)
    · rw [if_neg hz] at e; cases e
  | lst xs =>
    cases e
    exact .inl (lst xs rfl rfl fun _ => nofun)
  | kls xs =>
    cases e
    exact .inl (lst xs rfl rfl fun _ => nofun)
  | ref k =>
    have e : (r[k]?.map fun xs => T.lst (cutT xs lo hi)) = some z := e
    cases q' : r[k]? with
    | none => rw [q'] at e; cases e
    | some xs =>
      rw [q'] at e
      cases e
      exact .inl (lst xs q' rfl fun _ => nofun)
  | tup xs =>
    cases e
    rcases d with d1 | ⟨_, _, _, _, e2, _⟩
    · cases d1 with
      | @tup a vs _ h z d =>
        have hl : (cutT xs lo hi).length ≤ sizeLine := Nat.le_trans (cutT_length _ _ _) z
        refine .inr (.inl ⟨a, vs, rfl, tup_sq g.sub h, ?_, ?_⟩)
        · rw [d.length]
          rintro ⟨e1, e2⟩
          refine q _ w H (Step.refl _ _) g (.tup h hl ?_)
          unfold cutT
          rw [e1, e2]
          simpa using d
        · intro _ p hp
          obtain ⟨st, g2⟩ := g.new (o := .tup (cutV vs lo hi)) hp
          exact q _ _ _ st g2 (.tup (.inl upd_same) hl ((d.cut lo hi).mono st.later))
    · cases e2
  | _ => cases e
def fSl (f : Env → M T) (lo hi : Option (Env → M T)) : Env → M T := fun env => f env >>= fun x => fO lo env >>= fun i => fO hi env >>= fun j => fun r => M.lift (slT r x i j) r
theorem seqO {α : Type} {w : Wd} {H0 H : Hp} {r : RS} {σ : L2.St} {env : Env} {o : Option (Env → M T)} {k : Option Int → M α} {P : α → RS → Wd → Hp → Prop} {Q : Option Int → Hp → Prop} (g : Good G w H r) (s : Slots G w H0 H σ env) (h : OutP G w H (WE0 W σ) P ((fO o env >>= k) r))
    (n : ∀ t r1 w1 H1, Good G w1 H1 r1 → Slots G w1 H0 H1 σ env → Step w H w1 H1 → OutP G w1 H1 (WE0 W σ) P (k t r1) → Q t H1) : tSO G W o σ H Q :=
  ⟨w, H0, env, r, g, s, h.bind.imp fun t r1 w1 H1 st g1 o => n t r1 w1 H1 g1 (s.step st) st o⟩
theorem s_sl {lo hi : Option Expr} {fl fh : Option (Env → M T)} {p2 : Pos} (hK : X.K = G.K) (ha : SK X G W a f) (hl : PO X lo (tSO G W fl)) (hh : PO X hi (tSO G W fh)) : SE X G W (.Subscript a (.Slice lo hi none p2) pos) (fSl f fl fh) :=
  pe_imp (pe_slice (sl_list.or (sl_tupA.or sl_str)) ha hl hh) fun σ H Q ⟨w, H0, env, r, g0, s, h0⟩ => by
    refine seqK g0 s h0 fun t r1 w1 H1 x g1 s1 st1 d1 h1 => ?_
    refine seqO g1 s1 h1 fun i r2 w2 H2 g2 s2 st2 h2 => ?_
    refine seqO g2 s2 h2 fun j r3 w3 H3 g3 s3 st3 h3 => ?_
    obtain ⟨z, ez, h4⟩ := liftP h3
    exact sl_use hK w3 H3 r3 x t i j z Q g3 ((d1.step st2).step st3) ez fun v w' H' st g' d => h4 w' H' st g' v d
/-! ### new lists -/
def tSL (G : Gm) (W : WX) (f : Env → M (List T)) : TE := fun σ H Q => ∃ w H0 env r, Good G w H r ∧ Slots G w H0 H σ env ∧
  OutP G w H (WE0 W σ) (fun xs _ w' H' => ∀ p vs, ¬ Vs H p → w'.P p = none → p ∉ w'.R → H' p = some (.lst vs) → Dens G w' vs xs → xs.length ≤ sizeLine → Q (.ref p) H') (f env r)
abbrev SL (X : Cx) (G : Gm) (W : WX) (e : Expr) (f : Env → M (List T)) : Prop := PE X e (tSL G W f)
theorem Step.publish {w w' : Wd} {H H' : Hp} {p : Addr} {o : HO} (s : Step w H w' H') (h0 : ¬ Vs H p) (hP : w'.P p = none) : Step w H (w'.add p o) H' := by
  refine ⟨fun a u e => ?_, s.fr, s.keep, fun a h1 h2 h3 => ?_, s.refs, s.me⟩
  · show upd w'.P p o a = some u
    have := s.pub a u e
    rw [upd_ne (ne_of_none this hP)]
    exact this
  · show upd w'.P p o a = none
    rw [upd_ne (fun e => h0 (by rw [← e]; exact h2))]
    exact s.hid a h1 h2 h3
theorem Later.add {w : Wd} {p : Addr} {o : HO} (hP : w.P p = none) : Later w (w.add p o) := ⟨fun a u e => by
  show upd w.P p o a = some u
  rw [upd_ne (ne_of_none e hP)]
  exact e, [], by simp [Wd.add]⟩
theorem Good.publish {w : Wd} {H : Hp} {r : RS} {p : Addr} {o : HO} (g : Good G w H r) (hP : w.P p = none) (hR : p ∉ w.R) (h : H p = some o) (no : NoTab o := by intro ps e; cases e) : Good G (w.add p o) H r := by
  refine ⟨fun a u e => ?_, ⟨g.refs.nd, g.refs.len, fun a ha => ?_, fun k xs hk => ?_⟩, g.tabs, fun a u e => ?_⟩
  · have e : upd w.P p o a = some u := e
    by_cases q : a = p
    · subst q
      rw [upd_same] at e
      cases e
      exact h
    · rw [upd_ne q] at e
      exact g.sub a u e
  · show upd w.P p o a = none
    rw [upd_ne (fun e => hR (by rw [← e]; exact ha))]
    exact g.refs.out a ha
  · obtain ⟨a, vs, h1, h2, h3, hz⟩ := g.refs.at_ k xs hk
    exact ⟨a, vs, h1, h2, h3.mono (Later.add hP), hz⟩
  · have e : upd w.P p o a = some u := e
    by_cases q : a = p
    · subst q
      rw [upd_same] at e
      cases e
      exact no
    · rw [upd_ne q] at e
      exact g.nt a u e
def fOwn (f : Env → M (List T)) : Env → M T := fun env => f env >>= fun xs => pure (.lst xs)
theorem own_read {f : Env → M (List T)} {σ : L2.St} {H : Hp} {Q : VK} : tS G W (fOwn f) σ H Q → tSL G W f σ H Q := fun ⟨w, H0, env, r, g, s, h⟩ => by
  refine ⟨w, H0, env, r, g, s, ?_⟩
  have e : fOwn f env r = M.bind (f env) (fun xs => M.pure (T.lst xs)) r := rfl
  rw [e] at h
  unfold M.bind at h
  cases q : f env r with
  | ok xs r1 =>
    rw [q] at h
    intro w1 H1 st g1 p vs hp hP hR hh d z
    exact h _ _ (st.publish hp hP) (g1.publish hP hR hh) _ (.lst upd_same z (d.mono (Later.add hP)))
  | exn c p r1 =>
    rw [q] at h
    exact h
  | bad =>
    rw [q] at h
    exact h
theorem s_own {f : Env → M (List T)} (h : SL X G W a f) : SE X G W a (fOwn f) := pe_imp h fun σ H Q q => own_read q
theorem l_lst {es : List Expr} {fs : List (Env → M T)} (ha : SA X G W es fs) (hl : fs.length ≤ 1000 := by decide) : SL X G W (.List es pos) (fAll fs) :=
  pe_imp (pe_lst ha) fun σ H Q ⟨w, H0, env, r, g0, s, h0⟩ => by
    refine ⟨w, H0, env, r, g0, s, ?_⟩
    cases q : fAll fs env r with
    | ok ts r1 =>
      rw [q] at h0
      intro w1 H1 st g1 vs d l
      have hz : ts.length ≤ sizeLine := by rw [l]; exact Nat.le_trans hl (by decide)
      refine ⟨by rw [d.length]; exact hz, fun p hp => ?_⟩
      have hR := g1.noref hp
      have hP := g1.nopub hp
      have hH : ¬ Vs H p := fun z => nvs hp (st.keep p z)
      have st2 : Step w H w1 (upd H1 p (.lst vs)) := ⟨st.pub, fun a o h1 h2 h3 => by
        rw [upd_ne (ne_of_none (st.fr a o h1 h2 h3) hp)]
        exact st.fr a o h1 h2 h3, fun a h => by
        exact (st.keep a h).put (by intro _ e; cases e), st.hid, st.refs, st.me⟩
      have g2 : Good G w1 (upd H1 p (.lst vs)) r1 := ⟨fun a o e => by
        rw [upd_ne (ne_of_none (g1.sub a o e) hp)]
        exact g1.sub a o e, ⟨g1.refs.nd, g1.refs.len, g1.refs.out, fun k xs hk => by
        obtain ⟨a, us, h1, h2, h3, h4⟩ := g1.refs.at_ k xs hk
        exact ⟨a, us, h1, by rw [upd_ne (ne_of_none h2 hp)]; exact h2, h3, h4⟩⟩, tabs_put g1.tabs (.inl hp), g1.nt⟩
      exact h0 w1 _ st2 g2 p vs hH hP hR upd_same d hz
    | exn c p r1 =>
      rw [q] at h0
      exact h0
    | bad =>
      rw [q] at h0
      exact h0
end
end Ep
namespace Ep
open PySem PySem.Spec L2
section
variable {G : Gm} {w w1 : Wd} {H H1 : Hp} {r : RS} {p : Addr} {o : HO}
theorem Step.before (s : Step w H w1 H1) (h : H1 p = none) : ¬ Vs H p := fun z => nvs h (s.keep p z)
/-- a new thing that nobody else sees -/
theorem Step.priv (s : Step w H w1 H1) (hp : H1 p = none) (no : NoTab o := by intro ps e; cases e) : Step w H w1 (upd H1 p o) := ⟨s.pub, fun a u h1 h2 h3 => by
    rw [upd_ne (ne_of_none (s.fr a u h1 h2 h3) hp)]
    exact s.fr a u h1 h2 h3, fun a h => by
    exact (s.keep a h).put no, s.hid, s.refs, s.me⟩
/-- a private thing is changed -/
theorem Step.chg (s : Step w H w1 H1) (h0 : ¬ Vs H p) (no : NoTab o := by intro ps e; cases e) : Step w H w1 (upd H1 p o) := ⟨s.pub, fun a u h1 h2 h3 => by
    rw [upd_ne (ne_nv h2 h3 h0)]
    exact s.fr a u h1 h2 h3, fun a h => by
    exact (s.keep a h).put no, s.hid, s.refs, s.me⟩
theorem Good.priv (g : Good G w H r) (hP : w.P p = none) (hR : p ∉ w.R) (hq : H p = none ∨ ∃ u, H p = some u ∧ Pl u) : Good G w (upd H p o) r := ⟨fun a u e => by
    rw [upd_ne (ne_of_none e hP)]
    exact g.sub a u e, ⟨g.refs.nd, g.refs.len, g.refs.out, fun k xs hk => by
    obtain ⟨a, us, h1, h2, h3, h4⟩ := g.refs.at_ k xs hk
    refine ⟨a, us, h1, ?_, h3, h4⟩
    rw [upd_ne (fun e => hR (by rw [← e]; exact List.mem_of_getElem? h1))]
    exact h2⟩, tabs_put g.tabs hq, g.nt⟩
end
/-! ### fields -/
theorem lookup_zip {name : Str} : ∀ {l : List Str} {vs : List V} {j : Nat}, l.findIdx? (fun y => y == name) = some j → l.length = vs.length → (l.zip vs).lookup name = vs[j]?
  | [], _, _, h, _ => by simp at h
  | y :: l, [], _, _, e => by simp at e
  | y :: l, v :: vs, j, h, e => by
    rw [List.findIdx?_cons] at h
    rw [List.zip_cons_cons, List.lookup_cons]
    by_cases q : y = name
    · subst q
      have e1 : (y == y) = true := by simp
      rw [if_pos e1] at h
      cases h
      rw [e1]
      rfl
    · have e1 : (y == name) = false := by simp [q]
      have e2 : (name == y) = false := by simp [Ne.symm q]
      rw [e1, if_neg (by decide)] at h
      rw [e2]
      cases h2 : l.findIdx? (fun y => y == name) with
      | none => rw [h2] at h; cases h
      | some i =>
        rw [h2] at h
        cases h
        have := lookup_zip (vs := vs) h2 (by simpa using e)
        simpa using this
theorem lookup_zip_none {name : Str} : ∀ {l : List Str} {vs : List V}, name ∉ l → (l.zip vs).lookup name = none
  | [], _, _ => rfl
  | y :: l, [], _ => rfl
  | y :: l, v :: vs, h => by
    rw [List.zip_cons_cons, List.lookup_cons]
    have e2 : (name == y) = false := by
      have : name ≠ y := fun e => h (by rw [e]; exact List.mem_cons_self)
      simp [this]
    rw [e2]
    exact lookup_zip_none fun hm => h (List.mem_cons_of_mem _ hm)
/-- the classes whose instances have the field, and its place -/
structure FldOk (G : Gm) (name : Str) (C j : Nat) : Prop where
  at_ : (G.fl C).findIdx? (fun y => y == name) = some j
  cl : ∀ cA, G.mg (G.cn C) = some (.ref cA) → Cls G.K cA ∧ NoAttr G.K cA name
def fFld (m : Nat → Option Nat) (f : Env → M T) : Env → M T := fun env => f env >>= fun x => match x with
  | .obj C vs => M.lift ((m C).bind fun j => vs[j]?)
  | _ => M.bad
section
variable {X : Cx} {G : Gm} {W : WX} {pos : Pos} {a b : Expr} {f g : Env → M T} {name : Str}
theorem s_fld (hK : X.K = G.K) (m : Nat → Option Nat) (ok : ∀ C j, m C = some j → FldOk G name C j) (ha : SE X G W a f) (hb : attributeBase a name X.env (eval a X.env) = eval a X.env := by rfl) : SE X G W (.Attribute a name pos) (fFld m f) :=
  pe_imp (pe_fld ha hb) fun σ H Q ⟨w, H0, env, r, g0, s, h0⟩ => by
    refine seqE g0 s h0 fun t r1 w1 H1 x g1 s1 st1 d1 h1 => ?_
    cases d1 with
    | @obj p cA dx C vs ts c h l d =>
      obtain ⟨z, ez, h2⟩ := liftP h1
      cases q : m C with
      | none => rw [q] at ez; cases ez
      | some j =>
        rw [q] at ez
        have o := ok C j q
        obtain ⟨v, e1, e2⟩ := d.get (i := j) ez
        rw [hK]
        exact ⟨p, cA, dx, _, v, rfl, g1.sub _ _ h, (o.cl cA c).1, (o.cl cA c).2, by rw [lookup_zip o.at_ l]; exact e1, h2 w1 H1 (Step.refl _ _) g1 v e2⟩
    | _ => exact h1.elim
/-! ### calls -/
/-- a def computes F of n arguments -/
def spF (G : Gm) (n : Nat) (F : List T → M T) : Sp := fun vs H Q E => ∃ w r ts, Good G w H r ∧ Dens G w vs ts ∧ ts.length = n ∧ OutP G w H E (fun t _ w' H' => ∀ v, Den G w' v t → Q v H') (F ts r)
/-- an __init__ makes of n arguments the fields of an instance of C -/
def spI (G : Gm) (C n : Nat) (F : List T → M (List T)) : Sp := fun vs H Q E => ∃ w r ts x rest cA dx H1, vs = .ref x :: rest ∧ G.mg (G.cn C) = some (.ref cA) ∧ H1 x = none ∧ H1 dx = none ∧ dx ≠ x ∧ H = upd (upd H1 dx (.own x)) x (.ins cA dx []) ∧
  Good G w H1 r ∧ Dens G w rest ts ∧ ts.length = n ∧ OutP G w H1 E (fun fs _ w' H' => ∀ us dx', H' x = some (.ins cA dx' ((G.fl C).zip us)) → us.length = (G.fl C).length → Dens G w' us fs → w'.P x = none → x ∉ w'.R → Q .non H') (F ts r)
theorem spF_len {n : Nat} {F : List T → M T} {ps : List Str} (h : ps.length = n) : ∀ vs H Q E, spF G n F vs H Q E → vs.length = ps.length := fun vs H Q E ⟨w, r, ts, g, d, l, _⟩ => by rw [d.length, l, h]
theorem spI_len {C n : Nat} {F : List T → M (List T)} {ps : List Str} (h : ps.length = n + 1) : ∀ vs H Q E, spI G C n F vs H Q E → vs.length = ps.length := fun vs H Q E ⟨w, r, ts, x, rest, cA, dx, H1, e, _, _, _, _, _, g, d, l, _⟩ => by rw [e, List.length_cons, d.length, l, h]
/-- a def of the top: x its name, n its parameters, ds its last arguments where they are left out -/
structure DefOk (P : Program) (wd : World) (base : Heap) (G : Gm) (k : Nat) (x : Str) (n : Nat) (ds : List T) (F : List T → M T) : Prop where
  ex : ∃ f fd ps dvs dus, FnOk P wd G.K G.mg base (L2.CX P wd) k f fd ps (spF G n F) ∧ G.mg x = some (.ref f) ∧ PySem.W.keepIn G.K (.ref f) = true ∧ Binds G.K fd ps dus ∧ Vals dvs dus ∧ ∀ w, Dens G w dvs ds
/-- a class's making -/
structure MakeOk (P : Program) (wd : World) (base : Heap) (G : Gm) (k C n : Nat) (ds : List T) (F : List T → M (List T)) : Prop where
  ex : ∃ cA f fd ps dvs dus, G.mg (G.cn C) = some (.ref cA) ∧ Mk G.K cA f ∧ FnOk P wd G.K G.mg base (L2.CX P wd) k f fd ps (spI G C n F) ∧ Binds G.K fd ps dus ∧ Vals dvs dus ∧ ∀ w, Dens G w dvs ds
/-- a method of the class C: F takes the instance first -/
structure MethOk (P : Program) (wd : World) (base : Heap) (G : Gm) (k C : Nat) (m : Str) (n : Nat) (ds : List T) (F : List T → M T) : Prop where
  ex : ∃ cA f fd ps dvs dus, G.mg (G.cn C) = some (.ref cA) ∧ Cls G.K cA ∧ Meth G.K cA m f ∧ FnOk P wd G.K G.mg base (L2.CX P wd) k f fd ps (spF G n F) ∧ Binds G.K fd ps dus ∧ Vals dvs dus ∧ ∀ w, Dens G w dvs ds
  nof : m ∉ G.fl C
def fCall (F : List T → M T) (ds : List T) (fs : List (Env → M T)) : Env → M T := fun env => fAll fs env >>= fun ts => F (ts ++ ds)
def fMake (C : Nat) (F : List T → M (List T)) (ds : List T) (fs : List (Env → M T)) : Env → M T := fun env => fAll fs env >>= fun ts => F (ts ++ ds) >>= fun us => pure (.obj C us)
def fMeth (C : Nat) (F : List T → M T) (ds : List T) (f : Env → M T) (fs : List (Env → M T)) : Env → M T := fun env => f env >>= fun x => match x with
  | .obj C' vs => if C' = C then fAll fs env >>= fun ts => F (.obj C' vs :: (ts ++ ds)) else M.bad
  | _ => M.bad
variable {e : Expr} {es : List Expr} {fs : List (Env → M T)} {ds : List T} {j k n C : Nat} {p apos : Pos} {x : Str}
theorem call_use {F : List T → M T} {dvs : List V} (hn : fs.length + ds.length = n) (hd : ∀ w, Dens G w dvs ds) {σ : L2.St} {H : Hp} {Q : VK} (h : tS G W (fCall F ds fs) σ H Q) : tCallSD (spF G n F) dvs (WE W) (tSA G W fs) σ H Q := by
  obtain ⟨w, H0, env, r, g0, s, h0⟩ := h
  refine seqA g0 s h0 fun ts r1 w1 H1 vs g1 s1 st1 d1 l h1 => ?_
  exact ⟨w1, r1, ts ++ ds, g1, d1.append (hd w1), by rw [List.length_append, l, hn], h1⟩
theorem s_call {F : List T → M T} (D : DefOk X.prog X.w X.base G k x n ds F) (hK : X.K = G.K) (hM : X.mg = G.mg) (tk : Takes X W) (hr : Room j X.A) (hk : k ≤ j) (hg : Gl X x) (ha : SA X G W (e :: es) fs) (hn : fs.length + ds.length = n := by rfl)
    (hdb : (x == ("__debug__" : Str)) = false := by decide) (he : starEach (e :: es) X.env = (false, eval e X.env) :: starEach es X.env := by rfl) (hpl : (backTo pos (starEach es X.env)).any (·.1) = false := by rfl) : SE X G W (.Call (.Name x p) (e :: es) [] pos) (fCall F ds fs) := by
  obtain ⟨f, fd, ps, dvs, dus, h1, h2, h3, h4, h5, h6⟩ := D.ex
  rw [← hK, ← hM] at h1
  exact pe_imp (pe_callSD (E := WE W) h1 (hr.mono hk) hg (by rw [hM]; exact h2) (by rw [hK]; exact h3) (by rw [hK]; exact h4) h5 (fun σ => passAt tk σ) ha hdb he hpl) fun σ H Q h => call_use hn h6 h
theorem pe_call0SD {CX : CXT} {f : Addr} {fd : FuncData} {ps : List Str} {sp : Sp} {dvs : List V} {dus : List Value} {E : L2.St → XK} (F : FnOk X.prog X.w X.K X.mg X.base CX k f fd ps sp) (hr : Room k X.A) (hg : Gl X x) (hm : X.mg x = some (.ref f)) (hk : PySem.W.keepIn X.K (.ref f) = true) (hb : Binds X.K fd ps dus) (hd : Vals dvs dus) (hx : ∀ σ, PassesAt CX X σ (E σ))
    (hdb : (x == ("__debug__" : Str)) = false := by decide) : PE X (.Call (.Name x p) [] [] pos) (tCallSD sp dvs E tNil) := by
  refine ⟨fun pins s σ H Q I h => ?_⟩
  refine wpAny_Call_Name_kw (ld_glob I hg hm ?_ hdb)
  exact PySem.W.callWith_K0 I.kIn hk (run_fnSD (us := []) F hr hb hd (hx σ) I .nil h)
theorem s_call0 {F : List T → M T} (D : DefOk X.prog X.w X.base G k x n ds F) (hK : X.K = G.K) (hM : X.mg = G.mg) (tk : Takes X W) (hr : Room j X.A) (hk : k ≤ j) (hg : Gl X x) (hn : ds.length = n := by rfl)
    (hdb : (x == ("__debug__" : Str)) = false := by decide) : SE X G W (.Call (.Name x p) [] [] pos) (fCall F ds []) := by
  obtain ⟨f, fd, ps, dvs, dus, h1, h2, h3, h4, h5, h6⟩ := D.ex
  rw [← hK, ← hM] at h1
  refine pe_imp (pe_call0SD (E := WE W) h1 (hr.mono hk) hg (by rw [hM]; exact h2) (by rw [hK]; exact h3) (by rw [hK]; exact h4) h5 (fun σ => passAt tk σ) hdb) fun σ H Q ⟨w, H0, env, r, g0, s, h0⟩ => ?_
  exact ⟨w, r, [] ++ ds, g0, by simpa using h6 w, by simpa using hn, h0⟩
theorem s_meth {F : List T → M T} {m : Str} {o : Expr} {pl : Sem Bool} (D : MethOk X.prog X.w X.base G k C m n ds F) (hK : X.K = G.K) (hM : X.mg = G.mg) (tk : Takes X W) (hr : Room j X.A) (hk : k ≤ j) (ho : SE X G W o f) (ha : SA X G W (e :: es) fs) (hn : fs.length + ds.length + 1 = n := by rfl) (hst : starEach (e :: es) X.env = (false, eval e X.env) :: starEach es X.env := by rfl) (hpl : (backTo pos (starEach es X.env)).any (·.1) = false := by rfl)
    (ht : eval (.Call (.Attribute o m apos) (e :: es) [] pos) X.env = (do let ov ← eval o X.env; standAt apos.atName; let (f, first) ← holding [ov] (getMethod ov m pl); callWith pos f first (backTo pos (starEach (e :: es) X.env)) (backToKw pos (keywordEach [] X.env))) := by rfl) : SE X G W (.Call (.Attribute o m apos) (e :: es) [] pos) (fMeth C F ds f fs) := by
  obtain ⟨cA, fn, fd, ps, dvs, dus, c1, c2, c3, h1, h4, h5, h6⟩ := D.ex
  rw [← hK, ← hM] at h1
  refine ⟨fun pins s σ H Q I ⟨w, H0, env, r, g0, s0, h0⟩ => ?_⟩
  refine PySem.W.methodCall_KW (pl := pl) (thn (ho.run pins s σ H _ I (seqE g0 s0 h0 fun t r1 w1 H1 x g1 s1 st1 d1 h1 => show (∃ w1 r1 t, Good G w1 H1 r1 ∧ Slots G w1 H0 H1 σ env ∧ Den G w1 x t ∧ OutP G w1 H1 (WE0 W σ) (fun t x w' H' => ∀ (v : V), Den G w' v t → Q v H') ((match t with | .obj C' vs => if C' = C then fAll fs env >>= fun ts => F (.obj C' vs :: (ts ++ ds)) else M.bad | _ => M.bad : M T) r1)) from ⟨w1, r1, t, g1, s1, d1, h1⟩)) fun u s1 ⟨v, H1, I1, rv, w1, r1, t, g1, sl1, d1, h2⟩ => ?_) ht
  cases d1 with
  | @obj q cA' dx C' vs ts c h l d =>
    by_cases hC : C' = C
    · subst hC
      rw [c1] at c
      cases c
      obtain rfl : u = Value.ref q := rv
      have h2 : OutP G w1 H1 (WE0 W σ) (fun t x w' H' => ∀ (v : V), Den G w' v t → Q v H') ((fAll fs env >>= fun us => F (.obj C' ts :: (us ++ ds))) r1) := by simpa using h2
      refine getmeth_ok I1 (g1.sub _ _ h) (by rw [hK]; exact c2) (by rw [hK]; exact c3) (lookup_zip_none D.nof) ?_
      refine PySem.W.callWith_K (first := [.ref q]) (h₀ := X.base) I.ok.mod.kin (by rw [hK]; exact c3.kp) (thn (ha.run pos pins s1 σ H1 _ I1 (seqA g1 sl1 h2 fun us r2 w2 H2 ws g2 s2 st2 d2 l2 h3 => show (∃ w2 r2 us, Good G w2 H2 r2 ∧ Dens G w2 (.ref q :: (ws ++ dvs)) (.obj C' ts :: (us ++ ds)) ∧ us.length = fs.length ∧ OutP G w2 H2 (WE0 W σ) (fun t x w' H' => ∀ (v : V), Den G w' v t → Q v H') (F (.obj C' ts :: (us ++ ds)) r2)) from ⟨w2, r2, us, g2, .cons ((Den.obj c1 h l d).mono st2.later) (d2.append (h6 w2)), l2, h3⟩)) fun us s2 ⟨ws, H2, I2, rw2, w2, r2, us', g2, d2, l2, h3⟩ => ⟨I2.kIn, ?_⟩) hst hpl
      exact run_fnSD (us := .ref q :: us) (vs := .ref q :: ws) h1 (hr.mono hk) (by rw [hK]; exact h4) h5 (passAt tk σ) I2 (.cons rfl rw2) ⟨w2, r2, _, g2, d2, by rw [List.length_cons, List.length_append, l2, ← hn], h3⟩
    · have h2 : OutP G w1 H1 (WE0 W σ) (fun t x w' H' => ∀ (v : V), Den G w' v t → Q v H') ((M.bad : M T) r1) := by simpa [hC] using h2
      exact h2.elim
  | _ => exact h2.elim
theorem s_meth0 {F : List T → M T} {m : Str} {o : Expr} {pl : Sem Bool} (D : MethOk X.prog X.w X.base G k C m n ds F) (hK : X.K = G.K) (hM : X.mg = G.mg) (tk : Takes X W) (hr : Room j X.A) (hk : k ≤ j) (ho : SE X G W o f) (hn : ds.length + 1 = n := by rfl)
    (ht : eval (.Call (.Attribute o m apos) [] [] pos) X.env = (do let ov ← eval o X.env; standAt apos.atName; let (f, first) ← holding [ov] (getMethod ov m pl); callWith pos f first (backTo pos (starEach [] X.env)) (backToKw pos (keywordEach [] X.env))) := by rfl) : SE X G W (.Call (.Attribute o m apos) [] [] pos) (fMeth C F ds f []) := by
  obtain ⟨cA, fn, fd, ps, dvs, dus, c1, c2, c3, h1, h4, h5, h6⟩ := D.ex
  rw [← hK, ← hM] at h1
  refine ⟨fun pins s σ H Q I ⟨w, H0, env, r, g0, s0, h0⟩ => ?_⟩
  refine PySem.W.methodCall_KW (pl := pl) (thn (ho.run pins s σ H _ I (seqE g0 s0 h0 fun t r1 w1 H1 x g1 s1 st1 d1 h1 => show (∃ w1 r1 t, Good G w1 H1 r1 ∧ Slots G w1 H0 H1 σ env ∧ Den G w1 x t ∧ OutP G w1 H1 (WE0 W σ) (fun t x w' H' => ∀ (v : V), Den G w' v t → Q v H') ((match t with | .obj C' vs => if C' = C then fAll [] env >>= fun ts => F (.obj C' vs :: (ts ++ ds)) else M.bad | _ => M.bad : M T) r1)) from ⟨w1, r1, t, g1, s1, d1, h1⟩)) fun u s1 ⟨v, H1, I1, rv, w1, r1, t, g1, sl1, d1, h2⟩ => ?_) ht
  cases d1 with
  | @obj q cA' dx C' vs ts c h l d =>
    by_cases hC : C' = C
    · subst hC
      rw [c1] at c
      cases c
      obtain rfl : u = Value.ref q := rv
      have h2 : OutP G w1 H1 (WE0 W σ) (fun t x w' H' => ∀ (v : V), Den G w' v t → Q v H') (F (.obj C' ts :: ([] ++ ds)) r1) := by
        have h2 : OutP G w1 H1 (WE0 W σ) (fun t x w' H' => ∀ (v : V), Den G w' v t → Q v H') ((if C' = C' then (fAll [] env >>= fun us => F (.obj C' ts :: (us ++ ds))) else M.bad : M T) r1) := h2
        rw [if_pos rfl] at h2
        exact h2
      refine getmeth_ok I1 (g1.sub _ _ h) (by rw [hK]; exact c2) (by rw [hK]; exact c3) (lookup_zip_none D.nof) ?_
      exact PySem.W.callWith_K0 (first := [.ref q]) I1.kIn (by rw [hK]; exact c3.kp) (run_fnSD (us := [.ref q]) (vs := [.ref q]) h1 (hr.mono hk) (by rw [hK]; exact h4) h5 (passAt tk σ) I1 (.cons rfl .nil) ⟨w1, r1, _, g1, .cons (.obj c1 h l d) (h6 w1), by simpa using hn, h2⟩)
    · have h2 : OutP G w1 H1 (WE0 W σ) (fun t x w' H' => ∀ (v : V), Den G w' v t → Q v H') ((M.bad : M T) r1) := by simpa [hC] using h2
      exact h2.elim
  | _ => exact h2.elim
/-! ### instances made -/
theorem run_makeSD {CX : CXT} {cA f : Addr} {fd : FuncData} {ps : List Str} {sp : Sp} {dvs : List V} {dus : List Value} {E : L2.St → XK} {pins : List (Addr × Obj)} {σ : L2.St} {H : Hp} {s : Shared} {Q : VK} {us : List Value} {vs : List V} (Mk' : Mk X.K cA f) (F : FnOk X.prog X.w X.K X.mg X.base CX k f fd ps sp) (hr : Room (k + 1) X.A) (hb : Binds X.K fd ps dus) (hd : Vals dvs dus)
    (hx : ∀ σ, PassesAt CX X σ (E σ)) (I : L2.Inv X pins σ H s) (r : Vals vs us)
    (h : ∀ x dx, H x = none → H dx = none → dx ≠ x → sp (.ref x :: (vs ++ dvs)) (upd (upd H dx (.own x)) x (.ins cA dx [])) (fun v H2 => v = .non ∧ Q (.ref x) H2) (E σ)) :
    wpAny (model X.prog X.w) X.A (call (.ref cA) us) (EP X pins σ Q) X.xe s := by
  have fr0 : H s.heap.objs.size = none := I.hok.fresh (Nat.le_refl _)
  have fr1 : H (s.heap.objs.size + 1) = none := I.hok.fresh (Nat.le_succ _)
  have hq := h _ _ fr1 fr0 (Nat.ne_of_lt (Nat.lt_succ_self _))
  have J := L2.Inv.made (C := cA) I
  have rr : Vals (V.ref (s.heap.objs.size + 1) :: (vs ++ dvs)) (Value.ref (s.heap.objs.size + 1) :: (us ++ dus)) := .cons rfl (r.append hd)
  have hl : (Value.ref (s.heap.objs.size + 1) :: us ++ dus).length = ps.length := by
    have e1 := rr.length
    have e2 := F.len _ _ _ _ hq
    rw [e2] at e1
    exact e1.symm
  refine wpAny_call (make_map (f := f) I.kIn Mk'.makes Mk'.init (beq_iff_eq.mp Mk'.fn) ?_)
  refine codeAny_mono (F.run _ X.stack _ _ ⟨Value.ref (s.heap.objs.size + 1) :: us, []⟩ (Value.ref (s.heap.objs.size + 1) :: (us ++ dus)) _ _ (E σ) (hr.make cA us []) (J.env0.make cA us []) (hb _ (Value.ref (s.heap.objs.size + 1) :: us) J.kIn hl) rr hq) fun res s' hq' => ?_
  cases res with
  | error e => exact hx σ pins _ _ e s' J hq'
  | ok fl =>
    cases fl with
    | ret u =>
      obtain ⟨v, H', I3, rv, ev, q3⟩ := J.after hq'
      rw [ev] at rv
      exact ⟨rv, ⟨V.ref (s.heap.objs.size + 1), H', I3, rfl, q3⟩⟩
    | next => exact hq'.elim
    | brk => exact hq'.elim
    | cont => exact hq'.elim
theorem make_use {F : List T → M (List T)} {cA x dx : Addr} {w1 : Wd} {H1 : Hp} {r1 : RS} {vs : List V} {ts : List T} {σ : L2.St} {Q : VK} (c1 : G.mg (G.cn C) = some (.ref cA)) (g1 : Good G w1 H1 r1) (d1 : Dens G w1 vs ts) (l1 : ts.length = n)
    (h1 : OutP G w1 H1 (WE0 W σ) (fun t _ w' H' => ∀ v, Den G w' v t → Q v H') ((F ts >>= fun us => pure (T.obj C us)) r1)) (hf : H1 x = none) (hdx : H1 dx = none) (ne : dx ≠ x) :
    spI G C n F (.ref x :: vs) (upd (upd H1 dx (.own x)) x (.ins cA dx [])) (fun v H2 => v = .non ∧ Q (.ref x) H2) (WE W σ) := by
  refine ⟨w1, r1, ts, x, vs, cA, dx, H1, rfl, c1, hf, hdx, ne, rfl, g1, d1, l1, ?_⟩
  have e : ((F ts >>= fun us => pure (T.obj C us)) : M T) r1 = M.bind (F ts) (fun us => M.pure (T.obj C us)) r1 := rfl
  rw [e] at h1
  unfold M.bind at h1
  cases q : F ts r1 with
  | ok us r2 =>
    rw [q] at h1
    intro w' H' st g' ws dx' hh hl d hP hR
    refine ⟨rfl, h1 _ _ (st.publish (nvs hf) hP) (g'.publish hP hR hh) _ ?_⟩
    exact .obj c1 upd_same hl.symm (d.mono (Later.add hP))
  | exn c p r2 =>
    rw [q] at h1
    exact h1
  | bad =>
    rw [q] at h1
    exact h1
theorem s_make {F : List T → M (List T)} (D : MakeOk X.prog X.w X.base G k C n ds F) (hx : x = G.cn C) (hK : X.K = G.K) (hM : X.mg = G.mg) (tk : Takes X W) (hr : Room j X.A) (hk : k + 1 ≤ j) (hg : Gl X x) (ha : SA X G W (e :: es) fs) (hn : fs.length + ds.length = n := by rfl)
    (hdb : (x == ("__debug__" : Str)) = false := by decide) (he : starEach (e :: es) X.env = (false, eval e X.env) :: starEach es X.env := by rfl) (hpl : (backTo pos (starEach es X.env)).any (·.1) = false := by rfl) : SE X G W (.Call (.Name x p) (e :: es) [] pos) (fMake C F ds fs) := by
  obtain ⟨cA, f, fd, ps, dvs, dus, c1, mk, h1, h4, h5, h6⟩ := D.ex
  rw [← hK, ← hM] at h1
  refine ⟨fun pins s σ H Q I ⟨w, H0, env, r, g0, s0, h0⟩ => ?_⟩
  refine wpAny_Call_Name_kw (ld_glob I hg (by rw [hM, hx]; exact c1) ?_ hdb)
  refine PySem.W.callWith_K (h₀ := X.base) I.ok.mod.kin (by rw [hK]; exact mk.kp) (thn (ha.run pos pins s σ H _ I (seqA g0 s0 h0 fun us r2 w2 H2 ws g2 s2 st2 d2 l2 h3 => show (∃ w2 r2 us, Good G w2 H2 r2 ∧ Dens G w2 (ws ++ dvs) (us ++ ds) ∧ us.length = fs.length ∧ OutP G w2 H2 (WE0 W σ) (fun t x w' H' => ∀ (v : V), Den G w' v t → Q v H') ((F (us ++ ds) >>= fun us => pure (T.obj C us)) r2)) from ⟨w2, r2, us, g2, d2.append (h6 w2), l2, h3⟩)) fun us s1 ⟨vs, H1, I1, rv, w2, r2, us', g2, d2, l2, h3⟩ => ⟨I1.kIn, ?_⟩) he hpl
  exact run_makeSD (E := WE W) (by rw [hK]; exact mk) h1 (hr.mono hk) (by rw [hK]; exact h4) h5 (fun σ => passAt tk σ) I1 rv fun x dx e1 e2 ne => make_use c1 g2 d2 (by rw [List.length_append, l2, hn]) h3 e1 e2 ne
theorem s_make0 {F : List T → M (List T)} (D : MakeOk X.prog X.w X.base G k C n ds F) (hx : x = G.cn C) (hK : X.K = G.K) (hM : X.mg = G.mg) (tk : Takes X W) (hr : Room j X.A) (hk : k + 1 ≤ j) (hg : Gl X x) (hn : ds.length = n := by rfl)
    (hdb : (x == ("__debug__" : Str)) = false := by decide) : SE X G W (.Call (.Name x p) [] [] pos) (fMake C F ds []) := by
  obtain ⟨cA, f, fd, ps, dvs, dus, c1, mk, h1, h4, h5, h6⟩ := D.ex
  rw [← hK, ← hM] at h1
  refine ⟨fun pins s σ H Q I ⟨w, H0, env, r, g0, s0, h0⟩ => ?_⟩
  refine wpAny_Call_Name_kw (ld_glob I hg (by rw [hM, hx]; exact c1) ?_ hdb)
  exact PySem.W.callWith_K0 I.kIn (by rw [hK]; exact mk.kp) (run_makeSD (us := []) (vs := []) (E := WE W) (by rw [hK]; exact mk) h1 (hr.mono hk) (by rw [hK]; exact h4) h5 (fun σ => passAt tk σ) I .nil fun x dx e1 e2 ne => make_use c1 g0 (by simpa using h6 w) hn h0 e1 e2 ne)
end
end Ep
namespace Ep
open PySem PySem.Spec L2
section
variable {X : Cx} {G : Gm}
theorem OpV.or1 {r1 r2 : R2} {h : T → T → Option T} (a : OpV G r1 h) : OpV G (fun x y H Q => r1 x y H Q ∨ r2 x y H Q) h := fun w H r x y t u z Q g d1 d2 e q => .inl (a w H r x y t u z Q g d1 d2 e q)
/-! ### arithmetic -/
def addT : T → T → Option T
  | .int i, .int j => some (.int (i + j))
  | .int i, .bl k => some (.int (i + PyProof.Rows.b2i k))
  | .str a, .str b => if a.length + b.length ≤ 100000 then some (.str (a ++ b)) else none
  | .lst a, .lst b => if a.length + b.length ≤ 100000 then some (.lst (a ++ b)) else none
  | .tup a, .tup b => if a.length + b.length ≤ 100000 then some (.tup (a ++ b)) else none
  | _, _ => none
def rAddA (K : PySem.W.Frag) : R2 := fun x y H Q => (rI0 fun i j => .int (i + j)) x y H Q ∨ (∃ i k, x = .int i ∧ y = .bl k ∧ Q (.int (i + PyProof.Rows.b2i k)) H) ∨ (∃ i j, x = .str i ∧ y = .str j ∧ i.length + j.length ≤ sizeLine ∧ Q (.str (i ++ j)) H) ∨ rCat x y H Q ∨ rCatA K x y H Q
theorem op_addA : OpR X (binaryOp .Add) (rAddA X.K) := op_add.or (op_add_ib.or (op_add_str.or (op_cat.or op_catA)))
theorem le_size {n : Nat} (h : n ≤ 100000) : n ≤ sizeLine := Nat.le_trans h (by decide)
theorem v_add (hK : X.K = G.K) : OpV G (rAddA X.K) addT := by
  intro w H r x y t u z Q g d1 d2 e q
  rw [hK]
  cases d1 with
  | int i =>
    cases d2 with
    | int j => cases e; exact .inl ⟨i, j, rfl, rfl, q _ w H (Step.refl _ _) g (.int _)⟩
    | bl k => cases e; exact .inr (.inl ⟨i, k, rfl, rfl, q _ w H (Step.refl _ _) g (.int _)⟩)
    | _ => cases e
  | str a =>
    cases d2 with
    | str b =>
      have e : (if a.length + b.length ≤ 100000 then some (T.str (a ++ b)) else none) = some z := e
      by_cases h : a.length + b.length ≤ 100000
      · rw [if_pos h] at e
        cases e
        exact .inr (.inr (.inl ⟨a, b, rfl, rfl, le_size h, q _ w H (Step.refl _ _) g (.str _)⟩))
      · rw [if_neg h] at e; cases e
    | _ => cases e
  | @lst p vs ts h1 z1 dd =>
    cases d2 with
    | @lst p2 vs2 ts2 h2 z2 dd2 =>
      have e : (if ts.length + ts2.length ≤ 100000 then some (T.lst (ts ++ ts2)) else none) = some z := e
      by_cases h : ts.length + ts2.length ≤ 100000
      · rw [if_pos h] at e
        cases e
        refine .inr (.inr (.inr (.inl ⟨p, p2, vs, vs2, rfl, rfl, g.sub _ _ h1, g.sub _ _ h2, by rw [dd.length, dd2.length]; exact le_size h, fun a ha => ?_⟩)))
        obtain ⟨st, g2⟩ := g.new (o := .lst (vs ++ vs2)) ha
        exact q _ _ _ st g2 (.lst upd_same (by rw [List.length_append]; exact le_size h) ((dd.append dd2).mono st.later))
      · rw [if_neg h] at e; cases e
    | _ => cases e
  | @tup p vs ts h1 z1 dd =>
    cases d2 with
    | @tup p2 vs2 ts2 h2 z2 dd2 =>
      have e : (if ts.length + ts2.length ≤ 100000 then some (T.tup (ts ++ ts2)) else none) = some z := e
      by_cases h : ts.length + ts2.length ≤ 100000
      · rw [if_pos h] at e
        cases e
        refine .inr (.inr (.inr (.inr ⟨p, p2, vs, vs2, rfl, rfl, tup_sq g.sub h1, tup_sq g.sub h2, by rw [dd.length, dd2.length]; exact le_size h, fun e1 => ?_, fun _ e2 => ?_, fun _ _ a ha => ?_⟩)))
        · have : ts = [] := by cases dd with
            | nil => rfl
            | cons _ _ => cases e1
          subst this
          exact q _ w H (Step.refl _ _) g (.tup h2 z2 dd2)
        · have : ts2 = [] := by cases dd2 with
            | nil => rfl
            | cons _ _ => cases e2
          subst this
          rw [List.append_nil] at q
          exact q _ w H (Step.refl _ _) g (.tup h1 z1 dd)
        · obtain ⟨st, g2⟩ := g.new (o := .tup (vs ++ vs2)) ha
          exact q _ _ _ st g2 (.tup (.inl upd_same) (by rw [List.length_append]; exact le_size h) ((dd.append dd2).mono st.later))
      · rw [if_neg h] at e; cases e
    | _ => cases e
  | _ => cases e
def subT : T → T → Option T
  | .int i, .int j => some (.int (i - j))
  | _, _ => none
theorem v_sub : OpV G (rI0 fun i j => .int (i - j)) subT := fun w H r x y t u z Q g d1 d2 e q => by
  cases d1 with
  | int i =>
    cases d2 with
    | int j => cases e; exact ⟨i, j, rfl, rfl, q _ w H (Step.refl _ _) g (.int _)⟩
    | _ => cases e
  | _ => cases e
/-- one factor small, or both together below a million bits -/
def mulOk (i j : Int) : Bool := (decide (-(2 ^ 64) < i) && decide (i < 2 ^ 64)) || (decide (-(2 ^ 64) < j) && decide (j < 2 ^ 64)) || decide (i.natAbs.log2 + j.natAbs.log2 < 1000000)
def mulT : T → T → Option T
  | .int i, .int j => if mulOk i j = true then some (.int (i * j)) else none
  | .lst xs, .int k => if 0 ≤ k ∧ k ≤ 100000 ∧ xs.length * k.toNat ≤ 100000 then some (.lst (List.replicate k.toNat xs).flatten) else none
  | .tup xs, .int k => if xs.isEmpty = false ∧ 2 ≤ k ∧ k ≤ 1000 ∧ xs.length ≤ 1000 then some (.tup (List.replicate k.toNat xs).flatten) else none
  | .str a, .int k => if 0 ≤ k ∧ k ≤ 16384 ∧ a.length ≤ 1024 then some (.str (PySem.Txt.mul a k)) else none
  | _, _ => none
def rRepS : R2 := fun x y H Q => ∃ a k, x = .str a ∧ y = .int k ∧ 0 ≤ k ∧ k ≤ 16384 ∧ a.length ≤ 1024 ∧ Q (.str (PySem.Txt.mul a k)) H
theorem op_repS : OpR X (binaryOp .Mult) rRepS := by
  intro pins s σ H x y v u Q I rx ry h
  obtain ⟨a, k, rfl, rfl, h0, h1, h2, q⟩ := h
  obtain ⟨t, rfl⟩ := rx
  obtain ⟨t', rfl⟩ := ry
  exact SB.mul (PyProof.Rows.mulOk_of 1024 16384 h2 (by omega) (by omega) (by decide) (by decide)) fun t2 n => ⟨.str _, H, I.tok _, ⟨_, rfl⟩, q⟩
def rMulA (K : PySem.W.Frag) : R2 := fun x y H Q => (rI CMul fun i j => .int (i * j)) x y H Q ∨ (rI CMulW fun i j => .int (i * j)) x y H Q ∨ rRep x y H Q ∨ rRepT K x y H Q ∨ rRepS x y H Q
theorem op_mulA : OpR X (binaryOp .Mult) (rMulA X.K) := op_mul.or (op_mulW.or (op_rep.or (op_repT.or op_repS)))
theorem dens_rep {w : Wd} {vs : List V} {ts : List T} (d : Dens G w vs ts) : ∀ k : Nat, Dens G w (List.replicate k vs).flatten (List.replicate k ts).flatten
  | 0 => .nil
  | k + 1 => by
    rw [List.replicate_succ, List.replicate_succ, List.flatten_cons, List.flatten_cons]
    exact d.append (dens_rep d k)
theorem len_rep {α : Type} (xs : List α) : ∀ k : Nat, (List.replicate k xs).flatten.length = xs.length * k
  | 0 => rfl
  | k + 1 => by
    rw [List.replicate_succ, List.flatten_cons, List.length_append, len_rep xs k, Nat.mul_succ, Nat.add_comm]
theorem v_mul (hK : X.K = G.K) : OpV G (rMulA X.K) mulT := fun w H r x y t u z Q g d1 d2 e q => by
  rw [hK]
  cases d1 with
  | str a =>
    cases d2 with
    | int k =>
      have e : (if 0 ≤ k ∧ k ≤ 16384 ∧ a.length ≤ 1024 then some (T.str (PySem.Txt.mul a k)) else none) = some z := e
      by_cases h : 0 ≤ k ∧ k ≤ 16384 ∧ a.length ≤ 1024
      · rw [if_pos h] at e
        cases e
        exact .inr (.inr (.inr (.inr ⟨a, k, rfl, rfl, h.1, h.2.1, h.2.2, q _ w H (Step.refl _ _) g (.str _)⟩)))
      · rw [if_neg h] at e; cases e
    | _ => cases e
  | @tup p vs ts h1 z1 dd =>
    cases d2 with
    | int k =>
      have e : (if ts.isEmpty = false ∧ 2 ≤ k ∧ k ≤ 1000 ∧ ts.length ≤ 1000 then some (T.tup (List.replicate k.toNat ts).flatten) else none) = some z := e
      by_cases h : ts.isEmpty = false ∧ 2 ≤ k ∧ k ≤ 1000 ∧ ts.length ≤ 1000
      · rw [if_pos h] at e
        cases e
        obtain ⟨h0, ha, hb, hc⟩ := h
        refine .inr (.inr (.inr (.inl ⟨p, k, vs, rfl, rfl, tup_sq g.sub h1, fun e => ?_, ha, hb, by rw [dd.length]; exact hc, fun a ha => ?_⟩)))
        · subst e; cases dd; cases h0
        · obtain ⟨st, g2⟩ := g.new (o := .tup (List.replicate k.toNat vs).flatten) ha
          refine q _ _ _ st g2 (.tup (.inl upd_same) ?_ ((dens_rep dd _).mono st.later))
          rw [len_rep, sizeLine_eq]
          have := Nat.mul_le_mul hc (show k.toNat ≤ 1000 by omega)
          omega
      · rw [if_neg h] at e; cases e
    | _ => cases e
  | int i =>
    cases d2 with
    | int j =>
      have e : (if mulOk i j = true then some (T.int (i * j)) else none) = some z := e
      by_cases h : mulOk i j = true
      · rw [if_pos h] at e
        cases e
        have fin := q _ w H (Step.refl _ _) g (.int _)
        unfold mulOk at h
        simp only [Bool.or_eq_true, Bool.and_eq_true, decide_eq_true_eq] at h
        rcases h with (h | h) | h
        · exact .inl ⟨i, j, rfl, rfl, .inl h, fin⟩
        · exact .inl ⟨i, j, rfl, rfl, .inr h, fin⟩
        · exact .inr (.inl ⟨i, j, rfl, rfl, h, fin⟩)
      · rw [if_neg h] at e; cases e
    | _ => cases e
  | @lst p vs ts h1 z1 dd =>
    cases d2 with
    | int k =>
      have e : (if 0 ≤ k ∧ k ≤ 100000 ∧ ts.length * k.toNat ≤ 100000 then some (T.lst (List.replicate k.toNat ts).flatten) else none) = some z := e
      by_cases h : 0 ≤ k ∧ k ≤ 100000 ∧ ts.length * k.toNat ≤ 100000
      · rw [if_pos h] at e
        cases e
        obtain ⟨ha, hb, hc⟩ := h
        refine .inr (.inr (.inl ⟨p, k, vs, rfl, rfl, g.sub _ _ h1, by omega, by omega, by rw [dd.length]; exact le_size hc, fun a ha => ?_⟩))
        obtain ⟨st, g2⟩ := g.new (o := .lst (List.replicate k.toNat vs).flatten) ha
        exact q _ _ _ st g2 (.lst upd_same (by rw [len_rep]; exact le_size hc) ((dens_rep dd _).mono st.later))
      · rw [if_neg h] at e; cases e
    | _ => cases e
  | _ => cases e
/-- // and %: a divisor below 0 is a small one -/
def divT : T → T → Option T
  | .int i, .int j => if 0 < j ∧ j.natAbs.log2 < 9000 then some (.int (i / j)) else if j < 0 ∧ j.natAbs < 1073741824 then some (.int (i.fdiv j)) else none
  | _, _ => none
def rDivA : R2 := fun x y H Q => rI CDivW (fun i j => .int (i / j)) x y H Q ∨ rI CDivN (fun i j => .int (i.fdiv j)) x y H Q
theorem op_divA : OpR X (binaryOp .FloorDiv) rDivA := op_fdivW.or op_fdivN
theorem v_div : OpV G rDivA divT := fun w H r x y t u z Q g d1 d2 e q => by
  cases d1 with
  | int i =>
    cases d2 with
    | int j =>
      have e : (if 0 < j ∧ j.natAbs.log2 < 9000 then some (T.int (i / j)) else if j < 0 ∧ j.natAbs < 1073741824 then some (T.int (i.fdiv j)) else none) = some z := e
      by_cases h : 0 < j ∧ j.natAbs.log2 < 9000
      · rw [if_pos h] at e
        cases e
        exact .inl ⟨i, j, rfl, rfl, h, q _ w H (Step.refl _ _) g (.int _)⟩
      · rw [if_neg h] at e
        by_cases h2 : j < 0 ∧ j.natAbs < 1073741824
        · rw [if_pos h2] at e
          cases e
          exact .inr ⟨i, j, rfl, rfl, ⟨by omega, h2.2⟩, q _ w H (Step.refl _ _) g (.int _)⟩
        · rw [if_neg h2] at e; cases e
    | _ => cases e
  | _ => cases e
def modT : T → T → Option T
  | .int i, .int j => if 0 < j then some (.int (i % j)) else if j < 0 then some (.int (i.fmod j)) else none
  | _, _ => none
def rModA : R2 := fun x y H Q => rI (fun _ j => 0 < j) (fun i j => .int (i % j)) x y H Q ∨ rI (fun _ j => j ≠ 0) (fun i j => .int (i.fmod j)) x y H Q
theorem op_modA : OpR X (binaryOp .Mod) rModA := op_mod.or op_modN
theorem v_mod : OpV G rModA modT := fun w H r x y t u z Q g d1 d2 e q => by
  cases d1 with
  | int i =>
    cases d2 with
    | int j =>
      have e : (if 0 < j then some (T.int (i % j)) else if j < 0 then some (T.int (i.fmod j)) else none) = some z := e
      by_cases h : 0 < j
      · rw [if_pos h] at e
        cases e
        exact .inl ⟨i, j, rfl, rfl, h, q _ w H (Step.refl _ _) g (.int _)⟩
      · rw [if_neg h] at e
        by_cases h2 : j < 0
        · rw [if_pos h2] at e
          cases e
          exact .inr ⟨i, j, rfl, rfl, by omega, q _ w H (Step.refl _ _) g (.int _)⟩
        · rw [if_neg h2] at e; cases e
    | _ => cases e
  | _ => cases e
def powT : T → T → Option T
  | .int i, .int j => if 0 ≤ j ∧ j ≤ 1000 ∧ i.natAbs < 2 ^ 64 then some (.int (i ^ j.toNat)) else none
  | _, _ => none
theorem v_pow : OpV G (rI CPow fun i j => .int (i ^ j.toNat)) powT := fun w H r x y t u z Q g d1 d2 e q => by
  cases d1 with
  | int i =>
    cases d2 with
    | int j =>
      have e : (if 0 ≤ j ∧ j ≤ 1000 ∧ i.natAbs < 2 ^ 64 then some (T.int (i ^ j.toNat)) else none) = some z := e
      by_cases h : 0 ≤ j ∧ j ≤ 1000 ∧ i.natAbs < 2 ^ 64
      · rw [if_pos h] at e
        cases e
        exact ⟨i, j, rfl, rfl, ⟨h.1, by omega, h.2.2⟩, q _ w H (Step.refl _ _) g (.int _)⟩
      · rw [if_neg h] at e; cases e
    | _ => cases e
  | _ => cases e
def negT : T → Option T
  | .int i => some (.int (-i))
  | _ => none
theorem v_neg : UnV G (rU fun i => .int (-i)) negT := fun w H r x t z Q g d1 e q => by
  cases d1 with
  | int i => cases e; exact ⟨i, rfl, q _ w H (Step.refl _ _) g (.int _)⟩
  | _ => cases e
/-! ### comparisons -/
theorem DenB.int {w : Wd} {H : Hp} {v : V} {i : Int} (d : DenB G w H v (.int i)) : v = .int i := by
  rcases d with d | ⟨_, _, _, _, e, _⟩
  · cases d; rfl
  · cases e
theorem DenB.str {w : Wd} {H : Hp} {v : V} {i : Str} (d : DenB G w H v (.str i)) : v = .str i := by
  rcases d with d | ⟨_, _, _, _, e, _⟩
  · cases d; rfl
  · cases e
theorem DenB.bl {w : Wd} {H : Hp} {v : V} {i : Bool} (d : DenB G w H v (.bl i)) : v = .bl i := by
  rcases d with d | ⟨_, _, _, _, e, _⟩
  · cases d; rfl
  · cases e
theorem DenB.non {w : Wd} {H : Hp} {v : V} (d : DenB G w H v .non) : v = .non := by
  rcases d with d | ⟨_, _, _, _, e, _⟩
  · cases d; rfl
  · cases e
def cmpI (p : Int → Int → Bool) : T → T → Option Bool
  | .int i, .int j => some (p i j)
  | _, _ => none
theorem v_cmpI {p : Int → Int → Bool} : CmpV G (rI0 fun i j => .bl (p i j)) (cmpI p) := fun w H r x y t u z Q g d1 d2 e q => by
  cases t with
  | int i =>
    cases u with
    | int j =>
      cases e
      rw [d1.int, d2.int]
      exact ⟨i, j, rfl, rfl, q⟩
    | _ => cases e
  | _ => cases e
def ltT : T → T → Option Bool := cmpI fun i j => decide (i < j)
def leT : T → T → Option Bool := cmpI fun i j => decide (i ≤ j)
def gtT : T → T → Option Bool := cmpI fun i j => decide (j < i)
def geT : T → T → Option Bool := cmpI fun i j => decide (j ≤ i)
theorem v_lt : CmpV G (rI0 fun i j => .bl (decide (i < j))) ltT := v_cmpI
theorem v_le : CmpV G (rI0 fun i j => .bl (decide (i ≤ j))) leT := v_cmpI
theorem v_gt : CmpV G (rI0 fun i j => .bl (decide (j < i))) gtT := v_cmpI
theorem v_ge : CmpV G (rI0 fun i j => .bl (decide (j ≤ i))) geT := v_cmpI
/-- is None, is not None; is True .. -/
def isNon : T → Bool
  | .non => true
  | _ => false
def isT : T → T → Option Bool
  | t, .non => some (isNon t)
  | .bl a, .bl b => some (decide (a = b))
  | _, _ => none
def rIsA : R2 := fun x y H Q => (y = .non ∧ Q (.bl (decide (x = .non))) H) ∨ rIsB x y H Q
theorem op_isA : OpR X (compareOp .Is) rIsA := op_isN.or op_isBl
def rNotA : R2 := fun x y H Q => (y = .non ∧ Q (.bl (!decide (x = .non))) H) ∨ rNotB x y H Q
theorem op_notA : OpR X (compareOp .IsNot) rNotA := op_notN.or op_notBl
theorem DenB.isN {w : Wd} {H : Hp} {v : V} {t : T} (d : DenB G w H v t) : decide (v = .non) = isNon t := by
  rcases d with d | ⟨_, _, _, e1, e, _⟩
  · cases d <;> first | rfl | (simp)
  · subst e1 e
    simp [isNon]
theorem v_is : CmpV G rIsA isT := fun w H r x y t u z Q g d1 d2 e q => by
  cases u with
  | non =>
    have e : some (isNon t) = some z := by cases t <;> exact e
    cases e
    refine .inl ⟨d2.non, ?_⟩
    rw [d1.isN]
    exact q
  | bl b =>
    cases t with
    | bl a =>
      cases e
      exact .inr ⟨a, b, d1.bl, d2.bl, q⟩
    | _ => cases e
  | _ => cases t <;> cases e
def nisT (t u : T) : Option Bool := (isT t u).map (!·)
theorem v_nis : CmpV G rNotA nisT := fun w H r x y t u z Q g d1 d2 e q => by
  unfold nisT at e
  cases u with
  | non =>
    have e : (some (isNon t)).map (!·) = some z := by cases t <;> exact e
    cases e
    refine .inl ⟨d2.non, ?_⟩
    rw [d1.isN]
    exact q
  | bl b =>
    cases t with
    | bl a =>
      cases e
      exact .inr ⟨a, b, d1.bl, d2.bl, q⟩
    | _ => cases e
  | _ => cases t <;> cases e
end
/-! ### data -/
mutual
def pyT : T → Option PyData
  | .non => some .none
  | .bl b => some (.bool b)
  | .int i => some (.int i)
  | .str x => some (.str x)
  | .tup xs => (pyTs xs).map .tuple
  | .lst xs => (pyTs xs).map .list
  | .kls xs => (pyTs xs).map .list
  | _ => none
def pyTs : List T → Option (List PyData)
  | [] => some []
  | x :: xs => (pyT x).bind fun d => (pyTs xs).map (d :: ·)
end
mutual
theorem pyT_dp {G : Gm} {w : Wd} {H : Hp} (s : Same w.P H) : ∀ (t : T) (v : V) (d : PyData), Den G w v t → pyT t = some d → Dp G.K H v d
  | .non, _, _, h, e => by cases h; cases e; exact .non
  | .bl b, _, _, h, e => by cases h; cases e; exact .bl b
  | .int b, _, _, h, e => by cases h; cases e; exact .int b
  | .str b, _, _, h, e => by cases h; cases e; exact .str b
  | .tup xs, _, _, h, e => by
    cases h with
    | tup h z dd =>
      have e : (pyTs xs).map PyData.tuple = some _ := e
      cases q : pyTs xs with
      | none => rw [q] at e; cases e
      | some ds =>
        rw [q] at e
        cases e
        exact .tup (tup_sq s h) (pyTs_dp s xs _ _ dd q)
  | .lst xs, _, _, h, e => by
    cases h with
    | lst h z dd =>
      have e : (pyTs xs).map PyData.list = some _ := e
      cases q : pyTs xs with
      | none => rw [q] at e; cases e
      | some ds =>
        rw [q] at e
        cases e
        exact .lst (SqL.of (s _ _ h)) (pyTs_dp s xs _ _ dd q)
  | .kls xs, _, _, h, e => by
    cases h with
    | kls h z dd =>
      have e : (pyTs xs).map PyData.list = some _ := e
      cases q : pyTs xs with
      | none => rw [q] at e; cases e
      | some ds =>
        rw [q] at e
        cases e
        exact .lst (s.seq h) (pyTs_dp s xs _ _ dd q)
  | .obj _ _, _, _, _, e => by cases e
  | .gl _, _, _, _, e => by cases e
  | .cl _, _, _, _, e => by cases e
  | .ty _, _, _, _, e => by cases e
  | .ref _, _, _, _, e => by cases e
  | .dct _ _, _, _, _, e => by cases e
theorem pyTs_dp {G : Gm} {w : Wd} {H : Hp} (s : Same w.P H) : ∀ (ts : List T) (vs : List V) (ds : List PyData), Dens G w vs ts → pyTs ts = some ds → DpAll G.K H vs ds
  | [], _, _, h, e => by cases h; cases e; exact .nil
  | t :: ts, _, _, h, e => by
    cases h with
    | cons h1 h2 =>
      have e : ((pyT t).bind fun d => (pyTs ts).map (d :: ·)) = some _ := e
      cases q : pyT t with
      | none => rw [q] at e; cases e
      | some d =>
        rw [q] at e
        cases q2 : pyTs ts with
        | none => rw [q2] at e; cases e
        | some ds =>
          rw [q2] at e
          cases e
          exact .cons (pyT_dp s t _ _ h1 q) (pyTs_dp s ts _ _ h2 q2)
end
section
variable {X : Cx} {G : Gm}
theorem denB_dp {w : Wd} {H : Hp} {r : RS} {v : V} {t : T} {d : PyData} (g : Good G w H r) (h : DenB G w H v t) (e : pyT t = some d) : Dp G.K H v d := by
  rcases h with h | ⟨a, vs, xs, e1, e2, h1, h2, h3, h4⟩
  · exact pyT_dp g.sub t v d h e
  · subst e1 e2
    have e : (pyTs xs).map PyData.list = some _ := e
    cases q : pyTs xs with
    | none => rw [q] at e; cases e
    | some ds =>
      rw [q] at e
      cases e
      exact .lst (SqL.of h2) (pyTs_dp g.sub xs _ _ h3 q)
def eqT (t u : T) : Option Bool := match pyT t, pyT u with
  | some d, some e => if (SeqAt.shaped d && SeqAt.shaped e) = true then some (PyData.eqv d e) else none
  | _, _ => none
def neT (t u : T) : Option Bool := (eqT t u).map (!·)
theorem eq_use {w : Wd} {H : Hp} {r : RS} {x y : V} {t u : T} {z : Bool} (g : Good G w H r) (d1 : DenB G w H x t) (d2 : DenB G w H y u) (e : eqT t u = some z) : ∃ d e, Dp G.K H x d ∧ Dp G.K H y e ∧ SeqAt.shaped d = true ∧ SeqAt.shaped e = true ∧ z = PyData.eqv d e := by
  unfold eqT at e
  cases q1 : pyT t with
  | none => rw [q1] at e; cases e
  | some d =>
    cases q2 : pyT u with
    | none => rw [q1, q2] at e; cases e
    | some d' =>
      rw [q1, q2] at e
      have e : (if (SeqAt.shaped d && SeqAt.shaped d') = true then some (PyData.eqv d d') else none) = some z := e
      by_cases h : (SeqAt.shaped d && SeqAt.shaped d') = true
      · rw [if_pos h] at e
        cases e
        rw [Bool.and_eq_true] at h
        exact ⟨d, d', denB_dp g d1 q1, denB_dp g d2 q2, h.1, h.2, rfl⟩
      · rw [if_neg h] at e; cases e
theorem v_eq (hK : X.K = G.K) : CmpV G (rEqD X.K) eqT := fun w H r x y t u z Q g d1 d2 e q => by
  obtain ⟨d, d', h1, h2, h3, h4, e⟩ := eq_use g d1 d2 e
  subst e
  rw [hK]
  exact ⟨d, d', h1, h2, h3, h4, q⟩
theorem v_ne (hK : X.K = G.K) : CmpV G (rNeD X.K) neT := fun w H r x y t u z Q g d1 d2 e q => by
  unfold neT at e
  cases e' : eqT t u with
  | none => rw [e'] at e; cases e
  | some b =>
    rw [e'] at e
    cases e
    obtain ⟨d, d', h1, h2, h3, h4, e⟩ := eq_use g d1 d2 e'
    subst e
    rw [hK]
    exact ⟨d, d', h1, h2, h3, h4, q⟩
/-! ### in -/
/-- the flat value of a tree -/
def flT : T → Option V
  | .non => some .non
  | .bl b => some (.bl b)
  | .int i => some (.int i)
  | .str x => some (.str x)
  | _ => none
def flTs : List T → Option (List V)
  | [] => some []
  | t :: ts => (flT t).bind fun v => (flTs ts).map (v :: ·)
theorem flT_of {w : Wd} {v u : V} {t : T} (d : Den G w v t) (e : flT t = some u) : v = u ∧ flatV v = true := by
  cases d with
  | non => cases e; exact ⟨rfl, rfl⟩
  | bl b => cases e; exact ⟨rfl, rfl⟩
  | int i => cases e; exact ⟨rfl, rfl⟩
  | str x => cases e; exact ⟨rfl, rfl⟩
  | _ => cases e
theorem flTs_of {w : Wd} : ∀ {vs us : List V} {ts : List T}, Dens G w vs ts → flTs ts = some us → vs = us ∧ vs.all flatV = true
  | _, _, _, .nil, e => by cases e; exact ⟨rfl, rfl⟩
  | _, _, t :: ts, .cons h r, e => by
    have e : ((flT t).bind fun v => (flTs ts).map (v :: ·)) = some _ := e
    cases q : flT t with
    | none => rw [q] at e; cases e
    | some v =>
      rw [q] at e
      cases q2 : flTs ts with
      | none => rw [q2] at e; cases e
      | some vs =>
        rw [q2] at e
        cases e
        obtain ⟨e1, f1⟩ := flT_of h q
        obtain ⟨e2, f2⟩ := flTs_of r q2
        subst e1 e2
        exact ⟨rfl, by rw [List.all_cons, f1, f2]; rfl⟩
/-- x in a text (x one sign), a tuple of flat things, a list of data -/
def inT (t u : T) : Option Bool := match u with
  | .str z => match t with
    | .str c => if c.cps.size = 1 then some (decide (c.cps.getD 0 0 ∈ z.cps.toList)) else none
    | _ => none
  | .tup xs => (flT t).bind fun v => (flTs xs).map fun vs => inV v vs
  | u => match pyT t, pyT u with
    | some d, some (.list ds) => if (SeqAt.shaped d && SeqAt.shaped (.list ds)) = true then some (ds.any fun z => PyData.eqv z d) else none
    | _, _ => none
def ninT (t u : T) : Option Bool := (inT t u).map (!·)
def rInA (K : PySem.W.Frag) : R2 := fun x y H Q => (∃ (c : Nat) (z : Str), x = .str ⟨#[c]⟩ ∧ y = .str z ∧ Q (.bl (decide (c ∈ z.cps.toList))) H) ∨ rIn K false x y H Q ∨ rInD K x y H Q
def rNInA (K : PySem.W.Frag) : R2 := fun x y H Q => (∃ (c : Nat) (z : Str), x = .str ⟨#[c]⟩ ∧ y = .str z ∧ Q (.bl (!decide (c ∈ z.cps.toList))) H) ∨ rIn K true x y H Q ∨ rNotInD K x y H Q
theorem op_inA (hu : X.A.units + 65 < cLine) : OpR X (compareOp .In) (rInA X.K) := op_in_sign.or (op_in_seq.or (op_inD hu))
theorem op_ninA (hu : X.A.units + 65 < cLine) : OpR X (compareOp .NotIn) (rNInA X.K) := op_notIn_sign.or (op_notIn_seq.or (op_notInD hu))
theorem sign_eq {c : Str} (h : c.cps.size = 1) : c = ⟨#[c.cps.getD 0 0]⟩ := by
  obtain ⟨a⟩ := c
  obtain ⟨l⟩ := a
  match l, h with
  | [x], _ => rfl
theorem in_use {w : Wd} {H : Hp} {r : RS} {x y : V} {t u : T} {z : Bool} (g : Good G w H r) (d1 : DenB G w H x t) (d2 : DenB G w H y u) (e : inT t u = some z) :
    (∃ (c : Nat) (zz : Str), x = .str ⟨#[c]⟩ ∧ y = .str zz ∧ z = decide (c ∈ zz.cps.toList)) ∨ (∃ p vs, y = .ref p ∧ SqT G.K H p vs ∧ flatV x = true ∧ vs.all flatV = true ∧ z = inV x vs) ∨
    ∃ d ds, Dp G.K H x d ∧ Dp G.K H y (.list ds) ∧ SeqAt.shaped d = true ∧ SeqAt.shaped (.list ds) = true ∧ z = ds.any fun z => PyData.eqv z d := by
  have deep : (match pyT t, pyT u with
      | some d, some (.list ds) => if (SeqAt.shaped d && SeqAt.shaped (.list ds)) = true then some (ds.any fun z => PyData.eqv z d) else none
      | _, _ => none) = some z → ∃ d ds, Dp G.K H x d ∧ Dp G.K H y (.list ds) ∧ SeqAt.shaped d = true ∧ SeqAt.shaped (.list ds) = true ∧ z = ds.any fun z => PyData.eqv z d := fun e => by
    cases q1 : pyT t with
    | none => rw [q1] at e; cases e
    | some d =>
      cases q2 : pyT u with
      | none => rw [q1, q2] at e; cases e
      | some d' =>
        rw [q1, q2] at e
        cases d' with
        | list ds =>
          have e : (if (SeqAt.shaped d && SeqAt.shaped (.list ds)) = true then some (ds.any fun z => PyData.eqv z d) else none) = some z := e
          by_cases h : (SeqAt.shaped d && SeqAt.shaped (.list ds)) = true
          · rw [if_pos h] at e
            cases e
            rw [Bool.and_eq_true] at h
            exact ⟨d, ds, denB_dp g d1 q1, denB_dp g d2 q2, h.1, h.2, rfl⟩
          · rw [if_neg h] at e; cases e
        | _ => cases e
  cases u with
  | str zz =>
    cases t with
    | str c =>
      have e : (if c.cps.size = 1 then some (decide (c.cps.getD 0 0 ∈ zz.cps.toList)) else none) = some z := e
      by_cases h : c.cps.size = 1
      · rw [if_pos h] at e
        cases e
        exact .inl ⟨_, zz, by rw [d1.str]; exact congrArg V.str (sign_eq h), d2.str, rfl⟩
      · rw [if_neg h] at e; cases e
    | _ => cases e
  | tup xs =>
    have e : ((flT t).bind fun v => (flTs xs).map fun vs => inV v vs) = some z := e
    cases q : flT t with
    | none => rw [q] at e; cases e
    | some v =>
      rw [q] at e
      cases q2 : flTs xs with
      | none => rw [q2] at e; cases e
      | some vs =>
        rw [q2] at e
        cases e
        rcases d2 with d2 | ⟨_, _, _, _, e2, _⟩
        · cases d2 with
          | @tup p us _ h zz d =>
            obtain ⟨e3, f3⟩ := flTs_of d q2
            rcases d1 with d1 | ⟨_, _, _, _, e2, _⟩
            · obtain ⟨e4, f4⟩ := flT_of d1 q
              subst e3 e4
              exact .inr (.inl ⟨p, us, rfl, tup_sq g.sub h, f4, f3, rfl⟩)
            · subst e2; cases q
        · cases e2
  | lst xs => exact .inr (.inr (deep e))
  | kls xs => exact .inr (.inr (deep e))
  | _ =>
    have e := deep e
    exact .inr (.inr e)
theorem v_in (hK : X.K = G.K) : CmpV G (rInA X.K) inT := fun w H r x y t u z Q g d1 d2 e q => by
  rw [hK]
  rcases in_use g d1 d2 e with ⟨c, zz, e1, e2, e3⟩ | ⟨p, vs, e1, h1, h2, h3, e3⟩ | ⟨d, ds, h1, h2, h3, h4, e3⟩
  · subst e3; exact .inl ⟨c, zz, e1, e2, q⟩
  · subst e3; exact .inr (.inl ⟨p, vs, e1, .inr h1, h2, h3, q⟩)
  · subst e3; exact .inr (.inr ⟨d, ds, h1, h2, h3, h4, q⟩)
theorem v_nin (hK : X.K = G.K) : CmpV G (rNInA X.K) ninT := fun w H r x y t u z Q g d1 d2 e q => by
  unfold ninT at e
  cases e' : inT t u with
  | none => rw [e'] at e; cases e
  | some b =>
    rw [e'] at e
    cases e
    rw [hK]
    rcases in_use g d1 d2 e' with ⟨c, zz, e1, e2, e3⟩ | ⟨p, vs, e1, h1, h2, h3, e3⟩ | ⟨d, ds, h1, h2, h3, h4, e3⟩
    · subst e3; exact .inl ⟨c, zz, e1, e2, q⟩
    · subst e3; exact .inr (.inl ⟨p, vs, e1, .inr h1, h2, h3, q⟩)
    · subst e3; exact .inr (.inr ⟨d, ds, h1, h2, h3, h4, q⟩)
end
end Ep
namespace Ep
open PySem PySem.Spec L2
/-! ### built-ins of one and two arguments -/
section
variable {X : Cx} {G : Gm} {W : WX} {pos p : Pos} {a b : Expr} {f g : Env → M T} {x : Str} {id : String}
def B1 (G : Gm) (r1 : List V → Hp → VK → Prop) (h : RS → T → Option T) : Prop := ∀ w H r v t z Q, Good G w H r → DenB G w H v t → h r t = some z → (∀ v' w' H', Step w H w' H' → Good G w' H' r → Den G w' v' z → Q v' H') → r1 [v] H Q
def fB1 (h : RS → T → Option T) (f : Env → M T) : Env → M T := fun env => f env >>= fun x => fun r => M.lift (h r x) r
theorem b1_use {r1 : List V → Hp → VK → Prop} {h : RS → T → Option T} (hv : B1 G r1 h) {σ : L2.St} {H : Hp} {Q : VK} (q : tS G W (fB1 h f) σ H Q) : tCB r1 (tCons (tSK G W f) tNil) σ H Q := by
  obtain ⟨w, H0, env, r, g0, s, h0⟩ := q
  refine seqK g0 s h0 fun t r1 w1 H1 x g1 s1 st1 d1 h1 => ?_
  obtain ⟨z, ez, h2⟩ := liftP h1
  exact hv w1 H1 r1 x t z Q g1 d1 ez fun v' w' H' st g' d => h2 w' H' st g' v' d
theorem s_b1 {r1 : List V → Hp → VK → Prop} {h : RS → T → Option T} (hc : CallR X (.builtin id) r1) (hv : B1 G r1 h) (hg : Gl X x) (hm : X.mg x = none) (hb : bootBuiltins x = some (.builtin id)) (ha : SK X G W a f) (hs : starEach [a] X.env = (false, eval a X.env) :: starEach [] X.env := by rfl)
    (hn : x ≠ "__name__" := by decide) (hdb : (x == ("__debug__" : Str)) = false := by decide) (hpl : (backTo pos (starEach [] X.env)).any (·.1) = false := by rfl) : SE X G W (.Call (.Name x p) [a] [] pos) (fB1 h f) :=
  pe_imp (pe_callB hc hg hm hb (pa_cons ha pa_nil hs) hn hdb hs hpl) fun σ H Q q => b1_use hv q
theorem s_t1 {r1 : List V → Hp → VK → Prop} {h : RS → T → Option T} (hc : CallR X (.type id) r1) (hv : B1 G r1 h) (hg : Gl X x) (hm : X.mg x = none) (hb : bootBuiltins x = some (.type id)) (ha : SK X G W a f) (hs : starEach [a] X.env = (false, eval a X.env) :: starEach [] X.env := by rfl)
    (hn : x ≠ "__name__" := by decide) (hdb : (x == ("__debug__" : Str)) = false := by decide) (hpl : (backTo pos (starEach [] X.env)).any (·.1) = false := by rfl) : SE X G W (.Call (.Name x p) [a] [] pos) (fB1 h f) :=
  pe_imp (pe_callTy hc hg hm hb (pa_cons ha pa_nil hs) hn hdb hs hpl) fun σ H Q q => b1_use hv q
def B2 (G : Gm) (r1 : List V → Hp → VK → Prop) (h : T → T → Option T) : Prop := ∀ w H r v u t s z Q, Good G w H r → Den G w v t → Den G w u s → h t s = some z → (∀ v' w' H', Step w H w' H' → Good G w' H' r → Den G w' v' z → Q v' H') → r1 [v, u] H Q
theorem s_b2 {r1 : List V → Hp → VK → Prop} {h : T → T → Option T} (hc : CallR X (.builtin id) r1) (hv : B2 G r1 h) (hg : Gl X x) (hm : X.mg x = none) (hb : bootBuiltins x = some (.builtin id)) (ha : SE X G W a f) (hB : SE X G W b g)
    (hs : starEach [a, b] X.env = (false, eval a X.env) :: starEach [b] X.env := by rfl) (hs2 : starEach [b] X.env = (false, eval b X.env) :: starEach [] X.env := by rfl)
    (hn : x ≠ "__name__" := by decide) (hdb : (x == ("__debug__" : Str)) = false := by decide) (hpl : (backTo pos (starEach [b] X.env)).any (·.1) = false := by rfl) : SE X G W (.Call (.Name x p) [a, b] [] pos) (fBin h f g) :=
  pe_imp (pe_callB hc hg hm hb (pa_cons ha (pa_cons hB pa_nil hs2) hs) hn hdb hs hpl) fun σ H Q ⟨w, H0, env, r, g0, s, h0⟩ => by
    refine seqE g0 s h0 fun t r1 w1 H1 v g1 s1 st1 d1 h1 => ?_
    refine seqE g1 s1 h1 fun u r2 w2 H2 y g2 s2 st2 d2 h2 => ?_
    obtain ⟨z, ez, hz⟩ := liftP h2
    exact hv w2 H2 r2 v y t u z Q g2 (d1.mono st2.later) d2 ez fun v w' H' st g' d => hz w' H' st g' v d
def lenT (r : RS) (t : T) : Option T := match t with
  | .str z => if z.length ≤ 100000 then some (.int z.length) else none
  | t => (seqT r t).map fun xs => .int xs.length
def rLenA (K : PySem.W.Frag) : List V → Hp → VK → Prop := fun xs H Q => (∃ p ys, xs = [.ref p] ∧ (SqL K H p ys ∨ SqT K H p ys) ∧ Q (.int ys.length) H) ∨ ∃ z, xs = [.str z] ∧ z.length ≤ sizeLine ∧ Q (.int z.length) H
theorem c_len : CallR X (.builtin "len") (rLenA X.K) := call_len_seq.or call_len_str
theorem v_len (hK : X.K = G.K) : B1 G (rLenA X.K) lenT := fun w H r v t z Q g d e q => by
  rw [hK]
  have seqs : ((seqT r t).map fun xs => T.int xs.length) = some z → rLenA G.K [v] H Q := fun e => by
    cases q1 : seqT r t with
    | none => rw [q1] at e; cases e
    | some xs =>
      rw [q1] at e
      cases e
      obtain ⟨p, rfl, sd⟩ := seq_of g d q1
      cases sd with
      | l vs h dd zz => exact .inl ⟨p, vs, rfl, .inl h, by rw [dd.length]; exact q _ w H (Step.refl _ _) g (.int _)⟩
      | t vs h dd zz => exact .inl ⟨p, vs, rfl, .inr h, by rw [dd.length]; exact q _ w H (Step.refl _ _) g (.int _)⟩
  cases t with
  | str y =>
    have e : (if y.length ≤ 100000 then some (T.int y.length) else none) = some z := e
    by_cases h : y.length ≤ 100000
    · rw [if_pos h] at e
      cases e
      exact .inr ⟨y, by rw [d.str], le_size h, q _ w H (Step.refl _ _) g (.int _)⟩
    · rw [if_neg h] at e; cases e
  | _ => exact seqs e
def intT (_ : RS) (t : T) : Option T := match t with
  | .int i => some (.int i)
  | .bl k => some (.int (if k then 1 else 0))
  | _ => none
theorem v_int : B1 G (fun xs H Q => (∃ i, xs = [.int i] ∧ Q (.int i) H) ∨ ∃ k, xs = [.bl k] ∧ Q (.int (if k then 1 else 0)) H) intT := fun w H r v t z Q g d e q => by
  cases t with
  | int i => cases e; exact .inl ⟨i, by rw [d.int], q _ w H (Step.refl _ _) g (.int _)⟩
  | bl i => cases e; exact .inr ⟨i, by rw [d.bl], q _ w H (Step.refl _ _) g (.int _)⟩
  | _ => cases e
def absT (_ : RS) (t : T) : Option T := match t with
  | .int i => some (T.int (if i < 0 then -i else i))
  | _ => none
theorem v_abs : B1 G (fun xs H Q => ∃ i, xs = [.int i] ∧ Q (.int (if i < 0 then -i else i)) H) absT := fun w H r v t z Q g d e q => by
  cases t with
  | int i => cases e; exact ⟨i, by rw [d.int], q _ w H (Step.refl _ _) g (.int _)⟩
  | _ => cases e
def max2T : T → T → Option T
  | .int i, .int j => some (.int (if j > i then j else i))
  | _, _ => none
def min2T : T → T → Option T
  | .int i, .int j => some (.int (if j < i then j else i))
  | _, _ => none
theorem v_max2 : B2 G (fun xs H Q => ∃ i j, xs = [.int i, .int j] ∧ Q (.int (if j > i then j else i)) H) max2T := fun w H r v u t s z Q g d1 d2 e q => by
  cases d1 with
  | int i =>
    cases d2 with
    | int j => cases e; exact ⟨i, j, rfl, q _ w H (Step.refl _ _) g (.int _)⟩
    | _ => cases e
  | _ => cases e
theorem v_min2 : B2 G (fun xs H Q => ∃ i j, xs = [.int i, .int j] ∧ Q (.int (if j < i then j else i)) H) min2T := fun w H r v u t s z Q g d1 d2 e q => by
  cases d1 with
  | int i =>
    cases d2 with
    | int j => cases e; exact ⟨i, j, rfl, q _ w H (Step.refl _ _) g (.int _)⟩
    | _ => cases e
  | _ => cases e
/-- a list of ints, of bools, of texts -/
def intsT : List T → Option (List Int)
  | [] => some []
  | .int i :: r => (intsT r).map (i :: ·)
  | _ :: _ => none
def blsT : List T → Option (List Bool)
  | [] => some []
  | .bl i :: r => (blsT r).map (i :: ·)
  | _ :: _ => none
def strsT : List T → Option (List Str)
  | [] => some []
  | .str i :: r => (strsT r).map (i :: ·)
  | _ :: _ => none
theorem ints_of {w : Wd} : ∀ {ts : List T} {vs : List V} {ns : List Int}, Dens G w vs ts → intsT ts = some ns → vs = ns.map V.int
  | [], _, _, .nil, e => by cases e; rfl
  | t :: ts, _, _, .cons h r, e => by
    cases h with
    | int i =>
      have e : (intsT ts).map (i :: ·) = some _ := e
      cases q : intsT ts with
      | none => rw [q] at e; cases e
      | some ns => rw [q] at e; cases e; rw [ints_of r q]; rfl
    | _ => cases e
theorem bls_of {w : Wd} : ∀ {ts : List T} {vs : List V} {ns : List Bool}, Dens G w vs ts → blsT ts = some ns → vs = ns.map V.bl
  | [], _, _, .nil, e => by cases e; rfl
  | t :: ts, _, _, .cons h r, e => by
    cases h with
    | bl i =>
      have e : (blsT ts).map (i :: ·) = some _ := e
      cases q : blsT ts with
      | none => rw [q] at e; cases e
      | some ns => rw [q] at e; cases e; rw [bls_of r q]; rfl
    | _ => cases e
theorem strs_of {w : Wd} : ∀ {ts : List T} {vs : List V} {ns : List Str}, Dens G w vs ts → strsT ts = some ns → vs = ns.map V.str
  | [], _, _, .nil, e => by cases e; rfl
  | t :: ts, _, _, .cons h r, e => by
    cases h with
    | str i =>
      have e : (strsT ts).map (i :: ·) = some _ := e
      cases q : strsT ts with
      | none => rw [q] at e; cases e
      | some ns => rw [q] at e; cases e; rw [strs_of r q]; rfl
    | _ => cases e
/-- the items of a list -/
def lstT (r : RS) : T → Option (List T)
  | .lst xs => some xs
  | .kls xs => some xs
  | .ref k => r[k]?
  | _ => none
theorem lst_of {w : Wd} {H : Hp} {r : RS} {v : V} {t : T} {xs : List T} (g : Good G w H r) (d : DenB G w H v t) (e : lstT r t = some xs) : ∃ a vs, v = .ref a ∧ SqL G.K H a vs ∧ Dens G w vs xs ∧ xs.length ≤ sizeLine := by
  rcases d with d | ⟨a, vs, ys, e1, e2, h1, h2, h3, h4⟩
  · cases d with
    | lst h z d => cases e; exact ⟨_, _, rfl, SqL.of (g.sub _ _ h), d, z⟩
    | kls h z d => cases e; exact ⟨_, _, rfl, g.sub.seq h, d, z⟩
    | @ref k a h =>
      obtain ⟨b, vs, h1, h2, h3, h4⟩ := g.refs.at_ k xs e
      rw [h] at h1
      cases h1
      exact ⟨_, vs, rfl, SqL.of h2, h3, h4⟩
    | _ => cases e
  · subst e1 e2
    cases e
    exact ⟨_, vs, rfl, SqL.of h2, h3, h4⟩
def sumT (r : RS) (t : T) : Option T := (lstT r t).bind fun xs => (intsT xs).map fun ns => .int ns.sum
theorem v_sum (hK : X.K = G.K) : B1 G (rSum X.K) sumT := fun w H r v t z Q g d e q => by
  unfold sumT at e
  cases q1 : lstT r t with
  | none => rw [q1] at e; cases e
  | some xs =>
    rw [q1] at e
    have e : ((intsT xs).map fun ns => T.int ns.sum) = some z := e
    obtain ⟨a, vs, rfl, h, dd, zz⟩ := lst_of g d q1
    cases q2 : intsT xs with
    | none => rw [q2] at e; cases e
    | some ns =>
      rw [q2] at e
      cases e
      have := ints_of dd q2
      subst this
      rw [hK]
      exact ⟨a, ns, rfl, h, q _ w H (Step.refl _ _) g (.int _)⟩
def anyT (r : RS) (t : T) : Option T := (lstT r t).bind fun xs => (blsT xs).map fun bs => .bl (bs.any _root_.id)
def allT (r : RS) (t : T) : Option T := (lstT r t).bind fun xs => (blsT xs).map fun bs => .bl (bs.all _root_.id)
theorem v_any (hK : X.K = G.K) : B1 G (rAny X.K) anyT := fun w H r v t z Q g d e q => by
  unfold anyT at e
  cases q1 : lstT r t with
  | none => rw [q1] at e; cases e
  | some xs =>
    rw [q1] at e
    have e : ((blsT xs).map fun bs => T.bl (bs.any _root_.id)) = some z := e
    obtain ⟨a, vs, rfl, h, dd, zz⟩ := lst_of g d q1
    cases q2 : blsT xs with
    | none => rw [q2] at e; cases e
    | some ns =>
      rw [q2] at e
      cases e
      have := bls_of dd q2
      subst this
      rw [hK]
      exact ⟨a, ns, rfl, h, q _ w H (Step.refl _ _) g (.bl _)⟩
theorem v_all (hK : X.K = G.K) : B1 G (rAll X.K) allT := fun w H r v t z Q g d e q => by
  unfold allT at e
  cases q1 : lstT r t with
  | none => rw [q1] at e; cases e
  | some xs =>
    rw [q1] at e
    have e : ((blsT xs).map fun bs => T.bl (bs.all _root_.id)) = some z := e
    obtain ⟨a, vs, rfl, h, dd, zz⟩ := lst_of g d q1
    cases q2 : blsT xs with
    | none => rw [q2] at e; cases e
    | some ns =>
      rw [q2] at e
      cases e
      have := bls_of dd q2
      subst this
      rw [hK]
      exact ⟨a, ns, rfl, h, q _ w H (Step.refl _ _) g (.bl _)⟩
/-- greatest, least of a list of ints -/
def maxL : List Int → Option Int
  | [] => none
  | x :: xs => some (xs.foldl (fun a b => if b > a then b else a) x)
def minL : List Int → Option Int
  | [] => none
  | x :: xs => some (xs.foldl (fun a b => if b < a then b else a) x)
theorem foldmax_spec : ∀ (xs : List Int) (x : Int), (xs.foldl (fun a b => if b > a then b else a) x ∈ x :: xs) ∧ ∀ y ∈ x :: xs, y ≤ xs.foldl (fun a b => if b > a then b else a) x
  | [], x => by simp
  | y :: ys, x => by
    obtain ⟨h1, h2⟩ := foldmax_spec ys (if y > x then y else x)
    rw [List.foldl_cons]
    refine ⟨?_, fun z hz => ?_⟩
    · rcases List.mem_cons.mp h1 with e | e
      · rw [e]; split <;> simp
      · exact List.mem_cons_of_mem _ (List.mem_cons_of_mem _ e)
    · have h3 := h2 _ List.mem_cons_self
      rcases List.mem_cons.mp hz with e | e
      · subst e
        refine Int.le_trans ?_ h3
        split <;> omega
      · rcases List.mem_cons.mp e with e | e
        · subst e
          refine Int.le_trans ?_ h3
          split <;> omega
        · exact h2 z (List.mem_cons_of_mem _ e)
theorem foldmin_spec : ∀ (xs : List Int) (x : Int), (xs.foldl (fun a b => if b < a then b else a) x ∈ x :: xs) ∧ ∀ y ∈ x :: xs, xs.foldl (fun a b => if b < a then b else a) x ≤ y
  | [], x => by simp
  | y :: ys, x => by
    obtain ⟨h1, h2⟩ := foldmin_spec ys (if y < x then y else x)
    rw [List.foldl_cons]
    refine ⟨?_, fun z hz => ?_⟩
    · rcases List.mem_cons.mp h1 with e | e
      · rw [e]; split <;> simp
      · exact List.mem_cons_of_mem _ (List.mem_cons_of_mem _ e)
    · have h3 := h2 _ List.mem_cons_self
      rcases List.mem_cons.mp hz with e | e
      · subst e
        refine Int.le_trans h3 ?_
        split <;> omega
      · rcases List.mem_cons.mp e with e | e
        · subst e
          refine Int.le_trans h3 ?_
          split <;> omega
        · exact h2 z (List.mem_cons_of_mem _ e)
def maxT (r : RS) (t : T) : Option T := (lstT r t).bind fun xs => (intsT xs).bind fun ns => (maxL ns).map T.int
def minT (r : RS) (t : T) : Option T := (lstT r t).bind fun xs => (intsT xs).bind fun ns => (minL ns).map T.int
theorem v_max (hK : X.K = G.K) : B1 G (rMax X.K) maxT := fun w H r v t z Q g d e q => by
  unfold maxT at e
  cases q1 : lstT r t with
  | none => rw [q1] at e; cases e
  | some xs =>
    rw [q1] at e
    have e : ((intsT xs).bind fun ns => (maxL ns).map T.int) = some z := e
    obtain ⟨a, vs, rfl, h, dd, zz⟩ := lst_of g d q1
    cases q2 : intsT xs with
    | none => rw [q2] at e; cases e
    | some ns =>
      rw [q2] at e
      have := ints_of dd q2
      subst this
      cases ns with
      | nil => cases e
      | cons n ns =>
        cases e
        rw [hK]
        obtain ⟨h1, h2⟩ := foldmax_spec ns n
        refine ⟨a, n :: ns, rfl, h, Nat.succ_pos _, fun m hm hle => ?_⟩
        have : m = ns.foldl (fun a b => if b > a then b else a) n := Int.le_antisymm (h2 m hm) (hle _ h1)
        rw [this]
        exact q _ w H (Step.refl _ _) g (.int _)
theorem v_min (hK : X.K = G.K) : B1 G (rMin X.K) minT := fun w H r v t z Q g d e q => by
  unfold minT at e
  cases q1 : lstT r t with
  | none => rw [q1] at e; cases e
  | some xs =>
    rw [q1] at e
    have e : ((intsT xs).bind fun ns => (minL ns).map T.int) = some z := e
    obtain ⟨a, vs, rfl, h, dd, zz⟩ := lst_of g d q1
    cases q2 : intsT xs with
    | none => rw [q2] at e; cases e
    | some ns =>
      rw [q2] at e
      have := ints_of dd q2
      subst this
      cases ns with
      | nil => cases e
      | cons n ns =>
        cases e
        rw [hK]
        obtain ⟨h1, h2⟩ := foldmin_spec ns n
        refine ⟨a, n :: ns, rfl, h, Nat.succ_pos _, fun m hm hle => ?_⟩
        have : m = ns.foldl (fun a b => if b < a then b else a) n := Int.le_antisymm (hle _ h1) (h2 m hm)
        rw [this]
        exact q _ w H (Step.refl _ _) g (.int _)
/-- tuple(xs), list(xs) -/
def tupT (r : RS) (t : T) : Option T := (seqT r t).map .tup
def lisT (r : RS) (t : T) : Option T := (seqT r t).map .lst
theorem v_tup (hK : X.K = G.K) : B1 G (fun xs H Q => ∃ p ys, xs = [.ref p] ∧ ((SqL X.K H p ys ∧ ∀ l, H l = none → Q (.ref l) (upd H l (.tup ys))) ∨ (SqT X.K H p ys ∧ Q (.ref p) H))) tupT := fun w H r v t z Q g d e q => by
  unfold tupT at e
  cases q1 : seqT r t with
  | none => rw [q1] at e; cases e
  | some xs =>
    rw [q1] at e
    cases e
    rw [hK]
    cases t with
    | tup ys =>
      cases q1
      rcases d with d | ⟨_, _, _, _, e2, _⟩
      · cases d with
        | @tup a vs _ h zz dd => exact ⟨a, vs, rfl, .inr ⟨tup_sq g.sub h, q _ w H (Step.refl _ _) g (.tup h zz dd)⟩⟩
      · cases e2
    | lst ys =>
      obtain ⟨a, vs, rfl, h, dd, zz⟩ := lst_of g d (show lstT r (.lst ys) = some xs from q1)
      refine ⟨a, vs, rfl, .inl ⟨h, fun l hl => ?_⟩⟩
      obtain ⟨st, g2⟩ := g.new (o := .tup vs) hl
      exact q _ _ _ st g2 (.tup (.inl upd_same) zz (dd.mono st.later))
    | kls ys =>
      obtain ⟨a, vs, rfl, h, dd, zz⟩ := lst_of g d (show lstT r (.kls ys) = some xs from q1)
      refine ⟨a, vs, rfl, .inl ⟨h, fun l hl => ?_⟩⟩
      obtain ⟨st, g2⟩ := g.new (o := .tup vs) hl
      exact q _ _ _ st g2 (.tup (.inl upd_same) zz (dd.mono st.later))
    | ref ys =>
      obtain ⟨a, vs, rfl, h, dd, zz⟩ := lst_of g d (show lstT r (.ref ys) = some xs from q1)
      refine ⟨a, vs, rfl, .inl ⟨h, fun l hl => ?_⟩⟩
      obtain ⟨st, g2⟩ := g.new (o := .tup vs) hl
      exact q _ _ _ st g2 (.tup (.inl upd_same) zz (dd.mono st.later))
    | _ => cases q1
theorem v_lis (hK : X.K = G.K) : B1 G (fun xs H Q => ∃ p ys, xs = [.ref p] ∧ (SqL X.K H p ys ∨ SqT X.K H p ys) ∧ ∀ l, H l = none → Q (.ref l) (upd H l (.lst ys))) lisT := fun w H r v t z Q g d e q => by
  unfold lisT at e
  cases q1 : seqT r t with
  | none => rw [q1] at e; cases e
  | some xs =>
    rw [q1] at e
    cases e
    rw [hK]
    obtain ⟨p, rfl, sd⟩ := seq_of g d q1
    cases sd with
    | l vs h dd zz =>
      refine ⟨p, vs, rfl, .inl h, fun l hl => ?_⟩
      obtain ⟨st, g2⟩ := g.new (o := .lst vs) hl
      exact q _ _ _ st g2 (.lst upd_same zz (dd.mono st.later))
    | t vs h dd zz =>
      refine ⟨p, vs, rfl, .inr h, fun l hl => ?_⟩
      obtain ⟨st, g2⟩ := g.new (o := .lst vs) hl
      exact q _ _ _ st g2 (.lst upd_same zz (dd.mono st.later))
/-- isinstance(x, c) -/
def tagS : T → Option String
  | .non => some "NoneType"
  | .bl _ => some "bool"
  | .int _ => some "int"
  | .str _ => some "str"
  | .tup _ => some "tuple"
  | .lst _ => some "list"
  | .kls _ => some "list"
  | .ref _ => some "list"
  | .dct _ _ => some "dict"
  | .dtt _ _ => some "dict"
  | _ => none
theorem ty_of {w : Wd} {H : Hp} {r : RS} {v : V} {t : T} {s : String} (g : Good G w H r) (d : Den G w v t) (e : tagS t = some s) : TyX G.K H v (.type s) := by
  cases d with
  | non => cases e; exact .base .non
  | bl b => cases e; exact .base (.bl b)
  | int i => cases e; exact .base (.int i)
  | str x => cases e; exact .base (.str x)
  | tup h z d =>
    cases e
    rcases h with h | ⟨o, its, n, h1, h2, _⟩
    · exact .base (.tup (g.sub _ _ h))
    · exact .kTuple h1 h2
  | lst h z d => cases e; exact .base (.lst (g.sub _ _ h))
  | kls h z d =>
    cases e
    rcases g.sub.seq h with (h | ⟨o, h⟩) | ⟨o, its, n, h1, h2, _⟩
    · exact .base (.lst h)
    · exact .base (.frz h)
    · exact .kList h1 h2
  | @ref k a h =>
    cases e
    obtain ⟨vs, q⟩ := g.refs.there (List.mem_of_getElem? h)
    exact .base (.lst q)
  | dct h l d => cases e; exact .base (.dK (g.sub _ _ h))
  | dtt h l d => cases e; exact .base (.dT (g.sub _ _ h))
  | _ => cases e
/-- the kind of a value: a built-in type, an own class -/
inductive Kd where
  | b (s : String) | o (C : Nat)
  deriving DecidableEq
def kdT : T → Option Kd
  | .obj C _ => some (.o C)
  | t => (tagS t).map .b
/-- what the library tells of an own class -/
structure InsTy (K : PySem.W.Frag) (cA : Addr) : Prop where
  cl : Cls K cA
  ha : PySem.W.findIn K (.ref cA) "__class__" = some (some (.builtin "object.__class__"))
  hsp : PySem.W.specialIn K (.builtin "object.__class__") "__get__" = some (some (.builtin "getset_descriptor.__get__"))
  htak : PySem.W.takesIn K (.builtin "object.__class__") = some true
  hmr : PySem.W.mroIn K cA (.type "object") = some true
def KdV (G : Gm) (k : Kd) (u : Value) : Prop := match k with
  | .b s => u = .type s
  | .o C => ∃ cA, G.mg (G.cn C) = some (.ref cA) ∧ u = .ref cA ∧ InsTy G.K cA
/-- a class as a value -/
inductive Cl where
  | ty (n : String) | cl (C : Nat)
  deriving DecidableEq
def clT : T → Option Cl
  | .ty n => some (.ty n)
  | .cl C => some (.cl C)
  | _ => none
def ClV (G : Gm) (c : Cl) (u : Value) : Prop := match c with
  | .ty n => u = .type n
  | .cl C => ∃ cA, G.mg (G.cn C) = some (.ref cA) ∧ u = .ref cA
/-- a table of isinstance -/
def TabOk (G : Gm) (tb : Kd → Cl → Option Bool) : Prop := ∀ k c b, tb k c = some b → (∀ C, k = .o C → ∀ cA, G.mg (G.cn C) = some (.ref cA) → InsTy G.K cA) ∧ ∀ u z, KdV G k u → ClV G c z → PySem.W.kitOne G.K u z = some b
def isiL (tb : Kd → Cl → Option Bool) (k : Kd) : List T → Option Bool
  | [] => some false
  | c :: cs => match (clT c).bind (tb k) with
    | some true => (clsT cs).map fun _ => true
    | some false => isiL tb k cs
    | none => none
where clsT : List T → Option Unit
  | [] => some ()
  | c :: cs => (clT c).bind fun _ => clsT cs
def isiT (tb : Kd → Cl → Option Bool) (t c : T) : Option T := match c with
  | .tup cs => (kdT t).bind fun k => match cs with
    | [] => none
    | c :: cs => (isiL tb k (c :: cs)).map T.bl
  | c => (kdT t).bind fun k => (clT c).bind fun c => (tb k c).map T.bl
def rIsiA (K : PySem.W.Frag) : List V → Hp → VK → Prop := fun xs H Q => rIsi K xs H Q ∨ rIsiT K xs H Q ∨ rIsiK K xs H Q
theorem c_isi : CallR X (.builtin "isinstance") (rIsiA X.K) := call_isi.or (call_isiT.or call_isiK)
theorem cl_of {w : Wd} {v : V} {t : T} {c : Cl} (d : Den G w v t) (h : clT t = some c) : ∃ u, ClsV v u ∧ ClV G c u := by
  cases d with
  | ty n => cases h; exact ⟨_, .ty n, rfl⟩
  | @cl C a q => cases h; exact ⟨_, .own a, a, q, rfl⟩
  | _ => cases h
theorem kd_of {w : Wd} {H : Hp} {r : RS} {v : V} {t : T} {k : Kd} (g : Good G w H r) (d : Den G w v t) (e : kdT t = some k) (hi : ∀ C, k = .o C → ∀ cA, G.mg (G.cn C) = some (.ref cA) → InsTy G.K cA) : ∃ u, TyX G.K H v u ∧ KdV G k u := by
  have go : ∀ s, tagS t = some s → k = .b s → ∃ u, TyX G.K H v u ∧ KdV G k u := fun s e1 e2 => by
    subst e2
    exact ⟨_, ty_of g d e1, rfl⟩
  cases t with
  | obj C vs =>
    cases e
    cases d with
    | @obj a cA dx _ us _ c h l dd =>
      have i := hi C rfl cA c
      exact ⟨_, .base (.ins (g.sub _ _ h) i.cl i.ha i.hsp i.htak i.hmr), cA, c, rfl, i⟩
  | non => cases e; exact go _ rfl rfl
  | bl _ => cases e; exact go _ rfl rfl
  | int _ => cases e; exact go _ rfl rfl
  | str _ => cases e; exact go _ rfl rfl
  | tup _ => cases e; exact go _ rfl rfl
  | lst _ => cases e; exact go _ rfl rfl
  | kls _ => cases e; exact go _ rfl rfl
  | ref _ => cases e; exact go _ rfl rfl
  | dct _ _ => cases e; exact go _ rfl rfl
  | dtt _ _ => cases e; exact go _ rfl rfl
  | _ => cases e
theorem cls_of {w : Wd} : ∀ {cs : List T} {vs : List V}, Dens G w vs cs → isiL.clsT cs = some () → ∃ us, Paired ClsV vs us
  | [], _, .nil, _ => ⟨[], .nil⟩
  | c :: cs, _, .cons h r, e => by
    have e : ((clT c).bind fun _ => isiL.clsT cs) = some () := e
    cases q : clT c with
    | none => rw [q] at e; cases e
    | some c' =>
      rw [q] at e
      obtain ⟨u, h1, _⟩ := cl_of h q
      obtain ⟨us, h2⟩ := cls_of r e
      exact ⟨u :: us, .cons h1 h2⟩
theorem isi_list {tb : Kd → Cl → Option Bool} (ok : TabOk G tb) {k : Kd} {u : Value} (hu : KdV G k u) {w : Wd} : ∀ {cs : List T} {vs : List V} {b : Bool}, Dens G w vs cs → isiL tb k cs = some b → ∃ us, Paired ClsV vs us ∧ PySem.W.kitAny G.K u us = some b
  | [], _, _, .nil, e => by cases e; exact ⟨[], .nil, kitAny_nil⟩
  | c :: cs, _, b, .cons h r, e => by
    unfold isiL at e
    cases q : clT c with
    | none => rw [q] at e; cases e
    | some c' =>
      rw [q] at e
      obtain ⟨z, h1, h2⟩ := cl_of h q
      have e : (match tb k c' with
        | some true => (isiL.clsT cs).map fun _ => true
        | some false => isiL tb k cs
        | none => none) = some b := e
      cases q2 : tb k c' with
      | none => rw [q2] at e; cases e
      | some b' =>
        rw [q2] at e
        have h3 := (ok k c' b' q2).2 u z hu h2
        cases b' with
        | true =>
          have e : ((isiL.clsT cs).map fun _ => true) = some b := e
          cases q3 : isiL.clsT cs with
          | none => rw [q3] at e; cases e
          | some _ =>
            rw [q3] at e
            cases e
            obtain ⟨us, hp⟩ := cls_of r q3
            exact ⟨z :: us, .cons h1 hp, kitAny_cons h3 (fun z => nomatch z) (fun _ => rfl)⟩
        | false =>
          obtain ⟨us, hp, ha⟩ := isi_list ok hu r e
          exact ⟨z :: us, .cons h1 hp, kitAny_cons h3 (fun _ => ha) (fun z => nomatch z)⟩
theorem v_isi {tb : Kd → Cl → Option Bool} (ok : TabOk G tb) (hK : X.K = G.K) : B2 G (rIsiA X.K) (isiT tb) := fun w H r v u t s z Q g d1 d2 e q => by
  rw [hK]
  have one : ((kdT t).bind fun k => (clT s).bind fun c => (tb k c).map T.bl) = some z → rIsiA G.K [v, u] H Q := fun e => by
    cases q1 : kdT t with
    | none => rw [q1] at e; cases e
    | some k =>
      rw [q1] at e
      have e : ((clT s).bind fun c => (tb k c).map T.bl) = some z := e
      cases q2 : clT s with
      | none => rw [q2] at e; cases e
      | some c =>
        rw [q2] at e
        have e : (tb k c).map T.bl = some z := e
        cases q3 : tb k c with
        | none => rw [q3] at e; cases e
        | some b =>
          rw [q3] at e
          cases e
          obtain ⟨hi, hk⟩ := ok k c b q3
          obtain ⟨z1, h1, h2⟩ := cl_of d2 q2
          obtain ⟨z2, h3, h4⟩ := kd_of g d1 q1 hi
          exact .inl ⟨v, u, z2, z1, b, rfl, h1, h3, hk _ _ h4 h2, q _ w H (Step.refl _ _) g (.bl b)⟩
  cases s with
  | tup cs =>
    have e : ((kdT t).bind fun k => match cs with
      | [] => none
      | c :: cs => (isiL tb k (c :: cs)).map T.bl) = some z := e
    cases q1 : kdT t with
    | none => rw [q1] at e; cases e
    | some k =>
      rw [q1] at e
      cases cs with
      | nil => cases e
      | cons c cs =>
        have e : (isiL tb k (c :: cs)).map T.bl = some z := e
        cases q3 : isiL tb k (c :: cs) with
        | none => rw [q3] at e; cases e
        | some b =>
          rw [q3] at e
          cases e
          have hi : ∀ C, k = .o C → ∀ cA, G.mg (G.cn C) = some (.ref cA) → InsTy G.K cA := by
            unfold isiL at q3
            cases q2 : clT c with
            | none => rw [q2] at q3; cases q3
            | some c' =>
              rw [q2] at q3
              cases q4 : tb k c' with
              | none =>
                have q3 : (match tb k c' with
                  | some true => (isiL.clsT cs).map fun _ => true
                  | some false => isiL tb k cs
                  | none => none) = some b := q3
                rw [q4] at q3
                cases q3
              | some b' => exact (ok k c' b' q4).1
          obtain ⟨z2, h3, h4⟩ := kd_of g d1 q1 hi
          cases d2 with
          | @tup p vs _ h zz dd =>
            obtain ⟨us, hp, ha⟩ := isi_list ok h4 dd q3
            rcases h with hT | ⟨⟨oc, od, dt, sl⟩, its, n, h1, h2, h5, _, h6⟩
            · exact .inr (.inl ⟨v, p, vs, z2, us, b, rfl, g.sub _ _ hT, hp, h3, ha, q _ w H (Step.refl _ _) g (.bl b)⟩)
            · have h2 : oc = .type "tuple" := h2
              have h5 : dt = .seq its n := h5
              subst h2 h5
              have e6 := ClsV.all hp h6
              have e7 : us.toArray = its := by rw [← e6]
              exact .inr (.inr ⟨v, p, od, us, n, sl, z2, b, rfl, by rw [e7]; exact h1, h3, ha, q _ w H (Step.refl _ _) g (.bl b)⟩)
  | _ => exact one e
end
end Ep
namespace Ep
open PySem PySem.Spec L2
/-! ### statements -/
inductive SO where
  | nx (e : Env) (r : RS) | rt (t : T) (r : RS) | bk (e : Env) (r : RS) | ct (e : Env) (r : RS) | exn (c : Nat) (p : T) (e : Env) (r : RS) | bad
abbrev Sm := Env → RS → SO
def FlowP (G : Gm) (W : WX) (w0 : Wd) (H0 : Hp) (D : Ends) : SO → Prop
  | .nx env r => ∀ w' H' σ', Step w0 H0 w' H' → Good G w' H' r → Slots G w' H0 H' σ' env → D.nx σ' H'
  | .rt t r => ∀ w' H' v, Step w0 H0 w' H' → Good G w' H' r → Den G w' v t → D.rt v H'
  | .bk env r => ∀ w' H' σ', Step w0 H0 w' H' → Good G w' H' r → Slots G w' H0 H' σ' env → D.bk σ' H'
  | .ct env r => ∀ w' H' σ', Step w0 H0 w' H' → Good G w' H' r → Slots G w' H0 H' σ' env → D.ct σ' H'
  | .exn c p env r => ∀ w' H' σ' cls d, Step w0 H0 w' H' → Good G w' H' r → Slots G w' H0 H' σ' env → ExcIs G w' H' c p cls d → W cls d σ' H'
  | .bad => False
/-- where a computation stands: the base, the world now, the slots -/
structure At (G : Gm) (w0 : Wd) (H0 : Hp) (w : Wd) (H : Hp) (σ : L2.St) (env : Env) (r : RS) : Prop where
  st : Step w0 H0 w H
  g : Good G w H r
  s : Slots G w H0 H σ env
def tSS (G : Gm) (W : WX) (w0 : Wd) (H0 : Hp) (g : Sm) : TS := fun D σ H => ∃ w env r, At G w0 H0 w H σ env r ∧ FlowP G W w0 H0 D (g env r)
abbrev SS (X : Cx) (G : Gm) (W : WX) (st : Stmt) (g : Sm) : Prop := ∀ w0 H0, PS X st (tSS G W w0 H0 g)
abbrev SSs (X : Cx) (G : Gm) (W : WX) (st : List Stmt) (g : Sm) : Prop := ∀ w0 H0, PSs X st (tSS G W w0 H0 g)
theorem ps_imp {X : Cx} {st : Stmt} {t t' : TS} (h : PS X st t) (i : ∀ D σ H, t' D σ H → t D σ H) : PS X st t' := ⟨fun pins s σ H D I q => h.run pins s σ H D I (i D σ H q)⟩
theorem pss_imp {X : Cx} {st : List Stmt} {t t' : TS} (h : PSs X st t) (i : ∀ D σ H, t' D σ H → t D σ H) : PSs X st t' := ⟨fun pins s σ H D I q => h.run pins s σ H D I (i D σ H q)⟩
def ofM {α : Type} (env : Env) (k : α → RS → SO) : Out α → SO
  | .ok a r => k a r
  | .exn c p r => .exn c p env r
  | .bad => .bad
section
variable {G : Gm} {W : WX} {w0 w : Wd} {H0 H : Hp} {σ : L2.St} {env : Env} {r : RS} {D : Ends}
theorem At.step (a : At G w0 H0 w H σ env r) {w' : Wd} {H' : Hp} {r' : RS} (st : Step w H w' H') (g : Good G w' H' r') : At G w0 H0 w' H' σ env r' := ⟨a.st.trans st, g, a.s.step st⟩
theorem FlowP.ofM {α : Type} {m : Out α} {k : α → RS → SO} (a : At G w0 H0 w H σ env r) (h : FlowP G W w0 H0 D (ofM env k m)) :
    OutP G w H (WE0 W σ) (fun x r' w' H' => At G w0 H0 w' H' σ env r' ∧ FlowP G W w0 H0 D (k x r')) m := by
  cases m with
  | ok x r' => exact fun w' H' st g => ⟨a.step st g, h⟩
  | exn c p r' => exact fun w' H' cls d st g x => h w' H' σ cls d (a.st.trans st) g (a.s.step st) x
  | bad => exact h
end
section
variable {X : Cx} {G : Gm} {W : WX} {st : Stmt} {rest : List Stmt} {g g' : Sm} {pos : Pos}
def qNil : Sm := fun env r => .nx env r
def qSeq (g g' : Sm) : Sm := fun env r => match g env r with
  | .nx env r => g' env r
  | o => o
theorem ss_nil : SSs X G W [] qNil := fun w0 H0 => pss_imp pss_nil fun D σ H ⟨w, env, r, a, h⟩ => h w H σ a.st a.g a.s
theorem ss_cons (h1 : SS X G W st g) (h2 : SSs X G W rest g') : SSs X G W (st :: rest) (qSeq g g') := fun w0 H0 => pss_imp (pss_cons (h1 w0 H0) (h2 w0 H0)) fun D σ H ⟨w, env, r, a, h⟩ => by
  refine ⟨w, env, r, a, ?_⟩
  unfold qSeq at h
  cases q : g env r with
  | nx env' r' =>
    rw [q] at h
    exact fun w' H' σ' st g s => ⟨w', env', r', ⟨st, g, s⟩, h⟩
  | rt t r' => rw [q] at h; exact h
  | bk e r' => rw [q] at h; exact h
  | ct e r' => rw [q] at h; exact h
  | exn c p e r' => rw [q] at h; exact h
  | bad => rw [q] at h; exact h
theorem ss_one (h1 : SS X G W st g) : SSs X G W [st] g := fun w0 H0 => pss_one (h1 w0 H0)
theorem ss_pass : SS X G W (.Pass pos) qNil := fun w0 H0 => ps_imp ps_pass fun D σ H ⟨w, env, r, a, h⟩ => h w H σ a.st a.g a.s
theorem ss_break : SS X G W (.Break pos) (fun env r => .bk env r) := fun w0 H0 => ps_imp ps_break fun D σ H ⟨w, env, r, a, h⟩ => h w H σ a.st a.g a.s
theorem ss_continue : SS X G W (.Continue pos) (fun env r => .ct env r) := fun w0 H0 => ps_imp ps_continue fun D σ H ⟨w, env, r, a, h⟩ => h w H σ a.st a.g a.s
/-- a statement that is never reached -/
theorem ss_never : SS X G W st (fun _ _ => .bad) := fun w0 H0 => ps_imp ps_never fun D σ H ⟨w, env, r, a, h⟩ => h
variable {e : Expr} {f : Env → M T}
def qRet (f : Env → M T) : Sm := fun env r => ofM env (fun t r => .rt t r) (f env r)
theorem at_e {w0 w : Wd} {H0 H : Hp} {σ : L2.St} {env : Env} {r : RS} {D : Ends} {k : T → RS → SO} {Q : VK} (a : At G w0 H0 w H σ env r) (h : FlowP G W w0 H0 D (ofM env k (f env r)))
    (n : ∀ t r1 w1 H1 v, At G w0 H0 w1 H1 σ env r1 → Den G w1 v t → FlowP G W w0 H0 D (k t r1) → Q v H1) : tS G W f σ H Q :=
  ⟨w, H0, env, r, a.g, a.s, (FlowP.ofM a h).imp fun t r1 w1 H1 _ _ q v d => n t r1 w1 H1 v q.1 d q.2⟩
theorem at_b {w0 w : Wd} {H0 H : Hp} {σ : L2.St} {env : Env} {r : RS} {D : Ends} {p : Env → M Bool} {k : Bool → RS → SO} {Q : Bool → Hp → Prop} (a : At G w0 H0 w H σ env r) (h : FlowP G W w0 H0 D (ofM env k (p env r)))
    (n : ∀ t r1 w1 H1, At G w0 H0 w1 H1 σ env r1 → FlowP G W w0 H0 D (k t r1) → Q t H1) : tSB G W p σ H Q :=
  ⟨w, H0, env, r, a.g, a.s, (FlowP.ofM a h).imp fun t r1 w1 H1 _ _ q => n t r1 w1 H1 q.1 q.2⟩
theorem ss_ret (he : SE X G W e f) : SS X G W (.Return (some e) pos) (qRet f) := fun w0 H0 => ps_imp (ps_ret he) fun D σ H ⟨w, env, r, a, h⟩ =>
  at_e a h fun t r1 w1 H1 v a1 d h1 => h1 w1 H1 v a1.st a1.g d
theorem ss_retN : SS X G W (.Return none pos) (fun _ r => .rt .non r) := fun w0 H0 => ps_imp ps_retN fun D σ H ⟨w, env, r, a, h⟩ => h w H _ a.st a.g .non
def qExpr (f : Env → M T) : Sm := fun env r => ofM env (fun _ r => .nx env r) (f env r)
theorem ss_expr (he : SE X G W e f) (hs : swapsWith e none pos.line X.env = pure false := by rfl) : SS X G W (.Expr e pos) (qExpr f) := fun w0 H0 => ps_imp (ps_expr he hs) fun D σ H ⟨w, env, r, a, h⟩ =>
  at_e a h fun t r1 w1 H1 v a1 d h1 => h1 w1 H1 σ a1.st a1.g a1.s
def qIf (p : Env → M Bool) (g g' : Sm) : Sm := fun env r => ofM env (fun c r => if c = true then g env r else g' env r) (p env r)
theorem ss_if {c : Expr} {p : Env → M Bool} {sa sb : List Stmt} (hc : SB X G W c p) (ha : SSs X G W sa g) (hb : SSs X G W sb g') : SS X G W (.If c sa sb pos) (qIf p g g') := fun w0 H0 => ps_imp (ps_if hc (ha w0 H0) (hb w0 H0)) fun D σ H ⟨w, env, r, a, h⟩ =>
  at_b a h fun t r1 w1 H1 a1 h1 => by
    cases t with
    | true => exact ⟨w1, env, r1, a1, h1⟩
    | false => exact ⟨w1, env, r1, a1, h1⟩
end
/-! ### slots set -/
section
variable {G : Gm} {w : Wd} {H0 H : Hp} {σ : L2.St} {env : Env} {r : RS}
theorem Slots.setVal {v : V} {t : T} (s : Slots G w H0 H σ env) (i : Nat) (d : Den G w v t) : Slots G w H0 H (σ.set i (some v)) (env.set i (.val t)) := by
  obtain ⟨oa, h1, h2⟩ := s.ex
  refine ⟨by simp [s.len], oa, fun j sl hj => ?_, fun j k u u' hj hk pj pk e => ?_⟩
  · by_cases hij : i = j
    · subst hij
      by_cases hl : i < env.length
      · rw [List.getElem?_set_self hl] at hj
        cases hj
        exact ⟨v, by rw [List.getElem?_set_self (by rw [s.len]; exact hl)], d⟩
      · rw [List.getElem?_eq_none (by simpa using hl)] at hj
        cases hj
    · rw [List.getElem?_set_ne hij] at hj
      have := h1 j sl hj
      unfold SlotAt at this ⊢
      cases sl <;> first | exact True.intro | (simp only [List.getElem?_set_ne hij]; exact this)
  · have ne : ∀ {m : Nat} {x : Slot}, (env.set i (.val t))[m]? = some x → x.priv = true → env[m]? = some x := fun {m x} hm px => by
      by_cases him : i = m
      · subst him
        by_cases hl : i < env.length
        · rw [List.getElem?_set_self hl] at hm
          cases hm
          cases px
        · rw [List.getElem?_eq_none (by simpa using hl)] at hm
          cases hm
      · rw [List.getElem?_set_ne him] at hm
        exact hm
    exact h2 j k u u' (ne hj pj) (ne hk pk) pj pk e
/-- an own list's address is none of a heap's that does not know it -/
theorem Slots.setOwn {p : Addr} {o : HO} {xs : Pv} (s : Slots G w H0 H σ env) (i : Nat) (nw : ∀ (j : Nat) (sl : Slot) (oa : Addr), env[j]? = some sl → sl.priv = true → σ[j]? = some (some (.ref oa)) → oa ≠ p)
    (hP : w.P p = none) (hR : p ∉ w.R) (h0 : ¬ Vs H0 p) (hh : H p = some o) (d : PvOk G w p o xs) : Slots G w H0 H (σ.set i (some (.ref p))) (env.set i (.pv xs)) := by
  obtain ⟨oa, h1, h2⟩ := s.ex
  have old : ∀ {m : Nat} {x : Slot}, i ≠ m → (env.set i (.pv xs))[m]? = some x → env[m]? = some x := fun {m x} him hm => by
    rw [List.getElem?_set_ne him] at hm
    exact hm
  have oan : ∀ {m : Nat} {x : Slot}, env[m]? = some x → x.priv = true → oa m ≠ p := fun {m x} hm px => by
    have := h1 m x hm
    cases x with
    | un => cases px
    | val _ => cases px
    | pv ys => exact nw m _ _ hm rfl this.1
  refine ⟨by simp [s.len], fun j => if j = i then p else oa j, fun j sl hj => ?_, fun j k u u' hj hk pj pk e => ?_⟩
  · by_cases hij : i = j
    · subst hij
      by_cases hl : i < env.length
      · rw [List.getElem?_set_self hl] at hj
        cases hj
        simp only [SlotAt, if_true]
        exact ⟨by rw [List.getElem?_set_self (by rw [s.len]; exact hl)], hP, hR, h0, o, hh, d⟩
      · rw [List.getElem?_eq_none (by simpa using hl)] at hj
        cases hj
    · have := h1 j sl (old hij hj)
      unfold SlotAt at this ⊢
      cases sl <;> first | exact True.intro | (simp only [List.getElem?_set_ne hij, if_neg (Ne.symm hij)]; exact this)
  · by_cases hij : i = j
    · by_cases hik : i = k
      · rw [← hij, ← hik]
      · have e : (if j = i then p else oa j) = (if k = i then p else oa k) := e
        rw [if_pos hij.symm, if_neg (Ne.symm hik)] at e
        exact absurd e.symm (oan (old hik hk) pk)
    · by_cases hik : i = k
      · have e : (if j = i then p else oa j) = (if k = i then p else oa k) := e
        rw [if_neg (Ne.symm hij), if_pos hik.symm] at e
        exact absurd e (oan (old hij hj) pj)
      · have e : (if j = i then p else oa j) = (if k = i then p else oa k) := e
        rw [if_neg (Ne.symm hij), if_neg (Ne.symm hik)] at e
        exact h2 j k u u' (old hij hj) (old hik hk) pj pk e
/-- an own list changes -/
theorem Slots.chg {o : HO} {xs ys : Pv} (s : Slots G w H0 H σ env) {i : Nat} {p : Addr} (he : env[i]? = some (.pv xs)) (hp : σ[i]? = some (some (.ref p))) (d : PvOk G w p o ys) : Slots G w H0 (upd H p o) σ (env.set i (.pv ys)) := by
  obtain ⟨oa, h1, h2⟩ := s.ex
  have hi := h1 i _ he
  have ep : oa i = p := by
    have := hi.1
    rw [hp] at this
    exact (V.ref.inj (Option.some.inj (Option.some.inj this))).symm
  have old : ∀ {m : Nat} {x : Slot}, i ≠ m → (env.set i (.pv ys))[m]? = some x → env[m]? = some x := fun {m x} him hm => by
    rw [List.getElem?_set_ne him] at hm
    exact hm
  have hl : i < env.length := (List.getElem?_eq_some_iff.mp he).1
  have pr : ∀ {m : Nat} {x : Slot}, (env.set i (.pv ys))[m]? = some x → x.priv = true → ∃ y : Slot, env[m]? = some y ∧ y.priv = true := fun {m x} hm px => by
    by_cases him : i = m
    · subst him; exact ⟨_, he, rfl⟩
    · exact ⟨x, old him hm, px⟩
  refine ⟨by simp [s.len], oa, fun j sl hj => ?_, fun j k u u' hj hk pj pk e => ?_⟩
  · by_cases hij : i = j
    · subst hij
      rw [List.getElem?_set_self hl] at hj
      cases hj
      obtain ⟨a1, a2, a3, a4, _⟩ := hi
      exact ⟨a1, a2, a3, a4, o, by rw [ep]; exact upd_same, by rw [ep]; exact d⟩
    · have q := old hij hj
      have := h1 j sl q
      cases sl with
      | un => trivial
      | val t => exact this
      | pv zs =>
        have ne : oa j ≠ p := fun e => hij (h2 i j _ _ he q rfl rfl (ep.trans e.symm))
        obtain ⟨a1, a2, a3, a4, u, a6, a7⟩ := this
        exact ⟨a1, a2, a3, a4, u, by rw [upd_ne ne]; exact a6, a7⟩
  · obtain ⟨y, e1, p1⟩ := pr hj pj
    obtain ⟨y', e2, p2⟩ := pr hk pk
    exact h2 j k y y' e1 e2 p1 p2 e
def Pv.frz : Pv → Option T
  | .lst xs => some (.lst xs)
  | .dk ks vs => some (.dct ks vs)
  | .dt ks vs => some (.dtt ks vs)
  | .ins _ _ => none
theorem PvOk.frz {o : HO} {p : Pv} {t : T} {a : Addr} (h : PvOk G w a o p) (e : p.frz = some t) (hP : w.P a = none) : Den G (w.add a o) (.ref a) t := by
  have L : Later w (w.add a o) := Later.add hP
  cases h with
  | lst z d => cases e; exact .lst upd_same z (d.mono L)
  | ins _ c l d => cases e
  | dk l z d => cases e; exact .dct upd_same l (d.mono L)
  | dt l z d => cases e; exact .dtt upd_same l (d.mono L)
/-- an own thing is a value from now on -/
theorem Slots.freeze {p : Pv} {t : T} (s : Slots G w H0 H σ env) (g : Good G w H r) {w0 : Wd} (st : Step w0 H0 w H) {i : Nat} (he : env[i]? = some (.pv p)) (hf : p.frz = some t) : ∃ w', Step w0 H0 w' H ∧ Good G w' H r ∧ Slots G w' H0 H σ (env.set i (.val t)) := by
  obtain ⟨oa, h1, h2⟩ := s.ex
  obtain ⟨a1, a2, a3, a4, o, a6, a7⟩ := h1 i _ he
  refine ⟨w.add (oa i) o, st.publish a4 a2, g.publish a2 a3 a6 a7.pl.tb, ?_⟩
  have L : Later w (w.add (oa i) o) := Later.add a2
  have hl : i < env.length := (List.getElem?_eq_some_iff.mp he).1
  have old : ∀ {m : Nat} {x : Slot}, i ≠ m → (env.set i (.val t))[m]? = some x → env[m]? = some x := fun {m x} him hm => by
    rw [List.getElem?_set_ne him] at hm
    exact hm
  have pr : ∀ {m : Nat} {x : Slot}, (env.set i (.val t))[m]? = some x → x.priv = true → env[m]? = some x := fun {m x} hm px => by
    by_cases him : i = m
    · subst him
      rw [List.getElem?_set_self hl] at hm
      cases hm
      cases px
    · exact old him hm
  refine ⟨by simp [s.len], oa, fun j sl hj => ?_, fun j k u u' hj hk pj pk e => h2 j k u u' (pr hj pj) (pr hk pk) pj pk e⟩
  by_cases hij : i = j
  · subst hij
    rw [List.getElem?_set_self hl] at hj
    cases hj
    exact ⟨_, a1, a7.frz hf a2⟩
  · have q := old hij hj
    have := h1 j sl q
    have nP : ∀ {x : Slot}, env[j]? = some x → x.priv = true → w.P (oa j) = none → (w.add (oa i) o).P (oa j) = none := fun {x} hx px hn => by
      show upd w.P (oa i) o (oa j) = none
      rw [upd_ne (fun e => hij (h2 i j _ _ he hx rfl px e.symm))]
      exact hn
    cases sl with
    | un => trivial
    | val t =>
      obtain ⟨v, e1, d1⟩ := this
      exact ⟨v, e1, d1.mono L⟩
    | pv zs =>
      obtain ⟨b1, b2, b3, b4, u, b6, b7⟩ := this
      exact ⟨b1, nP q rfl b2, b3, b4, u, b6, b7.mono L rfl⟩
end
/-- the own things of some slots become values -/
def frz1 (env : Env) (i : Nat) : Env := match env[i]? with
  | some (.pv p) => match p.frz with
    | some t => env.set i (.val t)
    | none => env
  | _ => env
def frz : List Nat → Env → Env
  | [], env => env
  | i :: is, env => frz is (frz1 env i)
theorem At.freeze1 {G : Gm} {w0 : Wd} {H0 H : Hp} {σ : L2.St} {r : RS} (i : Nat) {w : Wd} {env : Env} (a : At G w0 H0 w H σ env r) : ∃ w', At G w0 H0 w' H σ (frz1 env i) r := by
  unfold frz1
  cases q : env[i]? with
  | none => exact ⟨w, a⟩
  | some sl =>
    cases sl with
    | pv p =>
      cases e : p.frz with
      | none => exact ⟨w, by simpa [e] using a⟩
      | some t =>
        obtain ⟨w', h1, h2, h3⟩ := a.s.freeze a.g a.st q e
        exact ⟨w', by simpa [e] using (⟨h1, h2, h3⟩ : At G w0 H0 w' H σ (env.set i (.val t)) r)⟩
    | un => exact ⟨w, a⟩
    | val t => exact ⟨w, a⟩
theorem At.freeze {G : Gm} {w0 : Wd} {H0 H : Hp} {σ : L2.St} {r : RS} : ∀ (is : List Nat) {w : Wd} {env : Env}, At G w0 H0 w H σ env r → ∃ w', At G w0 H0 w' H σ (frz is env) r
  | [], w, env, a => ⟨w, a⟩
  | i :: is, w, env, a => by
    obtain ⟨w1, a1⟩ := a.freeze1 i
    exact At.freeze is a1
theorem ss_frz {X : Cx} {G : Gm} {W : WX} {st : Stmt} {g : Sm} (is : List Nat) (h : SS X G W st g) : SS X G W st (fun env r => g (frz is env) r) := fun w0 H0 => ps_imp (h w0 H0) fun D σ H ⟨w, env, r, a, q⟩ => by
  obtain ⟨w', a'⟩ := a.freeze is
  exact ⟨w', frz is env, r, a', q⟩
/-! ### assignments -/
section
variable {X : Cx} {G : Gm} {W : WX} {pos : Pos} {e : Expr} {f : Env → M T}
def qSet (i : Nat) (f : Env → M T) : Sm := fun env r => ofM env (fun t r => .nx (env.set i (.val t)) r) (f env r)
theorem ss_set {i : Nat} {x : Str} {pos' : Pos} (hN : X.N.Nodup) (hi : X.N[i]? = some x) (hx : Loc X.env.scope x) (he : SE X G W e f) (hs : swapsWith e (some (.Name x pos')) pos.line X.env = pure false := by rfl) (hf : X.fn x = true ∨ X.env.scope.names.lookup x = some .local := by first | exact .inl rfl | exact .inr rfl | assumption) :
    SS X G W (.Assign [.Name x pos'] e pos) (qSet i f) := fun w0 H0 => ps_imp (ps_set hN hi hx he hs hf) fun D σ H ⟨w, env, r, a, h⟩ =>
  at_e a h fun t r1 w1 H1 v a1 d h1 => h1 w1 H1 _ a1.st a1.g (a1.s.setVal i d)
theorem At.notNew {w0 w : Wd} {H0 H : Hp} {σ : L2.St} {env : Env} {r : RS} (a : At G w0 H0 w H σ env r) {j : Nat} {sl : Slot} {b p : Addr} (hj : env[j]? = some sl) (pj : sl.priv = true) (hb : σ[j]? = some (some (.ref b))) (hp : ¬ Vs H p) : b ≠ p := fun eb => by
  subst eb
  obtain ⟨oa, k1, k2⟩ := a.s.ex
  have := k1 j sl hj
  cases sl with
  | un => cases pj
  | val _ => cases pj
  | pv ys =>
    obtain ⟨b1, _, _, _, o, b6, _⟩ := this
    rw [hb] at b1
    cases b1
    rename_i b7
    exact hp ⟨o, b6, b7.pl.tb⟩
def qOwn (i : Nat) (f : Env → M (List T)) : Sm := fun env r => ofM env (fun xs r => .nx (env.set i (.own xs)) r) (f env r)
theorem at_own {i : Nat} {f : Env → M (List T)} {w0 w : Wd} {H0 H : Hp} {σ : L2.St} {env : Env} {r : RS} {D : Ends} (a : At G w0 H0 w H σ env r) (h : FlowP G W w0 H0 D (qOwn i f env r)) : tSL G W f σ H (fun v H1 => D.nx (σ.set i (some v)) H1) := by
  refine ⟨w, H0, env, r, a.g, a.s, (FlowP.ofM a h).imp fun xs r1 w1 H1 st g1 q p vs hp hP hR hh d z => ?_⟩
  obtain ⟨a1, h1⟩ := q
  refine h1 w1 H1 _ a1.st a1.g (a1.s.setOwn i (fun j sl b hj pj hb => a.notNew hj pj hb hp) hP hR (fun z => hp (a.st.keep _ z)) hh (.lst z d))
theorem ss_own {i : Nat} {x : Str} {pos' : Pos} {f : Env → M (List T)} (hN : X.N.Nodup) (hi : X.N[i]? = some x) (hx : Loc X.env.scope x) (he : SL X G W e f) (hs : swapsWith e (some (.Name x pos')) pos.line X.env = pure false := by rfl) (hf : X.fn x = true ∨ X.env.scope.names.lookup x = some .local := by first | exact .inl rfl | exact .inr rfl | assumption) :
    SS X G W (.Assign [.Name x pos'] e pos) (qOwn i f) := fun w0 H0 => ps_imp (ps_set hN hi hx he hs hf) fun D σ H ⟨w, env, r, a, h⟩ => at_own a h
/-- a, b = e, e' with plain names -/
def qPar2 (i j : Nat) (f g : Env → M T) : Sm := fun env r => ofM env (fun ts r => match ts with
  | [t, u] => .nx ((env.set i (.val t)).set j (.val u)) r
  | _ => .bad) (fAll [f, g] env r)
theorem at_a {w0 w : Wd} {H0 H : Hp} {σ : L2.St} {env : Env} {r : RS} {D : Ends} {fs : List (Env → M T)} {k : List T → RS → SO} {Q : List V → Hp → Prop} (a : At G w0 H0 w H σ env r) (h : FlowP G W w0 H0 D (ofM env k (fAll fs env r)))
    (n : ∀ ts r1 w1 H1 vs, At G w0 H0 w1 H1 σ env r1 → Dens G w1 vs ts → ts.length = fs.length → FlowP G W w0 H0 D (k ts r1) → Q vs H1) : tSA G W fs σ H Q :=
  ⟨w, H0, env, r, a.g, a.s, (FlowP.ofM a h).imp fun t r1 w1 H1 _ _ q v d l => n t r1 w1 H1 v q.1 d l q.2⟩
theorem ss_par2 {i j : Nat} {x y : Str} {e1 e2 : Expr} {f g : Env → M T} {px py pt : Pos} {kt k2 pt2} (hc : X.calm = true) (hN : X.N.Nodup) (hi : X.N[i]? = some x) (hj : X.N[j]? = some y) (hij : i ≠ j)
    (hx : X.env.scope.names.lookup x = some .local) (hy : X.env.scope.names.lookup y = some .local) (ha : SA X G W [e1, e2] [f, g])
    (hw : swappedStores [.Tuple [.Name x px, .Name y py] kt pt] (.Tuple [e1, e2] k2 pt2) X.env = pure (some [x, y]))
    (hs : swapsWithSole [.Tuple [.Name x px, .Name y py] kt pt] (.Tuple [e1, e2] k2 pt2) pos.line X.env = pure false := by rfl) :
    SS X G W (.Assign [.Tuple [.Name x px, .Name y py] kt pt] (.Tuple [e1, e2] k2 pt2) pos) (qPar2 i j f g) := fun w0 H0 => ps_imp (ps_par hc hN hi hj hij hx hy ha hw hs) fun D σ H ⟨w, env, r, a, h⟩ =>
  at_a a h fun ts r1 w1 H1 vs a1 d l h1 => by
    cases d with
    | nil => cases l
    | cons d1 d =>
      cases d with
      | nil => cases l
      | cons d2 d =>
        cases d with
        | cons _ _ => cases l
        | nil => exact ⟨_, _, rfl, h1 w1 H1 _ a1.st a1.g ((a1.s.setVal i d1).setVal j d2)⟩
def qPar3 (i j k : Nat) (fs : List (Env → M T)) : Sm := fun env r => ofM env (fun ts r => match ts with
  | [t, u, v] => .nx (((env.set i (.val t)).set j (.val u)).set k (.val v)) r
  | _ => .bad) (fAll fs env r)
theorem ss_par3 {i j l : Nat} {x y z : Str} {e1 e2 e3 : Expr} {f1 f2 f3 : Env → M T} {px py pz pt : Pos} {kt k2 pt2} (hc : X.calm = true) (hN : X.N.Nodup) (hi : X.N[i]? = some x) (hj : X.N[j]? = some y) (hl : X.N[l]? = some z) (hij : i ≠ j) (hil : i ≠ l) (hjl : j ≠ l)
    (hx : X.env.scope.names.lookup x = some .local) (hy : X.env.scope.names.lookup y = some .local) (hz : X.env.scope.names.lookup z = some .local) (ha : SA X G W [e1, e2, e3] [f1, f2, f3])
    (hw : swappedStores [.Tuple [.Name x px, .Name y py, .Name z pz] kt pt] (.Tuple [e1, e2, e3] k2 pt2) X.env = pure (some [x, y, z]))
    (hs : swapsWithSole [.Tuple [.Name x px, .Name y py, .Name z pz] kt pt] (.Tuple [e1, e2, e3] k2 pt2) pos.line X.env = pure false := by rfl) :
    SS X G W (.Assign [.Tuple [.Name x px, .Name y py, .Name z pz] kt pt] (.Tuple [e1, e2, e3] k2 pt2) pos) (qPar3 i j l [f1, f2, f3]) := fun w0 H0 => ps_imp (ps_par3 hc hN hi hj hl hij hil hjl hx hy hz ha hw hs) fun D σ H ⟨w, env, r, a, h⟩ =>
  at_a a h fun ts r1 w1 H1 vs a1 d l h1 => by
    cases d with
    | nil => cases l
    | cons d1 d =>
      cases d with
      | nil => cases l
      | cons d2 d =>
        cases d with
        | nil => cases l
        | cons d3 d =>
          cases d with
          | cons _ _ => cases l
          | nil => exact ⟨_, _, _, rfl, h1 w1 H1 _ a1.st a1.g (((a1.s.setVal _ d1).setVal _ d2).setVal _ d3)⟩
/-! ### targets -/
/-- all slots but those of vs stay -/
def But (vs : List Nat) (σ σ' : L2.St) : Prop := σ'.length = σ.length ∧ ∀ j, j ∉ vs → σ'[j]? = σ[j]?
theorem But.refl {vs : List Nat} {σ : L2.St} : But vs σ σ := ⟨rfl, fun _ _ => rfl⟩
theorem But.trans {vs us : List Nat} {σ σ1 σ2 : L2.St} (a : But vs σ σ1) (b : But us σ1 σ2) : But (vs ++ us) σ σ2 := ⟨b.1.trans a.1, fun j hj => (b.2 j fun h => hj (List.mem_append_right _ h)).trans (a.2 j fun h => hj (List.mem_append_left _ h))⟩
theorem But.set {σ : L2.St} {i : Nat} {v : Option V} : But [i] σ (σ.set i v) := ⟨List.length_set, fun j hj => List.getElem?_set_ne fun e => hj (by simp [e])⟩
def tG (G : Gm) (vs : List Nat) (w0 : Wd) (H0 : Hp) (h : T → Env → Option Env) : TG := fun v σ H Q => ∃ w env r t env', At G w0 H0 w H σ env r ∧ Den G w v t ∧ h t env = some env' ∧ ∀ σ', Slots G w H0 H σ' env' → But vs σ σ' → Q σ' H
def tGs (G : Gm) (us : List Nat) (w0 : Wd) (H0 : Hp) (h : List T → Env → Option Env) : TGs := fun vs σ H Q => ∃ w env r ts env', At G w0 H0 w H σ env r ∧ Dens G w vs ts ∧ h ts env = some env' ∧ ∀ σ', Slots G w H0 H σ' env' → But us σ σ' → Q σ' H
abbrev SG (X : Cx) (G : Gm) (vs : List Nat) (tg : Expr) (h : T → Env → Option Env) : Prop := ∀ w0 H0, PG X tg (tG G vs w0 H0 h)
abbrev SGs (X : Cx) (G : Gm) (vs : List Nat) (tg : List Expr) (h : List T → Env → Option Env) : Prop := ∀ w0 H0, PGs X tg (tGs G vs w0 H0 h)
theorem pg_imp {tg : Expr} {t t' : TG} (h : PG X tg t) (i : ∀ v σ H Q, t' v σ H Q → t v σ H Q) : PG X tg t' := ⟨fun pins s σ H v u Q I r q => h.run pins s σ H v u Q I r (i v σ H Q q)⟩
theorem pgs_imp {tg : List Expr} {t t' : TGs} (h : PGs X tg t) (i : ∀ v σ H Q, t' v σ H Q → t v σ H Q) : PGs X tg t' := ⟨fun pins s σ H v u Q I r q => h.run pins s σ H v u Q I r (i v σ H Q q)⟩
def hName (i : Nat) : T → Env → Option Env := fun t env => some (env.set i (.val t))
theorem g_name {i : Nat} {x : Str} (hN : X.N.Nodup) (hi : X.N[i]? = some x) (hx : Loc X.env.scope x) (hf : X.fn x = true ∨ X.env.scope.names.lookup x = some .local := by first | exact .inl rfl | exact .inr rfl | assumption) : SG X G [i] (.Name x pos) (hName i) := fun w0 H0 =>
  pg_imp (pg_name hN hi hx hf) fun v σ H Q ⟨w, env, r, t, env', a, d, e, q⟩ => by
    cases e
    exact q _ (a.s.setVal i d) But.set
def hNil : List T → Env → Option Env := fun ts env => match ts with
  | [] => some env
  | _ => none
def hCons (h : T → Env → Option Env) (hs : List T → Env → Option Env) : List T → Env → Option Env := fun ts env => match ts with
  | t :: ts => (h t env).bind (hs ts)
  | [] => none
theorem gs_nil : SGs X G [] [] hNil := fun w0 H0 => pgs_imp pgs_nil fun vs σ H Q ⟨w, env, r, ts, env', a, d, e, q⟩ => by
  cases d with
  | nil => cases e; exact ⟨rfl, q σ a.s But.refl⟩
  | cons _ _ => cases e
theorem gs_cons {tg : Expr} {tgs : List Expr} {h : T → Env → Option Env} {hs : List T → Env → Option Env} {us us' : List Nat} (h1 : SG X G us tg h) (h2 : SGs X G us' tgs hs) (he : (assignEach (tg :: tgs) X.env).map (·.2) = assign tg X.env :: (assignEach tgs X.env).map (·.2) := by rfl) : SGs X G (us ++ us') (tg :: tgs) (hCons h hs) := fun w0 H0 =>
  pgs_imp (pgs_cons (h1 w0 H0) (h2 w0 H0) he) fun vs σ H Q ⟨w, env, r, ts, env', a, d, e, q⟩ => by
    cases d with
    | nil => cases e
    | @cons v vs t ts d1 d2 =>
      have e : (h t env).bind (hs ts) = some env' := e
      cases e1 : h t env with
      | none => rw [e1] at e; cases e
      | some env1 =>
        rw [e1] at e
        exact ⟨v, vs, rfl, w, env, r, t, env1, a, d1, e1, fun σ' s' b => ⟨w, env1, r, ts, env', ⟨a.st, a.g, s'⟩, d2, e, fun σ2 s2 b2 => q σ2 s2 (b.trans b2)⟩⟩
def hTup (n : Nat) (hs : List T → Env → Option Env) : T → Env → Option Env := fun t env => match t with
  | .tup ts => if ts.length = n then hs ts env else none
  | _ => none
theorem g_tup {us : List Nat} {es : List Expr} {k n : Nat} {hs : List T → Env → Option Env} (hc : X.calm = true) (hK : X.K = G.K) (h : SGs X G us es hs) (hn : (assignEach es X.env).length = n := by rfl) (hst : (assignEach es X.env).findIdx? (·.1) = none := by rfl) : SG X G us (.Tuple es k pos) (hTup n hs) := fun w0 H0 =>
  pg_imp (pg_tup hc (h w0 H0) hn hst) fun v σ H Q ⟨w, env, r, t, env', a, d, e, q⟩ => by
    cases d with
    | @tup p vs ts hh z dd =>
      have e : (if ts.length = n then hs ts env else none) = some env' := e
      by_cases hl : ts.length = n
      · rw [if_pos hl] at e
        rw [hK]
        exact ⟨p, vs, rfl, tup_sq a.g.sub hh, by rw [dd.length]; exact hl, w, env, r, ts, env', a, dd, e, q⟩
      · rw [if_neg hl] at e; cases e
    | _ => cases e
def qAsg (f : Env → M T) (h : T → Env → Option Env) : Sm := fun env r => ofM env (fun t r => match h t env with
  | some env' => .nx env' r
  | none => .bad) (f env r)
theorem ss_asg {us : List Nat} {tg : Expr} {h : T → Env → Option Env} (he : SE X G W e f) (hg : SG X G us tg h) (hs : swapsWithSole [tg] e pos.line X.env = pure false := by rfl) (hw : swappedStores [tg] e X.env = pure none := by rfl)
    (h1 : (assignEach [tg] X.env).map (·.2) = [assign tg X.env] := by rfl) : SS X G W (.Assign [tg] e pos) (qAsg f h) := fun w0 H0 => ps_imp (ps_asg he (hg w0 H0) hs hw h1) fun D σ H ⟨w, env, r, a, hq⟩ =>
  at_e a hq fun t r1 w1 H1 v a1 d h2 => by
    cases q : h t env with
    | none => rw [q] at h2; exact h2.elim
    | some env' =>
      rw [q] at h2
      exact ⟨w1, env, r1, t, env', a1, d, q, fun σ' s' _ => h2 w1 H1 σ' a1.st a1.g s'⟩
end
end Ep
namespace Ep
open PySem PySem.Spec L2
/-! ### lists changed -/
section
variable {G : Gm} {w w0 : Wd} {H0 H : Hp} {σ : L2.St} {env : Env} {r : RS}
/-- a changed list of several defs -/
theorem At.ref (a : At G w0 H0 w H σ env r) {k : Nat} {p : Addr} {xs : List T} {vs : List V} (hp : w.R[k]? = some p) (hk : r[k]? = some xs) {ys : List T} (d : Dens G w vs ys) (hz : ys.length ≤ sizeLine) : At G w0 H0 w (upd H p (.lst vs)) σ env (r.set k ys) := by
  have hm : p ∈ w.R := List.mem_of_getElem? hp
  have hl : k < r.length := (List.getElem?_eq_some_iff.mp hk).1
  have st : Step w H w (upd H p (.lst vs)) := ⟨Same.refl _, fun b o h1 h2 _ => by
      rw [upd_ne (fun e => h1 (by rw [e]; exact hm))]
      exact h2, fun b h => by
      exact h.put (by intro _ e; cases e), fun _ _ _ h => h, ⟨[], by simp, by simp⟩, rfl⟩
  obtain ⟨vs0, ev0⟩ := a.g.refs.there hm
  refine a.step st ⟨fun b o e => ?_, ⟨a.g.refs.nd, by rw [List.length_set]; exact a.g.refs.len, a.g.refs.out, fun j zs hj => ?_⟩, tabs_put a.g.tabs (.inr ⟨_, ev0, ⟨fun _ e => (by cases e), fun _ e => (by cases e)⟩⟩), a.g.nt⟩
  · rw [upd_ne (fun q => by rw [q, a.g.refs.out p hm] at e; cases e)]
    exact a.g.sub b o e
  · by_cases hjk : k = j
    · subst hjk
      rw [List.getElem?_set_self hl] at hj
      cases hj
      exact ⟨p, vs, hp, upd_same, d, hz⟩
    · rw [List.getElem?_set_ne hjk] at hj
      obtain ⟨b, us, h1, h2, h3, h4⟩ := a.g.refs.at_ j zs hj
      refine ⟨b, us, h1, ?_, h3, h4⟩
      have hb : b ≠ p := fun e => by
        subst e
        obtain ⟨l1, e1⟩ := List.getElem?_eq_some_iff.mp hp
        obtain ⟨l2, e2⟩ := List.getElem?_eq_some_iff.mp h1
        exact hjk ((List.getElem_inj a.g.refs.nd).mp (e1.trans e2.symm))
      rw [upd_ne hb]
      exact h2
/-- an own thing is changed -/
theorem At.pv (a : At G w0 H0 w H σ env r) {i : Nat} {xs ys : Pv} {o : HO} {p : Addr} (he : env[i]? = some (.pv xs)) (hp : σ[i]? = some (some (.ref p))) (d : PvOk G w p o ys) : At G w0 H0 w (upd H p o) σ (env.set i (.pv ys)) r := by
  obtain ⟨oa, h1, h2⟩ := a.s.ex
  obtain ⟨b1, b2, b3, b4, u, b6, b7⟩ := h1 i _ he
  rw [hp] at b1
  cases b1
  exact ⟨a.st.chg b4 d.pl.tb, a.g.priv b2 b3 (.inr ⟨u, b6, b7.pl⟩), a.s.chg he hp d⟩
theorem At.own (a : At G w0 H0 w H σ env r) {i : Nat} {xs ys : List T} {vs : List V} {p : Addr} (he : env[i]? = some (.own xs)) (hp : σ[i]? = some (some (.ref p))) (d : Dens G w vs ys) (hz : ys.length ≤ sizeLine) : At G w0 H0 w (upd H p (.lst vs)) σ (env.set i (.own ys)) r :=
  a.pv he hp (.lst hz d)
/-- an own thing: its address -/
theorem At.thing (a : At G w0 H0 w H σ env r) {i : Nat} {q : Pv} (he : env[i]? = some (.pv q)) : ∃ p o, σ[i]? = some (some (.ref p)) ∧ H p = some o ∧ PvOk G w p o q := by
  obtain ⟨oa, h1, h2⟩ := a.s.ex
  obtain ⟨b1, b2, b3, b4, o, b6, b7⟩ := h1 i _ he
  exact ⟨_, o, b1, b6, b7⟩
/-- the list of a slot, to be changed: its address, its items -/
theorem At.lst (a : At G w0 H0 w H σ env r) {i : Nat} {xs : List T} (he : env[i]? = some (.own xs)) : ∃ p vs, σ[i]? = some (some (.ref p)) ∧ H p = some (.lst vs) ∧ Dens G w vs xs ∧ xs.length ≤ sizeLine := by
  obtain ⟨p, o, h1, h2, h3⟩ := a.thing he
  cases h3 with
  | lst z d => exact ⟨p, _, h1, h2, d, z⟩
theorem At.lstR (a : At G w0 H0 w H σ env r) {i k : Nat} {xs : List T} (he : env[i]? = some (.val (.ref k))) (hk : r[k]? = some xs) : ∃ p vs, σ[i]? = some (some (.ref p)) ∧ H p = some (.lst vs) ∧ Dens G w vs xs ∧ w.R[k]? = some p ∧ xs.length ≤ sizeLine := by
  obtain ⟨oa, h1, h2⟩ := a.s.ex
  obtain ⟨v, e1, d⟩ := h1 i _ he
  cases d with
  | ref h =>
    obtain ⟨b, us, h3, h4, h5, h6⟩ := a.g.refs.at_ k xs hk
    rw [h] at h3
    cases h3
    exact ⟨_, us, e1, h4, h5, h, h6⟩
end
section
variable {X : Cx} {G : Gm} {W : WX} {pos : Pos} {e ix : Expr} {f g : Env → M T}
theorem at_eS {w0 w : Wd} {H0 H : Hp} {σ : L2.St} {env : Env} {r : RS} {D : Ends} {k : T → RS → SO} {Q : VK} (a : At G w0 H0 w H σ env r) (h : FlowP G W w0 H0 D (ofM env k (f env r)))
    (n : ∀ t r1 w1 H1 v, Step w H w1 H1 → At G w0 H0 w1 H1 σ env r1 → Den G w1 v t → FlowP G W w0 H0 D (k t r1) → Q v H1) : tS G W f σ H Q :=
  ⟨w, H0, env, r, a.g, a.s, (FlowP.ofM a h).imp fun t r1 w1 H1 st _ q v d => n t r1 w1 H1 v st q.1 d q.2⟩
/-- may the slot's list be changed: an own one, or one of several defs -/
def isMut (env : Env) (i : Nat) : Bool := match env[i]? with
  | some (.pv (.lst _)) => true
  | some (.val (.ref _)) => true
  | _ => false
/-- the items of the slot's list; a new list in its place -/
def mutGet (env : Env) (i : Nat) (r : RS) : Option (List T) := match env[i]? with
  | some (.pv (.lst xs)) => some xs
  | some (.val (.ref k)) => r[k]?
  | _ => none
def mutSet (env : Env) (i : Nat) (r : RS) (ys : List T) : SO := match env[i]? with
  | some (.pv (.lst _)) => .nx (env.set i (.own ys)) r
  | some (.val (.ref k)) => .nx env (r.set k ys)
  | _ => .bad
theorem At.mutA {w w0 : Wd} {H0 H : Hp} {σ : L2.St} {env : Env} {r : RS} (a : At G w0 H0 w H σ env r) {i : Nat} (hm : isMut env i = true) : ∃ p vs, σ[i]? = some (some (.ref p)) ∧ H p = some (.lst vs) := by
  unfold isMut at hm
  cases q : env[i]? with
  | none => rw [q] at hm; cases hm
  | some sl =>
    rw [q] at hm
    cases sl with
    | pv o =>
      cases o with
      | lst xs =>
        obtain ⟨p, vs, e1, hp, _⟩ := a.lst q
        exact ⟨p, vs, e1, hp⟩
      | _ => cases hm
    | val t =>
      cases t with
      | ref k =>
        obtain ⟨oa, k1, k2⟩ := a.s.ex
        obtain ⟨v0, e1, d0⟩ := k1 i _ q
        cases d0 with
        | ref hp =>
          obtain ⟨vs, hh⟩ := a.g.refs.there (List.mem_of_getElem? hp)
          exact ⟨_, vs, e1, hh⟩
      | _ => cases hm
    | un => cases hm
theorem At.mutG {w w0 : Wd} {H0 H : Hp} {σ : L2.St} {env : Env} {r : RS} (a : At G w0 H0 w H σ env r) {i : Nat} {xs : List T} (hm : mutGet env i r = some xs) : ∃ p vs, σ[i]? = some (some (.ref p)) ∧ H p = some (.lst vs) ∧ Dens G w vs xs ∧ xs.length ≤ sizeLine ∧
    ∀ us ys, Dens G w us ys → ys.length ≤ sizeLine → ∀ (D : Ends), FlowP G W w0 H0 D (mutSet env i r ys) → D.nx σ (upd H p (.lst us)) := by
  unfold mutGet at hm
  cases q : env[i]? with
  | none => rw [q] at hm; cases hm
  | some sl =>
    rw [q] at hm
    cases sl with
    | pv o =>
      cases o with
      | lst ys =>
        cases hm
        obtain ⟨p, vs, e1, hp, d, hz⟩ := a.lst q
        refine ⟨p, vs, e1, hp, d, hz, fun us ys dd hl D h => ?_⟩
        unfold mutSet at h
        rw [q] at h
        have a2 := a.own q e1 dd hl
        exact h _ _ _ a2.st a2.g a2.s
      | _ => cases hm
    | val t =>
      cases t with
      | ref k =>
        obtain ⟨p, vs, e1, hp, d, hR, hz⟩ := a.lstR q hm
        refine ⟨p, vs, e1, hp, d, hz, fun us ys dd hl D h => ?_⟩
        unfold mutSet at h
        rw [q] at h
        have a2 := a.ref hR hm dd hl
        exact h _ _ _ a2.st a2.g a2.s
      | _ => cases hm
    | un => cases hm
/-- xs.append(e) -/
def qApp (i : Nat) (f : Env → M T) : Sm := fun env r => if isMut env i = true then ofM env (fun t r => match mutGet env i r with
  | some xs => if xs.length < 100000 then mutSet env i r (xs ++ [t]) else .bad
  | none => .bad) (f env r) else .bad
theorem ss_app {x : Str} {px apos cpos : Pos} (hK : X.K = G.K) (i : Nat) (hN : X.N[i]? = some x) (hv : Vis X.env.scope x) (he : SE X G W e f) (hbase : attributeBase (.Name x px) "append" X.env (eval (.Name x px) X.env) = eval (.Name x px) X.env := by rfl)
    (hfew : ((backTo cpos (starEach [e] X.env)).all (fun x => !x.1) && (backToKw cpos (keywordEach [] X.env)).all (fun x => x.1.isSome) && decide (([e] : List Expr).length + ([] : List Keyword).length + (if ([] : List Keyword).isEmpty then 0 else 1) < 30)) = true := by rfl)
    (hline : (apos.endLine == cpos.line) = true := by rfl) (hs : starEach [e] X.env = (false, eval e X.env) :: starEach [] X.env := by rfl) (hplain : (backTo cpos (starEach [] X.env)).any (·.1) = false := by rfl)
    (hd : (x == ("__debug__" : Str)) = false := by decide) (hcd : (x == ("__classdict__" : Str)) = false := by decide) :
    SS X G W (.Expr (.Call (.Attribute (.Name x px) "append" apos) [e] [] cpos) pos) (qApp i f) := fun w0 H0 =>
  ps_imp (ps_expr (pe_bm PySem.F.plainAttrs_list PySem.F.slot_list_append PySem.F.type_list_append mt_append (pe_var hN hv hd hcd) (pa_cons he pa_nil hs) hbase hfew hline hs hplain)) fun D σ H ⟨w, env, r, a, h⟩ => by
    rw [hK]
    unfold qApp at h
    by_cases hm : isMut env i = true
    · rw [if_pos hm] at h
      obtain ⟨p, vs, e1, hp⟩ := a.mutA hm
      refine ⟨_, e1, .inl ⟨rfl, vs, SqL.of hp⟩, at_e a h fun t r1 w1 H1 v a1 d h1 => ?_⟩
      cases q : mutGet env i r1 with
      | none => rw [q] at h1; exact h1.elim
      | some xs =>
        rw [q] at h1
        have h1 : FlowP G W w0 H0 D (if xs.length < 100000 then mutSet env i r1 (xs ++ [t]) else .bad) := h1
        by_cases hl : xs.length < 100000
        · rw [if_pos hl] at h1
          obtain ⟨p', vs', e2, hp', dd, hz', go⟩ := a1.mutG (W := W) q
          rw [e1] at e2
          cases e2
          exact ⟨p, vs', v, rfl, rfl, hp', by rw [dd.length]; exact Nat.lt_of_lt_of_le hl (by decide), go _ _ (dd.append (.cons d .nil)) (by rw [List.length_append]; exact Nat.le_trans (Nat.succ_le_of_lt hl) (by decide)) D h1⟩
        · rw [if_neg hl] at h1; exact h1.elim
    · rw [if_neg hm] at h; exact h.elim
/-- xs.extend(e) -/
def qExt (i : Nat) (f : Env → M T) : Sm := fun env r => if isMut env i = true then ofM env (fun t r => match mutGet env i r, t with
  | some xs, .lst ys => if xs.length + ys.length ≤ 100000 then mutSet env i r (xs ++ ys) else .bad
  | _, _ => .bad) (f env r) else .bad
theorem ss_ext {x : Str} {px apos cpos : Pos} (hK : X.K = G.K) (i : Nat) (hN : X.N[i]? = some x) (hv : Vis X.env.scope x) (he : SE X G W e f) (hbase : attributeBase (.Name x px) "extend" X.env (eval (.Name x px) X.env) = eval (.Name x px) X.env := by rfl)
    (hfew : ((backTo cpos (starEach [e] X.env)).all (fun x => !x.1) && (backToKw cpos (keywordEach [] X.env)).all (fun x => x.1.isSome) && decide (([e] : List Expr).length + ([] : List Keyword).length + (if ([] : List Keyword).isEmpty then 0 else 1) < 30)) = true := by rfl)
    (hline : (apos.endLine == cpos.line) = true := by rfl) (hs : starEach [e] X.env = (false, eval e X.env) :: starEach [] X.env := by rfl) (hplain : (backTo cpos (starEach [] X.env)).any (·.1) = false := by rfl)
    (hd : (x == ("__debug__" : Str)) = false := by decide) (hcd : (x == ("__classdict__" : Str)) = false := by decide) :
    SS X G W (.Expr (.Call (.Attribute (.Name x px) "extend" apos) [e] [] cpos) pos) (qExt i f) := fun w0 H0 =>
  ps_imp (ps_expr (pe_bm PySem.F.plainAttrs_list PySem.F.slot_list_extend PySem.F.type_list_extend mt_extend (pe_var hN hv hd hcd) (pa_cons he pa_nil hs) hbase hfew hline hs hplain)) fun D σ H ⟨w, env, r, a, h⟩ => by
    rw [hK]
    unfold qExt at h
    by_cases hm : isMut env i = true
    · rw [if_pos hm] at h
      obtain ⟨p, vs, e1, hp⟩ := a.mutA hm
      refine ⟨_, e1, .inl ⟨rfl, vs, SqL.of hp⟩, at_e a h fun t r1 w1 H1 v a1 d h1 => ?_⟩
      cases q : mutGet env i r1 with
      | none => rw [q] at h1; exact h1.elim
      | some xs =>
        rw [q] at h1
        cases d with
        | @lst b us ys hb zb db =>
          have h1 : FlowP G W w0 H0 D (if xs.length + ys.length ≤ 100000 then mutSet env i r1 (xs ++ ys) else .bad) := h1
          by_cases hl : xs.length + ys.length ≤ 100000
          · rw [if_pos hl] at h1
            obtain ⟨p', vs', e2, hp', dd, hz', go⟩ := a1.mutG (W := W) q
            rw [e1] at e2
            cases e2
            exact ⟨p, b, vs', us, rfl, rfl, hp', a1.g.sub _ _ hb, by rw [dd.length, db.length]; exact le_size hl, go _ _ (dd.append db) (by rw [List.length_append]; exact le_size hl) D h1⟩
          · rw [if_neg hl] at h1; exact h1.elim
        | _ => exact h1.elim
    · rw [if_neg hm] at h; exact h.elim
/-- xs[i] = e -/
def qSetIx (i : Nat) (f g : Env → M T) : Sm := fun env r => if isMut env i = true then ofM env (fun t r => ofM env (fun u r => match mutGet env i r, u with
  | some xs, .int k => match ixN xs.length k with
    | some j => mutSet env i r (xs.set j t)
    | none => .bad
  | _, _ => .bad) (g env r)) (f env r) else .bad
theorem ss_setIx {x : Str} {px spos : Pos} (i : Nat) (hN : X.N[i]? = some x) (hv : Vis X.env.scope x) (he : SE X G W e f) (hi : SE X G W ix g)
    (ha : ∀ v, assign (.Subscript (.Name x px) ix spos) X.env v = (do let ov ← holding [v] (eval (.Name x px) X.env); let iv ← holding [v, ov] (eval ix X.env); standAt spos; holding [v, ov, iv] (setItem ov iv v); release [v, ov, iv] []) := by intro _; rfl)
    (hs : swapsWithSole [.Subscript (.Name x px) ix spos] e pos.line X.env = pure false := by rfl) (hw : swappedStores [.Subscript (.Name x px) ix spos] e X.env = pure none := by rfl)
    (h1 : (assignEach [.Subscript (.Name x px) ix spos] X.env).map (·.2) = [assign (.Subscript (.Name x px) ix spos) X.env] := by rfl) (hd : (x == ("__debug__" : Str)) = false := by decide) (hcd : (x == ("__classdict__" : Str)) = false := by decide) :
    SS X G W (.Assign [.Subscript (.Name x px) ix spos] e pos) (qSetIx i f g) := fun w0 H0 =>
  ps_imp (ps_asg he (pg_sub (pe_var hN hv hd hcd) hi set_list ha) hs hw h1) fun D σ H ⟨w, env, r, a, h⟩ => by
    unfold qSetIx at h
    by_cases hm : isMut env i = true
    · rw [if_pos hm] at h
      refine at_e a h fun t r1 w1 H1 v a1 d h1 => ?_
      obtain ⟨p, vs, e1, hp⟩ := a1.mutA hm
      refine ⟨_, e1, at_eS a1 h1 fun u r2 w2 H2 y st2 a2 d2 h2 => ?_⟩
      have d := d.mono st2.later
      cases q : mutGet env i r2 with
      | none => rw [q] at h2; exact h2.elim
      | some xs =>
        rw [q] at h2
        cases d2 with
        | int k =>
          obtain ⟨p', vs', e2, hp', dd, hz', go⟩ := a2.mutG (W := W) q
          rw [e1] at e2
          cases e2
          have h2 : FlowP G W w0 H0 D (match ixN xs.length k with
            | some j => mutSet env i r2 (xs.set j t)
            | none => .bad) := h2
          cases q2 : ixN xs.length k with
          | none => rw [q2] at h2; exact h2.elim
          | some j =>
            rw [q2] at h2
            exact ⟨p, vs', k, j, rfl, rfl, hp', by rw [dd.length]; exact q2, go _ _ (dd.set d j) (by rw [List.length_set]; exact hz') D h2⟩
        | _ => exact h2.elim
    · rw [if_neg hm] at h; exact h.elim
/-- a list that several defs change, from a new one -/
def fRef (f : Env → M (List T)) : Env → M T := fun env r => match f env r with
  | .ok xs r' => .ok (.ref r'.length) (r' ++ [xs])
  | .exn c p r' => .exn c p r'
  | .bad => .bad
theorem s_ref {f : Env → M (List T)} (h : SL X G W e f) : SE X G W e (fRef f) := pe_imp h fun σ H Q ⟨w, H0, env, r, g, s, h⟩ => by
  refine ⟨w, H0, env, r, g, s, ?_⟩
  unfold fRef at h
  cases q : f env r with
  | ok xs r1 =>
    rw [q] at h
    intro w1 H1 st g1 p vs hp hP hR hh d z
    have L : Later w1 ⟨w1.P, w1.R ++ [p], w1.fx⟩ := ⟨Same.refl _, [p], rfl⟩
    have st2 : Step w H ⟨w1.P, w1.R ++ [p], w1.fx⟩ H1 := ⟨st.pub, st.fr, st.keep, st.hid, by
      obtain ⟨m, e, hm⟩ := st.refs
      exact ⟨m ++ [p], by show w1.R ++ [p] = _; rw [e, List.append_assoc], fun a ha => by
        rcases List.mem_append.mp ha with z | z
        · exact hm a z
        · rw [List.mem_singleton.mp z]; exact hp⟩, st.me⟩
    have g2 : Good G ⟨w1.P, w1.R ++ [p], w1.fx⟩ H1 (r1 ++ [xs]) := ⟨g1.sub, ⟨List.nodup_append.mpr ⟨g1.refs.nd, by simp, fun a ha b hb e => hR (by rw [← List.mem_singleton.mp hb, ← e]; exact ha)⟩, by simp [g1.refs.len], fun a ha => by
        rcases List.mem_append.mp ha with z | z
        · exact g1.refs.out a z
        · rw [List.mem_singleton.mp z]; exact hP, fun k ys hk => by
        by_cases hl : k < r1.length
        · rw [List.getElem?_append_left hl] at hk
          obtain ⟨a, us, h1, h2, h3, h4⟩ := g1.refs.at_ k ys hk
          exact ⟨a, us, by show (w1.R ++ [p])[k]? = some a; rw [List.getElem?_append_left (by rw [g1.refs.len]; exact hl)]; exact h1, h2, h3.mono L, h4⟩
        · have hk' : k = r1.length := by
            have := (List.getElem?_eq_some_iff.mp hk).1
            rw [List.length_append, List.length_singleton] at this
            omega
          subst hk'
          rw [List.getElem?_append_right (Nat.le_refl _), Nat.sub_self] at hk
          cases hk
          exact ⟨p, vs, by show (w1.R ++ [p])[r1.length]? = some p; rw [List.getElem?_append_right (by rw [g1.refs.len]; exact Nat.le_refl _), g1.refs.len, Nat.sub_self]; rfl, hh, d.mono L, z⟩⟩, g1.tabs, g1.nt⟩
    refine h _ _ st2 g2 _ (.ref ?_)
    show (w1.R ++ [p])[r1.length]? = some p
    rw [List.getElem?_append_right (by rw [g1.refs.len]; exact Nat.le_refl _), g1.refs.len, Nat.sub_self]
    rfl
  | exn c p r1 =>
    rw [q] at h
    exact h
  | bad =>
    rw [q] at h
    exact h
/-- self.f = e in an __init__ -/
def qFld (i C n : Nat) (f : Env → M T) : Sm := fun env r => match env[i]? with
  | some (.pv (.ins C' ts)) => if C' = C ∧ ts.length = n then ofM env (fun t r => .nx (env.set i (.ins C (ts ++ [t]))) r) (f env r) else .bad
  | _ => .bad
theorem putF_new {name : Str} {v : V} : ∀ {fs : List (Str × V)}, fs.lookup name = none → putF name v fs = fs ++ [(name, v)]
  | [], _ => rfl
  | (y, u) :: fs, h => by
    rw [List.lookup_cons] at h
    by_cases q : name = y
    · subst q
      rw [show (name == name) = true by simp] at h
      cases h
    · rw [show (name == y) = false by simp [q]] at h
      have e : ¬ y = name := fun z => q z.symm
      unfold putF
      rw [if_neg e, putF_new h]
      rfl
theorem At.ins {w w0 : Wd} {H0 H : Hp} {σ : L2.St} {env : Env} {r : RS} (a : At G w0 H0 w H σ env r) {i C : Nat} {ts : List T} (he : env[i]? = some (.ins C ts)) : ∃ p cA dx vs, σ[i]? = some (some (.ref p)) ∧ G.mg (G.cn C) = some (.ref cA) ∧ H p = some (.ins cA dx (((G.fl C).take ts.length).zip vs)) ∧ vs.length = ts.length ∧ ts.length ≤ (G.fl C).length ∧
    ∀ v t, Den G w v t → ts.length < (G.fl C).length → At G w0 H0 w (upd H p (.ins cA dx (((G.fl C).take (ts ++ [t]).length).zip (vs ++ [v])))) σ (env.set i (.ins C (ts ++ [t]))) r := by
  obtain ⟨p, o, h1, h2, h3⟩ := a.thing he
  cases h3 with
  | ins hm c l d => exact ⟨p, _, _, _, h1, c, h2, d.length, l, fun v t dd hl => a.pv he h1 (.ins hm c (by rw [List.length_append, List.length_singleton]; exact hl) (d.append (.cons dd .nil)))⟩
/-- the class's n-th field is the name, and stands but once among those ahead -/
structure NthFld (G : Gm) (C n : Nat) (name : Str) : Prop where
  at_ : (G.fl C)[n]? = some name
  new : name ∉ (G.fl C).take n
  few : (G.fl C).length < 1000
  cl : ∀ cA, G.mg (G.cn C) = some (.ref cA) → Cls G.K cA ∧ NoAttr G.K cA name
theorem zip_snoc {l : List Str} {n : Nat} {name : Str} {vs : List V} {v : V} (h : l[n]? = some name) (hv : vs.length = n) : (l.take n).zip vs ++ [(name, v)] = (l.take (n + 1)).zip (vs ++ [v]) := by
  obtain ⟨hl, e⟩ := List.getElem?_eq_some_iff.mp h
  rw [List.take_succ, h]
  simp only [Option.toList]
  rw [List.zip_append (by rw [List.length_take, hv]; omega)]
  rfl
theorem ss_fld {x name : Str} {px fpos : Pos} {C n : Nat} (hK : X.K = G.K) (i : Nat) (hN : X.N[i]? = some x) (hv : Vis X.env.scope x) (ok : NthFld G C n name) (he : SE X G W e f)
    (hs : swapsWith e (some (.Attribute (.Name x px) name fpos)) pos.line X.env = pure false := by rfl) (hd : (x == ("__debug__" : Str)) = false := by decide) (hcd : (x == ("__classdict__" : Str)) = false := by decide) :
    SS X G W (.Assign [.Attribute (.Name x px) name fpos] e pos) (qFld i C n f) := fun w0 H0 =>
  ps_imp (ps_fld (pe_var hN hv hd hcd) he hs) fun D σ H ⟨w, env, r, a, h⟩ => by
    rw [hK]
    unfold qFld at h
    cases q : env[i]? with
    | none => rw [q] at h; exact h.elim
    | some sl =>
      rw [q] at h
      cases sl with
      | pv o =>
       cases o with
       | ins C' ts =>
        have h : FlowP G W w0 H0 D (if C' = C ∧ ts.length = n then ofM env (fun t r => .nx (env.set i (.ins C (ts ++ [t]))) r) (f env r) else .bad) := h
        by_cases hCn : C' = C ∧ ts.length = n
        · rw [if_pos hCn] at h
          obtain ⟨hCC, hn⟩ := hCn
          subst hCC
          refine at_e a h fun t r1 w1 H1 v a1 d h1 => ?_
          obtain ⟨p, cA, dx, vs, e1, c1, e2, l1, l2, go⟩ := a1.ins q
          have hl : ts.length < (G.fl C').length := by
            rw [hn]
            exact (List.getElem?_eq_some_iff.mp ok.at_).1
          have a2 := go v t d hl
          refine ⟨_, e1, p, cA, dx, _, rfl, e2, (ok.cl cA c1).1, (ok.cl cA c1).2, ?_, ?_⟩
          · rw [List.length_zip, List.length_take]
            have := ok.few
            omega
          · rw [putF_new (lookup_zip_none (by rw [hn]; exact ok.new)), zip_snoc (by rw [hn]; exact ok.at_) l1]
            have e3 : ts.length + 1 = (ts ++ [t]).length := by simp
            rw [e3]
            exact h1 _ _ _ a2.st a2.g a2.s
        · rw [if_neg hCn] at h; exact h.elim
       | _ => exact h.elim
      | _ => exact h.elim
end
end Ep
namespace Ep
open PySem PySem.Spec L2
/-! ### another base -/
theorem Slots.base {G : Gm} {w : Wd} {H0 Hb H : Hp} {σ : L2.St} {env : Env} (h : ∀ a, ¬ Vs Hb a → ¬ Vs H0 a) (s : Slots G w Hb H σ env) : Slots G w H0 H σ env := by
  obtain ⟨oa, h1, h2⟩ := s.ex
  refine ⟨s.len, oa, fun i sl hi => ?_, h2⟩
  have := h1 i sl hi
  cases sl with
  | un => trivial
  | val t => exact this
  | pv o =>
    obtain ⟨a1, a2, a3, a4, a5⟩ := this
    exact ⟨a1, a2, a3, h _ a4, a5⟩
theorem FlowP.base {G : Gm} {W : WX} {w0 w : Wd} {H0 Hb : Hp} {D : Ends} {o : SO} (h : FlowP G W w0 H0 D o) (st : Step w0 H0 w Hb) : FlowP G W w Hb D o := by
  have b : ∀ a, ¬ Vs Hb a → ¬ Vs H0 a := fun a ha z => ha (st.keep a z)
  cases o with
  | nx env r => exact fun w' H' σ' s g sl => h w' H' σ' (st.trans s) g (sl.base b)
  | rt t r => exact fun w' H' v s g d => h w' H' v (st.trans s) g d
  | bk env r => exact fun w' H' σ' s g sl => h w' H' σ' (st.trans s) g (sl.base b)
  | ct env r => exact fun w' H' σ' s g sl => h w' H' σ' (st.trans s) g (sl.base b)
  | exn c p env r => exact fun w' H' σ' cls d s g sl x => h w' H' σ' cls d (st.trans s) g (sl.base b) x
  | bad => exact h
open Classical in
/-- the world as it is, the def's own things left out -/
theorem Slots.rebase {G : Gm} {w : Wd} {H0 H : Hp} {σ : L2.St} {env : Env} {r : RS} (s : Slots G w H0 H σ env) (g : Good G w H r) : ∃ Hb, At G w Hb w H σ env r ∧ ∀ w0, Step w0 H0 w H → Step w0 H0 w Hb := by
  obtain ⟨oa, h1, h2⟩ := s.ex
  let own : Addr → Prop := fun b => ∃ i sl, env[i]? = some sl ∧ Slot.priv sl = true ∧ oa i = b
  have hown : ∀ b, own b → ¬ Vs H0 b ∧ w.P b = none ∧ b ∉ w.R := fun b ⟨i, sl, e1, p1, e2⟩ => by
    have := h1 i sl e1
    subst e2
    cases sl with
    | un => cases p1
    | val _ => cases p1
    | pv o =>
      obtain ⟨a1, a2, a3, a4, a5⟩ := this
      exact ⟨a4, a2, a3⟩
  let Hb : Hp := fun b => if own b then none else H b
  have hb1 : ∀ b, own b → Hb b = none := fun b h => if_pos h
  have hb2 : ∀ b, ¬ own b → Hb b = H b := fun b h => if_neg h
  refine ⟨Hb, ⟨⟨Same.refl _, fun b o e1 e2 _ => ?_, fun b e => ?_, fun b _ _ e => e, ⟨[], by simp, by simp⟩, rfl⟩, g, s.len, oa, fun i sl hi => ?_, h2⟩, fun w0 st => ⟨st.pub, fun b o e1 e2 e3 => ?_, fun b e => ?_, fun b e1 e2 e3 => st.hid b e1 e2 e3, st.refs, st.me⟩⟩
  · by_cases q : own b
    · rw [hb1 b q] at e2; cases e2
    · rw [hb2 b q] at e2; exact e2
  · by_cases q : own b
    · exact absurd e (nvs (hb1 b q))
    · obtain ⟨o, e1, e2⟩ := e
      rw [hb2 b q] at e1
      exact ⟨o, e1, e2⟩
  · have := h1 i sl hi
    cases sl with
    | un => trivial
    | val t => exact this
    | pv o =>
      obtain ⟨a1, a2, a3, a4, a5⟩ := this
      exact ⟨a1, a2, a3, nvs (hb1 _ ⟨i, _, hi, rfl, rfl⟩), a5⟩
  · rw [hb2 b (fun q => (hown b q).1 ⟨o, e2, e3⟩)]
    exact st.fr b o e1 e2 e3
  · obtain ⟨o, e1, e2⟩ := st.keep b e
    exact ⟨o, by rw [hb2 b (fun q => (hown b q).1 e)]; exact e1, e2⟩
theorem At.rebase {G : Gm} {w0 w : Wd} {H0 H : Hp} {σ : L2.St} {env : Env} {r : RS} (a : At G w0 H0 w H σ env r) : ∃ Hb, Step w0 H0 w Hb ∧ At G w Hb w H σ env r := by
  obtain ⟨Hb, h1, h2⟩ := a.s.rebase a.g
  exact ⟨Hb, h2 w0 a.st, h1⟩
/-! ### what is walked -/
def ItOk (G : Gm) (w : Wd) (J : It) (xs : List T) : Prop := ∃ Gd Y, Walk J xs.length Gd Y ∧ (∀ w' H' r', Later w w' → Good G w' H' r' → Gd H') ∧
  ∀ i H1 v H2 w1 r1, Later w w1 → Good G w1 H1 r1 → i < xs.length → Y i H1 v H2 → ∃ t w2, xs[i]? = some t ∧ Step w1 H1 w2 H2 ∧ Good G w2 H2 r1 ∧ Den G w2 v t
def tSI (G : Gm) (W : WX) (f : Env → M (List T)) : TI := fun σ H R => ∃ w H0 env r, Good G w H r ∧ Slots G w H0 H σ env ∧ OutP G w H (WE0 W σ) (fun xs _ w' H' => ∀ J, ItOk G w' J xs → R J H') (f env r)
abbrev SI (X : Cx) (G : Gm) (W : WX) (tg e : Expr) (f : Env → M (List T)) : Prop := PI X tg e (tSI G W f)
/-- a def's own names in the target change the environment so -/
def loopF (h : T → Env → Option Env) (g : Sm) : List T → Sm
  | [], env, r => .nx env r
  | x :: xs, env, r => match h x env with
    | none => .bad
    | some env1 => match g env1 r with
      | .nx e r' => loopF h g xs e r'
      | .ct e r' => loopF h g xs e r'
      | .bk e r' => .nx e r'
      | .rt t r' => .rt t r'
      | .exn c p e r' => .exn c p e r'
      | .bad => .bad
def qFor (f : Env → M (List T)) (h : T → Env → Option Env) (g : Sm) : Sm := fun env r => ofM env (fun xs r => loopF h g xs env r) (f env r)
section
variable {X : Cx} {G : Gm} {W : WX} {pos : Pos}
def tSSx (G : Gm) (W : WX) (g : Sm) : TS := fun D σ H => ∃ w0 H0, tSS G W w0 H0 g D σ H
theorem pss_x {body : List Stmt} {g : Sm} (hb : SSs X G W body g) : PSs X body (tSSx G W g) := ⟨fun pins s σ H D I ⟨w0, H0, q⟩ => (hb w0 H0).run pins s σ H D I q⟩
def tGx (G : Gm) (us : List Nat) (h : T → Env → Option Env) : TG := fun v σ H Q => ∃ w0 H0, tG G us w0 H0 h v σ H Q
theorem pg_x {us : List Nat} {tg : Expr} {h : T → Env → Option Env} (hg : SG X G us tg h) : PG X tg (tGx G us h) := ⟨fun pins s σ H v u Q I r ⟨w0, H0, q⟩ => (hg w0 H0).run pins s σ H v u Q I r q⟩
theorem ss_for {us : List Nat} {iter tg : Expr} {body : List Stmt} {f : Env → M (List T)} {h : T → Env → Option Env} {g : Sm} (hp : PassesOwn (model X.prog X.w) X.A X.env X.xe) (hc : X.calm = true) (hi : SI X G W tg iter f) (hg : SG X G us tg h) (hb : SSs X G W body g)
    (hs : ∀ x, foldedSetIterable iter X.env x = pure x := by intro _; rfl) : SS X G W (.For tg iter body [] pos) (qFor f h g) := by
  intro w0 H0
  refine ⟨fun pins s σ H D I ⟨w, env, r, a, hq⟩ => ?_⟩
  refine (ps_for hp hc hi (pg_x hg) (pss_x hb) hs).run pins s σ H D I ?_
  refine ⟨w, H0, env, r, a.g, a.s, (FlowP.ofM a hq).imp fun xs r1 w1 H1 st1 g1 q J it => ?_⟩
  obtain ⟨a1, hf⟩ := q
  obtain ⟨Gd, Y, wk, hG, hY⟩ := it
  obtain ⟨Hc, stc, ac⟩ := a1.rebase
  refine for_it wk (fun i σ H => ∃ w' env r, At G w1 Hc w' H σ env r ∧ FlowP G W w1 Hc D (loopF h g (xs.drop i) env r)) ⟨w1, env, r1, ac, hf.base stc⟩ (fun i σ' H' _ ⟨w', env', r', a', _⟩ => hG w' H' r' a'.st.later a'.g) ?_ ?_
  · rintro i x σ' H2 H3 hlt ⟨w', env', r', a', hl⟩ y
    obtain ⟨t, w2, ht, st2, g2, d⟩ := hY i H2 x H3 w' r' a'.st.later a'.g hlt y
    have a2 := a'.step st2 g2
    have ed : xs.drop i = t :: xs.drop (i + 1) := by
      rw [List.drop_eq_getElem_cons hlt]
      rw [List.getElem?_eq_getElem hlt] at ht
      cases ht
      rfl
    rw [ed] at hl
    unfold loopF at hl
    cases q : h t env' with
    | none => rw [q] at hl; exact hl.elim
    | some env1 =>
      rw [q] at hl
      refine ⟨w1, Hc, w2, env', r', t, env1, a2, d, q, fun σ2 s2 _ => ⟨w1, Hc, w2, env1, r', ⟨a2.st, a2.g, s2⟩, ?_⟩⟩
      simp only at hl
      cases o : g env1 r' with
      | nx e r2 => rw [o] at hl; exact fun w3 H4 σ3 st g s => ⟨w3, e, r2, ⟨st, g, s⟩, hl⟩
      | ct e r2 => rw [o] at hl; exact fun w3 H4 σ3 st g s => ⟨w3, e, r2, ⟨st, g, s⟩, hl⟩
      | bk e r2 => rw [o] at hl; exact hl
      | rt u r2 => rw [o] at hl; exact hl
      | exn c p e r2 => rw [o] at hl; exact hl
      | bad => rw [o] at hl; exact hl
  · rintro σ' H2 ⟨w', env', r', a', hl⟩
    rw [List.drop_length] at hl
    exact hl w' H2 σ' a'.st a'.g a'.s
/-- while, with fuel in the reading alone -/
def whileF (p : Env → M Bool) (g : Sm) : Nat → Sm
  | 0, _, _ => .bad
  | n + 1, env, r => ofM env (fun c r => if c = true then (match g env r with
    | .nx e r' => whileF p g n e r'
    | .ct e r' => whileF p g n e r'
    | .bk e r' => .nx e r'
    | .rt t r' => .rt t r'
    | .exn c p e r' => .exn c p e r'
    | .bad => .bad) else .nx env r) (p env r)
theorem ss_while {c : Expr} {body : List Stmt} {p : Env → M Bool} {g : Sm} (n : Env → RS → Nat) (hp : PassesOwn (model X.prog X.w) X.A X.env X.xe) (hc : SB X G W c p) (hb : SSs X G W body g) : SS X G W (.While c body [] pos) (fun env r => whileF p g (n env r) env r) := by
  intro w0 H0
  refine ⟨fun pins s σ H D I ⟨w, env, r, a, hq⟩ => ?_⟩
  refine (ps_while hp hc (hb w0 H0)).run pins s σ H D I ?_
  refine ⟨fun m σ H => ∃ w env r, At G w0 H0 w H σ env r ∧ FlowP G W w0 H0 D (whileF p g m env r), ⟨_, w, env, r, a, hq⟩, ?_⟩
  rintro m σ1 H1 ⟨w1, env1, r1, a1, h1⟩
  cases m with
  | zero => exact h1.elim
  | succ m =>
    unfold whileF at h1
    refine at_b a1 h1 fun b r2 w2 H2 a2 h2 => ?_
    cases b with
    | false => exact h2 w2 H2 σ1 a2.st a2.g a2.s
    | true =>
      refine ⟨fun σ H => ∃ w env r, At G w0 H0 w H σ env r ∧ FlowP G W w0 H0 D (whileF p g m env r), fun σ' H' q => ⟨m, Nat.lt_succ_self m, q⟩, w2, env1, r2, a2, ?_⟩
      rw [if_pos rfl] at h2
      cases o : g env1 r2 with
      | nx e r2 => rw [o] at h2; exact fun w3 H4 σ3 st g s => ⟨w3, e, r2, ⟨st, g, s⟩, h2⟩
      | ct e r2 => rw [o] at h2; exact fun w3 H4 σ3 st g s => ⟨w3, e, r2, ⟨st, g, s⟩, h2⟩
      | bk e r2 => rw [o] at h2; exact h2
      | rt u r2 => rw [o] at h2; exact h2
      | exn c p e r2 => rw [o] at h2; exact h2
      | bad => rw [o] at h2; exact h2
end
end Ep
namespace Ep
open PySem PySem.Spec L2
/-! ### what can be walked -/
def iSeqA (K : PySem.W.Frag) (te : TE) : TI := fun σ H R => te σ H fun x H1 => (∃ a xs, x = .ref a ∧ SqL K H1 a xs ∧ R (Itl K a) H1) ∨ (∃ a xs, x = .ref a ∧ SqT K H1 a xs ∧ R (Itt K a) H1) ∨ ∃ z, x = .str z ∧ R (Its z) H1
section
variable {X : Cx} {G : Gm} {W : WX} {pos : Pos} {tg e : Expr} {f : Env → M T}
theorem pi_seqA {te : TE} (he : PE X e te) : PI X tg e (iSeqA X.K te) := by
  refine ⟨fun pins s σ H R I h => ?_⟩
  refine thn (he.run pins s σ H _ I h) fun v s1 ⟨x, H1, I1, r1, q1⟩ => ?_
  have one : ∀ {b : Addr}, b ∈ [s1.heap.objs.size] → FpOk X pins H1 b := fun {b} hb => by
    obtain rfl : b = s1.heap.objs.size := by simpa using hb
    exact I1.fpOk (Nat.le_refl _) (I1.hok.fresh (Nat.le_refl _))
  rcases q1 with ⟨a, xs, ex, hq, q⟩ | ⟨a, xs, ex, hq, q⟩ | ⟨z, ex, q⟩
  · subst ex
    cases r1
    obtain ⟨its, rv, p, hz⟩ := I1.list hq
    exact wpAny_pyIter_list p.isList ⟨s1.heap.objs.size, [s1.heap.objs.size], _, _, H1, rfl, I1.kept (t' := s1.toks) fun b o ho => Heap.get?_push_of_some _ ho, turn_list a _, ⟨_, Heap.get?_push_size _ rfl, rfl, rfl⟩, fun b hb => one hb, q⟩
  · subst ex
    cases r1
    obtain ⟨its, rv, p, hz⟩ := I1.tuple hq
    exact wpAny_pyIter_tuple (show s1.heap.IsTuple a its.toArray from p) ⟨s1.heap.objs.size, [s1.heap.objs.size], _, _, H1, rfl, I1.kept (t' := s1.toks) fun b o ho => Heap.get?_push_of_some _ ho, turn_tuple a _, ⟨_, Heap.get?_push_size _ rfl, rfl, rfl⟩, fun b hb => one hb, q⟩
  · subst ex
    obtain ⟨t, rfl⟩ := r1
    cases ha : z.cps.all (· < 128) with
    | false => exact wpAny_pyIter_wide ha (pi_one (tk := s1.toks) I1 _ (turn_str _ z t "str_iterator" (.inr rfl)) ⟨_, Heap.get?_push_size _ rfl, rfl, rfl⟩ q)
    | true => exact wpAny_pyIter_ascii ha (pi_one (tk := s1.toks) I1 _ (turn_str _ z t "str_ascii_iterator" (.inl rfl)) ⟨_, Heap.get?_push_size _ rfl, rfl, rfl⟩ q)
def chrT (z : Str) : List T := z.cps.toList.map fun c => .str ⟨#[c]⟩
def iterT : T → Option (List T)
  | .lst xs => some xs
  | .kls xs => some xs
  | .tup xs => some xs
  | .str z => some (chrT z)
  | _ => none
def fIter (f : Env → M T) : Env → M (List T) := fun env => f env >>= fun t => M.lift (iterT t)
theorem pi_imp {t t' : TI} (h : PI X tg e t) (i : ∀ σ H Q, t' σ H Q → t σ H Q) : PI X tg e t' := ⟨fun pins s σ H Q I q => h.run pins s σ H Q I (i σ H Q q)⟩
theorem it_l {w : Wd} {a : Addr} {vs : List V} {xs : List T} (h : SqL G.K w.P a vs) (d : Dens G w vs xs) : ItOk G w (Itl G.K a) xs := by
  refine ⟨_, _, by rw [← d.length]; exact walk_list (xs := vs), fun w' H' r' L g => g.sub.seq (L.pub.seq h), fun i H1 v H2 w1 r1 L g hi y => ?_⟩
  obtain ⟨e, y⟩ := y
  subst e
  obtain ⟨t, ht, hd⟩ := d.getV y
  exact ⟨t, w1, ht, Step.refl _ _, g, hd.mono L⟩
theorem it_t {w : Wd} {a : Addr} {vs : List V} {xs : List T} (h : TupAt G.K w.P a vs) (d : Dens G w vs xs) : ItOk G w (Itt G.K a) xs := by
  refine ⟨_, _, by rw [← d.length]; exact walk_tup (xs := vs), fun w' H' r' L g => tup_sq g.sub (h.mono L.pub), fun i H1 v H2 w1 r1 L g hi y => ?_⟩
  obtain ⟨e, y⟩ := y
  subst e
  obtain ⟨t, ht, hd⟩ := d.getV y
  exact ⟨t, w1, ht, Step.refl _ _, g, hd.mono L⟩
theorem it_s {w : Wd} {z : Str} : ItOk G w (Its z) (chrT z) := by
  refine ⟨_, _, by rw [show (chrT z).length = z.cps.size by simp [chrT]]; exact walk_str, fun _ _ _ _ _ => trivial, fun i H1 v H2 w1 r1 L g hi y => ?_⟩
  obtain ⟨e, c, hc, y⟩ := y
  subst e y
  exact ⟨.str ⟨#[c]⟩, w1, by simp [chrT, hc], Step.refl _ _, g, .str _⟩
theorem i_seq (hK : X.K = G.K) (he : SE X G W e f) : SI X G W tg e (fIter f) :=
  pi_imp (pi_seqA he) fun σ H R ⟨w, H0, env, r, g, s, h⟩ => by
    refine seqE g s h fun t r1 w1 H1 v g1 s1 st1 d1 h1 => ?_
    obtain ⟨xs, e1, h2⟩ := liftP h1
    have h3 := h2 w1 H1 (Step.refl _ _) g1
    rw [hK]
    cases d1 with
    | lst h z d => cases e1; exact .inl ⟨_, _, rfl, .inl (.inl (g1.sub _ _ h)), h3 _ (it_l (.inl (.inl h)) d)⟩
    | kls h z d => cases e1; exact .inl ⟨_, _, rfl, g1.sub.seq h, h3 _ (it_l h d)⟩
    | tup h z d => cases e1; exact .inr (.inl ⟨_, _, rfl, tup_sq g1.sub h, h3 _ (it_t h d)⟩)
    | str z => cases e1; exact .inr (.inr ⟨z, rfl, h3 _ it_s⟩)
    | _ => cases e1
/-! ### ranges -/
def rngL (lo : Int) (n : Nat) : List T := (List.range n).map fun i => .int (lo + (i : Nat))
theorem it_r {w : Wd} {lo : Int} {n : Nat} : ItOk G w (Itr lo n) (rngL lo n) := by
  refine ⟨_, _, by rw [show (rngL lo n).length = n by simp [rngL]]; exact walk_range, fun _ _ _ _ _ => trivial, fun i H1 v H2 w1 r1 L g hi y => ?_⟩
  obtain ⟨e, y⟩ := y
  subst e y
  have hi : i < n := by simpa [rngL] using hi
  exact ⟨.int (lo + (i : Nat)), w1, by simp [rngL, hi], Step.refl _ _, g, .int _⟩
def rng1T : List T → Option (List T)
  | [.int j] => if -(2 ^ 62) ≤ j ∧ j < 2 ^ 62 then some (rngL 0 j.toNat) else none
  | _ => none
def rng2T : List T → Option (List T)
  | [.int i, .int j] => if -(2 ^ 62) ≤ i ∧ i < 2 ^ 62 ∧ -(2 ^ 62) ≤ j ∧ j < 2 ^ 62 then some (rngL i (j - i).toNat) else none
  | _ => none
def fRng1 (f : Env → M T) : Env → M (List T) := fun env => fAll [f] env >>= fun ts => M.lift (rng1T ts)
def fRng2 (f g : Env → M T) : Env → M (List T) := fun env => fAll [f, g] env >>= fun ts => M.lift (rng2T ts)
theorem i_range1 {a : Expr} {p : Pos} (hg : Gl X "range") (hm : X.mg "range" = none) (ha : SE X G W a f) (hs : starEach [a] X.env = [(false, eval a X.env)] := by rfl) : SI X G W tg (.Call (.Name "range" p) [a] [] pos) (fRng1 f) :=
  pi_imp (pi_range1 hg hm (a_cons ha a_nil hs) hs) fun σ H R ⟨w, H0, env, r, g, s, h⟩ => by
    refine seqA g s h fun ts r1 w1 H1 vs g1 s1 st1 d1 l h1 => ?_
    obtain ⟨xs, e1, h2⟩ := liftP h1
    have h3 := h2 w1 H1 (Step.refl _ _) g1
    cases d1 with
    | nil => cases e1
    | cons d d' =>
      cases d' with
      | cons _ _ => cases l
      | nil =>
        cases d with
        | int j =>
          have e1 : (if -(2 ^ 62) ≤ j ∧ j < 2 ^ 62 then some (rngL 0 j.toNat) else none) = some xs := e1
          split at e1
          · cases e1
            rename_i q
            exact ⟨j, rfl, q.1, q.2, h3 _ it_r⟩
          · cases e1
        | _ => cases e1
theorem i_range2 {a b : Expr} {f' : Env → M T} {p : Pos} (hg : Gl X "range") (hm : X.mg "range" = none) (ha : SE X G W a f) (hb : SE X G W b f') (hs : starEach [a, b] X.env = [(false, eval a X.env), (false, eval b X.env)] := by rfl) (hs2 : starEach [b] X.env = [(false, eval b X.env)] := by rfl) :
    SI X G W tg (.Call (.Name "range" p) [a, b] [] pos) (fRng2 f f') :=
  pi_imp (pi_range2 hg hm (a_cons ha (a_cons hb a_nil hs2) (hs.trans (by rw [hs2]))) hs hs2) fun σ H R ⟨w, H0, env, r, g, s, h⟩ => by
    refine seqA g s h fun ts r1 w1 H1 vs g1 s1 st1 d1 l h1 => ?_
    obtain ⟨xs, e1, h2⟩ := liftP h1
    have h3 := h2 w1 H1 (Step.refl _ _) g1
    cases d1 with
    | nil => cases e1
    | cons d d' =>
      cases d' with
      | nil => cases l
      | cons d2 d' =>
        cases d' with
        | cons _ _ => cases l
        | nil =>
          cases d with
          | int i =>
            cases d2 with
            | int j =>
              have e1 : (if -(2 ^ 62) ≤ i ∧ i < 2 ^ 62 ∧ -(2 ^ 62) ≤ j ∧ j < 2 ^ 62 then some (rngL i (j - i).toNat) else none) = some xs := e1
              split at e1
              · cases e1
                rename_i q
                exact ⟨i, j, rfl, q, h3 _ it_r⟩
              · cases e1
            | _ => cases e1
          | _ => cases e1
/-! ### pairs: enumerate, zip -/
theorem pair_new {w1 : Wd} {H1 H2 : Hp} {r1 : RS} {x y : V} {t u : T} {p : Addr} (g : Good G w1 H1 r1) (hp : H1 p = none) (e : H2 = upd H1 p (.tup [x, y])) (d1 : Den G w1 x t) (d2 : Den G w1 y u) : ∃ w2, Step w1 H1 w2 H2 ∧ Good G w2 H2 r1 ∧ Den G w2 (.ref p) (.tup [t, u]) := by
  subst e
  obtain ⟨st, g2⟩ := g.new (o := .tup [x, y]) hp
  exact ⟨_, st, g2, .tup (.inl upd_same) (by rw [sizeLine_eq]; exact Nat.le_of_lt (by simp)) (.cons (d1.mono st.later) (.cons (d2.mono st.later) .nil))⟩
def enumL : Nat → List T → List T
  | _, [] => []
  | n, x :: xs => .tup [.int (n : Nat), x] :: enumL (n + 1) xs
theorem enumL_len : ∀ (xs : List T) (n : Nat), (enumL n xs).length = xs.length
  | [], _ => rfl
  | x :: xs, n => by simp [enumL, enumL_len xs]
theorem enumL_at : ∀ (xs : List T) (n i : Nat) (x : T), xs[i]? = some x → (enumL n xs)[i]? = some (.tup [.int ((n + i : Nat) : Int), x])
  | [], _, _, _, e => by simp at e
  | x :: xs, n, 0, y, e => by
    simp at e; subst e; rfl
  | x :: xs, n, i + 1, y, e => by
    have := enumL_at xs (n + 1) i y (by simpa using e)
    simp only [enumL, List.getElem?_cons_succ]
    rw [this, show n + 1 + i = n + (i + 1) by omega]
theorem it_e {w : Wd} {a : Addr} {vs : List V} {xs : List T} (h : SqL G.K w.P a vs) (d : Dens G w vs xs) : ItOk G w (Ite G.K a) (enumL 0 xs) := by
  refine ⟨_, _, by rw [enumL_len, ← d.length]; exact walk_enum (xs := vs), fun w' H' r' L g => g.sub.seq (L.pub.seq h), fun i H1 v H2 w1 r1 L g hi y => ?_⟩
  obtain ⟨p, x, y, ev, hp, e2, ex, ey⟩ := y
  subst ev
  cases ex
  obtain ⟨t, ht, hd⟩ := d.getV ey
  obtain ⟨w2, st, g2, d2⟩ := pair_new g hp e2 (.int (i : Nat)) (hd.mono L)
  exact ⟨_, w2, by rw [enumL_at xs 0 i t ht, Nat.zero_add], st, g2, d2⟩
def lstOnly : T → Option (List T)
  | .lst xs => some xs
  | .kls xs => some xs
  | _ => none
def fEnum (f : Env → M T) : Env → M (List T) := fun env => fAll [f] env >>= fun ts => M.lift (match ts with
  | [t] => (lstOnly t).map (enumL 0)
  | _ => none)
theorem lst_pub {w : Wd} {v : V} {t : T} {xs : List T} (d : Den G w v t) (e : lstOnly t = some xs) : ∃ a vs, v = .ref a ∧ SqL G.K w.P a vs ∧ Dens G w vs xs := by
  cases d with
  | lst h z d => cases e; exact ⟨_, _, rfl, .inl (.inl h), d⟩
  | kls h z d => cases e; exact ⟨_, _, rfl, h, d⟩
  | _ => cases e
theorem i_enum {a : Expr} {p tpos : Pos} {elts : List Expr} {kk : Nat} (hK : X.K = G.K) (hg : Gl X "enumerate") (hm : X.mg "enumerate" = none) (ha : SE X G W a f) (hs : starEach [a] X.env = [(false, eval a X.env)] := by rfl) :
    SI X G W (.Tuple elts kk tpos) (.Call (.Name "enumerate" p) [a] [] pos) (fEnum f) :=
  pi_imp (pi_enum hg hm (a_cons ha a_nil hs) hs) fun σ H R ⟨w, H0, env, r, g, s, h⟩ => by
    refine seqA g s h fun ts r1 w1 H1 vs g1 s1 st1 d1 l h1 => ?_
    obtain ⟨xs, e1, h2⟩ := liftP h1
    have h3 := h2 w1 H1 (Step.refl _ _) g1
    cases d1 with
    | nil => cases e1
    | @cons v vs t ts d d' =>
      cases d' with
      | cons _ _ => cases l
      | nil =>
        have e1 : (lstOnly t).map (enumL 0) = some xs := e1
        cases e2 : lstOnly t with
        | none => rw [e2] at e1; cases e1
        | some ys =>
          rw [e2] at e1
          cases e1
          obtain ⟨b, us, ev, hq, dd⟩ := lst_pub d e2
          subst ev
          rw [hK]
          exact ⟨b, us, rfl, g1.sub.seq hq, h3 _ (it_e hq dd)⟩
theorem walk_zipT {K : PySem.W.Frag} {a b : Addr} {xs ys : List V} : Walk (RZ.ItzT K a b) (min xs.length ys.length) (fun H => SqT K H a xs ∧ SqT K H b ys) (YPair (fun i => xs[i]?) (fun i => ys[i]?)) where
  goes i H lt both := ⟨xs, ys, _, _, both.1, both.2, List.getElem?_eq_getElem (Nat.lt_of_lt_of_le lt (Nat.min_le_left _ _)), List.getElem?_eq_getElem (Nat.lt_of_lt_of_le lt (Nat.min_le_right _ _))⟩
  stops H both := ⟨xs, ys, both.1, both.2, (Nat.le_total xs.length ys.length).imp (fun short => Nat.le_min.mpr ⟨Nat.le_refl _, short⟩) (fun short => Nat.le_min.mpr ⟨short, Nat.le_refl _⟩)⟩
  yields i H v H' lt both := fun ⟨p, l, m, ev, new, eH, fst, snd⟩ => ⟨p, l, m, ev, new, eH, fst xs both.1, snd ys both.2⟩
def zipL : List T → List T → List T
  | x :: xs, y :: ys => .tup [x, y] :: zipL xs ys
  | _, _ => []
theorem zipL_len : ∀ (xs ys : List T), (zipL xs ys).length = min xs.length ys.length
  | [], _ => by simp [zipL]
  | x :: xs, [] => by simp [zipL]
  | x :: xs, y :: ys => by simp [zipL, zipL_len xs ys]
theorem zipL_at : ∀ (xs ys : List T) (i : Nat) (x y : T), xs[i]? = some x → ys[i]? = some y → (zipL xs ys)[i]? = some (.tup [x, y])
  | [], _, _, _, _, e, _ => by simp at e
  | x :: xs, [], _, _, _, _, e => by simp at e
  | x :: xs, y :: ys, 0, _, _, e1, e2 => by simp at e1 e2; subst e1 e2; rfl
  | x :: xs, y :: ys, i + 1, x', y', e1, e2 => by
    have := zipL_at xs ys i x' y' (by simpa using e1) (by simpa using e2)
    simpa [zipL] using this
theorem it_zY {w : Wd} {us vs : List V} {xs ys : List T} (d : Dens G w us xs) (d' : Dens G w vs ys) {i : Nat} {H1 : Hp} {v : V} {H2 : Hp} {w1 : Wd} {r1 : RS} (L : Later w w1) (g : Good G w1 H1 r1) (y : YPair (fun i => us[i]?) (fun i => vs[i]?) i H1 v H2) :
    ∃ t w2, (zipL xs ys)[i]? = some t ∧ Step w1 H1 w2 H2 ∧ Good G w2 H2 r1 ∧ Den G w2 v t := by
  obtain ⟨p, x, y, ev, hp, e2, ex, ey⟩ := y
  subst ev
  obtain ⟨t, ht, hd⟩ := d.getV ex
  obtain ⟨u, hu, hd'⟩ := d'.getV ey
  obtain ⟨w2, st, g2, d2⟩ := pair_new g hp e2 (hd.mono L) (hd'.mono L)
  exact ⟨_, w2, zipL_at xs ys i t u ht hu, st, g2, d2⟩
theorem it_zl {w : Wd} {a b : Addr} {us vs : List V} {xs ys : List T} (h : SqL G.K w.P a us) (h' : SqL G.K w.P b vs) (d : Dens G w us xs) (d' : Dens G w vs ys) : ItOk G w (Itz G.K a b) (zipL xs ys) := by
  refine ⟨_, _, by rw [zipL_len, ← d.length, ← d'.length]; exact walk_zip (xs := us) (ys := vs) rfl, fun w' H' r' L g => And.intro (g.sub.seq (L.pub.seq h)) (g.sub.seq (L.pub.seq h')), fun i H1 v H2 w1 r1 L g _ y => it_zY d d' L g y⟩
theorem it_zt {w : Wd} {a b : Addr} {us vs : List V} {xs ys : List T} (h : TupAt G.K w.P a us) (h' : TupAt G.K w.P b vs) (d : Dens G w us xs) (d' : Dens G w vs ys) : ItOk G w (RZ.ItzT G.K a b) (zipL xs ys) := by
  refine ⟨_, _, by rw [zipL_len, ← d.length, ← d'.length]; exact walk_zipT (xs := us) (ys := vs), fun w' H' r' L g => And.intro (tup_sq g.sub (h.mono L.pub)) (tup_sq g.sub (h'.mono L.pub)), fun i H1 v H2 w1 r1 L g _ y => it_zY d d' L g y⟩
def zipT (t u : T) : Option (List T) := match t, u with
  | .tup xs, .tup ys => some (zipL xs ys)
  | t, u => (lstOnly t).bind fun xs => (lstOnly u).map fun ys => zipL xs ys
def fZip (f f' : Env → M T) : Env → M (List T) := fun env => fAll [f, f'] env >>= fun ts => M.lift (match ts with
  | [t, u] => zipT t u
  | _ => none)
theorem zip_cases {t u : T} {xs : List T} (e : zipT t u = some xs) : (∃ ys zs, t = .tup ys ∧ u = .tup zs ∧ xs = zipL ys zs) ∨ ∃ ys zs, lstOnly t = some ys ∧ lstOnly u = some zs ∧ xs = zipL ys zs := by
  have lo : ((lstOnly t).bind fun xs => (lstOnly u).map fun ys => zipL xs ys) = some xs → ∃ ys zs, lstOnly t = some ys ∧ lstOnly u = some zs ∧ xs = zipL ys zs := fun e => by
    cases e1 : lstOnly t with
    | none => rw [e1] at e; cases e
    | some ys =>
      rw [e1] at e
      cases e2 : lstOnly u with
      | none => rw [e2] at e; cases e
      | some zs => rw [e2] at e; cases e; exact ⟨ys, zs, rfl, rfl, rfl⟩
  unfold zipT at e
  split at e
  · cases e; exact .inl ⟨_, _, rfl, rfl, rfl⟩
  · exact .inr (lo e)
theorem i_zip {a b : Expr} {f' : Env → M T} {p tpos : Pos} {elts : List Expr} {kk : Nat} (hK : X.K = G.K) (hg : Gl X "zip") (hm : X.mg "zip" = none) (ha : SE X G W a f) (hb : SE X G W b f')
    (hs : starEach [a, b] X.env = (false, eval a X.env) :: starEach [b] X.env := by rfl) (hs2 : starEach [b] X.env = (false, eval b X.env) :: starEach [] X.env := by rfl) (hpl : (backTo pos (starEach [b] X.env)).any (·.1) = false := by rfl) :
    SI X G W (.Tuple elts kk tpos) (.Call (.Name "zip" p) [a, b] [] pos) (fZip f f') :=
  pi_imp (RZ.pi_zipA hg hm (a_cons ha (a_cons hb a_nil hs2) hs) hs hpl) fun σ H R ⟨w, H0, env, r, g, s, h⟩ => by
    refine seqA g s h fun ts r1 w1 H1 vs g1 s1 st1 d1 l h1 => ?_
    obtain ⟨xs, e1, h2⟩ := liftP h1
    have h3 := h2 w1 H1 (Step.refl _ _) g1
    cases d1 with
    | nil => cases e1
    | @cons v vs t ts d d' =>
      cases d' with
      | nil => cases l
      | @cons v' vs u ts d2 d' =>
        cases d' with
        | cons _ _ => cases l
        | nil =>
          rw [hK]
          rcases zip_cases e1 with ⟨ys, zs, rfl, rfl, rfl⟩ | ⟨ys, zs, e2, e3, rfl⟩
          · cases d with
            | tup hh z dd =>
              cases d2 with
              | tup hh' z' dd' => exact ⟨_, _, _, _, rfl, .inr ⟨tup_sq g1.sub hh, tup_sq g1.sub hh', h3 _ (it_zt hh hh' dd dd')⟩⟩
          · obtain ⟨a, us, ev, hq, dd⟩ := lst_pub d e2
            obtain ⟨b, ws, ev', hq', dd'⟩ := lst_pub d2 e3
            subst ev ev'
            exact ⟨_, _, _, _, rfl, .inl ⟨g1.sub.seq hq, g1.sub.seq hq', h3 _ (it_zl hq hq' dd dd')⟩⟩
end
end Ep
namespace Ep
open PySem PySem.Spec L2
/-! ### comprehensions -/
def wipeE (env : Env) : List Nat → Env
  | [] => env
  | v :: vs => (wipeE env vs).set v .un
section
variable {G : Gm} {w : Wd} {H0 H : Hp} {σ : L2.St} {env : Env} {r : RS}
theorem Slots.setUn {o : Option V} (s : Slots G w H0 H σ env) (i : Nat) : Slots G w H0 H (σ.set i o) (env.set i .un) := by
  obtain ⟨oa, h1, h2⟩ := s.ex
  have old : ∀ {m : Nat} {x : Slot}, (env.set i .un)[m]? = some x → x ≠ .un → i ≠ m ∧ env[m]? = some x := fun {m x} hm px => by
    by_cases him : i = m
    · subst him
      by_cases hl : i < env.length
      · rw [List.getElem?_set_self hl] at hm
        cases hm
        exact absurd rfl px
      · rw [List.getElem?_eq_none (by simpa using hl)] at hm
        cases hm
    · rw [List.getElem?_set_ne him] at hm
      exact ⟨him, hm⟩
  have np : ∀ {x : Slot}, x.priv = true → x ≠ .un := fun {x} p e => by subst e; cases p
  refine ⟨by simp [s.len], oa, fun j sl hj => ?_, fun j k u u' hj hk pj pk e => h2 j k u u' (old hj (np pj)).2 (old hk (np pk)).2 pj pk e⟩
  cases sl with
  | un => trivial
  | val t =>
    obtain ⟨ne, e⟩ := old hj (by simp)
    obtain ⟨v, e1, d⟩ := h1 j _ e
    exact ⟨v, by rw [List.getElem?_set_ne ne]; exact e1, d⟩
  | pv q =>
    obtain ⟨ne, e⟩ := old hj (by simp)
    obtain ⟨b1, b2⟩ := h1 j _ e
    exact ⟨by rw [List.getElem?_set_ne ne]; exact b1, b2⟩
theorem Slots.wiped (s : Slots G w H0 H σ env) : ∀ vs : List Nat, Slots G w H0 H (wipe σ vs) (wipeE env vs)
  | [] => s
  | v :: vs => (s.wiped vs).setUn v
theorem wipe_at : ∀ (vs : List Nat) (j : Nat), (wipe σ vs)[j]? = if j ∈ vs then (σ[j]?).map fun _ => none else σ[j]?
  | [], j => by simp [wipe]
  | v :: vs, j => by
    unfold wipe
    by_cases e : v = j
    · subst e
      rw [List.getElem?_set]
      simp only [wipe_length]
      by_cases hl : v < σ.length
      · simp [hl]
      · simp [hl]
    · rw [List.getElem?_set_ne e, wipe_at vs j]
      by_cases hj : j ∈ vs
      · simp [hj]
      · have : ¬ j = v := fun q => e q.symm
        simp [hj, this]
theorem wipe_but {us vs : List Nat} {σ2 : L2.St} (b : But us (wipe σ vs) σ2) (h : ∀ j ∈ us, j ∈ vs) : wipe σ2 vs = wipe σ vs := by
  apply List.ext_getElem?
  intro j
  rw [wipe_at, wipe_at]
  by_cases hj : j ∈ vs
  · rw [if_pos hj, if_pos hj]
    have := b.1
    rw [wipe_length] at this
    by_cases hl : j < σ.length
    · have h2 : j < σ2.length := by omega
      simp [hl, h2]
    · have h2 : ¬ j < σ2.length := by omega
      simp [hl, h2]
  · rw [if_neg hj, if_neg hj]
    rw [b.2 j (fun q => hj (h j q)), wipe_at, if_neg hj]
end
def noEx {α : Type} (m : M α) : M α := fun r => match m r with
  | .ok a r => .ok a r
  | _ => .bad
theorem noEx_ok {α : Type} {m : M α} {r r' : RS} {a : α} (h : noEx m r = .ok a r') : m r = .ok a r' := by
  unfold noEx at h
  split at h
  · rename_i e; rw [e, h]
  · cases h
def W0 : WX := fun _ _ _ _ => False
def compF (vs : List Nat) (h : T → Env → Option Env) (p : Env → M Bool) (f : Env → M T) : List T → List T → Env → M (List T)
  | [], acc, _ => pure acc
  | x :: xs, acc, env => match h x (wipeE env vs) with
    | none => M.bad
    | some env1 => noEx (p env1) >>= fun b => if b = true then noEx (f env1) >>= fun y => if acc.length < sizeLine then compF vs h p f xs (acc ++ [y]) env else M.bad else compF vs h p f xs acc env
def fComp (vs : List Nat) (h : T → Env → Option Env) (p : Env → M Bool) (f : Env → M T) (fi : Env → M (List T)) : Env → M (List T) := fun env => fi env >>= fun xs => compF vs h p f xs [] env
def fYes : Env → M Bool := fun _ => pure true
abbrev STs (X : Cx) (G : Gm) (ifs : List Expr) (p : Env → M Bool) : Prop := PTs X ifs (tSB G W0 p)
section
variable {X : Cx} {G : Gm} {W : WX} {pos : Pos} {f : Env → M T} {p : Env → M Bool} {env : Env} {r : RS} {w : Wd} {H0 H : Hp} {σ : L2.St}
theorem pts_imp {ifs : List Expr} {t t' : TT} (h : PTs X ifs t) (i : ∀ σ H Q, t' σ H Q → t σ H Q) : PTs X ifs t' := ⟨fun pins s σ H Q I q => h.run pins s σ H Q I (i σ H Q q)⟩
theorem ts_nil : STs X G [] fYes := pts_imp pts_nil fun σ H Q ⟨w, H0, env, r, g, s, h⟩ => OutP.here g h
theorem ts_one {c : Expr} (h : SB X G W0 c p) : STs X G [c] p := pts_one h
theorem seqI {α : Type} {fi : Env → M (List T)} {k : List T → M α} {P : α → RS → Wd → Hp → Prop} {R : It → Hp → Prop} (g : Good G w H r) (s : Slots G w H0 H σ env) (h : OutP G w H (WE0 W σ) P ((fi env >>= k) r))
    (n : ∀ xs r1 w1 H1 J, Good G w1 H1 r1 → Slots G w1 H0 H1 σ env → Step w H w1 H1 → ItOk G w1 J xs → OutP G w1 H1 (WE0 W σ) P (k xs r1) → R J H1) : tSI G W fi σ H R :=
  ⟨w, H0, env, r, g, s, h.bind.imp fun xs r1 w1 H1 st g1 q J it => n xs r1 w1 H1 J g1 (s.step st) st it q⟩
theorem noEx_use {α β : Type} {w' : Wd} {H' : Hp} {E E' : XK} {m : M α} {k : α → M β} {P : β → RS → Wd → Hp → Prop} (h : OutP G w H E P ((noEx m >>= k) r)) : OutP G w' H' E' (fun a r2 _ _ => OutP G w H E P (k a r2)) (m r) := by
  have e : (noEx m >>= k) r = M.bind (noEx m) k r := rfl
  rw [e] at h
  unfold M.bind noEx at h
  cases q : m r with
  | ok a r' => rw [q] at h; exact fun _ _ _ _ => h
  | exn c p r' => rw [q] at h; exact h.elim
  | bad => rw [q] at h; exact h.elim
theorem comp_use {us vs : List Nat} {h : T → Env → Option Env} {fi : Env → M (List T)} {Q : VK} (hu : ∀ j ∈ us, j ∈ vs) (hq : tSL G W (fComp vs h p f fi) σ H Q) : tLc (tSI G W fi) (tGx G us h) (tSB G W0 p) (tS G W0 f) vs σ H Q := by
  obtain ⟨w, H0, env, r, g, s, hq⟩ := hq
  refine seqI g s hq fun xs r1 w1 H1 J g1 s1 st1 it h1 => ?_
  intro D hD
  obtain ⟨Gd, Y, wk, hG, hY⟩ := it
  have hD0 : ¬ Vs H D := st1.before hD
  have stD : Step w1 H1 w1 (upd H1 D (.lst [])) := (Step.refl w1 H1).priv hD
  refine lc_it wk (fun i H' => ∃ w' r' acc vs', Step w1 H1 w' H' ∧ Good G w' H' r' ∧ w'.P D = none ∧ D ∉ w'.R ∧ H' D = some (.lst vs') ∧ Dens G w' vs' acc ∧ OutP G w1 H1 (WE0 W σ) (fun xs _ w' H' => ∀ p vs, ¬ Vs H p → w'.P p = none → p ∉ w'.R → H' p = some (.lst vs) → Dens G w' vs xs → xs.length ≤ sizeLine → Q (.ref p) H') (compF vs h p f (xs.drop i) acc env r') ∧ acc.length ≤ sizeLine)
    ⟨w1, r1, [], [], stD, g1.priv (g1.nopub hD) (g1.noref hD) (.inl hD), g1.nopub hD, g1.noref hD, upd_same, .nil, h1, Nat.zero_le _⟩
    (fun i H' _ ⟨w', r', _, _, st, g', _⟩ => hG w' H' r' st.later g') ?_ ?_
  · rintro i x H2 H3 hlt ⟨w', r', acc, us', st, g', hP, hR, hh, d, hc, hz⟩ y
    obtain ⟨t, w2, ht, st2, g2, dx⟩ := hY i H2 x H3 w' r' st.later g' hlt y
    have hP2 := st2.hid D hR (vs_of hh) hP
    have nr : ∀ {wa wb : Wd} {Ha Hb : Hp}, Step wa Ha wb Hb → D ∉ wa.R → Vs Ha D → D ∉ wb.R := fun {wa wb Ha Hb} s h1 h2 h3 => by
      obtain ⟨m, e, hm⟩ := s.refs
      rw [e] at h3
      rcases List.mem_append.mp h3 with z | z
      · exact h1 z
      · exact hm D z h2
    have hR2 := nr st2 hR (vs_of hh)
    have hh2 := st2.fr D _ hR hh (by intro _ e; cases e)
    have d2 := d.mono st2.later
    have s2 := ((s1.step st).step st2).wiped vs
    obtain ⟨Hb, aB, _⟩ := s2.rebase g2
    have ed : xs.drop i = t :: xs.drop (i + 1) := by
      rw [List.drop_eq_getElem_cons hlt]
      rw [List.getElem?_eq_getElem hlt] at ht
      cases ht
      rfl
    rw [ed] at hc
    unfold compF at hc
    cases q : h t (wipeE env vs) with
    | none => rw [q] at hc; exact hc.elim
    | some env1 =>
      rw [q] at hc
      refine ⟨w2, Hb, w2, _, r', t, env1, aB, dx, q, fun σ2 sl b => ⟨wipe_but b hu, ?_⟩⟩
      refine ⟨w2, Hb, env1, r', g2, sl, (noEx_use hc).imp fun b r3 w3 H4 st3 g3 hc => ?_⟩
      have hP3 := st3.hid D hR2 (vs_of hh2) hP2
      have hR3 := nr st3 hR2 (vs_of hh2)
      have hh3 := st3.fr D _ hR2 hh2 (by intro _ e; cases e)
      have d3 := d2.mono st3.later
      have stA := (st.trans st2).trans st3
      cases b with
      | false => exact ⟨w3, r3, acc, us', stA, g3, hP3, hR3, hh3, d3, hc, hz⟩
      | true =>
        have hc : OutP G w1 H1 (WE0 W σ) (fun xs _ w' H' => ∀ p vs, ¬ Vs H p → w'.P p = none → p ∉ w'.R → H' p = some (.lst vs) → Dens G w' vs xs → xs.length ≤ sizeLine → Q (.ref p) H') ((noEx (f env1) >>= fun y => if acc.length < sizeLine then compF vs h p f (xs.drop (i + 1)) (acc ++ [y]) env else M.bad) r3) := hc
        refine ⟨w3, Hb, env1, r3, g3, sl.step st3, (noEx_use hc).imp fun y r4 w4 H5 st4 g4 hc v dv => ?_⟩
        have hP4 := st4.hid D hR3 (vs_of hh3) hP3
        have hR4 := nr st4 hR3 (vs_of hh3)
        have hh4 := st4.fr D _ hR3 hh3 (by intro _ e; cases e)
        have d4 := d3.mono st4.later
        have stB := stA.trans st4
        by_cases hl : acc.length < sizeLine
        · rw [if_pos hl] at hc
          exact ⟨us', hh4, by rw [d4.length]; exact hl, w4, r4, acc ++ [y], us' ++ [v], stB.chg (nvs hD), g4.priv hP4 hR4 (.inr ⟨_, hh4, ⟨fun _ e => (by cases e), fun _ e => (by cases e)⟩⟩), hP4, hR4, upd_same, d4.append (.cons dv .nil), hc, by rw [List.length_append, List.length_singleton]; exact hl⟩
        · rw [if_neg hl] at hc
          exact hc.elim
  · rintro H2 ⟨w', r', acc, us', st, g', hP, hR, hh, d, hc, hz⟩
    rw [List.drop_length] at hc
    exact hc w' H2 st g' D us' hD0 hP hR hh d hz
variable {elt tg iter : Expr} {ifs : List Expr} {scope : Scope} {own : List (Str × Nat)} {us : List Nat} {h : T → Env → Option Env} {fi : Env → M (List T)}
theorem l_comp (hc : X.calm = true) (hN : X.N.Nodup) (hi : SI X G W tg iter fi) (ok : BlkOk X.N X.env.scope scope own) (hu : ∀ j ∈ us, j ∈ own.map (·.2))
    (hg : ∀ (s : Shared) (H : Hp) (C : Addr) (cl : List (Str × Addr)) (fp : List Addr), SG (X.blk s H scope (compEnvC scope cl C X.env) fp) G us tg h) (ht : ∀ (s : Shared) (H : Hp) (C : Addr) (cl : List (Str × Addr)) (fp : List Addr), STs (X.blk s H scope (compEnvC scope cl C X.env) fp) G ifs p)
    (he : ∀ (s : Shared) (H : Hp) (C : Addr) (cl : List (Str × Addr)) (fp : List Addr), SE (X.blk s H scope (compEnvC scope cl C X.env) fp) G W0 elt f) (hs : ∀ x, foldedSetIterable iter X.env x = pure x := by intro _; rfl) : SL X G W (.ListComp elt [⟨tg, iter, ifs, 0⟩] scope pos) (fComp (own.map (·.2)) h p f fi) :=
  pe_imp (pe_lc hc hN hi ok (fun s H C cl fp => pg_x (hg s H C cl fp)) ht he hs) fun σ H Q q => comp_use hu q
theorem ss_comp {i : Nat} {y : Str} {py spos : Pos} (hc : X.calm = true) (hN : X.N.Nodup) (hy : X.N[i]? = some y) (hyl : X.env.scope.names.lookup y = some .local)
    (hsw : swapsWith (.ListComp elt [⟨tg, iter, ifs, 0⟩] scope pos) (some (.Name y py)) spos.line X.env = pure true) (hi : SI X G W tg iter fi) (ok : BlkOk X.N X.env.scope scope own) (hu : ∀ j ∈ us, j ∈ own.map (·.2))
    (hg : ∀ (s : Shared) (H : Hp) (C : Addr) (cl : List (Str × Addr)) (fp : List Addr), SG (X.blk s H scope (compEnvC scope cl C X.env) fp) G us tg h) (ht : ∀ (s : Shared) (H : Hp) (C : Addr) (cl : List (Str × Addr)) (fp : List Addr), STs (X.blk s H scope (compEnvC scope cl C X.env) fp) G ifs p)
    (he : ∀ (s : Shared) (H : Hp) (C : Addr) (cl : List (Str × Addr)) (fp : List Addr), SE (X.blk s H scope (compEnvC scope cl C X.env) fp) G W0 elt f) (hs : ∀ x, foldedSetIterable iter X.env x = pure x := by intro _; rfl) : SS X G W (.Assign [.Name y py] (.ListComp elt [⟨tg, iter, ifs, 0⟩] scope pos) spos) (qOwn i (fComp (own.map (·.2)) h p f fi)) := fun w0 H0 =>
  ps_imp (ps_setLc hc hN hy hyl hsw hi ok (fun s H C cl fp => pg_x (hg s H C cl fp)) ht he hs) fun D σ H ⟨w, env, r, a, q⟩ => comp_use hu (at_own a q)
theorem ss_compV {i : Nat} {y : Str} {py spos : Pos} (hc : X.calm = true) (hN : X.N.Nodup) (hy : X.N[i]? = some y) (hyl : X.env.scope.names.lookup y = some .local)
    (hsw : swapsWith (.ListComp elt [⟨tg, iter, ifs, 0⟩] scope pos) (some (.Name y py)) spos.line X.env = pure true) (hi : SI X G W tg iter fi) (ok : BlkOk X.N X.env.scope scope own) (hu : ∀ j ∈ us, j ∈ own.map (·.2))
    (hg : ∀ (s : Shared) (H : Hp) (C : Addr) (cl : List (Str × Addr)) (fp : List Addr), SG (X.blk s H scope (compEnvC scope cl C X.env) fp) G us tg h) (ht : ∀ (s : Shared) (H : Hp) (C : Addr) (cl : List (Str × Addr)) (fp : List Addr), STs (X.blk s H scope (compEnvC scope cl C X.env) fp) G ifs p)
    (he : ∀ (s : Shared) (H : Hp) (C : Addr) (cl : List (Str × Addr)) (fp : List Addr), SE (X.blk s H scope (compEnvC scope cl C X.env) fp) G W0 elt f) (hs : ∀ x, foldedSetIterable iter X.env x = pure x := by intro _; rfl) : SS X G W (.Assign [.Name y py] (.ListComp elt [⟨tg, iter, ifs, 0⟩] scope pos) spos) (qSet i (fOwn (fComp (own.map (·.2)) h p f fi))) := fun w0 H0 =>
  ps_imp (ps_setLc hc hN hy hyl hsw hi ok (fun s H C cl fp => pg_x (hg s H C cl fp)) ht he hs) fun D σ H ⟨w, env, r, a, q⟩ => comp_use hu (own_read (at_e a q fun t r1 w1 H1 v a1 d h1 => h1 w1 H1 _ a1.st a1.g (a1.s.setVal i d)))
end
end Ep
namespace Ep
open PySem PySem.Spec L2
open PyProof.Rows (envOfC)
/-! ### defs -/
def WD (E : XK) : WX := fun cls d _ H => E cls d H
def envOf (m : Nat) (ts : List T) : Env := ts.map .val ++ List.replicate m .un
/-- what a def computes: m slots beyond its parameters -/
def fnS (m : Nat) (g : Sm) : List T → M T := fun ts r => match g (envOf m ts) r with
  | .nx _ r => .ok .non r
  | .rt t r => .ok t r
  | .exn c p _ r => .exn c p r
  | _ => .bad
def insOf : Option Slot → Option (Nat × List T)
  | some (.pv (.ins D fs)) => some (D, fs)
  | _ => none
def fnI (G : Gm) (C m : Nat) (g : Sm) : List T → M (List T) := fun ts r => match g (.ins C [] :: envOf m ts) r with
  | .nx env r => match insOf env[0]? with
    | some (D, fs) => if D = C ∧ fs.length = (G.fl C).length then .ok fs r else .bad
    | none => .bad
  | .exn c p _ r => .exn c p r
  | _ => .bad
/-- another instance in the making -/
def Wd.re (w : Wd) (b : Addr) : Wd := ⟨w.P, w.R, { w.fx with me := b }⟩
theorem Later.re (w : Wd) (b : Addr) : Later w (w.re b) := ⟨Same.refl _, [], by simp [Wd.re]⟩
theorem Later.er (w : Wd) (b : Addr) : Later (w.re b) w := ⟨Same.refl _, [], by simp [Wd.re]⟩
theorem Step.re {w w' : Wd} {H H' : Hp} {b : Addr} (s : Step (w.re b) H w' H') : Step w H (w'.re w.fx.me) H' := ⟨s.pub, s.fr, s.keep, s.hid, s.refs, by show { w'.fx with me := w.fx.me } = w.fx; rw [s.me]; rfl⟩
theorem Good.re {G : Gm} {w : Wd} {H : Hp} {r : RS} (g : Good G w H r) (b : Addr) : Good G (w.re b) H r := ⟨g.sub, ⟨g.refs.nd, g.refs.len, g.refs.out, fun k xs hk => by
  obtain ⟨a, vs, h1, h2, h3, h4⟩ := g.refs.at_ k xs hk
  exact ⟨a, vs, h1, h2, h3.mono (Later.re w b), h4⟩⟩, g.tabs, g.nt⟩
theorem ExcIs.re {G : Gm} {w : Wd} {H : Hp} {c : Nat} {p : T} {cls : Value} {d : Option Addr} (x : ExcIs G w H c p cls d) (b : Addr) : ExcIs G (w.re b) H c p cls d := by
  obtain ⟨cA, dd, v, f, h1, h2, h3, h4, h5, h6⟩ := x.ex
  exact ⟨cA, dd, v, f, h1, h2, h3, h4, h5, h6.mono (Later.re w b)⟩
/-- a body's context -/
abbrev cxB (P : Program) (wd : World) (G : Gm) (base : Heap) (N : List Str) (qual : Str) (st : Stmt) (f : Addr) (cdv : Value) (A : Around) (outer : List PySem.Env) (s : Shared) (H : Hp) (E : XK) : Cx := cxOf (L2.CX P wd) P wd G.K G.mg base N qual (defScope st) f cdv A outer s H E
section
variable {P : Program} {wd : World} {base : Heap} {G : Gm} {k : Nat} {x qual : Str} {st : Stmt} {f : Addr} {fd : FuncData} {N ps : List Str} {n m : Nat} {g : Sm} {dv : List V} {kw : List (Str × V)}
theorem start_slots {w : Wd} {H : Hp} {vs : List V} {ts : List T} (d : Dens G w vs ts) (m : Nat) (hN : N.length - vs.length = m) : Slots G w H H (L2.start N vs) (envOf m ts) := by
  have np : ∀ (i : Nat) (s : Slot), (envOf m ts)[i]? = some s → s = .un ∨ ∃ t, s = .val t ∧ ts[i]? = some t := fun i s hi => by
    unfold envOf at hi
    by_cases hl : i < ts.length
    · rw [List.getElem?_append_left (by simpa using hl)] at hi
      rw [List.getElem?_map] at hi
      cases q : ts[i]? with
      | none => rw [q] at hi; cases hi
      | some t => rw [q] at hi; cases hi; exact .inr ⟨t, rfl, rfl⟩
    · rw [List.getElem?_append_right (by simpa using Nat.le_of_not_lt hl)] at hi
      exact .inl (List.eq_of_mem_replicate (List.mem_of_getElem? hi))
  refine ⟨by simp [L2.start, envOf, d.length, ← hN], fun _ => 0, fun i s hi => ?_, fun i j s u hi hj pi pj _ => ?_⟩
  · rcases np i s hi with e | ⟨t, e, ht⟩
    · subst e; trivial
    · subst e
      obtain ⟨v, hv, dv⟩ := d.get ht
      refine ⟨v, ?_, dv⟩
      unfold L2.start
      rw [List.getElem?_append_left (by rw [List.length_map]; exact (List.getElem?_eq_some_iff.mp hv).1), List.getElem?_map, hv]
      rfl
  · rcases np i s hi with e | ⟨t, e, ht⟩ <;> (subst e; cases pi)
theorem fn_run (F : FunD G.K x qual (defArgs st) (defBody st) (defScope st) dv kw f fd) (S : FnScope N ps (defScope st)) (hps : ps.length = n) (hm : N.length - n = m)
    (hb : ∀ cdv A outer s H E, Room k (A.deeper (envOfC qual (defScope st) s.heap.objs.size f cdv)) → SSs (cxB P wd G base N qual st f cdv A outer s H E) G (WD E) (defBody st) g) :
    FnOk P wd G.K G.mg base (L2.CX P wd) (k + 1) f fd ps (spF G n (fnS m g)) := by
  refine F.ok (CX := L2.CX P wd) S (spF_len hps) fun cdv A outer s H vs Q E hr ⟨w, r, ts, gd, d, l, h⟩ => ?_
  refine ⟨_, hb cdv A outer s H E hr w H, w, _, r, ⟨Step.refl _ _, gd, start_slots d m (by rw [d.length, l]; exact hm)⟩, ?_⟩
  have h : OutP G w H E (fun t _ w' H' => ∀ v, Den G w' v t → Q v H') (fnS m g ts r) := h
  unfold fnS at h
  cases o : g (envOf m ts) r with
  | nx env' r' => rw [o] at h; exact fun w' H' σ' st g' _ => h w' H' st g' _ .non
  | rt t r' => rw [o] at h; exact fun w' H' v st g' dv => h w' H' st g' v dv
  | bk e r' => rw [o] at h; exact h.elim
  | ct e r' => rw [o] at h; exact h.elim
  | exn c p e r' => rw [o] at h; exact fun w' H' σ' cls dd st g' _ x => h w' H' cls dd st g' x
  | bad => rw [o] at h; exact h.elim
theorem def_ok {ds : List T} {dvs : List V} {dus : List Value} (F : FunD G.K x qual (defArgs st) (defBody st) (defScope st) dv kw f fd) (S : FnScope N ps (defScope st)) (hps : ps.length = n) (hm : N.length - n = m) (hg : G.mg x = some (.ref f)) (hB : Binds G.K fd ps dus) (hv : Vals dvs dus) (hd : ∀ w, Dens G w dvs ds)
    (hb : ∀ cdv A outer s H E, Room k (A.deeper (envOfC qual (defScope st) s.heap.objs.size f cdv)) → SSs (cxB P wd G base N qual st f cdv A outer s H E) G (WD E) (defBody st) g) : DefOk P wd base G (k + 1) x n ds (fnS m g) :=
  ⟨f, fd, ps, dvs, dus, fn_run F S hps hm hb, hg, F.kp, hB, hv, hd⟩
theorem meth_ok {C : Nat} {cA : Addr} {ds : List T} {dvs : List V} {dus : List Value} (F : FunD G.K x qual (defArgs st) (defBody st) (defScope st) dv kw f fd) (S : FnScope N ps (defScope st)) (hps : ps.length = n) (hm : N.length - n = m) (hc : G.mg (G.cn C) = some (.ref cA)) (hC : Cls G.K cA) (hM : Meth G.K cA x f) (hB : Binds G.K fd ps dus) (hv : Vals dvs dus) (hd : ∀ w, Dens G w dvs ds) (nof : x ∉ G.fl C)
    (hb : ∀ cdv A outer s H E, Room k (A.deeper (envOfC qual (defScope st) s.heap.objs.size f cdv)) → SSs (cxB P wd G base N qual st f cdv A outer s H E) G (WD E) (defBody st) g) : MethOk P wd base G (k + 1) C x n ds (fnS m g) :=
  ⟨⟨cA, f, fd, ps, dvs, dus, hc, hC, hM, fn_run F S hps hm hb, hB, hv, hd⟩, nof⟩
theorem make_run {C : Nat} (F : FunD G.K x qual (defArgs st) (defBody st) (defScope st) dv kw f fd) (S : FnScope N ps (defScope st)) (hps : ps.length = n + 1) (hm : N.length - (n + 1) = m)
    (hb : ∀ cdv A outer s H E, Room k (A.deeper (envOfC qual (defScope st) s.heap.objs.size f cdv)) → SSs (cxB P wd G base N qual st f cdv A outer s H E) G (WD E) (defBody st) g) :
    FnOk P wd G.K G.mg base (L2.CX P wd) (k + 1) f fd ps (spI G C n (fnI G C m g)) := by
  refine F.ok (CX := L2.CX P wd) S (spI_len hps) fun cdv A outer s H vs Q E hr ⟨w, r, ts, xx, rest, cA, dx, H1, ev, c, hx, hdx, ne, eH, gd, d, l, h⟩ => ?_
  subst ev
  subst eH
  have hdx' : (upd H1 dx (.own xx)) xx = none := by rw [upd_ne (Ne.symm ne)]; exact hx
  have st1 : Step (w.re xx) H1 (w.re xx) (upd (upd H1 dx (.own xx)) xx (.ins cA dx [])) := ((Step.refl (w.re xx) H1).priv hdx).priv hdx'
  have g1 : Good G (w.re xx) (upd (upd H1 dx (.own xx)) xx (.ins cA dx [])) r := ((gd.re xx).priv (gd.nopub hdx) (gd.noref hdx) (.inl hdx)).priv (gd.nopub hx) (gd.noref hx) (.inl hdx')
  have sl : Slots G (w.re xx) H1 (upd (upd H1 dx (.own xx)) xx (.ins cA dx [])) (L2.start N (.ref xx :: rest)) (.ins C [] :: envOf m ts) := by
    have s0 : Slots G (w.re xx) H1 H1 (rest.map some ++ List.replicate (N.length - (rest.length + 1)) none) (envOf m ts) := by
      have := start_slots (N := N.drop 1) (H := H1) (d.mono (Later.re w xx)) m (by rw [List.length_drop, d.length, l]; omega)
      unfold L2.start at this
      rw [List.length_drop, show N.length - 1 - rest.length = N.length - (rest.length + 1) by omega] at this
      exact this
    obtain ⟨oa, k1, k2⟩ := s0.ex
    have nv : ∀ (j : Nat) (u : Slot), (envOf m ts)[j]? = some u → u.priv = false := fun j u hj => by
      unfold envOf at hj
      rcases List.mem_append.mp (List.mem_of_getElem? hj) with z | z
      · obtain ⟨t, _, rfl⟩ := List.mem_map.mp z; rfl
      · rw [List.eq_of_mem_replicate z]; rfl
    refine ⟨by have := s0.len; simp [L2.start] at this ⊢; omega, fun _ => xx, fun i u hi => ?_, fun i j u u' hi hj pi pj _ => ?_⟩
    · cases i with
      | zero =>
        cases hi
        exact ⟨rfl, gd.nopub hx, gd.noref hx, nvs hx, .ins cA dx [], upd_same, .ins (vs := []) rfl c (Nat.zero_le _) .nil⟩
      | succ i =>
        have hi : (envOf m ts)[i]? = some u := by simpa using hi
        have := k1 i u hi
        have np := nv i u hi
        cases u with
        | un => trivial
        | val t =>
          obtain ⟨v, e1, d1⟩ := this
          exact ⟨v, by simpa [L2.start] using e1, d1⟩
        | pv q => cases np
    · cases i with
      | zero =>
        cases j with
        | zero => rfl
        | succ j => rw [nv j u' (by simpa using hj)] at pj; cases pj
      | succ i => rw [nv i u (by simpa using hi)] at pi; cases pi
  refine ⟨_, hb cdv A outer s _ E hr (w.re xx) H1, w.re xx, _, r, ⟨st1, g1, sl⟩, ?_⟩
  unfold fnI at h
  cases o : g (.ins C [] :: envOf m ts) r with
  | nx env' r' =>
    rw [o] at h
    intro w' H' σ' st g' s'
    simp only at h
    cases q : env'[0]? with
    | none => rw [q] at h; exact h.elim
    | some u =>
      rw [q] at h
      cases u with
      | un => exact h.elim
      | val _ => exact h.elim
      | pv o =>
        cases o with
        | ins D fs =>
          have h : OutP G w H1 E (fun fs _ w' H' => ∀ us dx', H' xx = some (.ins cA dx' ((G.fl C).zip us)) → us.length = (G.fl C).length → Dens G w' us fs → w'.P xx = none → xx ∉ w'.R → Q .non H') (if D = C ∧ fs.length = (G.fl C).length then .ok fs r' else .bad) := h
          by_cases hC : D = C ∧ fs.length = (G.fl C).length
          · rw [if_pos hC] at h
            obtain ⟨e1, e2⟩ := hC
            subst e1
            have g2 := g'.re w.fx.me
            obtain ⟨oa, k1, k2⟩ := s'.ex
            obtain ⟨b1, b2, b3, b4, o, b5, b6⟩ := k1 0 _ q
            cases b6 with
            | @ins _ cA' dx' vs _ hm c' l' d' =>
              have ea : oa 0 = xx := hm.trans (by rw [st.me]; rfl)
              rw [ea] at b2 b3 b5
              have ez : (G.fl D).take fs.length = G.fl D := by rw [e2, List.take_length]
              rw [ez] at b5
              rw [c] at c'
              cases c'
              exact h (w'.re w.fx.me) H' st.re g2 vs dx' b5 (by rw [d'.length]; exact e2) (d'.mono (Later.re w' w.fx.me)) b2 b3
          · rw [if_neg hC] at h; exact h.elim
        | _ => exact h.elim
  | rt t r' => rw [o] at h; exact h.elim
  | bk e r' => rw [o] at h; exact h.elim
  | ct e r' => rw [o] at h; exact h.elim
  | exn c p e r' => rw [o] at h; exact fun w' H' σ' cls dd st g' _ x => h _ H' cls dd st.re (g'.re _) (x.re _)
  | bad => rw [o] at h; exact h.elim
theorem make_ok {C : Nat} {cA : Addr} {ds : List T} {dvs : List V} {dus : List Value} (F : FunD G.K x qual (defArgs st) (defBody st) (defScope st) dv kw f fd) (S : FnScope N ps (defScope st)) (hps : ps.length = n + 1) (hm : N.length - (n + 1) = m) (hc : G.mg (G.cn C) = some (.ref cA)) (hM : Mk G.K cA f) (hB : Binds G.K fd ps dus) (hv : Vals dvs dus) (hd : ∀ w, Dens G w dvs ds)
    (hb : ∀ cdv A outer s H E, Room k (A.deeper (envOfC qual (defScope st) s.heap.objs.size f cdv)) → SSs (cxB P wd G base N qual st f cdv A outer s H E) G (WD E) (defBody st) g) : MakeOk P wd base G (k + 1) C n ds (fnI G C m g) :=
  ⟨cA, f, fd, ps, dvs, dus, hc, hM, make_run F S hps hm hb, hB, hv, hd⟩
end
end Ep
namespace Ep
open PySem PySem.Spec L2
/-! ### dicts as two lists -/
section
variable {κ α : Type} [DecidableEq κ]
def gK : List κ → List α → κ → Option α
  | k' :: ks, t :: ts, k => if k' = k then some t else gK ks ts k
  | _, _, _ => none
def repK : List κ → List α → κ → α → List α
  | k' :: ks, t' :: ts, k, t => (if k' = k then t else t') :: repK ks ts k t
  | _, ts, _, _ => ts
def hasK (ks : List κ) (k : κ) : Bool := ks.any fun k' => decide (k' = k)
def putKs (ks : List κ) (k : κ) : List κ := if hasK ks k = true then ks else ks ++ [k]
def putVs (ks : List κ) (ts : List α) (k : κ) (t : α) : List α := if hasK ks k = true then repK ks ts k t else ts ++ [t]
theorem valV_gK (k : κ) : ∀ (ks : List κ) (vs : List V), valV (ks.zip vs) k = gK ks vs k
  | [], _ => rfl
  | _ :: _, [] => rfl
  | k' :: ks, v :: vs => by
    rw [List.zip_cons_cons]
    unfold gK
    by_cases e : k' = k
    · rw [if_pos e, valV_pos e]
    · rw [if_neg e, valV_neg e, valV_gK k ks vs]
theorem repK_len (k : κ) (t : α) : ∀ (ks : List κ) (ts : List α), (repK ks ts k t).length = ts.length
  | [], _ => rfl
  | _ :: _, [] => rfl
  | k' :: ks, t' :: ts => by simp [repK, repK_len k t ks ts]
theorem zip_map (k : κ) (v : V) : ∀ (ks : List κ) (vs : List V), ((ks.zip vs).map fun kv => if kv.1 = k then (kv.1, v) else kv) = ks.zip (repK ks vs k v)
  | [], _ => by simp
  | _ :: _, [] => by simp [repK]
  | k' :: ks, v' :: vs => by
    rw [List.zip_cons_cons, List.map_cons, zip_map k v ks vs]
    show _ = (k' :: ks).zip ((if k' = k then v else v') :: repK ks vs k v)
    rw [List.zip_cons_cons]
    by_cases e : k' = k
    · simp [e]
    · simp [e]
theorem any_zip (k : κ) : ∀ (ks : List κ) (vs : List V), ks.length = vs.length → ((ks.zip vs).any fun kv => decide (kv.1 = k)) = hasK ks k
  | [], _, _ => rfl
  | _ :: _, [], e => by cases e
  | k' :: ks, v' :: vs, e => by
    rw [List.zip_cons_cons]
    simp only [List.any_cons, hasK]
    rw [any_zip k ks vs (by simpa using e)]
    rfl
theorem putK_zip (k : κ) (v : V) {ks : List κ} {vs : List V} (l : ks.length = vs.length) : putK (ks.zip vs) k v = (putKs ks k).zip (putVs ks vs k v) := by
  unfold putK putKs putVs
  rw [any_zip k ks vs l]
  cases e : hasK ks k with
  | true => simp only [if_true]; exact zip_map k v ks vs
  | false =>
    simp only [Bool.false_eq_true, if_false]
    rw [List.zip_append l]
    rfl
theorem putKV_len (k : κ) (t : α) {ks : List κ} {ts : List α} (l : ks.length = ts.length) : (putKs ks k).length = (putVs ks ts k t).length := by
  unfold putKs putVs
  split
  · rw [repK_len]; exact l
  · simp [l]
theorem putKs_len (k : κ) (ks : List κ) : (putKs ks k).length ≤ ks.length + 1 := by
  unfold putKs
  split <;> simp
end
theorem Dens.gK {κ : Type} [DecidableEq κ] {G : Gm} {w : Wd} {k : κ} : ∀ {ks : List κ} {vs : List V} {ts : List T} {t : T}, Dens G w vs ts → Ep.gK ks ts k = some t → ∃ v, Ep.gK ks vs k = some v ∧ Den G w v t
  | [], _, _, _, _, e => by cases e
  | _ :: _, _, _, _, .nil, e => by cases e
  | k' :: ks, _, _, t, .cons h r, e => by
    unfold Ep.gK at e ⊢
    by_cases q : k' = k
    · rw [if_pos q] at e ⊢
      cases e
      exact ⟨_, rfl, h⟩
    · rw [if_neg q] at e ⊢
      exact Dens.gK r e
theorem Dens.gKn {κ : Type} [DecidableEq κ] {G : Gm} {w : Wd} {k : κ} : ∀ {ks : List κ} {vs : List V} {ts : List T}, Dens G w vs ts → Ep.gK ks ts k = none → Ep.gK ks vs k = none
  | [], _, _, _, e => rfl
  | _ :: _, _, _, .nil, e => rfl
  | k' :: ks, _, _, .cons h r, e => by
    unfold Ep.gK at e ⊢
    by_cases q : k' = k
    · rw [if_pos q] at e; cases e
    · rw [if_neg q] at e ⊢
      exact Dens.gKn r e
theorem Dens.rep {κ : Type} [DecidableEq κ] {G : Gm} {w : Wd} {k : κ} {v : V} {t : T} (d : Den G w v t) : ∀ {ks : List κ} {vs : List V} {ts : List T}, Dens G w vs ts → Dens G w (repK ks vs k v) (repK ks ts k t)
  | [], _, _, h => h
  | _ :: _, _, _, .nil => .nil
  | k' :: ks, _, _, .cons h r => by
    unfold repK
    by_cases q : k' = k
    · rw [if_pos q, if_pos q]; exact .cons d (Dens.rep d r)
    · rw [if_neg q, if_neg q]; exact .cons h (Dens.rep d r)
theorem Dens.put {κ : Type} [DecidableEq κ] {G : Gm} {w : Wd} {k : κ} {v : V} {t : T} (d : Den G w v t) {ks : List κ} {vs : List V} {ts : List T} (h : Dens G w vs ts) : Dens G w (putVs ks vs k v) (putVs ks ts k t) := by
  unfold putVs
  split
  · exact h.rep d
  · exact h.append (.cons d .nil)
def keyT : T → Option Key
  | .int i => some (.inl i)
  | .str x => some (.inr x)
  | _ => none
theorem key_of' {G : Gm} {w : Wd} {v : V} {t : T} {k : Key} (d : Den G w v t) (e : keyT t = some k) : v = kV k := by
  cases d <;> first | (cases e; rfl) | cases e
def keysT : List T → Option (List Key)
  | [] => some []
  | t :: ts => (keyT t).bind fun k => (keysT ts).map fun ks => k :: ks
theorem keys_of {G : Gm} {w : Wd} : ∀ {vs : List V} {ts : List T} {ks : List Key}, Dens G w vs ts → keysT ts = some ks → vs = ks.map kV
  | _, _, _, .nil, e => by cases e; rfl
  | _, _, ks, .cons (t := t) (ts := ts) h r, e => by
    unfold keysT at e
    cases q : keyT t with
    | none => rw [q] at e; cases e
    | some k =>
      rw [q] at e
      cases q2 : keysT ts with
      | none => simp [q2] at e
      | some ks' =>
        simp [q2] at e
        subst e
        rw [List.map_cons, key_of' h q, keys_of r q2]
/-! ### a dict to be looked into -/
/-- ks at ts: the dict at v, its keys, its values; of either kind of keys -/
inductive DenD (G : Gm) (w : Wd) (H : Hp) : V → T → Prop
  | k {a : Addr} {ks : List Key} {vs : List V} {ts : List T} (h : H a = some (.dK (ks.zip vs))) (n : a ∉ w.R) (l : ks.length = ts.length) (d : Dens G w vs ts) : DenD G w H (.ref a) (.dct ks ts)
  | t {a : Addr} {ks : List (List Key)} {vs : List V} {ts : List T} (h : H a = some (.dT (ks.zip vs))) (n : a ∉ w.R) (l : ks.length = ts.length) (d : Dens G w vs ts) : DenD G w H (.ref a) (.dtt ks ts)
section
variable {X : Cx} {G : Gm} {W : WX} {pos : Pos} {a b e ix : Expr} {f g : Env → M T} {w w' : Wd} {H H' H0 : Hp} {r : RS} {σ : L2.St} {env : Env} {v : V} {t : T}
theorem Step.noR {a : Addr} (s : Step w H w' H') (h1 : a ∉ w.R) (h2 : Vs H a) : a ∉ w'.R := fun h3 => by
  obtain ⟨m, e, hm⟩ := s.refs
  rw [e] at h3
  rcases List.mem_append.mp h3 with z | z
  · exact h1 z
  · exact hm a z h2
theorem DenD.step (d : DenD G w H v t) (s : Step w H w' H') : DenD G w' H' v t := by
  cases d with
  | k h n l d => exact .k (s.fr _ _ n h (by intro _ e; cases e)) (s.noR n (vs_of h)) l (d.mono s.later)
  | t h n l d => exact .t (s.fr _ _ n h (by intro _ e; cases e)) (s.noR n (vs_of h)) l (d.mono s.later)
theorem DenD.of (g : Good G w H r) (d : Den G w v t) : (∃ ks ts, t = .dct ks ts) ∨ (∃ ks ts, t = .dtt ks ts) → DenD G w H v t := fun h => by
  have nr : ∀ {a : Addr} {o : HO}, w.P a = some o → a ∉ w.R := fun {a o} h hm => by rw [g.refs.out a hm] at h; cases h
  cases d with
  | dct q l d => exact .k (g.sub _ _ q) (nr q) l d
  | dtt q l d => exact .t (g.sub _ _ q) (nr q) l d
  | _ => rcases h with ⟨_, _, e⟩ | ⟨_, _, e⟩ <;> cases e
def isD : T → Bool
  | .dct _ _ => true
  | .dtt _ _ => true
  | _ => false
def tSD (G : Gm) (W : WX) (f : Env → M T) : TE := fun σ H Q => ∃ w H0 env r, Good G w H r ∧ Slots G w H0 H σ env ∧ OutP G w H (WE0 W σ) (fun t _ w' H' => ∀ v, DenD G w' H' v t → Q v H') (f env r)
abbrev SD (X : Cx) (G : Gm) (W : WX) (e : Expr) (f : Env → M T) : Prop := PE X e (tSD G W f)
def fD (f : Env → M T) : Env → M T := fun env => f env >>= fun t => if isD t = true then pure t else M.bad
theorem d_of (h : SE X G W a f) : SD X G W a (fD f) := pe_imp h fun σ H Q ⟨w, H0, env, r, g, s, h⟩ => by
  refine seqE g s h fun t r1 w1 H1 v g1 s1 st1 d1 h1 => ?_
  cases q : isD t with
  | false => rw [if_neg (by rw [q]; simp)] at h1; exact h1.elim
  | true =>
    rw [if_pos q] at h1
    refine OutP.here g1 h1 v (DenD.of g1 d1 ?_)
    cases t <;> first | exact .inl ⟨_, _, rfl⟩ | exact .inr ⟨_, _, rfl⟩ | cases q
def fBorD (i : Nat) : Env → M T := fun env => match env[i]? with
  | some (.val t) => if isD t = true then pure t else M.bad
  | some (.pv (.dk ks ts)) => pure (.dct ks ts)
  | some (.pv (.dt ks ts)) => pure (.dtt ks ts)
  | _ => M.bad
theorem d_var {x : Str} (i : Nat) (hN : X.N[i]? = some x) (hv : Vis X.env.scope x) (hd : (x == ("__debug__" : Str)) = false := by decide) (hcd : (x == ("__classdict__" : Str)) = false := by decide) : SD X G W (.Name x pos) (fBorD i) :=
  pe_imp (pe_var hN hv hd hcd) fun σ H Q ⟨w, H0, env, r, g, s, h⟩ => by
    unfold fBorD at h
    cases e : env[i]? with
    | none => rw [e] at h; exact h.elim
    | some sl =>
      rw [e] at h
      obtain ⟨oa, hs, _⟩ := s.ex
      cases sl with
      | un => exact h.elim
      | val t =>
        obtain ⟨v, e1, d⟩ := hs i _ e
        simp only at h
        cases q : isD t with
        | false => rw [if_neg (by rw [q]; simp)] at h; exact h.elim
        | true =>
          rw [if_pos q] at h
          refine ⟨v, e1, OutP.here g h v (DenD.of g d ?_)⟩
          cases t <;> first | exact .inl ⟨_, _, rfl⟩ | exact .inr ⟨_, _, rfl⟩ | cases q
      | pv p =>
        obtain ⟨e1, h2, h3, h4, o, h5, h6⟩ := hs i _ e
        cases h6 with
        | lst _ _ => exact h.elim
        | ins _ _ _ _ => exact h.elim
        | dk l z d => exact ⟨_, e1, OutP.here g h _ (.k h5 h3 l d)⟩
        | dt l z d => exact ⟨_, e1, OutP.here g h _ (.t h5 h3 l d)⟩
theorem seqD {α : Type} {k : T → M α} {P : α → RS → Wd → Hp → Prop} {Q : VK} (g : Good G w H r) (s : Slots G w H0 H σ env) (h : OutP G w H (WE0 W σ) P ((f env >>= k) r))
    (n : ∀ t r1 w1 H1 v, Good G w1 H1 r1 → Slots G w1 H0 H1 σ env → Step w H w1 H1 → DenD G w1 H1 v t → OutP G w1 H1 (WE0 W σ) P (k t r1) → Q v H1) : tSD G W f σ H Q :=
  ⟨w, H0, env, r, g, s, h.bind.imp fun t r1 w1 H1 st g1 q v d => n t r1 w1 H1 v g1 (s.step st) st d q⟩
/-- what a dict holds at a key; the outer none: no key of its kind -/
def lookT (d i : T) : Option (Option T) := match d with
  | .dct ks ts => (keyT i).map fun k => gK ks ts k
  | _ => none
theorem look_of {d i : T} {o : Option T} {y : V} (hd : DenD G w H v d) (hi : Den G w y i) (e : lookT d i = some o) : ∃ a, v = .ref a ∧ ∃ u, DGet H a y u ∧ (∀ t, o = some t → ∃ x, u = some x ∧ Den G w x t) ∧ (o = none → u = none) := by
  cases hd with
  | @k a ks vs ts h n l d =>
    cases q : keyT i with
    | none => simp [lookT, q] at e
    | some k =>
      simp [lookT, q] at e
      subst e
      rw [key_of' hi q]
      refine ⟨a, rfl, _, DGet.k h, fun t ht => ?_, fun hn => ?_⟩
      · rw [valV_gK]; exact d.gK ht
      · rw [valV_gK]; exact d.gKn hn
  | t h n l d => cases e
def fDget (f g : Env → M T) : Env → M T := fun env => f env >>= fun d => g env >>= fun i => M.lift ((lookT d i).bind id)
theorem s_dget (hu : X.A.units + 1 < cLine) (ha : SD X G W a f) (hi : SE X G W ix g) (hs : NoSl ix) : SE X G W (.Subscript a ix pos) (fDget f g) :=
  pe_imp (pe_dget hu ha hi hs) fun σ H Q ⟨w, H0, env, r, g0, s, h0⟩ => by
    refine seqD g0 s h0 fun d r1 w1 H1 x g1 s1 st1 d1 h1 => ?_
    refine seqE g1 s1 h1 fun i r2 w2 H2 y g2 s2 st2 d2 h2 => ?_
    obtain ⟨z, ez, h3⟩ := liftP h2
    cases q : lookT d i with
    | none => rw [q] at ez; cases ez
    | some o =>
      rw [q] at ez
      have ez : o = some z := ez
      obtain ⟨p, e1, u, dg, hh, _⟩ := look_of (d1.step st2) d2 q
      obtain ⟨xx, e2, dx⟩ := hh z ez
      subst e1 e2
      exact ⟨p, xx, rfl, dg, h3 w2 H2 (Step.refl _ _) g2 xx dx⟩
def fDgetD (f g k : Env → M T) : Env → M T := fun env => f env >>= fun d => g env >>= fun i => k env >>= fun z => M.lift ((lookT d i).map fun o => o.getD z)
theorem s_dgetD {apos : Pos} {c : Expr} {k : Env → M T} (hu : X.A.units + 1 < cLine) (ha : SD X G W a f) (hi : SE X G W ix g) (hc : SE X G W c k) (m : M2 X a "get" apos ix c pos) : SE X G W (.Call (.Attribute a "get" apos) [ix, c] [] pos) (fDgetD f g k) :=
  pe_imp (pe_dget2 hu ha hi hc m) fun σ H Q ⟨w, H0, env, r, g0, s, h0⟩ => by
    refine seqD g0 s h0 fun d r1 w1 H1 x g1 s1 st1 d1 h1 => ?_
    have e1 : ∃ p, x = .ref p ∧ IsD H1 p := by
      cases d1 with
      | k h n l d => exact ⟨_, rfl, .inl ⟨_, .inl h⟩⟩
      | t h n l d => exact ⟨_, rfl, .inr ⟨_, .inl h⟩⟩
    obtain ⟨p, rfl, hp⟩ := e1
    refine ⟨p, rfl, hp, seqE g1 s1 h1 fun i r2 w2 H2 y g2 s2 st2 d2 h2 => ?_⟩
    refine seqE g2 s2 h2 fun z r3 w3 H3 zz g3 s3 st3 d3 h3 => ?_
    obtain ⟨t, et, h4⟩ := liftP h3
    cases q : lookT d i with
    | none => rw [q] at et; cases et
    | some o =>
      rw [q] at et
      have et : o.getD z = t := by cases et; rfl
      obtain ⟨p', e1, u, dg, hh, hn⟩ := look_of ((d1.step st2).step st3) (d2.mono st3.later) q
      cases e1
      refine ⟨u, dg, h4 w3 H3 (Step.refl _ _) g3 _ ?_⟩
      cases o with
      | none => rw [hn rfl]; cases et; exact d3
      | some t' =>
        obtain ⟨xx, e2, dx⟩ := hh t' rfl
        rw [e2]
        cases et
        exact dx
/-- a display of a dict -/
def SPs (X : Cx) (G : Gm) (W : WX) (pos : Pos) (keys : List (Option Expr)) (values : List Expr) (fs : List ((Env → M T) × (Env → M T))) : Prop := PPs X pos keys values (fs.map fun p => (tS G W p.1, tS G W p.2))
theorem sp_nil : SPs X G W pos [] [] [] := pps_nil
theorem sp_cons {k v : Expr} {ks : List (Option Expr)} {vs : List Expr} {fs : List ((Env → M T) × (Env → M T))} (hk : SE X G W k f) (hv : SE X G W v g) (h : SPs X G W pos ks vs fs) : SPs X G W pos (some k :: ks) (v :: vs) ((f, g) :: fs) := pps_cons hk hv h
def fPairs : List ((Env → M T) × (Env → M T)) → Env → M (List Key × List T)
  | [], _ => pure ([], [])
  | (f, g) :: fs, env => f env >>= fun k => g env >>= fun v => M.lift (keyT k) >>= fun k => fPairs fs env >>= fun p => pure (k :: p.1, v :: p.2)
def mergeT {α : Type} (ks : List Key) (ts : List α) : List Key → List α → List Key × List α
  | k :: ks', t :: ts' => mergeT (putKs ks k) (putVs ks ts k t) ks' ts'
  | _, _ => (ks, ts)
theorem merge_zip : ∀ (ks' : List Key) (vs' : List V) (ks : List Key) (vs : List V), ks.length = vs.length → mergeK (ks.zip vs) (ks'.zip vs') = (mergeT ks vs ks' vs').1.zip (mergeT ks vs ks' vs').2 ∧ (mergeT ks vs ks' vs').1.length = (mergeT ks vs ks' vs').2.length
  | [], _, ks, vs, l => ⟨rfl, l⟩
  | _ :: _, [], ks, vs, l => ⟨rfl, l⟩
  | k :: ks', v :: vs', ks, vs, l => by
    rw [List.zip_cons_cons]
    show mergeK (putK (ks.zip vs) k v) (ks'.zip vs') = _ ∧ _
    rw [putK_zip k v l]
    exact merge_zip ks' vs' _ _ (putKV_len k v l)
theorem merge_den : ∀ {ks' : List Key} {vs' : List V} {ts' : List T} {ks : List Key} {vs : List V} {ts : List T}, Dens G w vs ts → Dens G w vs' ts' → Dens G w (mergeT ks vs ks' vs').2 (mergeT ks ts ks' ts').2 ∧ (mergeT ks vs ks' vs').1 = (mergeT ks ts ks' ts').1
  | [], _, _, ks, vs, ts, h, _ => ⟨h, rfl⟩
  | _ :: _, _, _, ks, vs, ts, h, .nil => ⟨h, rfl⟩
  | k :: ks', v :: vs', t :: ts', ks, vs, ts, h, .cons d r => by
    show Dens G w (mergeT (putKs ks k) (putVs ks vs k v) ks' vs').2 (mergeT (putKs ks k) (putVs ks ts k t) ks' ts').2 ∧ (mergeT (putKs ks k) (putVs ks vs k v) ks' vs').1 = (mergeT (putKs ks k) (putVs ks ts k t) ks' ts').1
    exact merge_den (h.put d) r
theorem mergeT_len {α : Type} : ∀ (ks' : List Key) (ts' : List α) (ks : List Key) (ts : List α), (mergeT ks ts ks' ts').1.length ≤ ks.length + ks'.length
  | [], _, ks, ts => by simp [mergeT]
  | _ :: _, [], ks, ts => by simp [mergeT]
  | k :: ks', t :: ts', ks, ts => by
    have h1 := mergeT_len ks' ts' (putKs ks k) (putVs ks ts k t)
    have h2 := putKs_len k ks
    show (mergeT (putKs ks k) (putVs ks ts k t) ks' ts').1.length ≤ _
    rw [List.length_cons]
    omega
theorem pairs_use : ∀ {fs : List ((Env → M T) × (Env → M T))} {w : Wd} {H : Hp} {r : RS} {α : Type} {k : List Key × List T → M α} {P : α → RS → Wd → Hp → Prop} {Q : List (V × V) → Hp → Prop}, Good G w H r → Slots G w H0 H σ env → OutP G w H (WE0 W σ) P ((fPairs fs env >>= k) r) →
    (∀ p r1 w1 H1 vs, Good G w1 H1 r1 → Slots G w1 H0 H1 σ env → Step w H w1 H1 → Dens G w1 vs p.2 → p.1.length = p.2.length → p.1.length = fs.length → OutP G w1 H1 (WE0 W σ) P (k p r1) → Q ((p.1.zip vs).map fun kv => (kV kv.1, kv.2)) H1) → tPairs (fs.map fun p => (tS G W p.1, tS G W p.2)) σ H Q
  | [], w, H, r, α, k, P, Q, g0, s, h, n => n ([], []) r w H [] g0 s (Step.refl _ _) .nil rfl rfl h
  | (f, g) :: fs, w, H, r, α, k, P, Q, g0, s, h, n => by
    have e : (fPairs ((f, g) :: fs) env >>= k) r = (f env >>= fun kk => g env >>= fun v => M.lift (keyT kk) >>= fun kk => fPairs fs env >>= fun p => k (kk :: p.1, v :: p.2)) r := by
      show M.bind (M.bind (f env) _) k r = M.bind (f env) _ r
      unfold M.bind
      cases f env r with
      | bad => rfl
      | exn c p r' => rfl
      | ok a r' =>
        show M.bind (M.bind (g env) _) k r' = M.bind (g env) _ r'
        unfold M.bind
        cases g env r' with
        | bad => rfl
        | exn c p r' => rfl
        | ok b r' =>
          show M.bind (M.bind (M.lift (keyT a)) _) k r' = M.bind (M.lift (keyT a)) _ r'
          unfold M.bind
          cases keyT a with
          | none => rfl
          | some kk =>
            show M.bind (M.bind (fPairs fs env) _) k r' = M.bind (fPairs fs env) _ r'
            unfold M.bind
            cases fPairs fs env r' <;> rfl
    rw [e] at h
    refine seqE g0 s h fun kk r1 w1 H1 x g1 s1 st1 d1 h1 => ?_
    refine seqE g1 s1 h1 fun v r2 w2 H2 y g2 s2 st2 d2 h2 => ?_
    cases q : keyT kk with
    | none => rw [q] at h2; exact h2.elim
    | some key =>
      rw [q] at h2
      have h2 : OutP G w2 H2 (WE0 W σ) P ((fPairs fs env >>= fun p => k (key :: p.1, v :: p.2)) r2) := h2
      refine pairs_use g2 s2 h2 fun p r3 w3 H3 vs g3 s3 st3 d3 l1 l2 h3 => ?_
      have := n (key :: p.1, v :: p.2) r3 w3 H3 (y :: vs) g3 s3 ((st1.trans st2).trans st3) (.cons (d2.mono st3.later) d3) (by simpa using l1) (by simpa using l2) h3
      rw [key_of' d1 q]
      exact this
def fDisp (fs : List ((Env → M T) × (Env → M T))) : Env → M (List Key × List T) := fun env => fPairs fs env >>= fun p => pure (mergeT [] [] p.1 p.2)
/-- a new dict -/
def tSN (G : Gm) (W : WX) (f : Env → M (List Key × List T)) : TE := fun σ H Q => ∃ w H0 env r, Good G w H r ∧ Slots G w H0 H σ env ∧
  OutP G w H (WE0 W σ) (fun p _ w' H' => ∀ a vs, ¬ Vs H a → w'.P a = none → a ∉ w'.R → H' a = some (.dK (p.1.zip vs)) → p.1.length = p.2.length → p.1.length ≤ sizeLine → Dens G w' vs p.2 → Q (.ref a) H') (f env r)
abbrev SN (X : Cx) (G : Gm) (W : WX) (e : Expr) (f : Env → M (List Key × List T)) : Prop := PE X e (tSN G W f)
theorem n_disp {keys : List (Option Expr)} {values : List Expr} {fs : List ((Env → M T) × (Env → M T))} (h : SPs X G W pos keys values fs) (hall : keys.all (·.isSome) = true) (hl : keys.length = values.length) (h0 : keys ≠ []) (h15 : keys.length ≤ 15) (hf : fs.length ≤ 15) : SN X G W (.Dict keys values pos) (fDisp fs) :=
  pe_imp (pe_disp h hall hl h0 h15) fun σ H Q ⟨w, H0, env, r, g0, s, h0⟩ => by
    intro p hp
    have st0 : Step w H w (upd H p (.dK [])) := (Step.refl w H).priv hp
    have g1 : Good G w (upd H p (.dK [])) r := g0.priv (g0.nopub hp) (g0.noref hp) (.inl hp)
    have hk : OutP G w (upd H p (.dK [])) (WE0 W σ) (fun q r1 _ _ => OutP G w H (WE0 W σ) (fun p _ w' H' => ∀ a vs, ¬ Vs H a → w'.P a = none → a ∉ w'.R → H' a = some (.dK (p.1.zip vs)) → p.1.length = p.2.length → p.1.length ≤ sizeLine → Dens G w' vs p.2 → Q (.ref a) H') (.ok (mergeT [] [] q.1 q.2) r1)) ((fPairs fs env >>= M.pure) r) := by
      have h0 : OutP G w H (WE0 W σ) (fun p _ w' H' => ∀ a vs, ¬ Vs H a → w'.P a = none → a ∉ w'.R → H' a = some (.dK (p.1.zip vs)) → p.1.length = p.2.length → p.1.length ≤ sizeLine → Dens G w' vs p.2 → Q (.ref a) H') (M.bind (fPairs fs env) (fun p => M.pure (mergeT [] [] p.1 p.2)) r) := h0
      show OutP G w (upd H p (.dK [])) (WE0 W σ) _ (M.bind (fPairs fs env) M.pure r)
      unfold M.bind at h0 ⊢
      cases q : fPairs fs env r with
      | ok a r' => rw [q] at h0; exact fun _ _ _ _ => h0
      | exn c p r' => rw [q] at h0; exact fun w' H' cls d s1 g' x => h0 w' H' cls d (st0.trans s1) g' x
      | bad => rw [q] at h0; exact h0
    refine pairs_use g1 (s.step st0) hk fun q r1 w1 H1 vs g2 s2 st2 d2 l1 l2 h1 => ?_
    have h1 := OutP.here g2 h1
    have hh : H1 p = some (.dK []) := st2.fr _ _ (g0.noref hp) upd_same (by intro _ e; cases e)
    have hP := st2.hid p (g0.noref hp) (vs_of upd_same) (g0.nopub hp)
    have hR := st2.noR (g0.noref hp) (vs_of upd_same)
    refine ⟨hh, q.1.zip vs, rfl, by rw [List.length_zip, d2.length]; omega, ?_⟩
    obtain ⟨m1, m2⟩ := merge_zip q.1 vs [] [] rfl
    obtain ⟨m3, m4⟩ := merge_den (ks' := q.1) (ks := []) (Dens.nil (G := G) (w := w1)) d2
    have em : mergeK [] (q.1.zip vs) = (mergeT [] [] q.1 q.2).1.zip (mergeT [] [] q.1 vs).2 := by
      have := m1
      rw [m4] at this
      exact this
    rw [em]
    have hz : (mergeT [] [] q.1 q.2).1.length ≤ sizeLine := by
      have := mergeT_len q.1 q.2 [] []
      rw [sizeLine_eq]
      simp only [List.length_nil] at this
      omega
    refine h1 w1 _ ((st0.trans st2).chg (nvs hp)) (g2.priv hP hR (.inr ⟨_, hh, ⟨fun _ e => (by cases e), fun _ e => (by cases e)⟩⟩)) p _ (nvs hp) hP hR upd_same ?_ hz m3
    rw [m4] at m2
    rw [m2, m3.length]
def qOwnD (i : Nat) (f : Env → M (List Key × List T)) : Sm := fun env r => ofM env (fun p r => .nx (env.set i (.pv (.dk p.1 p.2))) r) (f env r)
theorem ss_ownD {i : Nat} {x : Str} {pos' : Pos} {f : Env → M (List Key × List T)} (hN : X.N.Nodup) (hi : X.N[i]? = some x) (hx : Loc X.env.scope x) (he : SN X G W e f) (hs : swapsWith e (some (.Name x pos')) pos.line X.env = pure false := by rfl) (hf : X.fn x = true ∨ X.env.scope.names.lookup x = some .local := by first | exact .inl rfl | exact .inr rfl | assumption) :
    SS X G W (.Assign [.Name x pos'] e pos) (qOwnD i f) := fun w0 H0 => ps_imp (ps_set hN hi hx he hs hf) fun D σ H ⟨w, env, r, a, h⟩ => by
  refine ⟨w, H0, env, r, a.g, a.s, (FlowP.ofM a h).imp fun xs r1 w1 H1 st g1 q p vs hp hP hR hh hl hz d => ?_⟩
  obtain ⟨a1, h1⟩ := q
  exact h1 w1 H1 _ a1.st a1.g (a1.s.setOwn i (fun j sl b hj pj hb => a.notNew hj pj hb hp) hP hR (fun z => hp (a.st.keep _ z)) hh (.dk hl hz d))
def fNewD (f : Env → M (List Key × List T)) : Env → M T := fun env => f env >>= fun p => pure (.dct p.1 p.2)
theorem s_newD {f : Env → M (List Key × List T)} (h : SN X G W a f) : SE X G W a (fNewD f) := pe_imp h fun σ H Q ⟨w, H0, env, r, g, s, h⟩ => by
  refine ⟨w, H0, env, r, g, s, ?_⟩
  have h : OutP G w H (WE0 W σ) (fun t _ w' H' => ∀ v, Den G w' v t → Q v H') (M.bind (f env) (fun p => M.pure (T.dct p.1 p.2)) r) := h
  unfold M.bind at h
  cases q : f env r with
  | ok p r1 =>
    rw [q] at h
    intro w1 H1 st g1 a vs ha hP hR hh hl hz d
    exact h (w1.add a _) H1 (st.publish ha hP) (g1.publish hP hR hh) _ (.dct upd_same hl (d.mono (Later.add hP)))
  | exn c p r1 => rw [q] at h; exact h
  | bad => rw [q] at h; exact h
/-! ### stores into an own dict -/
def dkAt (env : Env) (i : Nat) : Option (List Key × List T) := match env[i]? with
  | some (.pv (.dk ks ts)) => some (ks, ts)
  | _ => none
theorem dkAt_eq {i : Nat} {ks : List Key} {ts : List T} (h : dkAt env i = some (ks, ts)) : env[i]? = some (.pv (.dk ks ts)) := by
  unfold dkAt at h
  split at h
  · rename_i e; cases h; exact e
  · cases h
/-- what d[k] = v makes of the slots -/
def putD (i : Nat) (env : Env) (t k : T) : Option Env := (dkAt env i).bind fun p => (keyT k).bind fun k => if p.1.length < sizeLine then some (env.set i (.pv (.dk (putKs p.1 k) (putVs p.1 p.2 k t)))) else none
theorem At.putD {w0 w : Wd} (a : At G w0 H0 w H σ env r) {i : Nat} {v y : V} {t k : T} {env' : Env} (dv : Den G w v t) (dk : Den G w y k) (h : Ep.putD i env t k = some env') : ∃ p H', σ[i]? = some (some (.ref p)) ∧ DPut H p y v H' ∧ At G w0 H0 w H' σ env' r := by
  unfold Ep.putD at h
  cases q : dkAt env i with
  | none => rw [q] at h; cases h
  | some kt =>
    obtain ⟨ks, ts⟩ := kt
    rw [q] at h
    cases q2 : keyT k with
    | none => simp [q2] at h
    | some key =>
      simp only [q2, Option.bind_some] at h
      by_cases hl : ks.length < sizeLine
      · rw [if_pos hl] at h
        cases h
        obtain ⟨p, o, e1, e2, ok⟩ := a.thing (dkAt_eq q)
        cases ok with
        | @dk _ vs _ l z d =>
          refine ⟨p, _, e1, by rw [key_of' dk q2]; exact DPut.k e2 (by rw [List.length_zip, d.length]; omega), ?_⟩
          rw [putK_zip key v (by rw [l, d.length])]
          exact a.pv (dkAt_eq q) e1 (.dk (putKV_len key t l) (Nat.le_trans (putKs_len key ks) hl) (d.put dv))
      · rw [if_neg hl] at h; cases h
def qDput (i : Nat) (f g : Env → M T) : Sm := fun env r => if (dkAt env i).isSome = true then ofM env (fun t r => ofM env (fun k r => match putD i env t k with
  | some env' => .nx env' r
  | none => .bad) (g env r)) (f env r) else .bad
theorem At.dkA {w0 w : Wd} (a : At G w0 H0 w H σ env r) {i : Nat} (h : (dkAt env i).isSome = true) : ∃ p, σ[i]? = some (some (.ref p)) := by
  cases q : dkAt env i with
  | none => rw [q] at h; cases h
  | some kt =>
    obtain ⟨p, o, e1, _, _⟩ := a.thing (dkAt_eq (ks := kt.1) (ts := kt.2) q)
    exact ⟨p, e1⟩
theorem ss_dput {x : Str} {px spos : Pos} (i : Nat) (hu : X.A.units + 1 < cLine) (hN : X.N[i]? = some x) (hv : Vis X.env.scope x) (he : SE X G W e f) (hi : SE X G W ix g) (hs : swapsWith e (some (.Subscript (.Name x px) ix spos)) pos.line X.env = pure false := by rfl)
    (hd : (x == ("__debug__" : Str)) = false := by decide) (hcd : (x == ("__classdict__" : Str)) = false := by decide) : SS X G W (.Assign [.Subscript (.Name x px) ix spos] e pos) (qDput i f g) := fun w0 H0 =>
  ps_imp (ps_dput hu (pe_var hN hv hd hcd) hi he hs) fun D σ H ⟨w, env, r, a, h⟩ => by
    unfold qDput at h
    by_cases hc : (dkAt env i).isSome = true
    · rw [if_pos hc] at h
      refine at_e a h fun t r1 w1 H1 v a1 d h1 => ?_
      obtain ⟨p, e1⟩ := a1.dkA hc
      refine ⟨_, e1, at_eS a1 h1 fun k r2 w2 H2 y st2 a2 d2 h2 => ?_⟩
      cases q : putD i env t k with
      | none => rw [q] at h2; exact h2.elim
      | some env' =>
        rw [q] at h2
        obtain ⟨p', H', e2, dp, a3⟩ := a2.putD (d.mono st2.later) d2 q
        rw [e1] at e2
        cases e2
        exact ⟨p, H', rfl, dp, h2 w2 H' σ a3.st a3.g a3.s⟩
    · rw [if_neg hc] at h; exact h.elim
/-! ### targets that are places -/
abbrev nxD (Q : L2.St → Hp → Prop) : Ends := { nx := Q, rt := fun _ _ => False }
def tGq (G : Gm) (W : WX) (h : T → Sm) : TG := fun v σ H Q => ∃ w0 H0 w env r t, At G w0 H0 w H σ env r ∧ Den G w v t ∧ FlowP G W w0 H0 (nxD Q) (h t env r)
def tGqs (G : Gm) (W : WX) (h : List T → Sm) : TGs := fun vs σ H Q => ∃ w0 H0 w env r ts, At G w0 H0 w H σ env r ∧ Dens G w0 vs ts ∧ FlowP G W w0 H0 (nxD Q) (h ts env r)
abbrev SGq (X : Cx) (G : Gm) (W : WX) (tg : Expr) (h : T → Sm) : Prop := PG X tg (tGq G W h)
abbrev SGqs (X : Cx) (G : Gm) (W : WX) (tg : List Expr) (h : List T → Sm) : Prop := PGs X tg (tGqs G W h)
def hqOf (h : T → Env → Option Env) : T → Sm := fun t env r => match h t env with
  | some env' => .nx env' r
  | none => .bad
theorem gq_of {us : List Nat} {tg : Expr} {h : T → Env → Option Env} (hg : SG X G us tg h) : SGq X G W tg (hqOf h) := pg_imp (pg_x hg) fun v σ H Q ⟨w0, H0, w, env, r, t, a, d, fl⟩ => by
  unfold hqOf at fl
  cases q : h t env with
  | none => rw [q] at fl; exact fl.elim
  | some env' =>
    rw [q] at fl
    exact ⟨w0, H0, w, env, r, t, env', a, d, q, fun σ' s' _ => fl w H σ' a.st a.g s'⟩
def hqNil : List T → Sm := fun ts env r => match ts with
  | [] => .nx env r
  | _ => .bad
def hqCons (h : T → Sm) (hs : List T → Sm) : List T → Sm := fun ts env r => match ts with
  | t :: ts => (match h t env r with
    | .nx env' r' => hs ts env' r'
    | .exn c p e r' => .exn c p e r'
    | _ => .bad)
  | [] => .bad
theorem gqs_nil : SGqs X G W [] hqNil := pgs_imp pgs_nil fun vs σ H Q ⟨w0, H0, w, env, r, ts, a, d, fl⟩ => by
  cases d with
  | nil => exact ⟨rfl, fl w H σ a.st a.g a.s⟩
  | cons _ _ => exact fl.elim
theorem gqs_cons {tg : Expr} {tgs : List Expr} {h : T → Sm} {hs : List T → Sm} (h1 : SGq X G W tg h) (h2 : SGqs X G W tgs hs) (he : (assignEach (tg :: tgs) X.env).map (·.2) = assign tg X.env :: (assignEach tgs X.env).map (·.2) := by rfl) : SGqs X G W (tg :: tgs) (hqCons h hs) :=
  pgs_imp (pgs_cons h1 h2 he) fun vs σ H Q ⟨w0, H0, w, env, r, ts, a, d, fl⟩ => by
    cases d with
    | nil => exact fl.elim
    | @cons v vs t ts d1 d2 =>
      unfold hqCons at fl
      simp only at fl
      refine ⟨v, vs, rfl, w0, H0, w, env, r, t, a, d1.mono a.st.later, ?_⟩
      cases o : h t env r with
      | nx env' r' => rw [o] at fl; exact fun w' H' σ' st g s => ⟨w0, H0, w', env', r', ts, ⟨st, g, s⟩, d2, fl⟩
      | exn c p e r' => rw [o] at fl; exact fl
      | _ => rw [o] at fl; exact fl.elim
def hqTup (n : Nat) (hs : List T → Sm) : T → Sm := fun t env r => match t with
  | .tup ts => if ts.length = n then hs ts env r else .bad
  | _ => .bad
theorem gq_tup {es : List Expr} {k n : Nat} {hs : List T → Sm} (hc : X.calm = true) (hK : X.K = G.K) (h : SGqs X G W es hs) (hn : (assignEach es X.env).length = n := by rfl) (hst : (assignEach es X.env).findIdx? (·.1) = none := by rfl) : SGq X G W (.Tuple es k pos) (hqTup n hs) :=
  pg_imp (pg_tup hc h hn hst) fun v σ H Q ⟨w0, H0, w, env, r, t, a, d, fl⟩ => by
    cases d with
    | @tup p vs ts hh z dd =>
      have fl : FlowP G W w0 H0 (nxD Q) (if ts.length = n then hs ts env r else .bad) := fl
      by_cases hl : ts.length = n
      · rw [if_pos hl] at fl
        obtain ⟨Hb, st, ab⟩ := a.rebase
        rw [hK]
        exact ⟨p, vs, rfl, tup_sq a.g.sub hh, by rw [dd.length]; exact hl, w, Hb, w, env, r, ts, ab, dd, fl.base st⟩
      · rw [if_neg hl] at fl; exact fl.elim
    | _ => exact fl.elim
def hqDput (i : Nat) (g : Env → M T) : T → Sm := fun t env r => if (dkAt env i).isSome = true then ofM env (fun k r => match putD i env t k with
  | some env' => .nx env' r
  | none => .bad) (g env r) else .bad
theorem pset_d (hu : X.A.units + 1 < cLine) : PSet X (fun o y v H Q => ∃ a H', o = .ref a ∧ DPut H a y v H' ∧ Q H') := by
  intro pins s σ H o i v ov iv u Q I r1 r2 r3 ⟨a, H', e, dp, q⟩
  subst e
  obtain rfl : ov = Value.ref a := r1
  exact d_setItem hu I dp r2 r3 fun s' I' => ⟨H', I', q⟩
theorem gq_dput {x : Str} {px : Pos} (i : Nat) (hu : X.A.units + 1 < cLine) (hN : X.N[i]? = some x) (hv : Vis X.env.scope x) (hi : SE X G W ix g)
    (ha : ∀ v, assign (.Subscript (.Name x px) ix pos) X.env v = (do let ov ← holding [v] (eval (.Name x px) X.env); let iv ← holding [v, ov] (eval ix X.env); standAt pos; holding [v, ov, iv] (setItem ov iv v); release [v, ov, iv] []) := by intro _; rfl) (hd : (x == ("__debug__" : Str)) = false := by decide) (hcd : (x == ("__classdict__" : Str)) = false := by decide) : SGq X G W (.Subscript (.Name x px) ix pos) (hqDput i g) :=
  pg_imp (pg_sub (pe_var hN hv hd hcd) hi (pset_d hu) ha) fun v σ H Q ⟨w0, H0, w, env, r, t, a, d, fl⟩ => by
    unfold hqDput at fl
    by_cases hc : (dkAt env i).isSome = true
    · rw [if_pos hc] at fl
      obtain ⟨p, e1⟩ := a.dkA hc
      refine ⟨_, e1, at_eS a fl fun k r2 w2 H2 y st2 a2 d2 h2 => ?_⟩
      cases q : putD i env t k with
      | none => rw [q] at h2; exact h2.elim
      | some env' =>
        rw [q] at h2
        obtain ⟨p', H', e2, dp, a3⟩ := a2.putD (d.mono st2.later) d2 q
        rw [e1] at e2
        cases e2
        exact ⟨p, H', rfl, dp, h2 w2 H' σ a3.st a3.g a3.s⟩
    · rw [if_neg hc] at fl; exact fl.elim
def qAsgq (f : Env → M T) (h : T → Sm) : Sm := fun env r => ofM env (fun t r => match h t env r with
  | .nx env' r' => .nx env' r'
  | .exn c p e r' => .exn c p e r'
  | _ => .bad) (f env r)
theorem ss_asgq {tg : Expr} {h : T → Sm} (he : SE X G W e f) (hg : SGq X G W tg h) (hs : swapsWithSole [tg] e pos.line X.env = pure false := by rfl) (hw : swappedStores [tg] e X.env = pure none := by rfl)
    (h1 : (assignEach [tg] X.env).map (·.2) = [assign tg X.env] := by rfl) : SS X G W (.Assign [tg] e pos) (qAsgq f h) := fun w0 H0 => ps_imp (ps_asg he hg hs hw h1) fun D σ H ⟨w, env, r, a, hq⟩ =>
  at_e a hq fun t r1 w1 H1 v a1 d h2 => by
    refine ⟨w0, H0, w1, env, r1, t, a1, d, ?_⟩
    cases o : h t env r1 with
    | nx env' r' => rw [o] at h2; exact h2
    | exn c p e r' => rw [o] at h2; exact h2
    | _ => rw [o] at h2; exact h2.elim
/-! ### dicts of the top, str keys -/
structure GdOk (wd : World) (G : Gm) (x : Str) (tb : Str → Option T) : Prop where
  ex : ∃ p es n, G.mg x = some (.ref p) ∧ G.K.lookup p = some ⟨.type "dict", none, .dict es n, #[]⟩ ∧ PySem.W.KeysLit wd.params es.toList ∧ (p == sysModules) = false ∧ ∀ z, (∀ t, tb z = some t → ∃ u v, PySem.W.nsIn G.K p z = some (some u) ∧ RelV v u ∧ ∀ w, Den G w v t)
def fGd (tb : Str → Option T) (f : Env → M T) : Env → M T := fun env => f env >>= fun t => match t with
  | .str z => M.lift (tb z)
  | _ => M.bad
theorem s_gd {x : Str} {px : Pos} {tb : Str → Option T} (ok : GdOk X.w G x tb) (hK : X.K = G.K) (hM : X.mg = G.mg) (hg : Gl X x) (hi : SE X G W ix f) (hs : PlainIx ix) (hd : (x == ("__debug__" : Str)) = false := by decide) : SE X G W (.Subscript (.Name x px) ix pos) (fGd tb f) := by
  obtain ⟨p, es, n, h1, h2, h3, _, h4⟩ := ok.ex
  refine pe_imp (pe_ix ix_kdict (pe_glob (v := .ref p) hg (by rw [hM]; exact h1) rfl hd) hi hs) fun σ H Q ⟨w, H0, env, r, g0, s, h0⟩ => ?_
  refine seqE g0 s h0 fun t r1 w1 H1 y g1 s1 st1 d1 hq => ?_
  cases d1 with
  | str z =>
    obtain ⟨u, eu, h5⟩ := liftP hq
    obtain ⟨uu, v, e1, e2, e3⟩ := h4 z u eu
    rw [hK]
    exact ⟨p, z, v, rfl, rfl, ⟨es, n, uu, h2, h3, e1, e2⟩, h5 w1 H1 (Step.refl _ _) g1 v (e3 w1)⟩
  | _ => exact hq.elim
end
end Ep
namespace Ep
open PySem PySem.Spec L2
/-! ### operators by a class's own defs -/
def own2 (C : Nat) (F : List T → M T) : T → T → M T := fun x y => match x with
  | .obj D vs => if D = C then noEx (F [.obj D vs, y]) else M.bad
  | _ => M.bad
def fOwn2 (C : Nat) (F : List T → M T) (f g : Env → M T) : Env → M T := fun env => f env >>= fun x => g env >>= fun y => own2 C F x y
def r2own (G : Gm) (C : Nat) (h : T → T → M T) : R2 := fun x y H Q => ∃ w r t u, Good G w H r ∧ Den G w x t ∧ Den G w y u ∧ OutP G w H (fun _ _ _ => False) (fun t _ w' H' => ∀ v, Den G w' v t → Q v H') (h t u r)
section
variable {X : Cx} {G : Gm} {W : WX} {pos : Pos} {a b : Expr} {f g : Env → M T} {C j k : Nat} {F : List T → M T} {m : Str}
theorem own_use {h : T → T → M T} {σ : L2.St} {H : Hp} {Q : VK} (hne : ∀ t u r c p r', h t u r ≠ .exn c p r') (hq : tS G W (fun env => f env >>= fun x => g env >>= fun y => h x y) σ H Q) : tOp (r2own G C h) (tS G W f) (tS G W g) σ H Q := by
  obtain ⟨w, H0, env, r, g0, s, h0⟩ := hq
  refine seqE g0 s h0 fun t r1 w1 H1 x g1 s1 st1 d1 h1 => ?_
  refine seqE g1 s1 h1 fun u r2 w2 H2 y g2 s2 st2 d2 h2 => ?_
  refine ⟨w2, r2, t, u, g2, d1.mono st2.later, d2, ?_⟩
  cases o : h t u r2 with
  | ok z r3 => rw [o] at h2; exact h2
  | exn c p r3 => exact absurd o (hne t u r2 c p r3)
  | bad => rw [o] at h2; exact h2
theorem noEx_ne {α : Type} (m : M α) (r : RS) (c : Nat) (p : T) (r' : RS) : noEx m r ≠ .exn c p r' := by
  unfold noEx
  cases m r <;> simp
theorem own2_ne (t u : T) (r : RS) (c : Nat) (p : T) (r' : RS) : own2 C F t u r ≠ .exn c p r' := by
  unfold own2
  split
  · split
    · exact noEx_ne _ _ _ _ _
    · simp
  · simp
/-- the two operands, the def that is called -/
theorem own_args {x y : V} {v u : Value} {pins : List (Addr × Obj)} {s : Shared} {σ : L2.St} {H : Hp} {Q : VK} (D : MethOk X.prog X.w X.base G k C m 2 [] F) (hK : X.K = G.K) (hM : X.mg = G.mg) (hr : Room j X.A) (hk : k ≤ j) (I : L2.Inv X pins σ H s) (rx : RelV x v) (ry : RelV y u)
    (h : r2own G C (own2 C F) x y H Q) : ∃ (p cA fn : Addr) (od : Obj × Option Obj), v = .ref p ∧ G.mg (G.cn C) = some (.ref cA) ∧ PySem.W.InstAt s.heap p od.1 cA od.2 ∧ PySem.W.findIn X.K (.ref cA) m = some (some (.ref fn)) ∧ PySem.W.isFn X.K (.ref fn) = true ∧
      ∀ A : Around, Room k A → Env0 X.prog X.w X.K X.mg X.base A X.stack s H → wpAny (model X.prog X.w) A (call (.ref fn) [.ref p, u]) (EP X pins σ Q) X.xe s := by
  obtain ⟨w, r, t, u', g0, d1, d2, h⟩ := h
  obtain ⟨cA, fn, fd, ps, dvs, dus, c1, c2, c3, h1, h4, h5, h6⟩ := D.ex
  rw [← hK, ← hM] at h1
  cases d1 with
  | @obj p cA' dx C' vs ts c hh l d =>
    by_cases hC : C' = C
    · subst hC
      have h : OutP G w H (fun _ _ _ => False) (fun t _ w' H' => ∀ v, Den G w' v t → Q v H') (noEx (F [.obj C' ts, u']) r) := by simpa [own2] using h
      rw [c1] at c
      cases c
      obtain rfl : v = Value.ref p := rx
      obtain ⟨mA, J, _⟩ := ins_get I.hok (g0.sub _ _ hh)
      obtain ⟨od, J, _⟩ := J.look
      have hd0 : dvs = [] := by
        have := h6 w
        generalize dvs = q at this
        cases this; rfl
      subst hd0
      cases h5
      refine ⟨p, cA, fn, (_, _), rfl, c1, J, by rw [hK]; exact c3.at_, by rw [hK]; exact c3.fn, fun A hrA e0 => ?_⟩
      have hsp : spF G 2 F [.ref p, y] H Q (fun _ _ _ => False) := by
        refine ⟨w, r, [.obj C' ts, u'], g0, .cons (.obj c1 hh l d) (.cons d2 .nil), rfl, ?_⟩
        unfold noEx at h
        cases o : F [.obj C' ts, u'] r with
        | ok z r' => rw [o] at h; exact h
        | exn c p r' => rw [o] at h; exact h.elim
        | bad => rw [o] at h; exact h.elim
      have hl := h1.len _ _ _ _ hsp
      refine wpAny_call (codeAny_mono (h1.run A X.stack s H ⟨[.ref p, u], []⟩ [.ref p, u] [.ref p, y] Q (fun _ _ _ => False) hrA e0 (by
        have := h4 s [.ref p, u] (by rw [← hK]; exact I.kIn) (by simpa using hl)
        simpa using this) (.cons rfl (.cons ry .nil)) hsp) fun res s' hq => ?_)
      cases res with
      | error e => exact passAt (W := fun _ _ _ _ => False) takes0 σ pins H s e s' I hq
      | ok fl =>
        cases fl with
        | ret u => exact I.after hq
        | next => exact False.elim hq
        | brk => exact False.elim hq
        | cont => exact False.elim hq
    · have h : OutP G w H (fun _ _ _ => False) (fun t _ w' H' => ∀ v, Den G w' v t → Q v H') ((M.bad : M T) r) := by simpa [own2, hC] using h
      exact h.elim
  | _ => exact h.elim
/-- y is of the same class -/
def sameT (C : Nat) : T → T → Bool
  | _, .obj D _ => decide (D = C)
  | _, _ => false
def own2s (C : Nat) (F : List T → M T) : T → T → M T := fun x y => if sameT C x y = true then own2 C F x y else M.bad
theorem own2s_ne (t u : T) (r : RS) (c : Nat) (p : T) (r' : RS) : own2s C F t u r ≠ .exn c p r' := by
  unfold own2s
  split
  · exact own2_ne _ _ _ _ _ _
  · simp
theorem same_of {x y : V} {H : Hp} {Q : VK} (h : r2own G C (own2s C F) x y H Q) : r2own G C (own2 C F) x y H Q ∧ ∃ p cA dx fs, y = .ref p ∧ G.mg (G.cn C) = some (.ref cA) ∧ H p = some (.ins cA dx fs) := by
  obtain ⟨w, r, t, u, g0, d1, d2, h⟩ := h
  unfold own2s at h
  by_cases hs : sameT C t u = true
  · rw [if_pos hs] at h
    refine ⟨⟨w, r, t, u, g0, d1, d2, h⟩, ?_⟩
    cases d2 with
    | obj c hh l d =>
      have := of_decide_eq_true hs
      subst this
      exact ⟨_, _, _, _, rfl, c, g0.sub _ _ hh⟩
    | _ => simp [sameT] at hs
  · rw [if_neg hs] at h; exact h.elim
/-- a op b, both of the class -/
theorem op_ownB {op : Operator} (D : MethOk X.prog X.w X.base G k C (PySem.dunder op.info.2) 2 [] F) (hK : X.K = G.K) (hM : X.mg = G.mg) (hr : Room j X.A) (hk : k ≤ j) (hf : ∀ cA, G.mg (G.cn C) = some (.ref cA) → PySem.W.selfFirst G.K cA = true) : OpR X (binaryOp op) (r2own G C (own2s C F)) := by
  intro pins s σ H x y v u Q I rx ry h
  obtain ⟨h, q, cA', dx, fs, e, c', hq⟩ := same_of h
  obtain ⟨p, cA, fn, od, rfl, c, J, fi, ff, run⟩ := own_args D hK hM hr hk I rx ry h
  rw [c] at c'
  cases c'
  subst e
  obtain rfl : u = Value.ref q := ry
  obtain ⟨mA, J', _⟩ := ins_get I.hok hq
  obtain ⟨od', J', _⟩ := J'.look
  obtain ⟨m, hF⟩ := I.fr
  refine PySem.W.binop_K hF I.ok.mod.kin J J'.type (by rw [hK]; exact hf _ c) fi ff (wpAny_mono (run X.A (hr.mono hk) I.env0) (fun w s' z => ?_) fun _ _ e => e)
  obtain ⟨z', H', I', rz, qz⟩ := z
  exact SlX.cmpback rz ⟨z', H', I', rz, qz⟩
theorem s_ownB {op : Operator} (D : MethOk X.prog X.w X.base G k C (PySem.dunder op.info.2) 2 [] F) (hK : X.K = G.K) (hM : X.mg = G.mg) (hr : Room j X.A) (hk : k ≤ j) (hf : ∀ cA, G.mg (G.cn C) = some (.ref cA) → PySem.W.selfFirst G.K cA = true) (ha : SE X G W a f) (hb : SE X G W b g) :
    SE X G W (.BinOp a op b pos) (fun env => f env >>= fun x => g env >>= fun y => own2s C F x y) := pe_imp (pe_op (op_ownB D hK hM hr hk hf) ha hb) fun σ H Q hq => own_use own2s_ne hq
theorem op_ownC {op : CmpOp} (hop : ∀ a b, compareOp op a b = richCompare op a b) (D : MethOk X.prog X.w X.base G k C (cmpInfo op).2.1 2 [] F) (hK : X.K = G.K) (hM : X.mg = G.mg) (hr : Room j X.A) (hk : k ≤ j) : OpR X (compareOp op) (r2own G C (own2s C F)) := by
  intro pins s σ H x y v u Q I rx ry h
  obtain ⟨h, q, cA', dx, fs, e, c', hq⟩ := same_of h
  obtain ⟨p, cA, fn, od, rfl, c, J, fi, ff, run⟩ := own_args D hK hM hr hk I rx ry h
  rw [c] at c'
  cases c'
  subst e
  obtain rfl : u = Value.ref q := ry
  obtain ⟨mA, J', _⟩ := ins_get I.hok hq
  obtain ⟨od', J', _⟩ := J'.look
  obtain ⟨m, hF⟩ := I.fr
  rw [hop]
  refine PySem.W.cmp_K (op := op) (tb := .ref cA') hr.units0 hF I.ok.mod.kin J J'.type (by simp [PySem.W.notFirst]) fi ff (wpAny_mono (run X.A (hr.mono hk) I.env0) (fun w s' z => ?_) fun _ _ e => e)
  obtain ⟨z', H', I', rz, qz⟩ := z
  exact SlX.cmpback rz ⟨z', H', I', rz, qz⟩
theorem s_ownC {op : CmpOp} (hop : ∀ a b, compareOp op a b = richCompare op a b) (D : MethOk X.prog X.w X.base G k C (cmpInfo op).2.1 2 [] F) (hK : X.K = G.K) (hM : X.mg = G.mg) (hr : Room j X.A) (hk : k ≤ j) (ha : SE X G W a f) (hb : SE X G W b g) (hm : behindInMarks op b = false) :
    SE X G W (.Compare a [op] [b] pos) (fun env => f env >>= fun x => g env >>= fun y => own2s C F x y) := pe_imp (pe_cmpR (op_ownC hop D hK hM hr hk) ha hb hm) fun σ H Q hq => own_use own2s_ne hq
/-- a != b, the class with an own == and no own != -/
structure NeOk (G : Gm) (C : Nat) : Prop where
  ok : ∀ cA, G.mg (G.cn C) = some (.ref cA) → PySem.W.findIn G.K (.ref cA) "__ne__" = some (some (.builtin "object.__ne__")) ∧ PySem.W.mroIn G.K cA (.type "object") = some true
/-- what a class says of != where it keeps the object's own: that slot, bound to the instance -/
theorem ne_bound {M : Model} {A : Around} {E : Value → Shared → Prop} {s : Shared} {K : PySem.W.Frag} {x cA : Addr} {ox : Obj} {od : Option Obj} {Q : Option (Value × List Value) → Shared → Prop} (kin : K.In s.heap) (at_x : PySem.W.InstAt s.heap x ox cA od)
    (own : PySem.W.findIn K (.ref cA) "__ne__" = some (some (.builtin "object.__ne__"))) (h : Q (some (.builtin "object.__ne__", [.ref x])) s) : wpAny M A (bindSpecialIfBound? (.ref x) "__ne__") Q E s := by
  have bnd : wpAny M A (bindSpecial (.builtin "object.__ne__") (.ref x) >>= fun m => pure (some m)) Q E s := wpAny_of_eq (PySem.F.cmp_object.ne.bind _ ▸ rfl) h
  unfold bindSpecialIfBound?
  exact wpAny_bind (wpAny_bind (at_x.type.here (PySem.W.looks_findIn kin own |>.here (wpAny_bind (wpAny_askSetting (wpAny_ite (by split <;> first | exact bnd | exact wpAny_tryCatch bnd)))))))
theorem ifBound_ne {M : Model} {A : Around} {E : Value → Shared → Prop} {s : Shared} {K : PySem.W.Frag} {x cA : Addr} {ox : Obj} {od : Option Obj} {args : List Value} {Q : Option Value → Shared → Prop} (kin : K.In s.heap) (at_x : PySem.W.InstAt s.heap x ox cA od)
    (own : PySem.W.findIn K (.ref cA) "__ne__" = some (some (.builtin "object.__ne__"))) (h : wpAny M A (call (.builtin "object.__ne__") (.ref x :: args)) (fun v => Q (some v)) E s) : wpAny M A (callSpecialIfBound? (.ref x) "__ne__" args) Q E s :=
  wpAny_holding (wpAny_bind (ne_bound kin at_x own (wpAny_bind (wpAny_mono h (fun _ _ => wpAny_pure) fun _ _ => id))))
def negB : T → M T
  | .bl b => pure (.bl !b)
  | _ => M.bad
def own2n (C : Nat) (F : List T → M T) : T → T → M T := fun x y => own2s C F x y >>= negB
theorem own2n_ne (t u : T) (r : RS) (c : Nat) (p : T) (r' : RS) : own2n C F t u r ≠ .exn c p r' := by
  show M.bind (own2s C F t u) negB r ≠ _
  unfold M.bind
  cases o : own2s C F t u r with
  | ok a r2 => cases a <;> simp [negB, M.bad, pure, M.pure]
  | exn c' p' r2 => exact absurd o (own2s_ne t u r c' p' r2)
  | bad => simp
theorem neg_of {x y : V} {H : Hp} {Q : VK} (h : r2own G C (own2n C F) x y H Q) : r2own G C (own2s C F) x y H (fun v H' => ∃ b, v = .bl b ∧ Q (.bl !b) H') := by
  obtain ⟨w, r, t, u, g0, d1, d2, h⟩ := h
  refine ⟨w, r, t, u, g0, d1, d2, ?_⟩
  have h : OutP G w H (fun _ _ _ => False) (fun t _ w' H' => ∀ v, Den G w' v t → Q v H') (M.bind (own2s C F t u) negB r) := h
  unfold M.bind at h
  cases o : own2s C F t u r with
  | ok a r2 =>
    rw [o] at h
    cases a with
    | bl b =>
      intro w' H' st g' v d
      cases d
      exact ⟨b, rfl, h w' H' st g' _ (.bl !b)⟩
    | _ => exact h.elim
  | exn c' p' r2 => rw [o] at h; exact h
  | bad => rw [o] at h; exact h.elim
theorem objNe_entry {prog : Program} {w : World} {A : Around} {E : Value → Shared → Prop} {s : Shared} {K : PySem.W.Frag} {x cA fn : Addr} {y : Value} {ox : Obj} {od : Option Obj} {Q : Fin → Shared → Prop} (kin : K.In s.heap) (at_x : PySem.W.InstAt s.heap x ox cA od) (own : PySem.W.findIn K (.ref cA) "__eq__" = some (some (.ref fn))) (def_ : PySem.W.isFn K (.ref fn) = true) (room : A.units < cLine)
    (asked : wpAny (model prog w) A (call (.ref fn) [.ref x, y]) (fun v s' => ∃ b, v = .bool b ∧ Q (.done (.ret (.bool (!b)))) s') E s) : wpAny (model prog w) A (Builtin.«object.__ne__» ⟨[.ref x, y], []⟩) Q E s := by
  show wpAny _ A (cRoomFor "comparison" [.ref x, y] >>= _) Q E s
  refine wpAny_bind (wpAny_cRoomFor room (wpAny_bind (PySem.W.ifBound_K kin at_x own def_ (wpAny_mono asked (fun v s' said => ?_) fun _ _ => id))))
  obtain ⟨b, rfl, said⟩ := said
  exact wpAny_bind (wpAny_truthy_bool (wpAny_pure said))
/-- != of two things of one class, where the left one's own != answers -/
theorem rich_ne {M : Model} {A : Around} {E : Value → Shared → Prop} {s : Shared} {l r cA : Addr} {ol oR : Obj} {dl dr : Option Obj} {Q : Value → Shared → Prop} (left : PySem.W.InstAt s.heap l ol cA dl) (right : PySem.W.InstAt s.heap r oR cA dr) (room : A.units < cLine)
    (answer : wpAny M A (tryCompare (.ref l) "__ne__" (.ref r)) (fun o s' => ∃ v, o = some v ∧ Q v s') E s) : wpAny M A (richCompare .NotEq (.ref l) (.ref r)) Q E s := by
  have alike : ¬ ((Value.ref cA != Value.ref cA) = true) := by rw [bne_self_eq_false]; exact Bool.false_ne_true
  unfold richCompare
  rw [PySem.oneThing_ref]
  refine wpAny_holding (wpAny_bind (wpAny_cRoomFor room (wpAny_bind (left.type.here (wpAny_bind (right.type.here ?_))))))
  dsimp only
  rw [if_neg alike]
  refine wpAny_bind (wpAny_pure ?_)
  rw [if_neg Bool.false_ne_true]
  refine (wpAny_bind (wpAny_mono answer (fun o s' said => ?_) fun _ _ => id))
  obtain ⟨v, rfl, said⟩ := said
  exact wpAny_pure said
theorem op_ownN (D : MethOk X.prog X.w X.base G k C "__eq__" 2 [] F) (ne : NeOk G C) (hK : X.K = G.K) (hM : X.mg = G.mg) (hr : Room j X.A) (hk : k + 1 ≤ j) : OpR X (compareOp .NotEq) (r2own G C (own2n C F)) := by
  intro pins s σ H x y v u Q I rx ry asked
  obtain ⟨asked, q, cA', dx, fs, e, c', at_q⟩ := same_of (neg_of asked)
  obtain ⟨p, cA, fn, od, rfl, c, left, found, isdef, run⟩ := own_args D hK hM hr (Nat.le_of_succ_le hk) I rx ry asked
  cases c.symm.trans c'
  subst e
  cases (show u = Value.ref q from ry)
  obtain ⟨_, right, _⟩ := ins_get I.hok at_q
  obtain ⟨_, right, _⟩ := right.look
  have says := ne.ok _ c
  rw [← hK] at says
  have room : Room k X.A.in1 := (hr.mono hk).in1
  have answer : wpAny (model X.prog X.w) X.A.in1 (call (.ref fn) [.ref p, .ref q]) (fun v s' => ∃ b, v = .bool b ∧ EP X pins σ Q (.bool !b) s') X.xe s := wpAny_mono (run X.A.in1 room I.env0.in1) (fun v s' told => by
    obtain ⟨_, H', I', rz, b, rfl, told⟩ := told
    exact ⟨b, rz, .bl !b, H', I', rfl, told⟩) fun _ _ => id
  refine rich_ne left right hr.units0 (wpAny_bind (ifBound_ne I.kIn left says.1 (wpAny_call (codeAny_call_builtin PySem.F.cmp_object.ne.plain PySem.F.cmpEntry_ne (PySem.W.check_slot PySem.F.cmpKind_ne PySem.F.cmpSplit_ne (left.type.andThen (PySem.W.looks_mroIn I.kIn says.2)) (PySem.F.cmpArgs_ne _ _) (objNe_entry I.kIn left found isdef room.units0 (wpAny_mono answer (fun v s' told => ?_) fun _ _ => id)))))))
  obtain ⟨b, rfl, told⟩ := told
  exact ⟨b, rfl, wpAny_pure ⟨_, rfl, told⟩⟩
theorem s_ownN (D : MethOk X.prog X.w X.base G k C "__eq__" 2 [] F) (ne : NeOk G C) (hK : X.K = G.K) (hM : X.mg = G.mg) (hr : Room j X.A) (hk : k + 1 ≤ j) (ha : SE X G W a f) (hb : SE X G W b g) (hm : behindInMarks .NotEq b = false) :
    SE X G W (.Compare a [.NotEq] [b] pos) (fun env => f env >>= fun x => g env >>= fun y => own2n C F x y) := pe_imp (pe_cmpR (op_ownN D ne hK hM hr hk) ha hb hm) fun σ H Q hq => own_use own2n_ne hq
end
end Ep
namespace Ep
open PySem PySem.Spec L2
open PyProof.Rows (envOfC)
/-! ### NotImplemented by an own == -/
theorem tup_declines {prog : Program} {w : World} {A : Around} {E : Value → Shared → Prop} {s : Shared} {l b : Addr} {Q : Fin → Shared → Prop} (L : PySem.W.Looks (model prog w) s.heap (isInstance (.ref b) (.type "tuple")) false) (h : Q (.done (.ret .notImplemented)) s) :
    wpAny (model prog w) A (Builtin.«tuple.__eq__» ⟨[.ref l, .ref b], []⟩) Q E s := by
  unfold Builtin.«tuple.__eq__»
  repeat (first
    | (refine wpAny_bind (m := isInstance (.ref b) (.type "tuple")) (L.here ?_))
    | wp_step)
  exact h
/-- the def of == gives NotImplemented where p says so -/
def NiRun (P : Program) (wd : World) (base : Heap) (G : Gm) (k : Nat) (f : Addr) (fd : FuncData) (ps : List Str) (p : List T → RS → Option RS) : Prop :=
  ∀ (A : Around) (outer : List PySem.Env) (s : Shared) (H : Hp) (args : Args) (us : List Value) (vs : List V) (Q : Hp → Prop), Room k A → Env0 P wd G.K G.mg base A outer s H → BindsTo s fd args (ps.zip us) → Vals vs us →
    (∃ w r ts r', Good G w H r ∧ Dens G w vs ts ∧ ts.length = ps.length ∧ p ts r = some r' ∧ ∀ w' H', Step w H w' H' → Good G w' H' r' → Q H') →
    codeAny (model P wd) A (.call (.ref f) args) (fun r s' => match r with
      | .ok (.ret u) => u = .notImplemented ∧ CE outer P wd H s (fun _ H' => Q H') .none s'
      | .ok _ => False
      | .error e => L2.CX P wd outer H s (fun _ _ _ => False) e s') s
def niP (m : Nat) (q : Env → M Bool) : List T → RS → Option RS := fun ts r => match q (envOf m ts) r with
  | .ok true r' => some r'
  | _ => none
/-- where a def's parameters stand -/
theorem par_kinds {N ps : List Str} {sc : Scope} (S : FnScope N ps sc) (us : List Value) (at_ : Nat) : ∀ y ∈ ps.zip us, sc.names.lookup y.1 = some .local ∨ (sc.names.lookup y.1 = some .cell ∧ ((cellsFrom at_ sc.names []).lookup y.1).isSome = true) := fun y hy =>
  (S.par y.1 (List.of_mem_zip (show (y.1, y.2) ∈ _ from hy)).1).imp id fun is_cell => ⟨is_cell, PySem.W.cellsFrom_some _ _ _ (.inl is_cell)⟩
theorem niP_at {m : Nat} {q : Env → M Bool} {ts : List T} {r r' : RS} (h : niP m q ts r = some r') : q (envOf m ts) r = .ok true r' := by
  unfold niP at h
  split at h
  · next e => cases h; exact e
  · cases h
theorem ni_run {P : Program} {wd : World} {base : Heap} {G : Gm} {k : Nat} {x qual : Str} {st : Stmt} {f : Addr} {fd : FuncData} {N ps : List Str} {m : Nat} {c : Expr} {rest : List Stmt} {q1 q2 q3 : Pos} {p : Env → M Bool} {dv : List V} {kw : List (Str × V)} (F : FunD G.K x qual (defArgs st) (defBody st) (defScope st) dv kw f fd) (S : FnScope N ps (defScope st)) (hm : N.length - ps.length = m)
    (hbod : defBody st = .If c [.Return (some (.Name "NotImplemented" q1)) q2] [] q3 :: rest) (hni : G.mg "NotImplemented" = none) (hgl : ∀ cdv A outer s H E, Gl (cxB P wd G base N qual st f cdv A outer s H E) "NotImplemented")
    (hc : ∀ cdv A outer s H E, Room k (A.deeper (PyProof.Rows.envOfC qual (defScope st) s.heap.objs.size f cdv)) → SB (cxB P wd G base N qual st f cdv A outer s H E) G (WD E) c p) : NiRun P wd base G (k + 1) f fd ps (niP m p) := by
  intro A outer s H args us vs Q room e0 bound vals ⟨w, rr, ts, rr', gd, d, l, asked, told⟩
  have yes := niP_at asked
  have many : vs.length = ps.length := d.length.trans l
  have still : ∀ b o, base.get? b = some o → s.heap.get? b = some o := fun b o at_b => (e0.bs b o at_b).1
  obtain ⟨_, _, _, _, _, _, _, cdv, _, _, rfl, at_f, code, _, _⟩ := F.ex
  refine codeAny_call_function room.depth (e0.mod.kin.keeps still _ _ at_f) rfl S.co S.gen rfl (PySem.W.codeRec_of (e0.mod.kin.keeps still) code) (bound _ _ _ _ (wpAny_newFunctionEnv_cells S.kind (par_kinds S us _) fun env is_env s1 inside => ?_))
  subst is_env
  have I : L2.Inv (cxB P wd G base N qual st f cdv A outer s H (fun _ _ _ => False)) [] (L2.start N vs) H s1 := inv_start S room.hd e0 many vals inside
  refine ⟨(e0.mod.nolimit.keeps still).keeps inside.toInCall.keep, codeAny_func ?_⟩
  rw [hbod]
  have test := (hc cdv A outer s H (fun _ _ _ => False) (room.deeper _)).run [] s1 (L2.start N vs) H (fun b H' => b = true ∧ Q H') I ⟨w, H, envOf m ts, rr, gd, start_slots d m (by rw [many]; exact hm), by
    rw [yes]
    exact fun w' H' st g' => ⟨rfl, told w' H' st g'⟩⟩
  refine wpAny_execs_cons (wpAny_If (wpAny_mono test (fun b s2 after => ?_) fun _ _ => id))
  obtain ⟨H2, I2, rfl, held⟩ := after
  exact wpAny_execs_cons (wpAny_Return_some (ld_blt I2 (hgl cdv A outer s H _) hni (u := .notImplemented) rfl ⟨rfl, .non, H2, I2.os, I2.bare, I2.base, I2.hok, rfl, held⟩))
structure NiOk (P : Program) (wd : World) (base : Heap) (G : Gm) (k C : Nat) (p : List T → RS → Option RS) : Prop where
  ex : ∃ cA f fd ps, G.mg (G.cn C) = some (.ref cA) ∧ Meth G.K cA "__eq__" f ∧ NiRun P wd base G k f fd ps p ∧ Binds G.K fd ps [] ∧ ps.length = 2 ∧ PySem.W.subIn G.K (.type "tuple") (.ref cA) = some false ∧ PySem.W.mroIn G.K cA (.type "tuple") = some false
def isTupT : T → Bool
  | .tup _ => true
  | _ => false
def ownE (C : Nat) (F : List T → M T) (p : List T → RS → Option RS) : T → T → M T := fun x y => match x with
  | .obj D vs => if D = C then (if isTupT y = true then (fun r => match p [.obj D vs, y] r with
    | some r' => .ok (.bl false) r'
    | none => .bad) else own2s C F (.obj D vs) y) else M.bad
  | _ => M.bad
theorem ownE_ne {C : Nat} {F : List T → M T} {p : List T → RS → Option RS} (t u : T) (r : RS) (c : Nat) (q : T) (r' : RS) : ownE C F p t u r ≠ .exn c q r' := by
  cases t with
  | obj D vs =>
    by_cases hD : D = C
    · by_cases ht : isTupT u = true
      · subst hD
        cases hp : p [.obj D vs, u] r with
        | none => simp [ownE, ht, hp]
        | some r2 => simp [ownE, ht, hp]
      · have e : ownE C F p (.obj D vs) u = own2s C F (.obj D vs) u := by simp [ownE, hD, ht]
        rw [e]
        exact own2s_ne _ _ _ _ _ _
    · simp [ownE, hD, M.bad]
  | _ => simp [ownE, M.bad]
section
variable {X : Cx} {G : Gm} {W : WX} {pos : Pos} {a b : Expr} {f g : Env → M T} {C j k k' : Nat} {F : List T → M T} {p : List T → RS → Option RS}
theorem op_ownE (D : MethOk X.prog X.w X.base G k C "__eq__" 2 [] F) (N : NiOk X.prog X.w X.base G k' C p) (hK : X.K = G.K) (hM : X.mg = G.mg) (hr : Room j X.A) (hk : k ≤ j) (hk' : k' ≤ j) : OpR X (compareOp .Eq) (r2own G C (ownE C F p)) := by
  intro pins s σ H x y v u Q I rx ry h
  have h0 := h
  obtain ⟨w, r, t, u', g0, d1, d2, h⟩ := h
  cases d1 with
  | @obj pp cA' dx D' vs ts c hh l d =>
    by_cases hD : D' = C
    · subst hD
      by_cases ht : isTupT u' = true
      · -- a tuple
        have hfin : OutP G w H (fun _ _ _ => False) (fun t _ w' H' => ∀ v, Den G w' v t → Q v H') (match p [.obj D' ts, u'] r with
          | some r' => .ok (.bl false) r'
          | none => .bad) := by simpa [ownE, ht] using h
        cases hp : p [.obj D' ts, u'] r with
        | none => rw [hp] at hfin; exact hfin.elim
        | some rr =>
          rw [hp] at hfin
          obtain ⟨cA, fn, fd, ps, c1, hM', run, hB, hps, hs1, hs2⟩ := N.ex
          rw [c1] at c
          cases c
          cases d2 with
          | @tup q us xs hq z dd =>
            obtain rfl : v = Value.ref pp := rx
            obtain rfl : u = Value.ref q := ry
            obtain ⟨mA, J, _⟩ := ins_get I.hok (g0.sub _ _ hh)
            obtain ⟨od, J, _⟩ := J.look
            have hqT := tup_sq g0.sub hq
            rw [← hK] at hqT
            obtain ⟨its, rv, tq, hz⟩ := I.tuple hqT
            have tyq : s.TypeIs (.ref q) "tuple" := by
              obtain ⟨o, h1, h2, _⟩ := id tq
              exact ⟨o, h1, h2⟩
            have X1 := I.kIn
            have inst : ∀ {s' : Shared} {w' : Wd} {H' : Hp} {r' : RS}, L2.Inv X pins σ H' s' → Step w H w' H' → Good G w' H' r' → ∃ od, PySem.W.InstAt s'.heap pp (PySem.W.instObj cA' dx) cA' (some od) ∧ s'.TypeIs (.ref q) "tuple" ∧ pp ≠ q ∧ ∃ o, s'.heap.get? q = some o := fun {s' w' H' r'} I' st g' => by
              obtain ⟨mA, J, _⟩ := ins_get I'.hok (g'.sub _ _ (st.pub _ _ hh))
              obtain ⟨od, J, _⟩ := J.look
              have hqT := tup_sq g'.sub (hq.mono st.pub)
              rw [← hK] at hqT
              obtain ⟨its, rv, ⟨o, h1, h2, _⟩, hz⟩ := I'.tuple hqT
              refine ⟨od, J, ⟨o, h1, h2⟩, fun e => ?_, o, h1⟩
              subst e
              have := J.at_
              rw [h1] at this
              cases this
              cases h2
            have one : wpAny (model X.prog X.w) X.A (tryCompare (.ref pp) "__eq__" (.ref q)) (fun r0 s' => r0 = none ∧ ∃ w' H', L2.Inv X pins σ H' s' ∧ Step w H w' H' ∧ Good G w' H' rr) X.xe s := by
              unfold tryCompare
              refine wpAny_bind (PySem.W.ifBound_K X1 J (by rw [hK]; exact hM'.at_) (by rw [hK]; exact hM'.fn) (wpAny_call (codeAny_mono (run X.A X.stack s H ⟨[.ref pp, .ref q], []⟩ [.ref pp, .ref q] [.ref pp, .ref q] (fun H' => ∃ w', Step w H w' H' ∧ Good G w' H' rr) (hr.mono hk') (by
                have := I.env0
                rw [hK, hM] at this
                exact this) (by
                have := hB s [.ref pp, .ref q] (by rw [← hK]; exact X1) (by simp [hps])
                simpa using this) (.cons rfl (.cons rfl .nil)) ⟨w, r, _, rr, g0, .cons (.obj c1 hh l d) (.cons (.tup hq z dd) .nil), by simp [hps], hp, fun w' H' st g' => ⟨w', st, g'⟩⟩) fun res s' hq' => ?_)))
              cases res with
              | error e => exact passAt (W := fun _ _ _ _ => False) takes0 σ pins H s e s' I hq'
              | ok fl =>
                cases fl with
                | ret u =>
                  obtain ⟨eu, ce⟩ := hq'
                  subst eu
                  obtain ⟨v', H', I', _, w', st, g'⟩ := I.after ce
                  exact wpAny_pure ⟨rfl, w', H', I', st, g'⟩
                | next => exact False.elim hq'
                | brk => exact False.elim hq'
                | cont => exact False.elim hq'
            show wpAny (model X.prog X.w) X.A (richCompare .Eq (.ref pp) (.ref q)) (EP X pins σ Q) X.xe s
            unfold richCompare
            simp only [PySem.oneThing_ref]
            refine wpAny_holding (wpAny_bind (wpAny_cRoomFor hr.units0 ?_))
            refine wpAny_bind (J.type.here ?_)
            refine wpAny_bind (wpAny_typeOf tyq ?_)
            rw [show (Value.ref cA' != Value.type "tuple") = true from rfl]
            simp only [if_true]
            refine wpAny_bind ((PySem.W.looks_subIn X1 (by rw [hK]; exact hs1)).here ?_)
            simp only [Bool.false_eq_true, if_false, Bool.not_false, if_true]
            refine wpAny_bind (wpAny_mono one (fun r0 s1 z1 => ?_) fun _ _ e => e)
            obtain ⟨z1, w1, H1, I1, st1, g1⟩ := z1
            subst z1
            obtain ⟨od1, J1, ty1, hne, o1, ho1⟩ := inst I1 st1 g1
            refine wpAny_bind (wpAny_tryCompare_declines ty1 PySem.F.slot_tuple_eq_refl (wpAny_call_entry PySem.F.slot_tuple_eq_refl ty1 PySem.F.entry_tuple_eq (tup_declines (J1.type.andThen (PySem.W.looks_mroIn I1.kIn (by rw [hK]; exact hs2))) ⟨_, rfl, rfl, ?_⟩) (PySem.F.args_tuple_eq_2 _ _)))
            refine wpAny_bind (wpAny_rule (wpAny_bind ?_))
            have fin : EP X pins σ Q (.bool false) s1 := ⟨.bl false, H1, I1, rfl, hfin w1 H1 st1 g1 _ (.bl false)⟩
            have e1 := J1.at_
            show wpAny _ _ (if (pp == q) = true then pure true else _) _ _ _
            rw [if_neg (by simpa using hne)]
            refine wpAny_bind (wpAny_load e1 (wpAny_bind (wpAny_load ho1 ?_)))
            show wpAny _ _ (pure false) _ _ _
            exact wpAny_pure (wpAny_pure fin)
          | _ => cases ht
      · have e : ownE D' F p (.obj D' ts) u' = own2s D' F (.obj D' ts) u' := by simp [ownE, ht]
        rw [e] at h
        exact op_ownC (op := .Eq) (fun _ _ => rfl) D hK hM hr hk pins s σ H _ y v u Q I rx ry ⟨w, r, _, u', g0, .obj c hh l d, d2, h⟩
    · have h : OutP G w H (fun _ _ _ => False) (fun t _ w' H' => ∀ v, Den G w' v t → Q v H') ((M.bad : M T) r) := by simpa [ownE, hD] using h
      exact h.elim
  | _ => exact h.elim
theorem s_ownE (D : MethOk X.prog X.w X.base G k C "__eq__" 2 [] F) (N : NiOk X.prog X.w X.base G k' C p) (hK : X.K = G.K) (hM : X.mg = G.mg) (hr : Room j X.A) (hk : k ≤ j) (hk' : k' ≤ j) (ha : SE X G W a f) (hb : SE X G W b g) (hm : behindInMarks .Eq b = false) :
    SE X G W (.Compare a [.Eq] [b] pos) (fun env => f env >>= fun x => g env >>= fun y => ownE C F p x y) := pe_imp (pe_cmpR (op_ownE D N hK hM hr hk hk') ha hb hm) fun σ H Q hq => own_use ownE_ne hq
end
end Ep
namespace Ep
open PySem PySem.Spec L2
/-! ### index -/
def idxT (xs : List T) (t : T) : Option T := match t with
  | .str x => (strsT xs).bind fun ys => if x ∈ ys then some (.int (ys.idxOf x : Nat)) else none
  | .int i => (intsT xs).bind fun ys => if i ∈ ys then some (.int (ys.idxOf i : Nat)) else none
  | _ => none
/-- by values -/
def rIdx (K : PySem.W.Frag) : V → List V → Hp → VK → Prop := fun v us H Q => ∃ p, v = .ref p ∧
  ((∃ (ys : List Str) (x : Str), us = [.str x] ∧ x ∈ ys ∧ ys.length ≤ sizeLine ∧ SqL K H p (ys.map V.str) ∧ Q (.int (ys.idxOf x : Nat)) H) ∨ (∃ (ys : List Int) (i : Int), us = [.int i] ∧ i ∈ ys ∧ ys.length ≤ sizeLine ∧ SqL K H p (ys.map V.int) ∧ Q (.int (ys.idxOf i : Nat)) H))
def rIdxT (K : PySem.W.Frag) : V → List V → Hp → VK → Prop := fun v us H Q => ∃ p, v = .ref p ∧
  ((∃ (ys : List Str) (x : Str), us = [.str x] ∧ x ∈ ys ∧ ys.length ≤ sizeLine ∧ SqT K H p (ys.map V.str) ∧ Q (.int (ys.idxOf x : Nat)) H) ∨ (∃ (ys : List Int) (i : Int), us = [.int i] ∧ i ∈ ys ∧ ys.length ≤ sizeLine ∧ SqT K H p (ys.map V.int) ∧ Q (.int (ys.idxOf i : Nat)) H))
section
variable {X : Cx} {G : Gm} {W : WX} {pos apos : Pos} {a b e : Expr} {f g : Env → M T}
theorem mt_idx : MtR X "list.index" (rIdx X.K) := by
  intro pins s σ H x vs v us Q I rx rv h
  obtain ⟨p, rfl, h⟩ := h
  obtain rfl : v = Value.ref p := rx
  rcases h with ⟨ys, x, rfl, hm, hz, hs, q⟩ | ⟨ys, x, rfl, hm, hz, hs, q⟩
  · obtain ⟨u, rfl, ru⟩ := rv.one
    obtain ⟨t, rfl⟩ := (show ∃ t, u = Value.str x t from ru)
    obtain ⟨its, r, pl, _⟩ := I.list hs
    exact PySem.SeqAt.list_index_strs pl.isList (Vals.strs r) hz hm ⟨.int _, H, I.tok _, ⟨_, rfl⟩, q⟩
  · obtain ⟨u, rfl, ru⟩ := rv.one
    obtain ⟨t, rfl⟩ := (show ∃ t, u = Value.int x t from ru)
    obtain ⟨its, r, pl, _⟩ := I.list hs
    exact PySem.SeqAt.list_index_ints pl.isList (Vals.ints r) hz hm ⟨.int _, H, I.tok _, ⟨_, rfl⟩, q⟩
theorem mt_idxT : MtR X "tuple.index" (rIdxT X.K) := by
  intro pins s σ H x vs v us Q I rx rv h
  obtain ⟨p, rfl, h⟩ := h
  obtain rfl : v = Value.ref p := rx
  rcases h with ⟨ys, x, rfl, hm, hz, hs, q⟩ | ⟨ys, x, rfl, hm, hz, hs, q⟩
  · obtain ⟨u, rfl, ru⟩ := rv.one
    obtain ⟨t, rfl⟩ := (show ∃ t, u = Value.str x t from ru)
    obtain ⟨its, r, pl, _⟩ := I.tuple hs
    exact PySem.SeqAt.tuple_index_strs (show s.heap.IsTuple p its.toArray from pl) (Vals.strs r) hm ⟨.int _, H, I.tok _, ⟨_, rfl⟩, q⟩
  · obtain ⟨u, rfl, ru⟩ := rv.one
    obtain ⟨t, rfl⟩ := (show ∃ t, u = Value.int x t from ru)
    obtain ⟨its, r, pl, _⟩ := I.tuple hs
    exact PySem.SeqAt.tuple_index_ints (show s.heap.IsTuple p its.toArray from pl) (Vals.ints r) hm ⟨.int _, H, I.tok _, ⟨_, rfl⟩, q⟩
def isLst : T → Bool
  | .lst _ => true
  | .kls _ => true
  | .ref _ => true
  | _ => false
def fIdxL (f g : Env → M T) : Env → M T := fun env => f env >>= fun x => if isLst x = true then g env >>= fun y => fun r => M.lift ((lstT r x).bind fun xs => idxT xs y) r else M.bad
theorem idx_of {w : Wd} {us : List V} {xs : List T} {y : V} {t z : T} (d : Dens G w us xs) (dy : Den G w y t) (e : idxT xs t = some z) :
    (∃ (ys : List Str) (x : Str), y = .str x ∧ us = ys.map V.str ∧ x ∈ ys ∧ z = .int (ys.idxOf x : Nat)) ∨ ∃ (ys : List Int) (i : Int), y = .int i ∧ us = ys.map V.int ∧ i ∈ ys ∧ z = .int (ys.idxOf i : Nat) := by
  cases dy with
  | str x =>
    have e : ((strsT xs).bind fun ys => if x ∈ ys then some (.int (ys.idxOf x : Nat)) else none) = some z := e
    cases q : strsT xs with
    | none => rw [q] at e; cases e
    | some ys =>
      rw [q] at e
      have e : (if x ∈ ys then some (T.int (ys.idxOf x : Nat)) else none) = some z := e
      by_cases hm : x ∈ ys
      · rw [if_pos hm] at e; cases e; exact .inl ⟨ys, x, rfl, strs_of d q, hm, rfl⟩
      · rw [if_neg hm] at e; cases e
  | int x =>
    have e : ((intsT xs).bind fun ys => if x ∈ ys then some (.int (ys.idxOf x : Nat)) else none) = some z := e
    cases q : intsT xs with
    | none => rw [q] at e; cases e
    | some ys =>
      rw [q] at e
      have e : (if x ∈ ys then some (T.int (ys.idxOf x : Nat)) else none) = some z := e
      by_cases hm : x ∈ ys
      · rw [if_pos hm] at e; cases e; exact .inr ⟨ys, x, rfl, ints_of d q, hm, rfl⟩
      · rw [if_neg hm] at e; cases e
  | _ => cases e
theorem s_idxL (hK : X.K = G.K) (ha : SK X G W a f) (he : SE X G W e g)
    (hbase : attributeBase a "index" X.env (eval a X.env) = eval a X.env := by rfl)
    (hfew : ((backTo pos (starEach [e] X.env)).all (fun x => !x.1) && (backToKw pos (keywordEach [] X.env)).all (fun x => x.1.isSome)
      && decide (([e] : List Expr).length + ([] : List Keyword).length + (if ([] : List Keyword).isEmpty then 0 else 1) < 30)) = true := by rfl)
    (hline : (apos.endLine == pos.line) = true := by rfl) (hs : starEach [e] X.env = (false, eval e X.env) :: starEach [] X.env := by rfl) (hplain : (backTo pos (starEach [] X.env)).any (·.1) = false := by rfl) :
    SE X G W (.Call (.Attribute a "index" apos) [e] [] pos) (fIdxL f g) :=
  pe_imp (pe_bm PySem.F.plainAttrs_list PySem.F.slot_list_index PySem.F.type_list_index mt_idx ha (pa_cons he pa_nil hs) hbase hfew hline hs hplain) fun σ H Q ⟨w, H0, env, r, g0, s, h0⟩ => by
    refine seqK g0 s h0 fun t r1 w1 H1 v g1 s1 st1 d1 h1 => ?_
    by_cases hl : isLst t = true
    · rw [if_pos hl] at h1
      have isL : ∃ p us, v = V.ref p ∧ SqL X.K H1 p us := by
        rw [hK]
        rcases d1 with d | ⟨p, us, ys, e1, e2, h1, h2, h3, h4⟩
        · cases d with
          | lst hh z d => exact ⟨_, _, rfl, .inl (.inl (g1.sub _ _ hh))⟩
          | kls hh z d => exact ⟨_, _, rfl, g1.sub.seq hh⟩
          | @ref k p hr =>
            obtain ⟨us, hu⟩ := g1.refs.there (List.mem_of_getElem? hr)
            exact ⟨_, us, rfl, SqL.of hu⟩
          | _ => cases hl
        · exact ⟨_, us, e1, SqL.of h2⟩
      obtain ⟨p, us0, rfl, hs0⟩ := isL
      refine ⟨.inl ⟨rfl, us0, hs0⟩, seqE g1 s1 h1 fun u r2 w2 H2 y g2 s2 st2 d2 h2 => ?_⟩
      obtain ⟨z, ez, h3⟩ := liftP h2
      cases q : lstT r2 t with
      | none => rw [q] at ez; cases ez
      | some xs =>
        rw [q] at ez
        have ez : idxT xs u = some z := ez
        obtain ⟨p', us, e1, hs, dd, hz⟩ := lst_of g2 (d1.step st2) q
        cases e1
        rw [hK]
        rcases idx_of dd d2 ez with ⟨ys, x, rfl, rfl, hm, rfl⟩ | ⟨ys, x, rfl, rfl, hm, rfl⟩
        · have hz : ys.length ≤ sizeLine := by rw [← dd.length, List.length_map] at hz; exact hz
          exact ⟨p, rfl, .inl ⟨ys, x, rfl, hm, hz, hs, h3 w2 H2 (Step.refl _ _) g2 _ (.int _)⟩⟩
        · have hz : ys.length ≤ sizeLine := by rw [← dd.length, List.length_map] at hz; exact hz
          exact ⟨p, rfl, .inr ⟨ys, x, rfl, hm, hz, hs, h3 w2 H2 (Step.refl _ _) g2 _ (.int _)⟩⟩
    · rw [if_neg hl] at h1; exact h1.elim
/-- a tuple of the top -/
structure GtOk (G : Gm) (x : Str) (xs : List T) : Prop where
  ex : ∃ p o its n us, G.mg x = some (.ref p) ∧ G.K.lookup p = some o ∧ o.cls = .type "tuple" ∧ o.dict = none ∧ o.data = .seq its n ∧ its.size ≤ sizeLine ∧ Vals us its.toList ∧ ∀ w, Dens G w us xs
theorem GtOk.den {x : Str} {xs : List T} (ok : GtOk G x xs) : ∃ v u, G.mg x = some u ∧ RelV v u ∧ ∀ w, Den G w v (.tup xs) := by
  obtain ⟨p, o, its, n, us, h1, h2, h3, h4, h5, h6, h7, h8⟩ := ok.ex
  refine ⟨.ref p, .ref p, h1, rfl, fun w => .tup (.inr ⟨o, its, n, h2, h3, h5, h6, h7⟩) ?_ (h8 w)⟩
  rw [← (h8 w).length, h7.length, Array.length_toList]
  exact h6
theorem s_gt {x : Str} {xs : List T} (ok : GtOk G x xs) (hM : X.mg = G.mg) (hg : Gl X x) (hd : (x == ("__debug__" : Str)) = false := by decide) : SE X G W (.Name x pos) (fC (.tup xs)) := by
  obtain ⟨v, u, h1, h2, h3⟩ := ok.den
  exact s_glob hg (by rw [hM]; exact h1) h2 h3 hd
def fIdxG (xs : List T) (g : Env → M T) : Env → M T := fun env => g env >>= fun y => M.lift (idxT xs y)
theorem s_idxG {x : Str} {px : Pos} {xs : List T} (ok : GtOk G x xs) (hK : X.K = G.K) (hM : X.mg = G.mg) (hg : Gl X x) (he : SE X G W e g)
    (hbase : attributeBase (.Name x px) "index" X.env (eval (.Name x px) X.env) = eval (.Name x px) X.env := by rfl)
    (hfew : ((backTo pos (starEach [e] X.env)).all (fun x => !x.1) && (backToKw pos (keywordEach [] X.env)).all (fun x => x.1.isSome)
      && decide (([e] : List Expr).length + ([] : List Keyword).length + (if ([] : List Keyword).isEmpty then 0 else 1) < 30)) = true := by rfl)
    (hline : (apos.endLine == pos.line) = true := by rfl) (hs : starEach [e] X.env = (false, eval e X.env) :: starEach [] X.env := by rfl) (hplain : (backTo pos (starEach [] X.env)).any (·.1) = false := by rfl) (hd : (x == ("__debug__" : Str)) = false := by decide) :
    SE X G W (.Call (.Attribute (.Name x px) "index" apos) [e] [] pos) (fIdxG xs g) := by
  obtain ⟨p, o, its, n, us, h1, h2, h3, h4, h5, h6, h7, h8⟩ := ok.ex
  refine pe_imp (pe_bm PySem.F.plainAttrs_tuple PySem.F.slot_tuple_index PySem.F.type_tuple_index mt_idxT (pe_glob (v := .ref p) hg (by rw [hM]; exact h1) rfl hd) (pa_cons he pa_nil hs) hbase hfew hline hs hplain) fun σ H Q ⟨w, H0, env, r, g0, s, h0⟩ => ?_
  rw [hK]
  refine ⟨.inr (.inl ⟨rfl, o, h2, h3, h4⟩), seqE g0 s h0 fun u r2 w2 H2 y g2 s2 st2 d2 hq => ?_⟩
  obtain ⟨z, ez, h9⟩ := liftP hq
  have hT : SqT G.K H2 p us := .inr ⟨o, its, n, h2, h3, h5, h6, h7⟩
  have hz : us.length ≤ sizeLine := by rw [h7.length, Array.length_toList]; exact h6
  rcases idx_of (h8 w2) d2 ez with ⟨ys, x, rfl, rfl, hm, rfl⟩ | ⟨ys, x, rfl, rfl, hm, rfl⟩
  · exact ⟨p, rfl, .inl ⟨ys, x, rfl, hm, by simpa using hz, hT, h9 w2 H2 (Step.refl _ _) g2 _ (.int _)⟩⟩
  · exact ⟨p, rfl, .inr ⟨ys, x, rfl, hm, by simpa using hz, hT, h9 w2 H2 (Step.refl _ _) g2 _ (.int _)⟩⟩
/-! ### d.get(k, x) of a dict of the top -/
structure GgOk (wd : World) (G : Gm) (x : Str) (tb : Str → Option (Option T)) : Prop where
  ex : ∃ p es n, G.mg x = some (.ref p) ∧ G.K.lookup p = some ⟨.type "dict", none, .dict es n, #[]⟩ ∧ PySem.W.KeysLit wd.params es.toList ∧ (p == sysModules) = false ∧ ∀ z, (∀ t, tb z = some (some t) → ∃ u v, PySem.W.nsIn G.K p z = some (some u) ∧ RelV v u ∧ ∀ w, Den G w v t) ∧ (tb z = some none → PySem.W.nsIn G.K p z = some none)
def fGget (tb : Str → Option (Option T)) (f g : Env → M T) : Env → M T := fun env => f env >>= fun t => g env >>= fun d => match t with
  | .str z => M.lift ((tb z).map fun o => o.getD d)
  | _ => M.bad
theorem s_gget {x : Str} {px : Pos} {c : Expr} {tb : Str → Option (Option T)} (ok : GgOk X.w G x tb) (hK : X.K = G.K) (hM : X.mg = G.mg) (hg : Gl X x) (hi : SE X G W e f) (hc : SE X G W c g) (m : M2 X (.Name x px) "get" apos e c pos) (hd : (x == ("__debug__" : Str)) = false := by decide) : SE X G W (.Call (.Attribute (.Name x px) "get" apos) [e, c] [] pos) (fGget tb f g) := by
  obtain ⟨p, es, n, h1, h2, h3, h4, h5⟩ := ok.ex
  have h2' : X.K.lookup p = some ⟨.type "dict", none, .dict es n, #[]⟩ := by rw [hK]; exact h2
  refine ⟨fun pins s σ H Q I h => ?_⟩
  refine wpAny_Call_method m.base m.few m.line PySem.F.plainAttrs_dict PySem.F.slot_dict_get PySem.F.type_dict_get (ld_glob I hg (by rw [hM]; exact h1) ?_ hd)
  have hm := PySem.W.mapOf_K (prog := X.prog) (w := X.w) I.kIn (by rw [hK]; exact h2) h3
  refine ⟨hm.typeIs, fun a q => ?_, ?_⟩
  · cases q
    exact ⟨_, I.kIn _ _ (by rw [hK]; exact h2), rfl⟩
  rw [m.trees]
  obtain ⟨w, H0, env, r, g0, s0, h0⟩ := h
  refine wpAny_dict_get2 (knd := PySem.strKind X.prog X.w) h4 (thn (hi.run pins s σ H (fun y H1 => ∃ w1 r1 t, Good G w1 H1 r1 ∧ Slots G w1 H0 H1 σ env ∧ Den G w1 y t ∧ OutP G w1 H1 (WE0 W σ) (fun t _ w' H' => ∀ v, Den G w' v t → Q v H') ((g env >>= fun d => (match t with
    | .str z => M.lift ((tb z).map fun o => o.getD d)
    | _ => M.bad : M T)) r1)) I (seqE g0 s0 h0 fun t r1 w1 H1 y g1 s1 st1 d1 h6 => ⟨w1, r1, t, g1, s1, d1, h6⟩)) fun iv s1 ⟨y, H1, I1, ry, w1, r1, t, g1, sl1, d1, h6⟩ => ?_)
  refine thn (hc.run pins s1 σ H1 (fun v H2 => ∃ z d r2 w2, y = .str z ∧ Good G w2 H2 r2 ∧ Den G w2 v d ∧ OutP G w2 H2 (WE0 W σ) (fun t _ w' H' => ∀ v, Den G w' v t → Q v H') ((M.lift ((tb z).map fun o => o.getD d) : M T) r2)) I1 (seqE g1 sl1 h6 fun d r2 w2 H2 v g2 s2 st2 d2 h7 => ?_)) fun dv s2 ⟨v, H2, I2, rv, z, d, r2, w2, ey, g2, d2, h7⟩ => ?_
  · cases d1 with
    | str z => exact ⟨z, d, r2, w2, rfl, g2, d2, h7⟩
    | _ => exact h7.elim
  · subst ey
    obtain ⟨tk, rfl⟩ := (show ∃ t, iv = Value.str z t from ry)
    obtain ⟨o, eo, h8⟩ := liftP h7
    have hm2 := PySem.W.mapOf_K (prog := X.prog) (w := X.w) I2.kIn (by rw [hK]; exact h2) h3
    refine ⟨z, _, PySem.strKind_is X.prog X.w z tk, hm2, ?_⟩
    cases q : tb z with
    | none => rw [q] at eo; cases eo
    | some o' =>
      rw [q] at eo
      have eo : o'.getD d = o := by cases eo; rfl
      subst eo
      have h9 := h8 w2 H2 (Step.refl _ _) g2
      cases o' with
      | none =>
        have := PySem.W.find_K h2' (by rw [hK]; exact (h5 z).2 q : PySem.W.nsIn X.K p z = some none)
        show EP X pins σ Q ((PySem.findBy Value.isStrOf es z).getD dv) _
        rw [this]
        exact ⟨v, H2, I2.tok _, rv, h9 v d2⟩
      | some t' =>
        obtain ⟨u, v', e1, e2, e3⟩ := (h5 z).1 t' q
        have := PySem.W.find_K h2' (by rw [hK]; exact e1 : PySem.W.nsIn X.K p z = some (some u))
        show EP X pins σ Q ((PySem.findBy Value.isStrOf es z).getD dv) _
        rw [this]
        exact ⟨v', H2, I2.tok _, e2, h9 v' (e3 w2)⟩
end
end Ep
namespace Ep
open PySem PySem.Spec L2 He
/-! ### what the head tells -/
/-- a written value is t -/
def denB (K : PySem.W.Frag) : Nat → Value → T → Bool
  | _, .none, .non => true
  | _, .bool b, .bl c => b == c
  | _, .int i _, .int j => decide (i = j)
  | _, .str x _, .str y => decide (x = y)
  | n + 1, .ref a, .tup ts => match K.lookup a with
    | some ⟨.type c, _, .seq its _, _⟩ => decide (c = "tuple") && (decide (its.size ≤ sizeLine) && go n its.toList ts)
    | _ => false
  | _, _, _ => false
where go (n : Nat) : List Value → List T → Bool
  | [], [] => true
  | u :: us, t :: ts => denB K n u t && go n us ts
  | _, _ => false
theorem and2 {a b : Bool} (h : (a && b) = true) : a = true ∧ b = true := Bool.and_eq_true_iff.mp h
section
variable {G : Gm} {wd : World} {K : PySem.W.Frag} {mg : Str → Option Value}
theorem denB_go (hK : G.K = K) (n : Nat) (ih : ∀ u t, denB K n u t = true → ∃ v, RelV v u ∧ ∀ w, Den G w v t) : ∀ {us : List Value} {ts : List T}, denB.go K n us ts = true → ∃ vs, Vals vs us ∧ ∀ w, Dens G w vs ts
  | [], [], _ => ⟨[], .nil, fun _ => .nil⟩
  | [], _ :: _, h => by cases h
  | _ :: _, [], h => by cases h
  | u :: us, t :: ts, h => by
    obtain ⟨h1, h2⟩ := and2 (show (denB K n u t && denB.go K n us ts) = true from h)
    obtain ⟨v, r, d⟩ := ih u t h1
    obtain ⟨vs, rs, ds⟩ := denB_go hK n ih h2
    exact ⟨v :: vs, .cons r rs, fun w => .cons (d w) (ds w)⟩
theorem denB_ok (hK : G.K = K) : ∀ (n : Nat) (u : Value) (t : T), denB K n u t = true → ∃ v, RelV v u ∧ ∀ w, Den G w v t := by
  intro n
  induction n with
  | zero =>
    intro u t h
    cases u <;> cases t <;> first | (simp [denB] at h; done) | skip
    · exact ⟨.non, rfl, fun _ => .non⟩
    · rename_i b c
      obtain rfl : b = c := by simpa [denB] using h
      exact ⟨.bl b, rfl, fun _ => .bl b⟩
    · rename_i i t j
      obtain rfl : i = j := of_decide_eq_true h
      exact ⟨.int i, ⟨t, rfl⟩, fun _ => .int i⟩
    · rename_i x t y
      obtain rfl : x = y := of_decide_eq_true h
      exact ⟨.str x, ⟨t, rfl⟩, fun _ => .str x⟩
  | succ n ih =>
    intro u t h
    cases u <;> cases t <;> first | (simp [denB] at h; done) | skip
    · exact ⟨.non, rfl, fun _ => .non⟩
    · rename_i b c
      obtain rfl : b = c := by simpa [denB] using h
      exact ⟨.bl b, rfl, fun _ => .bl b⟩
    · rename_i i t j
      obtain rfl : i = j := of_decide_eq_true h
      exact ⟨.int i, ⟨t, rfl⟩, fun _ => .int i⟩
    · rename_i x t y
      obtain rfl : x = y := of_decide_eq_true h
      exact ⟨.str x, ⟨t, rfl⟩, fun _ => .str x⟩
    · rename_i a ts
      unfold denB at h
      split at h
      · rename_i c od its n1 sl q
        obtain ⟨h1, h2⟩ := and2 h
        obtain ⟨h3, h4⟩ := and2 h2
        have h1 := of_decide_eq_true h1
        have h3 := of_decide_eq_true h3
        obtain ⟨vs, rs, ds⟩ := denB_go hK n ih h4
        subst hK
        subst h1
        refine ⟨.ref a, rfl, fun w => .tup (.inr ⟨_, its, n1, q, rfl, rfl, h3, rs⟩) ?_ (ds w)⟩
        rw [← (ds w).length, rs.length, Array.length_toList]
        exact h3
      · cases h
/-- a tuple of the top -/
def gtB (K : PySem.W.Frag) (x : Str) (ts : List T) : Bool := match K.lookup (ga K x) with
  | some ⟨.type c, none, .seq its _, _⟩ => decide (c = "tuple") && (decide (its.size ≤ sizeLine) && denB.go K 6 its.toList ts)
  | _ => false
theorem gtB_ok {x : Str} {ts : List T} (hK : G.K = K) (hg : G.mg x = some (.ref (ga K x))) (h : gtB K x ts = true) : GtOk G x ts := by
  unfold gtB at h
  split at h
  · rename_i c its n1 sl q
    obtain ⟨h1, h2⟩ := and2 h
    obtain ⟨h3, h4⟩ := and2 h2
    obtain ⟨vs, rs, ds⟩ := denB_go hK 6 (denB_ok hK 6) h4
    have h1 := of_decide_eq_true h1
    subst h1
    exact ⟨_, _, its, n1, vs, hg, by rw [hK]; exact q, rfl, rfl, rfl, of_decide_eq_true h3, rs, ds⟩
  · cases h
/-- a dict of the top -/
def ggB (K : PySem.W.Frag) (x : Str) : List (Str × Option T) → Bool
  | [] => true
  | (z, o) :: r => (match PySem.W.nsIn K (ga K x) z, o with
    | some (some u), some t => denB K 6 u t
    | some none, none => true
    | _, _ => false) && ggB K x r
theorem ggB_at {x : Str} : ∀ {rows : List (Str × Option T)} {z : Str} {o : Option T}, ggB K x rows = true → rows.lookup z = some o → (match PySem.W.nsIn K (ga K x) z, o with
    | some (some u), some t => denB K 6 u t
    | some none, none => true
    | _, _ => false) = true
  | [], _, _, _, e => by cases e
  | (y, o') :: r, z, o, h, e => by
    obtain ⟨h1, h2⟩ := and2 h
    rw [List.lookup_cons] at e
    cases q : z == y with
    | true =>
      rw [q] at e
      cases e
      rw [beq_iff_eq.mp q]
      exact h1
    | false =>
      rw [q] at e
      exact ggB_at h2 e
theorem ggB_ok {x : Str} {rows : List (Str × Option T)} {ks : List Str} (hK : G.K = K) (hg : G.mg x = some (.ref (ga K x))) (hd : dicW K (ga K x) = some (keysIn wd.params ks)) (h : ggB K x rows = true) : GgOk wd G x (fun z => rows.lookup z) := by
  obtain ⟨es, n, D⟩ := dicW_ok hd
  subst hK
  refine ⟨_, es, n, hg, D.at_, D.lit, D.low, fun z => ⟨fun t e => ?_, fun e => ?_⟩⟩
  · have := ggB_at h e
    split at this
    · rename_i u t' q1 q2
      cases q2
      obtain ⟨v, r, d⟩ := denB_ok rfl 6 _ _ this
      exact ⟨u, v, q1, r, d⟩
    · rename_i q2; cases q2
    · cases this
  · have := ggB_at h e
    split at this
    · rename_i q2; cases q2
    · rename_i q1 q2; exact q1
    · cases this
theorem GgOk.gd {x : Str} {tb : Str → Option (Option T)} (ok : GgOk wd G x tb) : GdOk wd G x (fun z => (tb z).bind id) := by
  obtain ⟨p, es, n, h1, h2, h3, h4, h5⟩ := ok.ex
  refine ⟨p, es, n, h1, h2, h3, h4, fun z t e => (h5 z).1 t ?_⟩
  cases q : tb z with
  | none => rw [q] at e; cases e
  | some o => rw [q] at e; rw [show o = some t from e]
/-- isinstance -/
def kvB (K : PySem.W.Frag) (cn : Nat → Str) : Kd → Value
  | .b s => .type s
  | .o C => .ref (ga K (cn C))
def clB (K : PySem.W.Frag) (cn : Nat → Str) : Cl → Value
  | .ty s => .type s
  | .cl C => .ref (ga K (cn C))
def insB (K : PySem.W.Frag) (x : Str) : Bool := (Fa.cls x).ok K && (decide (PySem.W.findIn K (.ref (ga K x)) "__class__" = some (some (.builtin "object.__class__"))) && (decide (PySem.W.specialIn K (.builtin "object.__class__") "__get__" = some (some (.builtin "getset_descriptor.__get__"))) &&
  (decide (PySem.W.takesIn K (.builtin "object.__class__") = some true) && decide (PySem.W.mroIn K (ga K x) (.type "object") = some true))))
theorem insB_ok {x : Str} (h : insB K x = true) : InsTy K (ga K x) := by
  obtain ⟨h1, h2⟩ := and2 h
  obtain ⟨h2, h3⟩ := and2 h2
  obtain ⟨h3, h4⟩ := and2 h3
  obtain ⟨h4, h5⟩ := and2 h4
  exact ⟨cls_ok h1, of_decide_eq_true h2, of_decide_eq_true h3, of_decide_eq_true h4, of_decide_eq_true h5⟩
def tabB (K : PySem.W.Frag) (cn : Nat → Str) : List (Kd × Cl × Bool) → Bool
  | [] => true
  | (k, c, b) :: r => (decide (PySem.W.kitOne K (kvB K cn k) (clB K cn c) = some b) && (match k with
    | .o C => insB K (cn C)
    | _ => true)) && tabB K cn r
def tabF (rows : List (Kd × Cl × Bool)) (k : Kd) (c : Cl) : Option Bool := (rows.find? fun p => decide (p.1 = k ∧ p.2.1 = c)).map fun p => p.2.2
theorem tabB_all {cn : Nat → Str} : ∀ {rows : List (Kd × Cl × Bool)}, tabB K cn rows = true → ∀ p ∈ rows, PySem.W.kitOne K (kvB K cn p.1) (clB K cn p.2.1) = some p.2.2 ∧ ∀ C, p.1 = .o C → InsTy K (ga K (cn C))
  | [], _, _, hp => by cases hp
  | (k, c, b) :: r, h, p, hp => by
    obtain ⟨h1, h2⟩ := and2 h
    rcases List.mem_cons.mp hp with e | hp
    · subst e
      obtain ⟨h3, h4⟩ := and2 h1
      refine ⟨of_decide_eq_true h3, fun C e => ?_⟩
      have e : k = .o C := e
      subst e
      exact insB_ok h4
    · exact tabB_all h2 p hp
theorem tabB_ok {rows : List (Kd × Cl × Bool)} (hK : G.K = K) (hg : ∀ C cA, G.mg (G.cn C) = some (.ref cA) → cA = ga K (G.cn C)) (h : tabB K G.cn rows = true) : TabOk G (tabF rows) := by
  intro k c b e
  unfold tabF at e
  cases q : rows.find? fun p => decide (p.1 = k ∧ p.2.1 = c) with
  | none => rw [q] at e; cases e
  | some p =>
    rw [q] at e
    cases e
    obtain ⟨h1, h2⟩ := tabB_all h p (List.mem_of_find?_eq_some q)
    have hp : p.1 = k ∧ p.2.1 = c := by
      have := List.find?_some q
      simpa using this
    obtain ⟨e1, e2⟩ := hp
    subst e1 e2
    subst hK
    refine ⟨fun C ek cA hc => ?_, fun u z hu hz => ?_⟩
    · rw [hg C cA hc]; exact h2 C ek
    · have eu : u = kvB G.K G.cn p.1 := by
        cases ek : p.1 with
        | b s => rw [ek] at hu; exact hu
        | o C =>
          rw [ek] at hu
          obtain ⟨cA, hc, e, _⟩ := hu
          rw [e, hg C cA hc]; rfl
      have ez : z = clB G.K G.cn p.2.1 := by
        cases ek : p.2.1 with
        | ty s => rw [ek] at hz; exact hz
        | cl C =>
          rw [ek] at hz
          obtain ⟨cA, hc, e⟩ := hz
          rw [e, hg C cA hc]; rfl
      rw [eu, ez]
      exact h1
end
end Ep
namespace Ep
open PySem PySem.Spec L2 He
/-- a tuple at an address of one's own -/
def taB (K : PySem.W.Frag) (a : Addr) (ts : List T) : Bool := denB K 7 (.ref a) (.tup ts)
theorem taB_ok {G : Gm} {K : PySem.W.Frag} {a : Addr} {ts : List T} (hK : G.K = K) (h : taB K a ts = true) : ∀ w, Den G w (.ref a) (.tup ts) := by
  obtain ⟨v, r, d⟩ := denB_ok hK 7 _ _ h
  intro w
  have := d w
  cases this with
  | @tup b vs us h z dd =>
    have e : Value.ref a = Value.ref b := r
    cases e
    exact .tup h z dd
end Ep
namespace Ep
open PySem PySem.Spec L2 He
/-! ### short words for generated derivations -/
structure Bd (X : Cx) (G : Gm) (W : WX) (j : Nat) : Prop where
  eK : X.K = G.K
  eM : X.mg = G.mg
  tk : Takes X W
  rm : Room j X.A
  nd : X.N.Nodup
  calm : X.calm = true
theorem Bd.blk {X : Cx} {G : Gm} {W : WX} {j : Nat} (B : Bd X G W j) (s : Shared) (H : Hp) (scope : Scope) (cenv : PySem.Env) (fp : List Addr) : Bd (X.blk s H scope cenv fp) G W0 j := ⟨B.eK, B.eM, takes0, B.rm, B.nd, B.calm⟩
theorem bd_of {P : Program} {wd : World} {G : Gm} {base : Heap} {N ps : List Str} {qual : Str} {st : Stmt} {f : Addr} {cdv : Value} {A : Around} {outer : List PySem.Env} {s : Shared} {H : Hp} {E : XK} {k : Nat} (S : FnScope N ps (defScope st)) (hr : Room k (A.deeper (PyProof.Rows.envOfC qual (defScope st) s.heap.objs.size f cdv))) :
    Bd (cxB P wd G base N qual st f cdv A outer s H E) G (WD E) k := ⟨rfl, rfl, takes_of rfl rfl rfl rfl, hr, S.nd, rfl⟩
theorem po_of {P : Program} {wd : World} {G : Gm} {base : Heap} {N : List Str} {qual : Str} {st : Stmt} {f : Addr} {cdv : Value} {A : Around} {outer : List PySem.Env} {s : Shared} {H : Hp} {E : XK} :
    PassesOwn (model P wd) (cxB P wd G base N qual st f cdv A outer s H E).A (cxB P wd G base N qual st f cdv A outer s H E).env (cxB P wd G base N qual st f cdv A outer s H E).xe :=
  passes_of (X := cxB P wd G base N qual st f cdv A outer s H E) (K := fun e s'' => L2.CX P wd outer H s E e s'') (E₁ := fun e' s'' => L2.CX P wd outer H s E e' s'') rfl
section
variable {X : Cx} {G : Gm} {W : WX} {j : Nat} {pos p : Pos} {a b c : Expr} {f g h : Env → M T} {x : Str}
/-! names -/
theorem vr (i : Nat) (hN : X.N[i]? = some x := by rfl) (hv : Vis X.env.scope x := by first | exact Or.inl rfl | exact Or.inr (Or.inl rfl) | exact Or.inr (Or.inr rfl)) (hd : (x == ("__debug__" : Str)) = false := by decide) (hcd : (x == ("__classdict__" : Str)) = false := by decide) : SE X G W (.Name x pos) (fVar i) := s_var i hN hv hd hcd
theorem kv (i : Nat) (hN : X.N[i]? = some x := by rfl) (hv : Vis X.env.scope x := by first | exact Or.inl rfl | exact Or.inr (Or.inl rfl) | exact Or.inr (Or.inr rfl)) (hd : (x == ("__debug__" : Str)) = false := by decide) (hcd : (x == ("__classdict__" : Str)) = false := by decide) : SK X G W (.Name x pos) (fBor i) := k_var i hN hv hd hcd
theorem dvr (i : Nat) (hN : X.N[i]? = some x := by rfl) (hv : Vis X.env.scope x := by first | exact Or.inl rfl | exact Or.inr (Or.inl rfl) | exact Or.inr (Or.inr rfl)) (hd : (x == ("__debug__" : Str)) = false := by decide) (hcd : (x == ("__classdict__" : Str)) = false := by decide) : SD X G W (.Name x pos) (fBorD i) := d_var i hN hv hd hcd
theorem Bd.cls (B : Bd X G W j) (C : Nat) {cA : Addr} (hm : G.mg x = some (.ref cA)) (hx : x = G.cn C := by rfl) (hg : Gl X x := by rfl) (hd : (x == ("__debug__" : Str)) = false := by decide) : SE X G W (.Name x pos) (fC (.cl C)) := by
  subst hx
  exact s_glob hg (by rw [B.eM]; exact hm) (v := .ref cA) rfl (fun w => .cl hm) hd
theorem Bd.ty (B : Bd X G W j) (n : String) (hm : G.mg x = none) (hb : bootBuiltins x = some (.type n) := by rfl) (hg : Gl X x := by rfl) (hn : x ≠ "__name__" := by decide) (hd : (x == ("__debug__" : Str)) = false := by decide) : SE X G W (.Name x pos) (fC (.ty n)) := s_bltn hg (by rw [B.eM]; exact hm) hb (v := .ty n) rfl (fun w => .ty n) hn hd
theorem Bd.gint (B : Bd X G W j) (i : Int) (hm : ∃ t, G.mg x = some (.int i t)) (hg : Gl X x := by rfl) (hd : (x == ("__debug__" : Str)) = false := by decide) : SE X G W (.Name x pos) (fC (.int i)) := by
  obtain ⟨t, hm⟩ := hm
  exact s_glob hg (by rw [B.eM]; exact hm) (v := .int i) ⟨t, rfl⟩ (fun w => .int i) hd
theorem Bd.gstr (B : Bd X G W j) (z : Str) (hm : ∃ t, G.mg x = some (.str z t)) (hg : Gl X x := by rfl) (hd : (x == ("__debug__" : Str)) = false := by decide) : SE X G W (.Name x pos) (fC (.str z)) := by
  obtain ⟨t, hm⟩ := hm
  exact s_glob hg (by rw [B.eM]; exact hm) (v := .str z) ⟨t, rfl⟩ (fun w => .str z) hd
theorem Bd.gt (B : Bd X G W j) {xs : List T} (ok : GtOk G x xs) (hg : Gl X x := by rfl) (hd : (x == ("__debug__" : Str)) = false := by decide) : SE X G W (.Name x pos) (fC (.tup xs)) := s_gt ok B.eM hg hd
/-! arithmetic -/
theorem Bd.add (B : Bd X G W j) (ha : SE X G W a f) (hb : SE X G W b g) : SE X G W (.BinOp a .Add b pos) (fBin addT f g) := s_bin op_addA (v_add B.eK) ha hb
theorem Bd.sub (B : Bd X G W j) (ha : SE X G W a f) (hb : SE X G W b g) : SE X G W (.BinOp a .Sub b pos) (fBin subT f g) := s_bin op_sub v_sub ha hb
theorem Bd.mul (B : Bd X G W j) (ha : SE X G W a f) (hb : SE X G W b g) : SE X G W (.BinOp a .Mult b pos) (fBin mulT f g) := s_bin op_mulA (v_mul B.eK) ha hb
theorem Bd.div (B : Bd X G W j) (ha : SE X G W a f) (hb : SE X G W b g) : SE X G W (.BinOp a .FloorDiv b pos) (fBin divT f g) := s_bin op_divA v_div ha hb
theorem Bd.mod (B : Bd X G W j) (ha : SE X G W a f) (hb : SE X G W b g) : SE X G W (.BinOp a .Mod b pos) (fBin modT f g) := s_bin op_modA v_mod ha hb
theorem Bd.pow (B : Bd X G W j) (ha : SE X G W a f) (hb : SE X G W b g) : SE X G W (.BinOp a .Pow b pos) (fBin powT f g) := s_bin op_pow v_pow ha hb
theorem Bd.neg (B : Bd X G W j) (ha : SE X G W a f) : SE X G W (.UnaryOp .USub a pos) (fUn negT f) := s_un un_neg v_neg ha
/-! comparisons, as values and as tests -/
variable {p' : Env → M Bool}
theorem Bd.eq (B : Bd X G W j) (ha : SK X G W a f) (hb : SK X G W b g) (hm : behindInMarks .Eq b = false := by rfl) : SE X G W (.Compare a [.Eq] [b] pos) (fCmp eqT f g) := s_cmp (op_eqD B.rm.units) (v_eq B.eK) ha hb hm
theorem Bd.ne (B : Bd X G W j) (ha : SK X G W a f) (hb : SK X G W b g) (hm : behindInMarks .NotEq b = false := by rfl) : SE X G W (.Compare a [.NotEq] [b] pos) (fCmp neT f g) := s_cmp (op_neD B.rm.units) (v_ne B.eK) ha hb hm
theorem Bd.lt (B : Bd X G W j) (ha : SK X G W a f) (hb : SK X G W b g) (hm : behindInMarks .Lt b = false := by rfl) : SE X G W (.Compare a [.Lt] [b] pos) (fCmp ltT f g) := s_cmp op_lt v_lt ha hb hm
theorem Bd.le (B : Bd X G W j) (ha : SK X G W a f) (hb : SK X G W b g) (hm : behindInMarks .LtE b = false := by rfl) : SE X G W (.Compare a [.LtE] [b] pos) (fCmp leT f g) := s_cmp op_le v_le ha hb hm
theorem Bd.gtr (B : Bd X G W j) (ha : SK X G W a f) (hb : SK X G W b g) (hm : behindInMarks .Gt b = false := by rfl) : SE X G W (.Compare a [.Gt] [b] pos) (fCmp gtT f g) := s_cmp op_gt v_gt ha hb hm
theorem Bd.ge (B : Bd X G W j) (ha : SK X G W a f) (hb : SK X G W b g) (hm : behindInMarks .GtE b = false := by rfl) : SE X G W (.Compare a [.GtE] [b] pos) (fCmp geT f g) := s_cmp op_ge v_ge ha hb hm
theorem Bd.is_ (B : Bd X G W j) (ha : SK X G W a f) (hb : SK X G W b g) (hm : behindInMarks .Is b = false := by rfl) : SE X G W (.Compare a [.Is] [b] pos) (fCmp isT f g) := s_cmp op_isA v_is ha hb hm
theorem Bd.nis (B : Bd X G W j) (ha : SK X G W a f) (hb : SK X G W b g) (hm : behindInMarks .IsNot b = false := by rfl) : SE X G W (.Compare a [.IsNot] [b] pos) (fCmp nisT f g) := s_cmp op_notA v_nis ha hb hm
theorem units65 {A : Around} (r : Room j A) : A.units + 65 < cLine := by have := r.un; omega
theorem Bd.in_ (B : Bd X G W j) (ha : SK X G W a f) (hb : SK X G W b g) (hm : behindInMarks .In b = false := by rfl) : SE X G W (.Compare a [.In] [b] pos) (fCmp inT f g) := s_cmp (op_inA (units65 B.rm)) (v_in B.eK) ha hb hm
theorem Bd.nin (B : Bd X G W j) (ha : SK X G W a f) (hb : SK X G W b g) (hm : behindInMarks .NotIn b = false := by rfl) : SE X G W (.Compare a [.NotIn] [b] pos) (fCmp ninT f g) := s_cmp (op_ninA (units65 B.rm)) (v_nin B.eK) ha hb hm
theorem Bd.eqB (B : Bd X G W j) (ha : SK X G W a f) (hb : SK X G W b g) (hm : behindInMarks .Eq b = false := by rfl) : SB X G W (.Compare a [.Eq] [b] pos) (fCmpB eqT f g) := s_cmpB (op_eqD B.rm.units) (v_eq B.eK) ha hb hm
theorem Bd.neB (B : Bd X G W j) (ha : SK X G W a f) (hb : SK X G W b g) (hm : behindInMarks .NotEq b = false := by rfl) : SB X G W (.Compare a [.NotEq] [b] pos) (fCmpB neT f g) := s_cmpB (op_neD B.rm.units) (v_ne B.eK) ha hb hm
theorem Bd.ltB (B : Bd X G W j) (ha : SK X G W a f) (hb : SK X G W b g) (hm : behindInMarks .Lt b = false := by rfl) : SB X G W (.Compare a [.Lt] [b] pos) (fCmpB ltT f g) := s_cmpB op_lt v_lt ha hb hm
theorem Bd.leB (B : Bd X G W j) (ha : SK X G W a f) (hb : SK X G W b g) (hm : behindInMarks .LtE b = false := by rfl) : SB X G W (.Compare a [.LtE] [b] pos) (fCmpB leT f g) := s_cmpB op_le v_le ha hb hm
theorem Bd.gtB (B : Bd X G W j) (ha : SK X G W a f) (hb : SK X G W b g) (hm : behindInMarks .Gt b = false := by rfl) : SB X G W (.Compare a [.Gt] [b] pos) (fCmpB gtT f g) := s_cmpB op_gt v_gt ha hb hm
theorem Bd.geB (B : Bd X G W j) (ha : SK X G W a f) (hb : SK X G W b g) (hm : behindInMarks .GtE b = false := by rfl) : SB X G W (.Compare a [.GtE] [b] pos) (fCmpB geT f g) := s_cmpB op_ge v_ge ha hb hm
theorem Bd.isB (B : Bd X G W j) (ha : SK X G W a f) (hb : SK X G W b g) (hm : behindInMarks .Is b = false := by rfl) : SB X G W (.Compare a [.Is] [b] pos) (fCmpB isT f g) := s_cmpB op_isA v_is ha hb hm
theorem Bd.nisB (B : Bd X G W j) (ha : SK X G W a f) (hb : SK X G W b g) (hm : behindInMarks .IsNot b = false := by rfl) : SB X G W (.Compare a [.IsNot] [b] pos) (fCmpB nisT f g) := s_cmpB op_notA v_nis ha hb hm
theorem Bd.inB (B : Bd X G W j) (ha : SK X G W a f) (hb : SK X G W b g) (hm : behindInMarks .In b = false := by rfl) : SB X G W (.Compare a [.In] [b] pos) (fCmpB inT f g) := s_cmpB (op_inA (units65 B.rm)) (v_in B.eK) ha hb hm
theorem Bd.ninB (B : Bd X G W j) (ha : SK X G W a f) (hb : SK X G W b g) (hm : behindInMarks .NotIn b = false := by rfl) : SB X G W (.Compare a [.NotIn] [b] pos) (fCmpB ninT f g) := s_cmpB (op_ninA (units65 B.rm)) (v_nin B.eK) ha hb hm
/-- a value as a test -/
theorem Bd.tru (B : Bd X G W j) (ha : SE X G W a f) (he : ∀ whole, isTrue a X.env whole = (do let v ← whole; standAt a.pos; holding [v] (truthy v)) := by intro _; rfl) : SB X G W a (fTru f) := s_tru B.eK ha he
theorem vb (ha : SE X G W a f) (he : ∀ whole, isTrue a X.env whole = (do let v ← whole; standAt a.pos; holding [v] (truthy v)) := by intro _; rfl) : SB X G W a (fToB f) := s_val ha he
/-! built-ins -/
theorem Bd.len (B : Bd X G W j) (m : G.mg "len" = none) (ha : SK X G W a f) (hg : Gl X "len" := by rfl) (hs : starEach [a] X.env = (false, eval a X.env) :: starEach [] X.env := by rfl) : SE X G W (.Call (.Name "len" p) [a] [] pos) (fB1 lenT f) := s_b1 c_len (v_len B.eK) hg (by rw [B.eM]; exact m) rfl ha hs
theorem Bd.int (B : Bd X G W j) (m : G.mg "int" = none) (ha : SK X G W a f) (hg : Gl X "int" := by rfl) (hs : starEach [a] X.env = (false, eval a X.env) :: starEach [] X.env := by rfl) : SE X G W (.Call (.Name "int" p) [a] [] pos) (fB1 intT f) := s_t1 call_int1 v_int hg (by rw [B.eM]; exact m) rfl ha hs
theorem Bd.abs (B : Bd X G W j) (m : G.mg "abs" = none) (ha : SK X G W a f) (hg : Gl X "abs" := by rfl) (hs : starEach [a] X.env = (false, eval a X.env) :: starEach [] X.env := by rfl) : SE X G W (.Call (.Name "abs" p) [a] [] pos) (fB1 absT f) := s_b1 call_abs v_abs hg (by rw [B.eM]; exact m) rfl ha hs
theorem Bd.sum (B : Bd X G W j) (m : G.mg "sum" = none) (ha : SK X G W a f) (hg : Gl X "sum" := by rfl) (hs : starEach [a] X.env = (false, eval a X.env) :: starEach [] X.env := by rfl) : SE X G W (.Call (.Name "sum" p) [a] [] pos) (fB1 sumT f) := s_b1 (cr_sum B.calm) (v_sum B.eK) hg (by rw [B.eM]; exact m) rfl ha hs
theorem Bd.any (B : Bd X G W j) (m : G.mg "any" = none) (ha : SK X G W a f) (hg : Gl X "any" := by rfl) (hs : starEach [a] X.env = (false, eval a X.env) :: starEach [] X.env := by rfl) : SE X G W (.Call (.Name "any" p) [a] [] pos) (fB1 anyT f) := s_b1 (cr_any B.calm) (v_any B.eK) hg (by rw [B.eM]; exact m) rfl ha hs
theorem Bd.all (B : Bd X G W j) (m : G.mg "all" = none) (ha : SK X G W a f) (hg : Gl X "all" := by rfl) (hs : starEach [a] X.env = (false, eval a X.env) :: starEach [] X.env := by rfl) : SE X G W (.Call (.Name "all" p) [a] [] pos) (fB1 allT f) := s_b1 (cr_all B.calm) (v_all B.eK) hg (by rw [B.eM]; exact m) rfl ha hs
theorem Bd.max1 (B : Bd X G W j) (m : G.mg "max" = none) (ha : SK X G W a f) (hg : Gl X "max" := by rfl) (hs : starEach [a] X.env = (false, eval a X.env) :: starEach [] X.env := by rfl) : SE X G W (.Call (.Name "max" p) [a] [] pos) (fB1 maxT f) := s_b1 (cr_max B.calm) (v_max B.eK) hg (by rw [B.eM]; exact m) rfl ha hs
theorem Bd.min1 (B : Bd X G W j) (m : G.mg "min" = none) (ha : SK X G W a f) (hg : Gl X "min" := by rfl) (hs : starEach [a] X.env = (false, eval a X.env) :: starEach [] X.env := by rfl) : SE X G W (.Call (.Name "min" p) [a] [] pos) (fB1 minT f) := s_b1 (cr_min B.calm) (v_min B.eK) hg (by rw [B.eM]; exact m) rfl ha hs
theorem Bd.tuple (B : Bd X G W j) (m : G.mg "tuple" = none) (ha : SK X G W a f) (hg : Gl X "tuple" := by rfl) (hs : starEach [a] X.env = (false, eval a X.env) :: starEach [] X.env := by rfl) : SE X G W (.Call (.Name "tuple" p) [a] [] pos) (fB1 tupT f) := s_t1 call_tuple_of (v_tup B.eK) hg (by rw [B.eM]; exact m) rfl ha hs
theorem Bd.list (B : Bd X G W j) (m : G.mg "list" = none) (ha : SK X G W a f) (hg : Gl X "list" := by rfl) (hs : starEach [a] X.env = (false, eval a X.env) :: starEach [] X.env := by rfl) : SE X G W (.Call (.Name "list" p) [a] [] pos) (fB1 lisT f) := s_t1 call_list_of (v_lis B.eK) hg (by rw [B.eM]; exact m) rfl ha hs
theorem Bd.max2 (B : Bd X G W j) (m : G.mg "max" = none) (ha : SE X G W a f) (hb : SE X G W b g) (hg : Gl X "max" := by rfl) (hs : starEach [a, b] X.env = (false, eval a X.env) :: starEach [b] X.env := by rfl) (hs2 : starEach [b] X.env = (false, eval b X.env) :: starEach [] X.env := by rfl) (hpl : (backTo pos (starEach [b] X.env)).any (·.1) = false := by rfl) : SE X G W (.Call (.Name "max" p) [a, b] [] pos) (fBin max2T f g) := s_b2 (call_max2 B.calm) v_max2 hg (by rw [B.eM]; exact m) rfl ha hb hs hs2 (by decide) (by decide) hpl
theorem Bd.min2 (B : Bd X G W j) (m : G.mg "min" = none) (ha : SE X G W a f) (hb : SE X G W b g) (hg : Gl X "min" := by rfl) (hs : starEach [a, b] X.env = (false, eval a X.env) :: starEach [b] X.env := by rfl) (hs2 : starEach [b] X.env = (false, eval b X.env) :: starEach [] X.env := by rfl) (hpl : (backTo pos (starEach [b] X.env)).any (·.1) = false := by rfl) : SE X G W (.Call (.Name "min" p) [a, b] [] pos) (fBin min2T f g) := s_b2 (call_min2 B.calm) v_min2 hg (by rw [B.eM]; exact m) rfl ha hb hs hs2 (by decide) (by decide) hpl
theorem Bd.isi (B : Bd X G W j) {tb : Kd → Cl → Option Bool} (ok : TabOk G tb) (m : G.mg "isinstance" = none) (ha : SE X G W a f) (hb : SE X G W b g) (hg : Gl X "isinstance" := by rfl) (hs : starEach [a, b] X.env = (false, eval a X.env) :: starEach [b] X.env := by rfl) (hs2 : starEach [b] X.env = (false, eval b X.env) :: starEach [] X.env := by rfl) (hpl : (backTo pos (starEach [b] X.env)).any (·.1) = false := by rfl) : SE X G W (.Call (.Name "isinstance" p) [a, b] [] pos) (fBin (isiT tb) f g) := s_b2 c_isi (v_isi ok B.eK) hg (by rw [B.eM]; exact m) rfl ha hb hs hs2 (by decide) (by decide) hpl
/-! items, fields, dicts -/
theorem Bd.ix (B : Bd X G W j) (ha : SK X G W a f) (hb : SE X G W b g) (hs : PlainIx b := by intro _ _; rfl) : SE X G W (.Subscript a b pos) (fIx f g) := s_ix B.eK ha hb hs
theorem Bd.sl (B : Bd X G W j) {lo hi : Option Expr} {fl fh : Option (Env → M T)} {p2 : Pos} (ha : SK X G W a f) (hl : PO X lo (tSO G W fl)) (hh : PO X hi (tSO G W fh)) : SE X G W (.Subscript a (.Slice lo hi none p2) pos) (fSl f fl fh) := s_sl B.eK ha hl hh
theorem Bd.fld (B : Bd X G W j) {name : Str} (m : Nat → Option Nat) (ok : ∀ C j, m C = some j → FldOk G name C j) (ha : SE X G W a f) (hb : attributeBase a name X.env (eval a X.env) = eval a X.env := by rfl) : SE X G W (.Attribute a name pos) (fFld m f) := s_fld B.eK m ok ha hb
theorem Bd.dget (B : Bd X G W j) (ha : SD X G W a f) (hi : SE X G W b g) (hs : NoSl b := by intro _ _; rfl) : SE X G W (.Subscript a b pos) (fDget f g) := s_dget (by have := B.rm.units; omega) ha hi hs
theorem Bd.gd (B : Bd X G W j) {px : Pos} {tb : Str → Option (Option T)} (ok : GgOk X.w G x tb) (hi : SE X G W b f) (hg : Gl X x := by rfl) (hs : PlainIx b := by intro _ _; rfl) (hd : (x == ("__debug__" : Str)) = false := by decide) : SE X G W (.Subscript (.Name x px) b pos) (fGd (fun z => (tb z).bind id) f) := s_gd ok.gd B.eK B.eM hg hi hs hd
theorem Bd.gget (B : Bd X G W j) {px apos : Pos} {tb : Str → Option (Option T)} (ok : GgOk X.w G x tb) (hi : SE X G W b f) (hc : SE X G W c g) (hg : Gl X x := by rfl) (m : M2 X (.Name x px) "get" apos b c pos := by exact ⟨rfl, rfl, rfl, rfl⟩) (hd : (x == ("__debug__" : Str)) = false := by decide) : SE X G W (.Call (.Attribute (.Name x px) "get" apos) [b, c] [] pos) (fGget tb f g) := s_gget ok B.eK B.eM hg hi hc m hd
theorem Bd.idxL (B : Bd X G W j) {apos : Pos} (ha : SK X G W a f) (he : SE X G W b g) (hbase : attributeBase a "index" X.env (eval a X.env) = eval a X.env := by rfl)
    (hfew : ((backTo pos (starEach [b] X.env)).all (fun x => !x.1) && (backToKw pos (keywordEach [] X.env)).all (fun x => x.1.isSome) && decide (([b] : List Expr).length + ([] : List Keyword).length + (if ([] : List Keyword).isEmpty then 0 else 1) < 30)) = true := by rfl)
    (hline : (apos.endLine == pos.line) = true := by rfl) (hs : starEach [b] X.env = (false, eval b X.env) :: starEach [] X.env := by rfl) : SE X G W (.Call (.Attribute a "index" apos) [b] [] pos) (fIdxL f g) := s_idxL B.eK ha he hbase hfew hline hs
theorem Bd.idxG (B : Bd X G W j) {px apos : Pos} {xs : List T} (ok : GtOk G x xs) (he : SE X G W b g) (hg : Gl X x := by rfl) (hbase : attributeBase (.Name x px) "index" X.env (eval (.Name x px) X.env) = eval (.Name x px) X.env := by rfl)
    (hfew : ((backTo pos (starEach [b] X.env)).all (fun x => !x.1) && (backToKw pos (keywordEach [] X.env)).all (fun x => x.1.isSome) && decide (([b] : List Expr).length + ([] : List Keyword).length + (if ([] : List Keyword).isEmpty then 0 else 1) < 30)) = true := by rfl)
    (hline : (apos.endLine == pos.line) = true := by rfl) (hs : starEach [b] X.env = (false, eval b X.env) :: starEach [] X.env := by rfl) (hd : (x == ("__debug__" : Str)) = false := by decide) : SE X G W (.Call (.Attribute (.Name x px) "index" apos) [b] [] pos) (fIdxG xs g) := s_idxG ok B.eK B.eM hg he hbase hfew hline hs (hd := hd)
/-! calls -/
variable {es : List Expr} {fs : List (Env → M T)} {ds : List T} {k n C : Nat} {apos : Pos}
theorem Bd.call (B : Bd X G W j) {F : List T → M T} (D : DefOk X.prog X.w X.base G k x n ds F) (ha : SA X G W (a :: es) fs) (hk : k ≤ j := by decide) (hn : fs.length + ds.length = n := by rfl) (hg : Gl X x := by rfl)
    (hdb : (x == ("__debug__" : Str)) = false := by decide) (he : starEach (a :: es) X.env = (false, eval a X.env) :: starEach es X.env := by rfl) (hpl : (backTo pos (starEach es X.env)).any (·.1) = false := by rfl) : SE X G W (.Call (.Name x p) (a :: es) [] pos) (fCall F ds fs) := s_call D B.eK B.eM B.tk B.rm hk hg ha hn hdb he hpl
theorem Bd.call0 (B : Bd X G W j) {F : List T → M T} (D : DefOk X.prog X.w X.base G k x n ds F) (hk : k ≤ j := by decide) (hn : ds.length = n := by rfl) (hg : Gl X x := by rfl) (hdb : (x == ("__debug__" : Str)) = false := by decide) : SE X G W (.Call (.Name x p) [] [] pos) (fCall F ds []) := s_call0 D B.eK B.eM B.tk B.rm hk hg hn hdb
theorem Bd.make (B : Bd X G W j) {F : List T → M (List T)} (D : MakeOk X.prog X.w X.base G k C n ds F) (ha : SA X G W (a :: es) fs) (hk : k + 1 ≤ j := by decide) (hn : fs.length + ds.length = n := by rfl) (hx : x = G.cn C := by rfl) (hg : Gl X x := by rfl)
    (hdb : (x == ("__debug__" : Str)) = false := by decide) (he : starEach (a :: es) X.env = (false, eval a X.env) :: starEach es X.env := by rfl) (hpl : (backTo pos (starEach es X.env)).any (·.1) = false := by rfl) : SE X G W (.Call (.Name x p) (a :: es) [] pos) (fMake C F ds fs) := s_make D hx B.eK B.eM B.tk B.rm hk hg ha hn hdb he hpl
/-! statements -/
variable {st : Stmt} {rest body : List Stmt} {gg : Sm} {i : Nat}
theorem Bd.set (B : Bd X G W j) (i : Nat) {pos' : Pos} (he : SE X G W a f) (hi : X.N[i]? = some x := by rfl) (hx : Loc X.env.scope x := by first | exact Or.inl rfl | exact Or.inr rfl) (hs : swapsWith a (some (.Name x pos')) pos.line X.env = pure false := by rfl) (hf : X.fn x = true ∨ X.env.scope.names.lookup x = some .local := by first | exact .inl rfl | exact .inr rfl) : SS X G W (.Assign [.Name x pos'] a pos) (qSet i f) := ss_set B.nd hi hx he hs hf
theorem Bd.own (B : Bd X G W j) (i : Nat) {pos' : Pos} {f : Env → M (List T)} (he : SL X G W a f) (hi : X.N[i]? = some x := by rfl) (hx : Loc X.env.scope x := by first | exact Or.inl rfl | exact Or.inr rfl) (hs : swapsWith a (some (.Name x pos')) pos.line X.env = pure false := by rfl) (hf : X.fn x = true ∨ X.env.scope.names.lookup x = some .local := by first | exact .inl rfl | exact .inr rfl) : SS X G W (.Assign [.Name x pos'] a pos) (qOwn i f) := ss_own B.nd hi hx he hs hf
theorem Bd.ownD (B : Bd X G W j) (i : Nat) {pos' : Pos} {f : Env → M (List Key × List T)} (he : SN X G W a f) (hi : X.N[i]? = some x := by rfl) (hx : Loc X.env.scope x := by first | exact Or.inl rfl | exact Or.inr rfl) (hs : swapsWith a (some (.Name x pos')) pos.line X.env = pure false := by rfl) (hf : X.fn x = true ∨ X.env.scope.names.lookup x = some .local := by first | exact .inl rfl | exact .inr rfl) : SS X G W (.Assign [.Name x pos'] a pos) (qOwnD i f) := ss_ownD B.nd hi hx he hs hf
theorem Bd.par2 (B : Bd X G W j) (i l : Nat) {y : Str} {e1 e2 : Expr} {px py pt : Pos} {kt k2 pt2} (ha : SA X G W [e1, e2] [f, g]) (hi : X.N[i]? = some x := by rfl) (hj : X.N[l]? = some y := by rfl) (hij : i ≠ l := by decide)
    (hx : X.env.scope.names.lookup x = some .local := by rfl) (hy : X.env.scope.names.lookup y = some .local := by rfl)
    (hw : swappedStores [.Tuple [.Name x px, .Name y py] kt pt] (.Tuple [e1, e2] k2 pt2) X.env = pure (some [x, y]) := by rfl)
    (hs : swapsWithSole [.Tuple [.Name x px, .Name y py] kt pt] (.Tuple [e1, e2] k2 pt2) pos.line X.env = pure false := by rfl) :
    SS X G W (.Assign [.Tuple [.Name x px, .Name y py] kt pt] (.Tuple [e1, e2] k2 pt2) pos) (qPar2 i l f g) := ss_par2 B.calm B.nd hi hj hij hx hy ha hw hs
theorem Bd.par3 (B : Bd X G W j) (i l m : Nat) {y z : Str} {e1 e2 e3 : Expr} {f1 f2 f3 : Env → M T} {px py pz pt : Pos} {kt k2 pt2} (ha : SA X G W [e1, e2, e3] [f1, f2, f3]) (hi : X.N[i]? = some x := by rfl) (hj : X.N[l]? = some y := by rfl) (hl : X.N[m]? = some z := by rfl) (hij : i ≠ l := by decide) (hil : i ≠ m := by decide) (hjl : l ≠ m := by decide)
    (hx : X.env.scope.names.lookup x = some .local := by rfl) (hy : X.env.scope.names.lookup y = some .local := by rfl) (hz : X.env.scope.names.lookup z = some .local := by rfl)
    (hw : swappedStores [.Tuple [.Name x px, .Name y py, .Name z pz] kt pt] (.Tuple [e1, e2, e3] k2 pt2) X.env = pure (some [x, y, z]) := by rfl)
    (hs : swapsWithSole [.Tuple [.Name x px, .Name y py, .Name z pz] kt pt] (.Tuple [e1, e2, e3] k2 pt2) pos.line X.env = pure false := by rfl) :
    SS X G W (.Assign [.Tuple [.Name x px, .Name y py, .Name z pz] kt pt] (.Tuple [e1, e2, e3] k2 pt2) pos) (qPar3 i l m [f1, f2, f3]) := ss_par3 B.calm B.nd hi hj hl hij hil hjl hx hy hz ha hw hs
theorem Bd.nm (B : Bd X G W j) (i : Nat) (hi : X.N[i]? = some x := by rfl) (hx : Loc X.env.scope x := by first | exact Or.inl rfl | exact Or.inr rfl) (hf : X.fn x = true ∨ X.env.scope.names.lookup x = some .local := by first | exact .inl rfl | exact .inr rfl) : SG X G [i] (.Name x pos) (hName i) := g_name B.nd hi hx hf
theorem Bd.tg (B : Bd X G W j) {us : List Nat} {kk : Nat} {hs : List T → Env → Option Env} (n : Nat) (h : SGs X G us es hs) (hn : (assignEach es X.env).length = n := by rfl) (hst : (assignEach es X.env).findIdx? (·.1) = none := by rfl) : SG X G us (.Tuple es kk pos) (hTup n hs) := g_tup B.calm B.eK h hn hst
theorem Bd.tgq (B : Bd X G W j) {kk : Nat} {hs : List T → Sm} (n : Nat) (h : SGqs X G W es hs) (hn : (assignEach es X.env).length = n := by rfl) (hst : (assignEach es X.env).findIdx? (·.1) = none := by rfl) : SGq X G W (.Tuple es kk pos) (hqTup n hs) := gq_tup B.calm B.eK h hn hst
theorem Bd.dputq (B : Bd X G W j) (i : Nat) {px : Pos} (hi : SE X G W b g) (hN : X.N[i]? = some x := by rfl) (hv : Vis X.env.scope x := by first | exact Or.inl rfl | exact Or.inr (Or.inl rfl) | exact Or.inr (Or.inr rfl))
    (ha : ∀ v, assign (.Subscript (.Name x px) b pos) X.env v = (do let ov ← holding [v] (eval (.Name x px) X.env); let iv ← holding [v, ov] (eval b X.env); standAt pos; holding [v, ov, iv] (setItem ov iv v); release [v, ov, iv] []) := by intro _; rfl) (hd : (x == ("__debug__" : Str)) = false := by decide) (hcd : (x == ("__classdict__" : Str)) = false := by decide) : SGq X G W (.Subscript (.Name x px) b pos) (hqDput i g) := gq_dput i (by have := B.rm.units; omega) hN hv hi ha hd hcd
theorem Bd.put (B : Bd X G W j) (i : Nat) {px spos : Pos} (he : SE X G W a f) (hi : SE X G W b g) (hN : X.N[i]? = some x := by rfl) (hv : Vis X.env.scope x := by first | exact Or.inl rfl | exact Or.inr (Or.inl rfl) | exact Or.inr (Or.inr rfl))
    (ha : ∀ v, assign (.Subscript (.Name x px) b spos) X.env v = (do let ov ← holding [v] (eval (.Name x px) X.env); let iv ← holding [v, ov] (eval b X.env); standAt spos; holding [v, ov, iv] (setItem ov iv v); release [v, ov, iv] []) := by intro _; rfl)
    (hs : swapsWithSole [.Subscript (.Name x px) b spos] a pos.line X.env = pure false := by rfl) (hw : swappedStores [.Subscript (.Name x px) b spos] a X.env = pure none := by rfl) (hd : (x == ("__debug__" : Str)) = false := by decide) (hcd : (x == ("__classdict__" : Str)) = false := by decide) :
    SS X G W (.Assign [.Subscript (.Name x px) b spos] a pos) (qSetIx i f g) := ss_setIx i hN hv he hi ha hs hw (hd := hd) (hcd := hcd)
end
section
variable {X : Cx} {G : Gm} {W : WX} {j : Nat} {pos spos py : Pos} {elt tg iter : Expr} {ifs : List Expr} {scope : Scope} {own : List (Str × Nat)} {us : List Nat} {h : T → Env → Option Env} {fi : Env → M (List T)} {f : Env → M T} {p : Env → M Bool} {y : Str}
theorem Bd.comp (B : Bd X G W j) (own : List (Str × Nat)) (hi : SI X G W tg iter fi)
    (hg : ∀ (s : Shared) (H : Hp) (C : Addr) (cl : List (Str × Addr)) (fp : List Addr), SG (X.blk s H scope (compEnvC scope cl C X.env) fp) G us tg h) (ht : ∀ (s : Shared) (H : Hp) (C : Addr) (cl : List (Str × Addr)) (fp : List Addr), STs (X.blk s H scope (compEnvC scope cl C X.env) fp) G ifs p)
    (he : ∀ (s : Shared) (H : Hp) (C : Addr) (cl : List (Str × Addr)) (fp : List Addr), SE (X.blk s H scope (compEnvC scope cl C X.env) fp) G W0 elt f) (ok : blkC X.N X.env.scope scope own = true := by kernel_rfl) (hu : ∀ j ∈ us, j ∈ own.map (·.2) := by decide) (hs : ∀ x, foldedSetIterable iter X.env x = pure x := by intro _; rfl) : SL X G W (.ListComp elt [⟨tg, iter, ifs, 0⟩] scope pos) (fComp (own.map (·.2)) h p f fi) := l_comp B.calm B.nd hi (blkOk_by ok) hu hg ht he hs
theorem Bd.setC (B : Bd X G W j) (i : Nat) (own : List (Str × Nat)) (hi : SI X G W tg iter fi)
    (hg : ∀ (s : Shared) (H : Hp) (C : Addr) (cl : List (Str × Addr)) (fp : List Addr), SG (X.blk s H scope (compEnvC scope cl C X.env) fp) G us tg h) (ht : ∀ (s : Shared) (H : Hp) (C : Addr) (cl : List (Str × Addr)) (fp : List Addr), STs (X.blk s H scope (compEnvC scope cl C X.env) fp) G ifs p)
    (he : ∀ (s : Shared) (H : Hp) (C : Addr) (cl : List (Str × Addr)) (fp : List Addr), SE (X.blk s H scope (compEnvC scope cl C X.env) fp) G W0 elt f) (ok : blkC X.N X.env.scope scope own = true := by kernel_rfl) (hu : ∀ j ∈ us, j ∈ own.map (·.2) := by decide)
    (hy : X.N[i]? = some y := by rfl) (hyl : X.env.scope.names.lookup y = some .local := by rfl) (hsw : swapsWith (.ListComp elt [⟨tg, iter, ifs, 0⟩] scope pos) (some (.Name y py)) spos.line X.env = pure true := by rfl) (hs : ∀ x, foldedSetIterable iter X.env x = pure x := by intro _; rfl) : SS X G W (.Assign [.Name y py] (.ListComp elt [⟨tg, iter, ifs, 0⟩] scope pos) spos) (qSet i (fOwn (fComp (own.map (·.2)) h p f fi))) := ss_compV B.calm B.nd hy hyl hsw hi (blkOk_by ok) hu hg ht he hs
theorem Bd.ownC (B : Bd X G W j) (i : Nat) (own : List (Str × Nat)) (hi : SI X G W tg iter fi)
    (hg : ∀ (s : Shared) (H : Hp) (C : Addr) (cl : List (Str × Addr)) (fp : List Addr), SG (X.blk s H scope (compEnvC scope cl C X.env) fp) G us tg h) (ht : ∀ (s : Shared) (H : Hp) (C : Addr) (cl : List (Str × Addr)) (fp : List Addr), STs (X.blk s H scope (compEnvC scope cl C X.env) fp) G ifs p)
    (he : ∀ (s : Shared) (H : Hp) (C : Addr) (cl : List (Str × Addr)) (fp : List Addr), SE (X.blk s H scope (compEnvC scope cl C X.env) fp) G W0 elt f) (ok : blkC X.N X.env.scope scope own = true := by kernel_rfl) (hu : ∀ j ∈ us, j ∈ own.map (·.2) := by decide)
    (hy : X.N[i]? = some y := by rfl) (hyl : X.env.scope.names.lookup y = some .local := by rfl) (hsw : swapsWith (.ListComp elt [⟨tg, iter, ifs, 0⟩] scope pos) (some (.Name y py)) spos.line X.env = pure true := by rfl) (hs : ∀ x, foldedSetIterable iter X.env x = pure x := by intro _; rfl) : SS X G W (.Assign [.Name y py] (.ListComp elt [⟨tg, iter, ifs, 0⟩] scope pos) spos) (qOwn i (fComp (own.map (·.2)) h p f fi)) := ss_comp B.calm B.nd hy hyl hsw hi (blkOk_by ok) hu hg ht he hs
end
section
variable {X : Cx} {G : Gm} {W : WX} {pos : Pos} {a b : Expr} {f g : Env → M T} {C j k k' : Nat} {F : List T → M T} {p : List T → RS → Option RS}
theorem tob_read {f : Env → M T} {σ : L2.St} {H : Hp} {Q : Bool → Hp → Prop} (h : tSB G W (fToB f) σ H Q) : tS G W f σ H (fun v H1 => ∃ k, v = .bl k ∧ Q k H1) := by
  obtain ⟨w, H0, env, r, g0, s, h0⟩ := h
  refine ⟨w, H0, env, r, g0, s, h0.bind.imp fun t r1 w1 H1 st g1 q v d => ?_⟩
  cases d with
  | bl b => exact ⟨b, rfl, OutP.here g1 q⟩
  | _ => exact q.elim
theorem b_ownC {op : CmpOp} (hop : ∀ a b, compareOp op a b = richCompare op a b) (D : MethOk X.prog X.w X.base G k C (cmpInfo op).2.1 2 [] F) (hK : X.K = G.K) (hM : X.mg = G.mg) (hr : Room j X.A) (hk : k ≤ j) (ha : SE X G W a f) (hb : SE X G W b g) (hm : behindInMarks op b = false) :
    SB X G W (.Compare a [op] [b] pos) (fToB fun env => f env >>= fun x => g env >>= fun y => own2s C F x y) := pt_imp (pt_cmpR (op_ownC hop D hK hM hr hk) ha hb hm) fun σ H Q hq => own_use own2s_ne (tob_read hq)
theorem b_ownN (D : MethOk X.prog X.w X.base G k C "__eq__" 2 [] F) (ne : NeOk G C) (hK : X.K = G.K) (hM : X.mg = G.mg) (hr : Room j X.A) (hk : k + 1 ≤ j) (ha : SE X G W a f) (hb : SE X G W b g) (hm : behindInMarks .NotEq b = false) :
    SB X G W (.Compare a [.NotEq] [b] pos) (fToB fun env => f env >>= fun x => g env >>= fun y => own2n C F x y) := pt_imp (pt_cmpR (op_ownN D ne hK hM hr hk) ha hb hm) fun σ H Q hq => own_use own2n_ne (tob_read hq)
theorem b_ownE (D : MethOk X.prog X.w X.base G k C "__eq__" 2 [] F) (N : NiOk X.prog X.w X.base G k' C p) (hK : X.K = G.K) (hM : X.mg = G.mg) (hr : Room j X.A) (hk : k ≤ j) (hk' : k' ≤ j) (ha : SE X G W a f) (hb : SE X G W b g) (hm : behindInMarks .Eq b = false) :
    SB X G W (.Compare a [.Eq] [b] pos) (fToB fun env => f env >>= fun x => g env >>= fun y => ownE C F p x y) := pt_imp (pt_cmpR (op_ownE D N hK hM hr hk hk') ha hb hm) fun σ H Q hq => own_use ownE_ne (tob_read hq)
end
/-! ### the end -/
/-- what stands, the tables left out -/
def noTb (H : Hp) : Hp := fun b => match H b with
  | some (.tbl _) => none
  | o => o
theorem noTb_at {H : Hp} {b : Addr} {o : HO} (h : H b = some o) (n : NoTab o) : noTb H b = some o := by
  unfold noTb
  rw [h]
  cases o <;> first | rfl | exact absurd rfl (n _)
theorem noTb_of {H : Hp} {b : Addr} {o : HO} (h : noTb H b = some o) : H b = some o ∧ NoTab o := by
  unfold noTb at h
  cases e : H b with
  | none => rw [e] at h; cases h
  | some u =>
    rw [e] at h
    cases u <;> first | (cases h; exact ⟨rfl, fun _ z => by cases z⟩) | cases h
theorem noTb_seq {K : PySem.W.Frag} {H : Hp} {a : Addr} {xs : List V} (h : SqL K H a xs) : SqL K (noTb H) a xs := by
  rcases h with (h | ⟨o, h⟩) | h
  · exact .inl (.inl (noTb_at h (fun _ z => by cases z)))
  · exact .inl (.inr ⟨o, noTb_at h (fun _ z => by cases z)⟩)
  · exact .inr h
theorem law_end {l : PySem.W.OpenLaw} {q : Program} {loose : List Str} {XP : (Str → Option Value) → Heap → Prop} {YP : World → Heap → Prop} {d : DefRec} {K : Params → PySem.W.Frag} {x : Str} (k : Nat) (hn : l.most = some 63) (hdf : d.params.defaults = []) (hr : Room k callerA)
    (hY : ∀ (w : World) (h : Heap), YP w h → (K w.params).In h)
    (F : ∀ (w : World) (mg : Str → Option Value) (fa : Addr) (h : Heap), YP w h → (K w.params).In h → h.Ns mainGlobals mg → mg d.name = some (.ref fa) → ∃ (G : Gm) (f : List T → M T) (fd : FuncData) (cs : List (Addr × Addr)), G.K = K w.params ∧ G.mg = mg ∧ (∀ (s : Shared) (u : Value), BindsTo s fd ⟨[u], []⟩ [(x, u)]) ∧
      (∀ p ∈ cs, h.get? p.2 = some { cls := .none, data := .fields #[] }) ∧ (∀ p ∈ cs, (K w.params).lookup p.2 = none) ∧ (∀ p ∈ cs, PySem.W.CodeHd h p.1 p.2) ∧ (∀ t ∈ G.tb, ∃ c, (c, t.1) ∈ cs) ∧
      (∀ ns : List Int, ns.length ≤ 63 → (∀ z ∈ ns, Builtin.Int.intBits z ≤ 1048576) → ∃ r, f [.kls (ns.map T.int)] [] = .ok (.bl true) r) ∧ ∀ base : Heap, (K w.params).In base → base.Ns mainGlobals mg → (∀ p ∈ cs, LamX.TabB base mg p.1 p.2) → FnOk l.prog w G.K G.mg base (L2.CX l.prog w) k fa fd [x] (spF G 1 f)) :
    PySem.W.WalkO q loose XP YP l.row.toRowW d [] (fun f vs => PySem.call f vs) :=
  LamX.walk_ofTs (n := 63) (k := k) (x := x) (K := K) (CX := fun w => L2.CX l.prog w) hn (by decide) hdf hr hY (fun w mg fa h Y KX Ns hm => by
    obtain ⟨G, f, fd, cs, e1, e2, hb, t1, t2, t3, t4, hv, hF⟩ := F w mg fa h Y KX Ns hm
    refine ⟨fd, cs, spF G 1 f, t1, t2, t3, hb, fun H a ns hl hbits hT hS => ?_, fun base KB NB hTB => ?_⟩
    · obtain ⟨r, er⟩ := hv ns hl hbits
      have dint : ∀ (ns : List Int) (w : Wd), Dens G w (ns.map V.int) (ns.map T.int) := fun ns w => by
        induction ns with
        | nil => exact .nil
        | cons n ns ih => exact .cons (.int n) ih
      refine ⟨⟨noTb H, [], ⟨0, 0, 0⟩⟩, [], [.kls (ns.map T.int)], ⟨fun b o e => (noTb_of e).1, ⟨List.nodup_nil, rfl, fun a h => (by cases h), fun k xs h => (by cases h)⟩, fun p hp => ?_, fun b o e => (noTb_of e).2⟩, .cons (.kls (by rw [e1]; exact noTb_seq hS) (by rw [List.length_map, sizeLine_eq]; omega) (dint ns _)) .nil, rfl, ?_⟩
      · obtain ⟨c, hc⟩ := t4 p hp
        exact LamX.TabS.nil (hT _ hc)
      · rw [er]
        intro w' H' st g v d
        cases d
        rfl
    · have := hF base KB NB hTB
      rw [e1, e2] at this
      exact this) fun w H s e s' ⟨_, _, _, _, _, _, _, _, _, _, _, _, z⟩ => z
end Ep
namespace Ep
open PySem PySem.Spec L2
/-! ### computations, step by step -/
section
variable {f g k : Env → M T} {p q : Env → M Bool} {env env' env2 : Env} {r r1 r2 r3 : RS} {x y z t : T} {s s' : Sm} {so : SO} {b c : Bool}
theorem bind_ok {α β : Type} {m : M α} {k : α → M β} {a : α} {o : Out β} (h1 : m r = .ok a r1) (h2 : k a r1 = o) : (m >>= k) r = o := by
  show M.bind m k r = o
  unfold M.bind
  rw [h1]
  exact h2
theorem e_bin {h : T → T → Option T} (h1 : f env r = .ok x r1) (h2 : g env r1 = .ok y r2) (h3 : h x y = some z) : fBin h f g env r = .ok z r2 := bind_ok h1 (bind_ok h2 (by rw [h3]; rfl))
theorem e_un {h : T → Option T} (h1 : f env r = .ok x r1) (h3 : h x = some z) : fUn h f env r = .ok z r1 := bind_ok h1 (by rw [h3]; rfl)
theorem e_cmp {h : T → T → Option Bool} (h1 : f env r = .ok x r1) (h2 : g env r1 = .ok y r2) (h3 : h x y = some b) : fCmp h f g env r = .ok (.bl b) r2 := e_bin h1 h2 (by rw [h3]; rfl)
theorem e_cmpB {h : T → T → Option Bool} (h1 : f env r = .ok x r1) (h2 : g env r1 = .ok y r2) (h3 : h x y = some b) : fCmpB h f g env r = .ok b r2 := bind_ok h1 (bind_ok h2 (by rw [h3]; rfl))
theorem e_b1 {h : RS → T → Option T} (h1 : f env r = .ok x r1) (h3 : h r1 x = some z) : fB1 h f env r = .ok z r1 := bind_ok h1 (by
  show M.lift (h r1 x) r1 = _
  rw [h3]; rfl)
theorem e_ix (h1 : f env r = .ok x r1) (h2 : g env r1 = .ok y r2) (h3 : ixT r2 x y = some z) : fIx f g env r = .ok z r2 := bind_ok h1 (bind_ok h2 (by
  show M.lift (ixT r2 x y) r2 = _
  rw [h3]; rfl))
theorem e_andF (h1 : f env r = .ok (.bl false) r1) : fAnd f g env r = .ok (.bl false) r1 := bind_ok h1 rfl
theorem e_andT {o : Out T} (h1 : f env r = .ok (.bl true) r1) (h2 : g env r1 = o) : fAnd f g env r = o := bind_ok h1 h2
theorem e_orT (h1 : f env r = .ok (.bl true) r1) : fOr f g env r = .ok (.bl true) r1 := bind_ok h1 rfl
theorem e_orF {o : Out T} (h1 : f env r = .ok (.bl false) r1) (h2 : g env r1 = o) : fOr f g env r = o := bind_ok h1 h2
theorem e_not (h1 : f env r = .ok (.bl b) r1) : fNot f env r = .ok (.bl !b) r1 := bind_ok h1 rfl
theorem e_andBF (h1 : p env r = .ok false r1) : fAndB p q env r = .ok false r1 := bind_ok h1 rfl
theorem e_andBT {o : Out Bool} (h1 : p env r = .ok true r1) (h2 : q env r1 = o) : fAndB p q env r = o := bind_ok h1 h2
theorem e_orBT (h1 : p env r = .ok true r1) : fOrB p q env r = .ok true r1 := bind_ok h1 rfl
theorem e_orBF {o : Out Bool} (h1 : p env r = .ok false r1) (h2 : q env r1 = o) : fOrB p q env r = o := bind_ok h1 h2
theorem e_notB (h1 : p env r = .ok b r1) : fNotB p env r = .ok (!b) r1 := bind_ok h1 rfl
theorem e_toB (h1 : f env r = .ok (.bl b) r1) : fToB f env r = .ok b r1 := bind_ok h1 rfl
theorem e_tru (h1 : f env r = .ok x r1) (h2 : truT x = some b) : fTru f env r = .ok b r1 := bind_ok h1 (by rw [h2]; rfl)
theorem e_ifT {o : Out T} (h1 : p env r = .ok true r1) (h2 : f env r1 = o) : fIf p f g env r = o := bind_ok h1 h2
theorem e_ifF {o : Out T} (h1 : p env r = .ok false r1) (h2 : g env r1 = o) : fIf p f g env r = o := bind_ok h1 h2
theorem e_nil : fAll [] env r = .ok [] r := rfl
theorem e_cons {fs : List (Env → M T)} {ts : List T} (h1 : f env r = .ok x r1) (h2 : fAll fs env r1 = .ok ts r2) : fAll (f :: fs) env r = .ok (x :: ts) r2 := by
  show (f env >>= fun t => fAll fs env >>= fun ts => pure (t :: ts)) r = _
  exact bind_ok h1 (bind_ok h2 rfl)
theorem e_tup {fs : List (Env → M T)} {ts : List T} (h1 : fAll fs env r = .ok ts r1) : fTup fs env r = .ok (.tup ts) r1 := bind_ok h1 rfl
theorem e_lst {fs : List (Env → M T)} {ts : List T} (h1 : fAll fs env r = .ok ts r1) : fLst fs env r = .ok (.lst ts) r1 := bind_ok h1 rfl
theorem e_call {F : List T → M T} {ds ts : List T} {fs : List (Env → M T)} {o : Out T} (h1 : fAll fs env r = .ok ts r1) (h2 : F (ts ++ ds) r1 = o) : fCall F ds fs env r = o := bind_ok h1 h2
theorem e_make {C : Nat} {F : List T → M (List T)} {ds ts us : List T} {fs : List (Env → M T)} (h1 : fAll fs env r = .ok ts r1) (h2 : F (ts ++ ds) r1 = .ok us r2) : fMake C F ds fs env r = .ok (.obj C us) r2 := bind_ok h1 (bind_ok h2 rfl)
theorem e_meth {C : Nat} {F : List T → M T} {ds ts vs : List T} {fs : List (Env → M T)} {o : Out T} (h1 : f env r = .ok (.obj C vs) r1) (h2 : fAll fs env r1 = .ok ts r2) (h3 : F (.obj C vs :: (ts ++ ds)) r2 = o) : fMeth C F ds f fs env r = o := bind_ok h1 (by
  show (if C = C then (fAll fs env >>= fun ts => F (.obj C vs :: (ts ++ ds))) else M.bad : M T) r1 = o
  rw [if_pos rfl]
  exact bind_ok h2 h3)
theorem e_own {f : Env → M (List T)} {xs : List T} (h1 : f env r = .ok xs r1) : fOwn f env r = .ok (.lst xs) r1 := bind_ok h1 rfl
theorem e_own2 {h : T → T → M T} {o : Out T} (h1 : f env r = .ok x r1) (h2 : g env r1 = .ok y r2) (h3 : h x y r2 = o) : (fun env => f env >>= fun x => g env >>= fun y => h x y : Env → M T) env r = o := bind_ok h1 (bind_ok h2 h3)
/-! statements -/
theorem n_seq (h1 : s env r = .nx env' r1) (h2 : s' env' r1 = so) : qSeq s s' env r = so := by
  unfold qSeq; rw [h1]; exact h2
theorem n_seqR (h1 : s env r = .rt t r1) : qSeq s s' env r = .rt t r1 := by unfold qSeq; rw [h1]
theorem n_ifT (h1 : p env r = .ok true r1) (h2 : s env r1 = so) : qIf p s s' env r = so := by
  unfold qIf ofM; rw [h1]; exact h2
theorem n_ifF (h1 : p env r = .ok false r1) (h2 : s' env r1 = so) : qIf p s s' env r = so := by
  unfold qIf ofM; rw [h1]; exact h2
theorem n_ret (h1 : f env r = .ok t r1) : qRet f env r = .rt t r1 := by unfold qRet ofM; rw [h1]
theorem n_set {i : Nat} (h1 : f env r = .ok t r1) : qSet i f env r = .nx (env.set i (.val t)) r1 := by unfold qSet ofM; rw [h1]
theorem n_par2 {i j : Nat} (h1 : f env r = .ok x r1) (h2 : g env r1 = .ok y r2) : qPar2 i j f g env r = .nx ((env.set i (.val x)).set j (.val y)) r2 := by
  unfold qPar2 ofM; rw [e_cons h1 (e_cons h2 e_nil)]
theorem n_asg {h : T → Env → Option Env} (h1 : f env r = .ok x r1) (h2 : h x env = some env') : qAsg f h env r = .nx env' r1 := by
  unfold qAsg ofM; rw [h1]; simp only; rw [h2]
theorem n_for {fi : Env → M (List T)} {h : T → Env → Option Env} {xs : List T} (h1 : fi env r = .ok xs r1) (h2 : loopF h s xs env r1 = so) : qFor fi h s env r = so := by
  unfold qFor ofM; rw [h1]; exact h2
theorem n_loopN {h : T → Env → Option Env} : loopF h s [] env r = .nx env r := rfl
theorem n_loop {h : T → Env → Option Env} {xs : List T} (h1 : h x env = some env') (h2 : s env' r = .nx env2 r1) (h3 : loopF h s xs env2 r1 = so) : loopF h s (x :: xs) env r = so := by
  unfold loopF; rw [h1]; simp only; rw [h2]; exact h3
theorem n_loopR {h : T → Env → Option Env} {xs : List T} (h1 : h x env = some env') (h2 : s env' r = .rt t r1) : loopF h s (x :: xs) env r = .rt t r1 := by
  unfold loopF; rw [h1]; simp only; rw [h2]
theorem n_fn {m : Nat} {ts : List T} (h1 : s (envOf m ts) r = .rt t r1) : fnS m s ts r = .ok t r1 := by unfold fnS; rw [h1]
theorem n_fnN {m : Nat} {ts : List T} (h1 : s (envOf m ts) r = .nx env' r1) : fnS m s ts r = .ok .non r1 := by unfold fnS; rw [h1]
/-- a loop by an invariant of what is left -/
theorem loop_inv {h : T → Env → Option Env} (I : List T → Env → RS → Prop) (step : ∀ x xs env r, I (x :: xs) env r → ∃ env1 env2 r2, h x env = some env1 ∧ s env1 r = .nx env2 r2 ∧ I xs env2 r2) : ∀ (xs : List T) (env : Env) (r : RS), I xs env r → ∃ env' r', loopF h s xs env r = .nx env' r' ∧ I [] env' r'
  | [], env, r, i => ⟨env, r, rfl, i⟩
  | x :: xs, env, r, i => by
    obtain ⟨env1, env2, r2, h1, h2, i2⟩ := step x xs env r i
    obtain ⟨env', r', h3, i3⟩ := loop_inv I step xs env2 r2 i2
    exact ⟨env', r', n_loop h1 h2 h3, i3⟩
end
/-! ### equality -/
theorem eq_int (a b : Int) : eqT (.int a) (.int b) = some (a == b) := rfl
theorem eq_ii (a b c d : Int) : eqT (.tup [.int a, .int b]) (.tup [.int c, .int d]) = some ((a == c) && ((b == d) && true)) := rfl
end Ep
/-! an exception class of the program's own whose __init__ says super().__init__(f); self.f = f -/
namespace Ep
namespace SupX
open PySem PySem.W PySem.Calls PyProof.Rows PySem.HandSPX
def iA (f : Str) (p1 p2 : Pos) : Arguments := { posonlyargs := [], args := [{ arg := "self", annotation := none, pos := p1 }, { arg := f, annotation := none, pos := p2 }], vararg := none, kwonlyargs := [], kw_defaults := [], kwarg := none, defaults := [] }
def iB (f : Str) (a1 a2 a3 a4 a5 a6 q1 q2 q3 q4 : Pos) : List Stmt := [.Expr (.Call (.Attribute (.Call (.Name "super" a1) [] [] a2) "__init__" a3) [.Name f a4] [] a5) a6, .Assign [.Attribute (.Name "self" q1) f q2] (.Name f q3) q4]
def iS (f : Str) : Scope := { kind := .function, names := [(PySem.Str.ofString "self", .local), (f, .local), (PySem.Str.ofString "__class__", .free), (PySem.Str.ofString "super", .globalImplicit)], isGenerator := false, isCoroutine := false, more := [] }
/-- a built-in exception below which the program's own ones lie -/
structure XB where
  B : String
  nw : String
  ini : String
  tl : List Value
structure XB.Ok (b : XB) : Prop where
  eb : ExcBaseFacts b.B b.nw b.ini b.tl
  sf : StoreFacts b.B b.tl "object.__setattr__" "object"
  kx : KxsFacts b.B b.ini
  ob : b.tl.contains (.type "object") = true
def xVE : XB := ⟨"ValueError", "ValueError.__new__", "ValueError.__init__", [.type "ValueError", .type "Exception", .type "BaseException", .type "object"]⟩
def xOE : XB := ⟨"OverflowError", "OverflowError.__new__", "OverflowError.__init__", [.type "OverflowError", .type "ArithmeticError", .type "Exception", .type "BaseException", .type "object"]⟩
theorem xVE_ok : xVE.Ok := ⟨F.excBase_ValueError, F.store_ValueError, kxs_ValueError, by decide +kernel⟩
theorem xOE_ok : xOE.Ok := ⟨F.excBase_OverflowError, F.store_OverflowError, kxs_OverflowError, by decide +kernel⟩
/-- what the written part says of the class at C, its __init__ at fI -/
structure Txt (P : Program) (K : Frag) (mg : Str → Option Value) (qn f : Str) (C fI : Addr) : Prop where
  cls : ∃ b : XB, b.Ok ∧ subIn K (.ref C) (.type b.B) = some true ∧ ks_superIn K C C "__init__" = some (some (.builtin b.ini)) ∧
    ∃ nm q N bs bm sn sub ab col dd k0 k1 k2 k3 k5, K.lookup C = some (excClassObj nm q C N bs bm true sn sub ab col dd k0 k1 k2 k3 k5 b.nw) ∧ excTail b.tl bm = true
  sa : findIn K (.ref C) "__setattr__" = some (some (.builtin "object.__setattr__"))
  noN : findIn K (.ref C) f = some none
  iC : findIn K (.ref C) "__init__" = some (some (.ref fI))
  tC : typeIn K (.ref fI) = some (.type "function")
  kC : keepIn K (.ref C) = true
  exC : subIn K (.ref C) (.type "BaseException") = some true
  tyC : typeIn K (.ref C) = some (.type "type")
  mroC : mroIn K C (.ref C) = some true
  nosup : nsIn K mainGlobals "super" = some none
  opq : nsIn K cStatics "thirdparty.any" = some none
  fn : ∃ (oc : Value) (od : Option Addr) (doc pm : Value) (an : Option Addr) (cda : Addr) (ct : Value) (osl : Array (Option Value)) (p1 p2 a1 a2 a3 a4 a5 a6 q1 q2 q3 q4 : Pos) (cc : Addr) (cl : Value) (cld : Option Addr) (csl : Array (Option Value)) (ccl : Value) (cdd : Option Addr) (vs : Array Value) (ccs : Array (Option Value)) (file : Str) (tf : Tok),
    K.lookup fI = some ⟨oc, od, .func (ksFn "__init__" qn (iA f p1 p2) (iB f a1 a2 a3 a4 a5 a6 q1 q2 q3 q4) (iS f) .none .none doc pm an (.ref cda) ct cc), osl⟩ ∧ codeIn K (.ref cda) qn = true ∧
    K.lookup cc = some ⟨cl, cld, .cell (some (.ref C)), csl⟩ ∧ K.lookup cda = some ⟨ccl, cdd, .fields vs, ccs⟩ ∧ vs[2]? = some (.str file tf) ∧ ((P.main.file : Str) == file) = true ∧
    ∀ L : Addr, ∃ pl : Sem Bool, eval (.Call (.Attribute (.Call (.Name "super" a1) [] [] a2) "__init__" a3) [.Name f a4] [] a5) (ksEnv qn (iS f) L fI (.ref cda) cc) = (do
      let ov ← attributeBase (.Call (.Name "super" a1) [] [] a2) "__init__" (ksEnv qn (iS f) L fI (.ref cda) cc) (eval (.Call (.Name "super" a1) [] [] a2) (ksEnv qn (iS f) L fI (.ref cda) cc))
      standAt a3.atName
      let (g, first) ← holding [ov] (getMethod ov "__init__" pl)
      callWith a5 g first (backTo a5 (starEach [.Name f a4] (ksEnv qn (iS f) L fI (.ref cda) cc))) [])
structure FOk (P : Program) (f : Str) : Prop where
  htop : (P.main.scope.names.lookup ("super" : Str)).isSome = false
  nself : ((PySem.Str.ofString "self") == f) = false
  self' : (f == ("self" : Str)) = false
  dbg : (f == ("__debug__" : Str)) = false
  loc : (iS f).names.lookup f = some .local
  slf : (iS f).names.lookup ("self" : Str) = some .local
  sup : (iS f).names.lookup ("super" : Str) = some .globalImplicit
  cls : (iS f).names.lookup ("__class__" : Str) = some .free
  ncell : ∀ x ∈ (iS f).names, x.2 ≠ .cell
  bnd : ∀ (qn : Str) (a1 a2 a3 a4 a5 a6 q1 q2 q3 q4 p1 p2 : Pos) (doc pm : Value) (an : Option Addr) (cdv ct : Value) (cc : Addr) (u v : Value), bindArgs (ksFn "__init__" qn (iA f p1 p2) (iB f a1 a2 a3 a4 a5 a6 q1 q2 q3 q4) (iS f) .none .none doc pm an cdv ct cc) ⟨[u, v], []⟩ = pure [(PySem.Str.ofString "self", u), (f, v)]
theorem one_size (v : Value) : [v].length ≤ sizeLine := by
  rw [sizeLine_eq]
  exact (by decide : 1 ≤ 16777216)
structure InitEnd (f : Str) (h h' : Heap) (x C dx t1 : Addr) (v : Value) : Prop where
  keep : ∀ b o, b ≠ x → h.get? b = some o → h'.get? b = some o
  obj : h'.get? x = some { cls := .ref C, dict := some dx, data := .fields #[.ref t1, .none, .none, .none, .bool false, .none] }
  dbig : h.objs.size ≤ dx
  dne : dx ≠ x
  ns : h'.Ns1 dx (fun y => if y = f then some v else none)
section
variable {prog : Program} {w : World} {A : Around} {E : Value → Shared → Prop} {h : Heap} {g : Array GenState} {d : Drawn} {t : Nat} {os : OsState}
variable {nm q : Str} {C N : Addr} {bs bm bmB : List Value} {hdct : Bool} {sn : List Str} {sub : List Value} {ab : Bool} {col : Option Bool} {dd : Option Addr} {k0 k1 k2 k3 k5 : Option Value} {B newId initId : String}
/-- a built-in bound to a thing (kxs_mw): a call of it is checked, and goes on at the built-in with the thing ahead -/
theorem mw_tree {M : Model} {i : String} {u e : Addr} {args : Args} {Q : Fin → Shared → Prop} {s : Shared} (at_u : s.heap.get? u = some (kxs_mw i e))
    (on : wpAny M A (checkBoundCall i { args with pos := .ref e :: args.pos }) (fun _ s' => Q (.again (.builtin i { args with pos := .ref e :: args.pos })) s') E s) : wpAny M A (callAny (.ref u) args) Q E s := by
  unfold callAny
  refine wpAny_bind (wpAny_load at_u ?_)
  show wpAny M A (checkBoundCall i { args with pos := .ref e :: args.pos } >>= fun _ => _) Q E s
  exact wpAny_bind (wpAny_mono on (fun _ _ z => wpAny_bind (wpAny_pure (wpAny_pure z))) fun _ _ => id)
/-- a built-in exception's __init__ bound to an instance, called: the instance's arguments are told anew, all else stands -/
theorem call_mw (FB : ExcBaseFacts B newId initId bmB) {u e t0 : Addr} {rest : List Value} {Q : Value → Shared → Prop}
    (at_C : h.get? C = some (excClassObj nm q C N bs bm hdct sn sub ab col dd k0 k1 k2 k3 k5 newId)) (at_e : h.get? e = some (HandSPX.excO C t0)) (at_u : h.get? u = some (kxs_mw initId e)) (few : rest.length ≤ sizeLine)
    (told : ∀ h' t1, (∀ b o, b ≠ e → h.get? b = some o → h'.get? b = some o) → h'.get? e = some (HandSPX.excO C t1) → Q .none ⟨h', g, d, t, os⟩) :
    wpAny (model prog w) A (call (.ref u) rest) Q E ⟨h, g, d, t, os⟩ :=
  wpAny_call (codeAny_of_tree (mw_tree at_u (W.check_bound_init FB.toExcCallFacts at_C at_e rfl
    ⟨plainId_quiet FB.init.plain _, codeAny_builtin FB.initEntry (exc_init_tree (cls := .ref C) (t0 := t0) (dv := none) (c2 := .none) (c3 := .none) (b4 := .bool false) at_e few fun h' same now _ => told h' _ same now)⟩)))
end
section
open Builtin Builtin.ObjectAttr
variable {prog : Program} {w : World} {A : Around} {E : Value → Shared → Prop} {R : Result → Shared → Prop} {hp : Heap} {g : Array GenState} {d : Drawn} {t : Nat} {os : OsState}
/-- the first field of an instance of such a class: osa_openX opens the store, instanceDict_exc makes the instance's dict, store_in_new puts the field into it -/
theorem osa_b {b : XB} (ok : b.Ok) {K : Frag} {name : Str} {tk : Tok} {v : Value} {x C t1 : Addr} {bm : List Value} {cd : ClassData} (kin : K.In hp) (at_x : hp.get? x = some (excO C t1)) (at_C : clsIn K C = some cd) (mro : cd.mro = .ref C :: bm) (tail : excTail b.tl bm = true) (dict : cd.hasDict = true) (free : findIn K (.ref C) name = some none)
    (told : ∀ h' tk' dx, (∀ b o, b ≠ x → hp.get? b = some o → h'.get? b = some o) → hp.objs.size ≤ dx → dx ≠ x → h'.get? x = some { cls := .ref C, dict := some dx, data := .fields #[.ref t1, .none, .none, .none, .bool false, .none] } →
      h'.Ns1 dx (fun y => if y = name then some v else none) → R (.ok (.ret .none)) ⟨h', g, d, tk', os⟩) :
    codeAny (model prog w) A (.call (.builtin "object.__setattr__") ⟨[.ref x, .str name tk, v], []⟩) R ⟨hp, g, d, t, os⟩ := by
  have old : x ≠ hp.objs.size := Nat.ne_of_lt (Heap.lt_size at_x)
  have over : excOver K C b.tl = true := by unfold excOver; rw [at_C, Option.any_some, mro]; exact Bool.and_eq_true_iff.mpr ⟨beq_self_eq_true _, tail⟩
  have at_x' : (hp.push (dictOf [] 0)).get? x = some (excO C t1) := Heap.get?_push_of_some _ at_x
  have made : ((hp.push (dictOf [] 0)).update x fun o => { o with dict := some hp.objs.size }).get? hp.objs.size = some (dictOf [] 0) := by rw [Heap.get?_update_ne _ _ _ _ old.symm, Heap.get?_push_size _ rfl]
  refine osa_openX (r := none) ok.sf kin (InstAt.mk (od := none) at_x rfl rfl trivial) over (by unfold takerIn; rw [free]; rfl) fun _ => ?_
  refine wpAny_bind (wpAny_pure (wpAny_bind (instanceDict_exc at_x (looks_clsIn kin at_C) dict ?_)))
  refine store_in_new ⟨_, #[], 0, made, rfl, fun _ z => absurd z (Array.not_mem_empty _), fun _ => rfl⟩ fun h' tk' held but => told h' tk' hp.objs.size (fun a o ne at_a => ?_) (Nat.le_refl _) old.symm ?_ held
  · rw [but.2 a (Nat.ne_of_lt (Heap.lt_size at_a)), Heap.get?_update_ne _ _ _ _ ne]
    exact Heap.get?_push_of_some _ at_a
  · rw [but.2 x old]
    exact Heap.get?_update_self _ at_x' rfl
end
section
variable {prog : Program} {w : World} {A : Around} {E : Value → Shared → Prop} {R : Result → Shared → Prop} {s : Shared} {K : Frag} {mg : Str → Option Value} {C fI : Addr} {qn f : Str} {base : Heap}
theorem init (T : Txt prog K mg qn f C fI) (Y : FOk prog f) {x t0 : Addr} {v : Value} (X : K.In s.heap) (hg : s.heap.Ns mainGlobals mg) (hm : mg "super" = none) (hb : ∃ mb, s.heap.Ns builtinsNs mb ∧ mb "super" = some (.type "super")) (hlim : s.heap.NoLimit) (hx : s.heap.get? x = some (excO C t0)) (hnx : K.lookup x = none) (hroom : A.depth < recursionLimit)
    (hq : ∀ h' tk dx t1, InitEnd f s.heap h' x C dx t1 v → R (.ok (.ret .none)) { s with heap := h', toks := tk }) :
    codeAny (model prog w) A (.call (.ref fI) ⟨[.ref x, v], []⟩) R s := by
  obtain ⟨oc, od, doc, pm, an, cda, ct, osl, p1, p2, a1, a2, a3, a4, a5, a6, q1, q2, q3, q4, cc, cl, cld, csl, ccl, cdd, vs, ccs, file, tf, ho, hcd, hcell, hcode, hvs, hfile, hev⟩ := T.fn
  obtain ⟨pl, hev⟩ := hev s.heap.objs.size
  obtain ⟨xb, xok, veC, sup, nm, q, N, bs, bm, sn, sub, ab, col, dd, k0, k1, k2, k3, k5, hC, hbm⟩ := T.cls
  have hcl : clsIn K C = some { name := nm, bases := bs, mro := .ref C :: bm, ns := N, qualname := q, hasDict := true, slotNames := sn, subclasses := sub, abstract := ab, collection := col, hasDel := false } := by unfold clsIn; rw [hC] <;> rfl
  refine ks_codeAny_call_defAt (binds := [("self", .ref x), (f, v)]) hroom (X _ _ ho) rfl hlim (codeRec_of X hcd) rfl (BindsTo.of_eq (Y.bnd ..)) Y.ncell (fun y hy => ?_) fun h₀ hn kp => ?_
  · rcases List.mem_cons.mp hy with rfl | hy
    · exact Y.slf
    · rcases List.mem_cons.mp hy with rfl | hy
      · exact Y.loc
      · cases hy
  have kC : K.In h₀ := X.keeps kp
  have hx₀ := kp _ _ hx
  have hxC : x ≠ C := fun e => by rw [e, hC] at hnx; cases hnx
  have m1 : (([(PySem.Str.ofString "self", Value.ref x), (f, v)] : List (Str × Value)).reverse.lookup (PySem.Str.ofString "self")) = some (.ref x) := by
    show List.lookup _ [(f, v), (PySem.Str.ofString "self", Value.ref x)] = _
    simp only [List.lookup, Y.nself, beq_self_eq_true]
  have m2 : (([(PySem.Str.ofString "self", Value.ref x), (f, v)] : List (Str × Value)).reverse.lookup f) = some v := by
    show List.lookup _ [(f, v), (PySem.Str.ofString "self", Value.ref x)] = _
    simp only [List.lookup, beq_self_eq_true]
  obtain ⟨mb, hb1, hb2⟩ := hb
  -- super().__init__(f)
  show _root_.PySem.wpAt _ _ _ (execs _ _) _ _ _
  refine ks_wpAt_execs_cons (ks_wpAt_Expr_any (ks_wpAt_MethodCall (pl := pl) ?_ hev))
  refine ks_wpAt_super_base (env := ksEnv qn (iS f) s.heap.objs.size fI (.ref cda) cc) Y.sup Y.cls (by decide) rfl (kC _ _ ho) rfl rfl rfl (kC _ _ hcode) rfl hvs hfile Y.htop ?_
  refine ks_loadName_global rfl Y.sup (loadGlobal_builtin (env := ksEnv qn (iS f) s.heap.objs.size fI (.ref cda) cc) (hg.at fun o e => kp _ _ e) hm (hb1.at fun o e => kp _ _ e) hb2 ⟨rfl, ?_⟩)
  refine wpAny_loadName_free rfl Y.cls (by rfl) ⟨_, kC _ _ hcell, rfl⟩ ?_
  refine wpAny_loadName_local rfl Y.slf hn m1 ?_
  refine ks_wpAny_isType_cls (kC _ _ hC) rfl ⟨rfl, ?_⟩
  refine ks_wpAny_call_super (kC _ _ hC) rfl hx₀ rfl (fun c e => by cases e) (looks_mroIn kC T.mroC) (fun h1 e1 k1 => ?_)
  have kC1 : K.In h1 := kC.keeps k1
  have hx1 := k1 _ _ hx₀
  have hcls1 : Looks (model prog w) h1 (mroOf (.ref C)) (.ref C :: bm) := (looks_clsIn kC1 hcl).andThen .now
  have hI : Looks (model prog w) h1 (isInstance (.ref x) (.type xb.B)) true := (InstAt.type (C := C) (od := none) ⟨hx1, rfl, rfl, trivial⟩).andThen (looks_subIn kC1 veC)
  have hm2 := sup
  unfold ks_superIn at hm2
  rw [hcl] at hm2
  refine kxs_getMethod xok.kx e1 (looks_opaque kC1 T.opq) hcls1 rfl kC1 hm2 hI hxC (by decide) ?_
  refine kxs_callWith (i := xb.ini) (x := x) (by rfl) ?_
  have hmw : (h1.push (kxs_mw xb.ini x)).get? h1.objs.size = some (kxs_mw xb.ini x) := Heap.get?_push_at rfl rfl
  have kk : ∀ b o, h₀.get? b = some o → (h1.push (kxs_mw xb.ini x)).get? b = some o := fun b o e => Heap.get?_push_of_some _ (k1 b o e)
  refine evalArgs_plain ?_
  refine spliced_cons (wpAny_Name (wpAny_loadName_local rfl Y.loc (hn.at fun o e => kk _ _ e) m2 (spliced_nil ⟨hmw, ?_⟩)) Y.dbg)
  refine call_mw xok.eb (kk _ _ (kp _ _ (X _ _ hC))) (kk _ _ hx₀) hmw (one_size v) fun h2 t1 k2 hx2 => ?_
  -- self.f = f
  have hn1 : (h1.push (kxs_mw xb.ini x)).Ns s.heap.objs.size (fun y => ([(PySem.Str.ofString "self", Value.ref x), (f, v)] : List (Str × Value)).reverse.lookup y) := hn.at fun o e => kk _ _ e
  have nL : s.heap.objs.size ≠ x := Nat.ne_of_gt (Heap.lt_size hx)
  have hn2 : h2.Ns s.heap.objs.size (fun y => ([(PySem.Str.ofString "self", Value.ref x), (f, v)] : List (Str × Value)).reverse.lookup y) := hn1.at fun o e => k2 _ _ nL e
  have kC2 : K.In h2 := fun b o e => k2 b o (fun z => by rw [z, hnx] at e; cases e) (kk _ _ (kC _ _ e))
  refine ks_wpAt_execs_cons (ks_wpAt_Assign_Attr ?_)
  refine wpAt_of_wpAny (wpAny_Name (wpAny_loadName_local rfl Y.loc hn2 m2 (wpAny_Name (wpAny_loadName_local rfl Y.slf hn2 m1 ?_) (by decide))) Y.dbg)
  refine set_plain kC2 (ox := excO C t1) (od := none) ⟨hx2, rfl, rfl, trivial⟩ T.sa ?_
  refine osa_b xok kC2 hx2 hcl rfl hbm rfl T.noN (fun h3 tk3 dx k3 dn dne hx3 hn3 => ?_)
  refine wpAt_of_wpAny (wpAny_execs_nil ?_)
  refine hq h3 tk3 dx t1 ⟨fun b o hb e => k3 b o hb (k2 b o hb (kk _ _ (kp _ _ e))), hx3, ?_, dne, hn3⟩
  have z1 : s.heap.objs.size < h2.objs.size := hn2.lt
  exact Nat.le_of_lt (Nat.lt_of_lt_of_le z1 dn)
/-- a made one -/
structure OwnMade (f : Str) (h h' : Heap) (e C d : Addr) (v : Value) : Prop where
  keep : ∀ b o, h.get? b = some o → h'.get? b = some o
  new : h.objs.size ≤ e
  obj : ∃ oe vs, h'.get? e = some oe ∧ oe.cls = .ref C ∧ oe.dict = some d ∧ oe.data = .fields vs ∧ vs[1]? = some .none
  dbig : h.objs.size ≤ d
  dne : d ≠ e
  ns : h'.Ns1 d (fun y => if y = f then some v else none)
theorem made (T : Txt prog K mg qn f C fI) (Y : FOk prog f) {v : Value} (X : K.In s.heap) (hg : s.heap.Ns mainGlobals mg) (hm : mg "super" = none) (hb : ∃ mb, s.heap.Ns builtinsNs mb ∧ mb "super" = some (.type "super")) (hlim : s.heap.NoLimit) (hroom : A.depth + 1 < recursionLimit)
    (hq : ∀ h' tk e d, OwnMade f s.heap h' e C d v → R (.ok (.ret (.ref e))) { s with heap := h', toks := tk }) :
    codeAny (model prog w) A (.call (.ref C) ⟨[v], []⟩) R s := by
  obtain ⟨xb, xok, veC, sup, nm, q, N, bs, bm, sn, sub, ab, col, dd, k0, k1, k2, k3, k5, hC, hbm⟩ := T.cls
  obtain ⟨hp, g, dr, tk, os⟩ := s
  have k : ∀ b o, hp.get? b = some o → ((hp.push (kdv_tup [v])).push (excO C hp.objs.size)).get? b = some o := fun b o e => Heap.get?_push_of_some _ (Heap.get?_push_of_some _ e)
  have hget : ((hp.push (kdv_tup [v])).push (excO C hp.objs.size)).get? (hp.objs.size + 1) = some (excO C hp.objs.size) := by heap_get
  have hnx : K.lookup (hp.objs.size + 1) = none := by
    cases eL : K.lookup (hp.objs.size + 1) with
    | none => rfl
    | some o =>
      have z : hp.get? (hp.objs.size + 1) = some o := X _ _ eL
      exact absurd (Nat.lt_of_succ_lt (Heap.lt_size z)) (Nat.lt_irrefl _)
  obtain ⟨mb, hb1, hb2⟩ := hb
  refine call_own xok.eb (fun X => excTail_contains X bm hbm) (X _ _ hC) (looks_findIn X T.iC) (fun self => bind_fn X self T.tC) (one_size v) ?_
  refine init (s := ⟨(hp.push (kdv_tup [v])).push (excO C hp.objs.size), g, dr, tk, os⟩) T Y (X.keeps k) (hg.at fun o e => k _ _ e) hm ⟨mb, hb1.at fun o e => k _ _ e, hb2⟩ (hlim.keeps k) hget hnx ?_ fun h' tk' dx t1 ⟨k', hx, dn, dne, hns⟩ => ?_
  · show A.depth + 1 < recursionLimit
    exact hroom
  · have old : ∀ b o, hp.get? b = some o → h'.get? b = some o := fun b o e => k' b o (Nat.ne_of_lt (Nat.lt_succ_of_lt (Heap.lt_size e))) (k b o e)
    have z : hp.objs.size + 1 + 1 ≤ dx := by
      first
        | (simpa only [Heap.size_push] using dn)
        | exact dn
        | (have q := dn; rw [Heap.size_push, Heap.size_push] at q; exact q)
    exact ⟨rfl, hq h' tk' (hp.objs.size + 1) dx ⟨old, Nat.le_succ _, ⟨_, _, hx, rfl, rfl, rfl, rfl⟩, Nat.le_trans (Nat.le_trans (Nat.le_succ _) (Nat.le_succ _)) z, dne, hns⟩⟩
end
end SupX
open PySem PySem.Spec L2 PyProof.Rows
theorem relO_one {f : Str} {v : V} {u : Value} (r : RelV v u) (g : Str) : RelO ([(f, v)].lookup g) (if g = f then some u else none) := by
  by_cases hw : g = f
  · subst hw
    rw [if_pos rfl]
    have q : List.lookup g [(g, v)] = some v := by simp [List.lookup]
    rw [q]
    exact r
  · rw [if_neg hw]
    have qw : (g == f) = false := by simpa using hw
    have q2 : List.lookup g [(f, v)] = none := by simp [List.lookup, qw]
    rw [q2]
    trivial
section
variable {X : Cx} {C fI : Addr} {qn f x : Str}
/-- x(e) -/
def tMkX (f : Str) (C : Addr) (ta : TA) : L2.St → Hp → XK → Prop := fun σ H Q => ta σ H fun vs H1 => ∃ v, vs = [v] ∧ ∀ d, H1 d = none → Q (.ref C) (some d) (upd H1 d (.xd [(f, v)]))
theorem pmk_x {a : Expr} {ta : TA} {p pos : Pos} {k : Nat} (T : SupX.Txt X.prog X.K X.mg qn f C fI) (Y : SupX.FOk X.prog f) (hr : Room k X.A) (hk : 2 ≤ k) (gx : X.mg x = some (.ref C)) (ha : PA X [a] ta) (hg : Gl X x)
    (hd : (x == ("__debug__" : Str)) = false := by decide) (he : starEach (a :: []) X.env = (false, eval a X.env) :: starEach [] X.env := by rfl) (hpl : (backTo pos (starEach [] X.env)).any (·.1) = false := by rfl) :
    PMk X (.Call (.Name x p) [a] [] pos) (tMkX f C ta) := by
  intro pins s σ H Q I h
  refine wpAny_Call_Name_kw (ld_glob I hg gx ?_ hd)
  refine PySem.W.callWith_K (h₀ := X.base) I.ok.mod.kin T.kC (thn (ha.run pos pins s σ H _ I h) fun us s1 hh => ?_) he hpl
  obtain ⟨vs, H1, I1, r1, v, ev, q1⟩ := hh
  subst ev
  refine ⟨I1.kIn, ?_⟩
  cases r1 with
  | cons rv rn =>
    rename_i v' us'
    cases rn
    show wpAny _ _ (call (.ref C) [v']) _ _ _
    have hlim := I1.nolimit
    have hgl := I1.mod.glob.keeps I1.bk
    have hsup : X.mg "super" = none := PySem.W.mg_none_of I1.mod.kin I1.mod.glob T.nosup
    obtain ⟨mb, hb1, hb2⟩ := I1.mod.blt
    have hb : ∃ mb, s1.heap.Ns builtinsNs mb ∧ mb "super" = some (.type "super") := ⟨mb, hb1.keeps I1.bk, (hb2 _ (by decide)).trans (by first | rfl | kernel_rfl)⟩
    obtain ⟨hp, g, dr, tk, os⟩ := s1
    refine wpAny_call (SupX.made T Y I1.kIn hgl hsup hb hlim (by have := hr.dp; omega) fun h' tk' e d M => ?_)
    show MkP X pins σ Q (.ref e) ⟨h', g, dr, tk', os⟩
    obtain ⟨oe, fv, hoe, hc, hd, hdat, h1⟩ := M.obj
    have hns := M.ns
    obtain ⟨G', g1, g2⟩ := restrict h' fun b => decide (b ≠ e)
    have gk : ∀ b, b ≠ e → G'.get? b = h'.get? b := fun b hb => g1 b (decide_eq_true hb)
    have ge : G'.get? e = none := g2 e (by simp)
    have old : ∀ b o, hp.get? b = some o → G'.get? b = some o := fun b o q => (gk b (Nat.ne_of_lt (Nat.lt_of_lt_of_le (Heap.lt_size q) M.new))).trans (M.keep b o q)
    have ob : ObjOk X.prog X.w (upd H1 d (.xd [(f, v)])) G' d (.xd [(f, v)]) :=
      ⟨_, hns.at (fun o q => (gk d M.dne).trans q), fun y => relO_one rv y⟩
    have J : Inv X pins σ (upd H1 d (.xd [(f, v)])) ⟨G', g, dr, tk', os⟩ := I1.laid (t' := tk') old M.dbig ob
    refine ⟨e, oe, fv, ⟨G', g, dr, tk', os⟩, _, .ref C, some d, rfl, J, fun b o q => ?_, ge, hoe, ⟨hc, hd⟩, hdat, h1, ?_, rfl, I1.bare, raises_own T.exC T.tyC, q1 d (I1.hok.fresh M.dbig)⟩
    · by_cases hb : b = e
      · have q' : G'.get? b = some o := q
        rw [hb, ge] at q'; cases q'
      · exact (gk b hb).symm.trans q
    · rw [upd_ne (Ne.symm M.dne)]
      exact I1.hok.fresh M.new
/-- raise x(e) -/
def tRaiseX (f : Str) (C : Addr) (W : WX) (ta : TA) : TS := fun _ σ H => tMkX f C ta σ H fun cls d H' => W cls d σ H'
theorem ps_raiseX {a : Expr} {ta : TA} {W : WX} {p pos pos2 : Pos} {k : Nat} (hc : X.calm = true) (T : SupX.Txt X.prog X.K X.mg qn f C fI) (Y : SupX.FOk X.prog f) (hr : Room k X.A) (hk : 2 ≤ k) (tk : Takes X W) (gx : X.mg x = some (.ref C)) (ha : PA X [a] ta) (hg : Gl X x)
    (hd : (x == ("__debug__" : Str)) = false := by decide) (he : starEach (a :: []) X.env = (false, eval a X.env) :: starEach [] X.env := by rfl) (hpl : (backTo pos (starEach [] X.env)).any (·.1) = false := by rfl) :
    PS X (.Raise (some (.Call (.Name x p) [a] [] pos)) none pos2) (tRaiseX f C W ta) := ps_raise hc tk (pmk_x T Y hr hk gx ha hg hd he hpl)
end
end Ep
/-! try with several clauses that note what they caught -/
namespace Ep
open PySem PySem.Spec L2 PyProof.Rows
abbrev HdT := Value × Nat × (Addr → Value → Option Addr → TS)
/-- behind a suite its note is gone -/
def gone (i : Nat) (D : Ends) : Ends := { nx := fun σ H => D.nx (σ.set i none) H, rt := D.rt, bk := fun σ H => D.bk (σ.set i none) H, ct := fun σ H => D.ct (σ.set i none) H }
def wMA (K : PySem.W.Frag) (Wout : WX) (D : Ends) : List HdT → WX
  | [] => Wout
  | p :: r => fun cls d σ H => ∃ b, PySem.W.exmOne K cls p.1 = some b ∧ (b = true → ∀ a, H a = none → p.2.2 a cls d (gone p.2.1 D) (σ.set p.2.1 (some (.ref a))) H) ∧ (b = false → wMA K Wout D r cls d σ H)
inductive HdAs (X : Cx) : List ExceptHandler → List HdT → Prop
  | nil : HdAs X [] []
  | cons {x n : Str} {c : Value} {i : Nat} {ts : Addr → Value → Option Addr → TS} {b₀ : Stmt} {suite : List Stmt} {np pp : Pos} {hds : List ExceptHandler} {l : List HdT} (hc : Names X x c) (hi : X.N[i]? = some n) (hl : X.env.kindOf n = some .local)
      (hsu : ∀ (a : Addr) (oe : Obj) (cls : Value) (d : Option Addr) (pn : List (Addr × Obj)), Zc cls d oe → (∃ vs, oe.data = .fields vs) → PSs (X.suite a ((a, oe) :: pn)) (b₀ :: suite) (ts a cls d)) (r : HdAs X hds l) :
      HdAs X (.ExceptHandler (some (.Name x np)) (some n) (b₀ :: suite) pp :: hds) ((c, i, ts) :: l)
section
variable {X : Cx} {pins : List (Addr × Obj)} {a : Addr} {B : Heap} {sI : Shared} {σ : L2.St} {H : Hp} {cls : Value} {d : Option Addr} {D : Ends} {Wout : WX}
/-- a raised thing is no def's frame -/
theorem no_frame {B h : Heap} {l : List PySem.Env} {o : Obj} {vs : Array Value} (ff : h.FunFrames B l) (at_a : h.get? a = some o) (rec : o.data = .fields vs) : a ∉ frs l := fun of_l => by
  obtain ⟨_, u, at_u, notFields⟩ := ff.mem of_l
  cases at_a.symm.trans at_u
  exact absurd rec (notFields vs)
/-- what is known when an exception has been caught and is looked at -/
structure Got (X : Cx) (pins : List (Addr × Obj)) (a : Addr) (B : Heap) (sI : Shared) (σ : L2.St) (H : Hp) (cls : Value) (d : Option Addr) (s' : Shared) (h3 : Heap) : Prop where
  ok : X.Ok
  J : Inv X pins σ H sI
  nb : ∀ b o, sI.heap.get? b = some o → b ∉ frs X.stack → B.get? b = some o
  up : sI.heap.UpToSlots h3
  fl : HandSPX.FlyingZ B (X.env :: X.outer) a (Zc cls d) h3
  na : H a = none
  os : s'.os = sI.os
  ag : AllBare s'.gens
theorem Got.nfr {s' : Shared} {h3 : Heap} (g : Got X pins a B sI σ H cls d s' h3) : a ∉ frs (X.env :: X.outer) := by
  obtain ⟨oe, vs, he, _, hd⟩ := g.fl.there
  exact no_frame g.fl.2.2.1 he hd
/-- the frames' own list, one deeper -/
theorem frs_deep {e : PySem.Env} {l : List PySem.Env} {b : Addr} (h : b ∈ frs l) : b ∈ frs (e :: l) := by
  cases q : e.frame with
  | none => rw [show frs (e :: l) = frs l from List.filterMap_cons_none q]; exact h
  | some c => rw [show frs (e :: l) = c :: frs l from List.filterMap_cons_some q]; exact List.mem_cons_of_mem _ h
theorem Got.nF {s' : Shared} {h3 : Heap} (g : Got X pins a B sI σ H cls d s' h3) : a ∉ X.fs := fun of_l => g.nfr (frs_deep of_l)
theorem Got.nL {s' : Shared} {h3 : Heap} (g : Got X pins a B sI σ H cls d s' h3) (hf : X.env.frame = some X.env.locals) : a ≠ X.env.locals := fun z => g.nfr (by
  rw [show frs (X.env :: X.outer) = X.env.locals :: frs X.outer from List.filterMap_cons_some hf, z]
  exact List.mem_cons_self)
theorem Got.again {s' : Shared} {h3 h4 : Heap} (g : Got X pins a B sI σ H cls d s' h3) (fl : HandSPX.FlyingZ B (X.env :: X.outer) a (Zc cls d) h4) (up : h3.UpToSlots h4) : Got X pins a B sI σ H cls d s' h4 := ⟨g.ok, g.J, g.nb, g.up.trans up, fl, g.na, g.os, g.ag⟩
theorem Got.inv {s' : Shared} {h3 : Heap} (g : Got X pins a B sI σ H cls d s' h3) : Inv X pins σ H { s' with heap := h3 } := g.J.landed g.nb g.fl.1 g.up g.os g.ag
theorem Got.in_ {s' : Shared} {h3 : Heap} (g : Got X pins a B sI σ H cls d s' h3) (hf : X.env.frame = some X.env.locals) : ∃ (oe : Obj) (vs : Array Value), h3.get? a = some oe ∧ Zc cls d oe ∧ oe.data = .fields vs ∧ Inv (X.suite a ((a, oe) :: (X.pn ++ pins))) [] σ H { s' with heap := h3 } := by
  obtain ⟨oe, vs, he, hz, hd⟩ := g.fl.there
  exact ⟨oe, vs, he, hz, hd, g.inv.suite he hd g.na (g.nL hf) g.nF⟩
/-- no clause takes it: it goes on, its frame noted -/
theorem Got.goes_on {s' : Shared} {h3 : Heap} (g : Got X pins a B sI σ H cls d s' h3) (hs : X.stack = X.env :: X.outer) (hf : X.env.frame = some X.env.locals) (tk : Takes X Wout) (hw : Wout cls d σ H) :
    wpAny (model X.prog X.w) X.A (handleBy (.ref a) X.env []) (SP X pins D) X.xe { s' with heap := h3 } := by
  obtain ⟨_, _, _, oe, vs, T, oT, _, at_a, _, rec, tb, _⟩ := id g.fl
  have thrown : wpAny (model X.prog X.w) X.A (setFlight (.ref a) X.env.frame) (fun _ z => wpAny (model X.prog X.w) X.A (throw (.ref a) : Sem Flow) (SP X pins D) X.xe z) X.xe { s' with heap := h3 } := hf ▸ HandSPX.setFlight_upZ g.fl fun h4 sky up =>
    wpAny_throw (tk _ _ ⟨a, B, sI, pins, σ, H, cls, d, rfl, g.J, g.nb, g.up.trans up, .inr (.inr (hs ▸ sky)), g.na, g.os, g.ag, hw⟩)
  have some_tb : ¬ ((Value.ref T == Value.none) = true) := fun z => nomatch eq_of_beq z
  refine wpAny_handleBy_nil (wpAny_bind (wpAny_field at_a rec tb ?_))
  rw [if_neg some_tb]
  first
    | exact wpAny_bind (wpAny_pure (wpAny_bind thrown))
    | exact wpAny_bind thrown
/-- a clause's class is looked up, and whether the caught one is of it -/
theorem Got.asked {s' : Shared} {h3 : Heap} (g : Got X pins a B sI σ H cls d s' h3) (hf : X.env.frame = some X.env.locals) {x : Str} {c : Value} {np : Pos} {b : Bool} (hc : Names X x c) (one : PySem.W.exmOne X.K cls c = some b) {Q : Bool → Shared → Prop} {E E' : Value → Shared → Prop} (h : Q b { s' with heap := h3 }) :
    wpAny (model X.prog X.w) (X.A.mark (some (.ref a))) (eval (.Name x np) X.env) (fun m s1 => wpAny (model X.prog X.w) (X.A.mark (some (.ref a))) (excMatches (.ref a) m) Q E' s1) E { s' with heap := h3 } := by
  obtain ⟨oe, _, at_a, of_, _, S⟩ := g.in_ hf
  have is_one : PySem.W.Looks (model X.prog X.w) h3 (excMatches (.ref a) c) b := PySem.W.exm_one g.inv.kIn (fun _ _ _ _ keep q => wpAny_typeOf_ref (keep _ _ at_a) (by rw [of_.1]; exact q)) one
  obtain ⟨glob, dbg, mine | ⟨none_, built, nn⟩⟩ := hc
  · exact ld_glob (X := X.suite a ((a, oe) :: (X.pn ++ pins))) S glob mine (is_one.here h) dbg
  · exact ld_blt (X := X.suite a ((a, oe) :: (X.pn ++ pins))) S glob none_ built (is_one.here h) nn dbg
/-- the clause that takes it: its note is laid, the suite runs, the note goes -/
theorem Got.taken {s' : Shared} {h4 : Heap} (g : Got X pins a B sI σ H cls d s' h4) (hf : X.env.frame = some X.env.locals) (hN : X.N.Nodup) {n : Str} {i : Nat} {ts : Addr → Value → Option Addr → TS} {suite : List Stmt} {pp : Pos} (hi : X.N[i]? = some n) (hl : X.env.kindOf n = some .local)
    (hsu : ∀ (a : Addr) (oe : Obj) (cls : Value) (d : Option Addr) (pn : List (Addr × Obj)), Zc cls d oe → (∃ vs, oe.data = .fields vs) → PSs (X.suite a ((a, oe) :: pn)) suite (ts a cls d)) (yes : ts a cls d (gone i D) (σ.set i (some (.ref a))) H) {E1 E2 : Value → Shared → Prop} :
    wpAny (model X.prog X.w) (X.A.mark (some (.ref a))) (storeName X.env n (.ref a)) (fun _ s1 => wpAny (model X.prog X.w) (X.A.mark (some (.ref a))) (execs suite X.env) (fun f s2 => wpAny (model X.prog X.w) X.A (do bindName X.env n .none; unbindBehindTheSuite X.env n pp) (fun _ s3 => SP X pins D f s3) X.xe s2) E2 s1) E1 { s' with heap := h4 } := by
  obtain ⟨oe, vs, _, of_, rec, S⟩ := g.in_ hf
  have behind : ∀ {σ6 : L2.St} {H6 : Hp} {s6 : Shared} {Q : Shared → Prop}, Inv (X.suite a ((a, oe) :: (X.pn ++ pins))) [] σ6 H6 s6 → (∀ s7, Inv X pins (σ6.set i none) H6 s7 → Q s7) → wpAny (model X.prog X.w) X.A (do bindName X.env n .none; unbindBehindTheSuite X.env n pp) (fun _ s7 => Q s7) X.xe s6 :=
    fun S6 q => gone_ok (S6.unsuite g.ok) hN hi hl q
  refine store_ok (X := X.suite a ((a, oe) :: (X.pn ++ pins))) (v := .ref a) S hN hi (.inl hl) rfl (fun s5 S5 => wpAny_mono ((hsu a oe cls d (X.pn ++ pins) of_ ⟨vs, rec⟩).run [] s5 _ H _ S5 yes) (fun f s6 ran => ?_) fun _ _ => False.elim) (.inr hl)
  cases f <;> dsimp only [SP, gone] at ran ⊢
  case ret u =>
    obtain ⟨v, σ6, H6, S6, rel, q⟩ := ran
    exact behind S6 fun s7 J => ⟨v, _, H6, J, rel, q⟩
  all_goals
    obtain ⟨σ6, H6, S6, q⟩ := ran
    exact behind S6 fun s7 J => ⟨_, H6, J, q⟩
theorem clauses {s' : Shared} (hs : X.stack = X.env :: X.outer) (hf : X.env.frame = some X.env.locals) (hN : X.N.Nodup) (tk : Takes X Wout) : ∀ {hds : List ExceptHandler} {l : List HdT}, HdAs X hds l → ∀ {h3 : Heap}, Got X pins a B sI σ H cls d s' h3 → wMA X.K Wout D l cls d σ H →
    wpAny (model X.prog X.w) X.A (handleBy (.ref a) X.env hds) (SP X pins D) X.xe { s' with heap := h3 }
  | _, _, .nil, _, g, hw => g.goes_on hs hf tk hw
  | _, _, .cons hc hi hl hsu r, h3, g, ⟨true, one, yes, _⟩ => by
    refine wpAny_handleBy_cons (codeAny_handlers_test (g.asked hf hc one (codeAny_handlers_suite_as (HandSPX.lands_againZ g.fl fun h4 fl up => ?_)))) (fun q => nomatch q)
    refine (g.again fl up).taken hf hN hi hl hsu (yes rfl a g.na)
  | _, _, .cons hc hi hl hsu r, h3, g, ⟨false, one, _, no⟩ => wpAny_handleBy_cons (codeAny_handlers_test (g.asked hf hc one (clauses hs hf hN tk r g (no rfl)))) (fun q => nomatch q)
/-- a flow out of a try's body is one of the whole statement -/
theorem flow_out {xe : Value → Shared → Prop} (ok : X.Ok) {f : Flow} {s1 : Shared} (h : SP (X.tr (X.pn ++ pins) xe) [] D f s1) : SP X pins D f s1 := by
  cases f <;> dsimp only [SP] at h ⊢
  case ret u => exact h.imp fun _ => Exists.imp fun _ => Exists.imp fun _ => And.imp_left fun J => J.ofTry ok
  all_goals exact h.imp fun _ => Exists.imp fun _ => And.imp_left fun J => J.ofTry ok
theorem ps_tryMA {body : List Stmt} {h₀ : ExceptHandler} {hds : List ExceptHandler} {l : List HdT} {pos : Pos} {tb : WX → TS} (hs : X.stack = X.env :: X.outer) (hf : X.env.frame = some X.env.locals) (hN : X.N.Nodup) (tk : Takes X Wout)
    (hb : ∀ (W : WX) (pn : List (Addr × Obj)) (xe : Value → Shared → Prop), Takes (X.tr pn xe) W → PassesOwn (model X.prog X.w) X.A X.env xe → PSs (X.tr pn xe) body (tb W)) (hh : HdAs X (h₀ :: hds) l) :
    PS X (.Try body (h₀ :: hds) [] [] pos) (fun D σ H => tb (wMA X.K Wout D l) D σ H) := by
  refine ⟨fun pins s σ H D I h => wpAny_Try_except ?_⟩
  have takes : Takes (X.tr (X.pn ++ pins) (fun e s₁ => wpAny (model X.prog X.w) X.A (noteFrame e X.env) (fun _ s₂ => wpAny (model X.prog X.w) X.A (setFlight e none) (fun _ s₃ => wpAny (model X.prog X.w) X.A (handleBy e X.env (h₀ :: hds)) (SP X pins D) X.xe s₃) X.xe s₂) X.xe s₁)) (wMA X.K Wout D l) := by
    rintro _ s' ⟨a, B, sI, pins', σ', H', cls, d, rfl, J, nb, up, sky, na, os, ag, hw⟩
    exact Sky.land Zc.steady (I.ok.frames.trans (congrArg some hs)) hf (hs ▸ sky) fun h3 fl up3 => clauses hs hf hN tk hh (Got.mk I.ok (J.ofTry I.ok) nb (up.trans up3) fl na os ag) hw
  refine wpAny_mono ((hb _ _ _ takes PassesOwn.looking).run [] s σ H D (I.toTry _) h) (fun f s1 ran => ?_) fun _ _ => id
  cases f with
  | next => exact wpAny_execs_nil (flow_out I.ok ran)
  | _ => exact flow_out I.ok ran
end
/-! ### raise -/
def qRaise (c : Nat) (f : Env → M T) : Sm := fun env r => ofM env (fun t r => .exn c t env r) (f env r)
/-- an exception class of the top, by its number -/
structure XcOk (P : Program) (G : Gm) (c : Nat) (fld : Str) : Prop where
  fl : G.fl c = [fld]
  cl : ∃ qn cA fI, G.mg (G.cn c) = some (.ref cA) ∧ SupX.Txt P G.K G.mg qn fld cA fI
  ok : SupX.FOk P fld
theorem ss_raise {X : Cx} {G : Gm} {W : WX} {a : Expr} {f : Env → M T} {c k : Nat} {x fld : Str} {p pos pos2 : Pos} (hc : X.calm = true) (hK : X.K = G.K) (hM : X.mg = G.mg) (tk : Takes X W) (hr : Room k X.A) (hk : 2 ≤ k) (xc : XcOk X.prog G c fld) (hx : x = G.cn c) (he : SE X G W a f) (hg : Gl X x)
    (hd : (x == ("__debug__" : Str)) = false := by decide) (hs : starEach (a :: []) X.env = (false, eval a X.env) :: starEach [] X.env := by rfl) (hpl : (backTo pos (starEach [] X.env)).any (·.1) = false := by rfl) :
    SS X G W (.Raise (some (.Call (.Name x p) [a] [] pos)) none pos2) (qRaise c f) := fun w0 H0 => by
  obtain ⟨qn, cA, fI, h1, h2⟩ := xc.cl
  rw [← hK, ← hM] at h2
  refine ps_imp (ps_raiseX hc h2 xc.ok hr hk tk (by rw [hM, hx]; exact h1) (pa_cons he pa_nil hs) hg hd hs hpl) fun D σ H ⟨w, env, r, a0, h⟩ => ?_
  refine at_e a0 h fun t r1 w1 H1 v a1 d h3 => ⟨v, rfl, fun dd hdd => ?_⟩
  have st : Step w1 H1 w1 (upd H1 dd (.xd [(fld, v)])) := (Step.refl w1 H1).priv hdd
  have g2 : Good G w1 (upd H1 dd (.xd [(fld, v)])) r1 := a1.g.priv (a1.g.nopub hdd) (a1.g.noref hdd) (.inl hdd)
  exact h3 w1 _ σ _ _ (a1.st.trans st) g2 (a1.s.step st) ⟨cA, dd, v, fld, h1, rfl, rfl, xc.fl, upd_same, d⟩
/-! ### what was caught -/
structure EI (G : Gm) (w : Wd) (H : Hp) (c : Nat) (p : T) (cls : Value) (d : Option Addr) : Prop where
  ex : ∃ cA dd v f, G.mg (G.cn c) = some (.ref cA) ∧ cls = .ref cA ∧ d = some dd ∧ G.fl c = [f] ∧ H dd = some (.xd [(f, v)]) ∧ dd ∉ w.R ∧ Den G w v p
theorem ExcIs.ei {G : Gm} {w : Wd} {H : Hp} {r : RS} {c : Nat} {p : T} {cls : Value} {d : Option Addr} (x : ExcIs G w H c p cls d) (g : Good G w H r) : EI G w H c p cls d := by
  obtain ⟨cA, dd, v, f, h1, h2, h3, h4, h5, h6⟩ := x.ex
  refine ⟨cA, dd, v, f, h1, h2, h3, h4, h5, fun hm => ?_, h6⟩
  obtain ⟨vs, e⟩ := g.refs.there hm
  rw [h5] at e
  cases e
theorem EI.step {G : Gm} {w w' : Wd} {H H' : Hp} {c : Nat} {p : T} {cls : Value} {d : Option Addr} (x : EI G w H c p cls d) (s : Step w H w' H') : EI G w' H' c p cls d := by
  obtain ⟨cA, dd, v, f, h1, h2, h3, h4, h5, h6, h7⟩ := x.ex
  exact ⟨cA, dd, v, f, h1, h2, h3, h4, s.fr _ _ h6 h5 (by intro _ e; cases e), s.noR h6 (vs_of h5), h7.mono s.later⟩
abbrev XF : XK := fun _ _ _ => False
theorem OutP.noW {α : Type} {G : Gm} {w : Wd} {H : Hp} {σ : L2.St} {P : α → RS → Wd → Hp → Prop} {o : Out α} (h : OutP G w H (WE0 W0 σ) P o) : OutP G w H XF P o := by
  cases o with
  | ok a r => exact h
  | exn c p r => exact h
  | bad => exact h
abbrev HM (α : Type) := Nat → T → Env → M α
section
variable {X : Cx} {G : Gm} {a : Addr} {cls : Value} {d : Option Addr} {i : Nat} {pos : Pos}
def tHE (G : Gm) (a : Addr) (cls : Value) (d : Option Addr) (i : Nat) (f : HM T) : TE := fun σ H Q => ∃ w H0 env r c p, Good G w H r ∧ Slots G w H0 H σ env ∧ σ[i]? = some (some (.ref a)) ∧ EI G w H c p cls d ∧ OutP G w H XF (fun t _ w' H' => ∀ v, Den G w' v t → Q v H') (f c p env r)
def tHA (G : Gm) (a : Addr) (cls : Value) (d : Option Addr) (i : Nat) (fs : List (HM T)) : TA := fun σ H Q => ∃ w H0 env r c p, Good G w H r ∧ Slots G w H0 H σ env ∧ σ[i]? = some (some (.ref a)) ∧ EI G w H c p cls d ∧ OutP G w H XF (fun ts _ w' H' => ∀ vs, Dens G w' vs ts → ts.length = fs.length → Q vs H') (fAll (fs.map fun f => f c p) env r)
def tHS (G : Gm) (a : Addr) (cls : Value) (d : Option Addr) (i : Nat) (hb : Nat → T → Sm) : TS := fun D σ H => ∃ w0 H0 w env r c p, At G w0 H0 w H σ env r ∧ σ[i]? = some (some (.ref a)) ∧ EI G w H c p cls d ∧ FlowP G W0 w0 H0 D (hb c p env r)
theorem he_of {e : Expr} {f : Env → M T} (h : SE X G W0 e f) : PE X e (tHE G a cls d i fun _ _ => f) := pe_imp h fun σ H Q ⟨w, H0, env, r, c, p, g, s, _, _, h⟩ => ⟨w, H0, env, r, g, s, h⟩
theorem ha_nil : PA X [] (tHA G a cls d i []) := pa_imp pa_nil fun σ H Q ⟨w, H0, env, r, c, p, g, s, _, _, h⟩ => OutP.here g h [] .nil rfl
theorem ha_cons {e : Expr} {es : List Expr} {f : HM T} {fs : List (HM T)} (h1 : PE X e (tHE G a cls d i f)) (h2 : PA X es (tHA G a cls d i fs)) (hs : starEach (e :: es) X.env = (false, eval e X.env) :: starEach es X.env := by rfl) : PA X (e :: es) (tHA G a cls d i (f :: fs)) :=
  pa_imp (pa_cons h1 h2 hs) fun σ H Q ⟨w, H0, env, r, c, p, g, s, e1, ei, h⟩ => by
    have h : OutP G w H XF (fun ts _ w' H' => ∀ vs, Dens G w' vs ts → ts.length = (f :: fs).length → Q vs H') ((f c p env >>= fun x => fAll (fs.map fun f => f c p) env >>= fun xs => pure (x :: xs)) r) := h
    refine ⟨w, H0, env, r, c, p, g, s, e1, ei, h.bind.imp fun t r1 w1 H1 st1 g1 o v dv => ?_⟩
    refine ⟨w1, H0, env, r1, c, p, g1, s.step st1, e1, ei.step st1, o.bind.imp fun ts r2 w2 H2 st2 g2 o2 vs dvs l => ?_⟩
    exact OutP.here g2 o2 (v :: vs) (.cons (dv.mono st2.later) dvs) (by rw [List.length_cons, List.length_cons, l])
theorem he_lst {es : List Expr} {fs : List (HM T)} (ha : PA X es (tHA G a cls d i fs)) (hl : fs.length ≤ 1000 := by decide) : PE X (.List es pos) (tHE G a cls d i fun c p => fLst (fs.map fun f => f c p)) :=
  pe_imp (pe_lst ha) fun σ H Q ⟨w, H0, env, r, c, p, g, s, e1, ei, h⟩ => by
    refine ⟨w, H0, env, r, c, p, g, s, e1, ei, h.bind.imp fun ts r1 w1 H1 st1 g1 o vs d1 l => ?_⟩
    have hz : ts.length ≤ sizeLine := by rw [l]; exact Nat.le_trans hl (by decide)
    refine ⟨by rw [d1.length]; exact hz, fun q hq => ?_⟩
    obtain ⟨st, g2⟩ := g1.new (o := .lst vs) hq
    exact o _ _ st g2 _ (.lst upd_same hz (d1.mono st.later))
theorem he_tup {es : List Expr} {fs : List (HM T)} {j : Nat} (ha : PA X es (tHA G a cls d i fs)) (hl : fs.length ≤ 1000 := by decide) : PE X (.Tuple es j pos) (tHE G a cls d i fun c p => fTup (fs.map fun f => f c p)) :=
  pe_imp (pe_tup ha) fun σ H Q ⟨w, H0, env, r, c, p, g, s, e1, ei, h⟩ => by
    refine ⟨w, H0, env, r, c, p, g, s, e1, ei, h.bind.imp fun ts r1 w1 H1 st1 g1 o vs d1 l => ?_⟩
    have hz : ts.length ≤ sizeLine := by rw [l]; exact Nat.le_trans hl (by decide)
    refine ⟨by rw [d1.length]; exact hz, fun q hq => ?_⟩
    obtain ⟨st, g2⟩ := g1.new (o := .tup vs) hq
    exact o _ _ st g2 _ (.tup (.inl upd_same) hz (d1.mono st.later))
/-- what must be known of a class, that a field of its exceptions be read -/
structure XgOk (G : Gm) (c : Nat) (fld : Str) : Prop where
  fl : G.fl c = [fld]
  ga : ∀ cA, G.mg (G.cn c) = some (.ref cA) → PySem.W.findIn G.K (.ref cA) "__getattribute__" = some (some (.builtin "BaseException.__getattribute__")) ∧ PySem.W.findIn G.K (.ref cA) "__getattr__" = some none ∧ PySem.W.subIn G.K (.ref cA) (.type "BaseException") = some true ∧ PySem.W.hasDictIn G.K cA = true ∧ PySem.W.findIn G.K (.ref cA) fld = some none
def hFld (xf : Nat → Bool) : HM T := fun c p _ => if xf c = true then pure p else M.bad
theorem he_fld {oe : Obj} {pn : List (Addr × Obj)} {n fld : Str} {np : Pos} (hK : X.K = G.K) (hz : Zc cls d oe) (hf : ∃ vs, oe.data = .fields vs) (xf : Nat → Bool) (ok : ∀ c, xf c = true → XgOk G c fld) (hN : X.N[i]? = some n) (hv : Vis X.env.scope n)
    (hb : attributeBase (.Name n np) fld (X.suite a ((a, oe) :: pn)).env (eval (.Name n np) (X.suite a ((a, oe) :: pn)).env) = eval (.Name n np) (X.suite a ((a, oe) :: pn)).env := by rfl) (hd : (n == ("__debug__" : Str)) = false := by decide) (hcd : (n == ("__classdict__" : Str)) = false := by decide) :
    PE (X.suite a ((a, oe) :: pn)) (.Attribute (.Name n np) fld pos) (tHE G a cls d i (hFld xf)) := by
  refine ⟨fun pins s σ H Q I ⟨w, H0, env, r, c, p, g, sl, e1, ei, h⟩ => ?_⟩
  refine attr_of hb (thn ((pe_var (X := X.suite a ((a, oe) :: pn)) (pos := np) (i := i) hN hv hd hcd).run pins s σ H (fun v H1 => v = .ref a ∧ H1 = H) I ⟨.ref a, e1, rfl, rfl⟩) fun u s1 ⟨v, H1, I1, r1, q1⟩ => ?_)
  obtain ⟨ev, eH⟩ := q1
  subst ev
  rw [eH] at I1
  obtain rfl : u = Value.ref a := r1
  unfold hFld at h
  by_cases hx : xf c = true
  · rw [if_pos hx] at h
    obtain ⟨fl, ga⟩ := ok c hx
    obtain ⟨cA, dd, v, f, k1, k2, k3, k4, k5, k6, k7⟩ := ei.ex
    rw [fl] at k4
    cases k4
    obtain ⟨ga1, ga2, ga3, ga4, ga5⟩ := ga cA k1
    rw [← hK] at ga1 ga2 ga3 ga4 ga5
    subst k2
    subst k3
    obtain ⟨ha, _⟩ := I1.pin (a, oe) (List.mem_append_left _ List.mem_cons_self)
    obtain ⟨vs, hd'⟩ := hf
    have hxd : ObjOk X.prog X.w H s1.heap dd (.xd [(fld, v)]) := I1.hok dd _ k5
    obtain ⟨mA, hns, hr⟩ := hxd
    obtain ⟨od, ho, hl⟩ := lookIn_ns hns
    have l : List.lookup fld [(fld, v)] = some v := by simp [List.lookup]
    obtain ⟨u, hu, ru⟩ := RelO.some_of (v := v) (o := mA fld) (by rw [← l]; exact hr fld)
    have J : PySem.W.InstAt s1.heap a oe cA (some od) := ⟨ha, hz.1, by unfold PySem.W.notCls; rw [hd'] <;> rfl, by rw [hz.2]; exact ho⟩
    exact HandSPX.exc_get I1.kIn J ga1 ga2 ga3 (PySem.W.findObj_own ga4 ga5 rfl (by rw [hl, hu])) (handed_of ru) ⟨v, H, I1.tok _, ru, OutP.here g h v k7⟩
  · rw [if_neg hx] at h
    exact h.elim
/-- return e, in a suite -/
def hRet (f : HM T) : Nat → T → Sm := fun c p env r => ofM env (fun t r => .rt t r) (f c p env r)
theorem hs_ret {e : Expr} {f : HM T} (h : PE X e (tHE G a cls d i f)) : PSs X [.Return (some e) pos] (tHS G a cls d i (hRet f)) := pss_imp (pss_one (ps_ret h)) fun D σ H ⟨w0, H0, w, env, r, c, p, a0, e1, ei, hq⟩ => by
  refine ⟨w, H0, env, r, c, p, a0.g, a0.s, e1, ei, ((FlowP.ofM a0 hq).imp fun t r1 w1 H1 _ _ q v dv => ?_).noW⟩
  exact q.2 w1 H1 v q.1.st q.1.g dv
end
end Ep
namespace Ep
open PySem PySem.Spec L2 PyProof.Rows
/-! ### try -/
abbrev HdS := (Nat → Option Bool) × Nat × (Nat → T → Sm)
def unS (i : Nat) : SO → SO
  | .nx env r => .nx (env.set i .un) r
  | .bk env r => .bk (env.set i .un) r
  | .ct env r => .ct (env.set i .un) r
  | .rt t r => .rt t r
  | .exn _ _ _ _ => .bad
  | .bad => .bad
def pickH : List HdS → Nat → T → Sm
  | [], c, p, env, r => .exn c p env r
  | (m, i, hb) :: rest, c, p, env, r => match m c with
    | some true => if i < env.length then unS i (hb c p (env.set i .un) r) else .bad
    | some false => pickH rest c p env r
    | none => .bad
def qTry (g : Sm) (hs : List HdS) : Sm := fun env r => match g env r with
  | .exn c p e r' => pickH hs c p e r'
  | o => o
section
variable {X : Cx} {G : Gm} {W : WX}
/-- clauses compute hs -/
def HG (X : Cx) (G : Gm) (W : WX) (hds : List ExceptHandler) (hs : List HdS) : Prop := ∃ l, HdAs X hds l ∧ ∀ (w0 : Wd) (H0 : Hp) (D : Ends) (c : Nat) (p : T) (env : Env) (r : RS), FlowP G W w0 H0 D (pickH hs c p env r) →
  ∀ w' H' σ' cls d, Step w0 H0 w' H' → Good G w' H' r → Slots G w' H0 H' σ' env → ExcIs G w' H' c p cls d → wMA X.K W D l cls d σ' H'
theorem hg_nil : HG X G W [] [] := ⟨[], .nil, fun w0 H0 D c p env r h => h⟩
/-- the classes that a clause takes -/
structure XmOk (K : PySem.W.Frag) (G : Gm) (u : Value) (m : Nat → Option Bool) : Prop where
  ok : ∀ c cA b, G.mg (G.cn c) = some (.ref cA) → m c = some b → PySem.W.exmOne K (.ref cA) u = some b
theorem unS_gone {w0 : Wd} {H0 : Hp} {D : Ends} {i : Nat} {o : SO} (h : FlowP G W w0 H0 D (unS i o)) : FlowP G W0 w0 H0 (gone i D) o := by
  cases o with
  | nx env r => exact fun w' H' σ' st g s => h w' H' _ st g (s.setUn i)
  | bk env r => exact fun w' H' σ' st g s => h w' H' _ st g (s.setUn i)
  | ct env r => exact fun w' H' σ' st g s => h w' H' _ st g (s.setUn i)
  | rt t r => exact fun w' H' v st g dv => h w' H' v st g dv
  | exn c p e r => exact h.elim
  | bad => exact h.elim
theorem hg_cons {x n : Str} {c : Value} {i : Nat} {b₀ : Stmt} {suite : List Stmt} {np pp : Pos} {hds : List ExceptHandler} {m : Nat → Option Bool} {hb : Nat → T → Sm} {hs : List HdS} (hc : Names X x c) (hi : X.N[i]? = some n) (hl : X.env.kindOf n = some .local) (xm : XmOk X.K G c m)
    (hsu : ∀ (a : Addr) (oe : Obj) (cls : Value) (d : Option Addr) (pn : List (Addr × Obj)), Zc cls d oe → (∃ vs, oe.data = .fields vs) → PSs (X.suite a ((a, oe) :: pn)) (b₀ :: suite) (tHS G a cls d i hb)) (r : HG X G W hds hs) :
    HG X G W (.ExceptHandler (some (.Name x np)) (some n) (b₀ :: suite) pp :: hds) ((m, i, hb) :: hs) := by
  obtain ⟨l, h1, h2⟩ := r
  refine ⟨(c, i, fun a cls d => tHS G a cls d i hb) :: l, .cons hc hi hl hsu h1, fun w0 H0 D k p env r h w' H' σ' cls d st g s ex => ?_⟩
  obtain ⟨cA, dd, v, f, k1, k2, k3⟩ := ex.ex
  have h : FlowP G W w0 H0 D (match m k with
    | some true => if i < env.length then unS i (hb k p (env.set i .un) r) else .bad
    | some false => pickH hs k p env r
    | none => .bad) := h
  cases q : m k with
  | none => rw [q] at h; exact h.elim
  | some b =>
    rw [q] at h
    have hm := xm.ok k cA b k1 q
    rw [← k2] at hm
    refine ⟨b, hm, fun hb1 a na => ?_, fun hb1 => ?_⟩
    · subst hb1
      have h : FlowP G W w0 H0 D (if i < env.length then unS i (hb k p (env.set i .un) r) else .bad) := h
      by_cases hl : i < env.length
      · rw [if_pos hl] at h
        exact ⟨w0, H0, w', env.set i .un, r, k, p, ⟨st, g, s.setUn i⟩, by rw [List.getElem?_set_self (by rw [s.len]; exact hl)], ex.ei g, unS_gone h⟩
      · rw [if_neg hl] at h; exact h.elim
    · subst hb1
      exact h2 w0 H0 D k p env r h w' H' σ' cls d st g s ex
theorem ss_try {body : List Stmt} {h₀ : ExceptHandler} {hds : List ExceptHandler} {hs : List HdS} {pos : Pos} {g : Sm} (hst : X.stack = X.env :: X.outer) (hf : X.env.frame = some X.env.locals) (hN : X.N.Nodup) (tk : Takes X W)
    (hb : ∀ (W' : WX) (pn : List (Addr × Obj)) (xe : Value → Shared → Prop), Takes (X.tr pn xe) W' → PassesOwn (model X.prog X.w) X.A X.env xe → SSs (X.tr pn xe) G W' body g) (hh : HG X G W (h₀ :: hds) hs) :
    SS X G W (.Try body (h₀ :: hds) [] [] pos) (qTry g hs) := fun w0 H0 => by
  obtain ⟨l, h1, h2⟩ := hh
  refine ps_imp (ps_tryMA (tb := fun W' => tSS G W' w0 H0 g) hst hf hN tk (fun W' pn xe t po => hb W' pn xe t po w0 H0) h1) fun D σ H ⟨w, env, r, a, h⟩ => ⟨w, env, r, a, ?_⟩
  unfold qTry at h
  cases q : g env r with
  | exn c p e r' =>
    rw [q] at h
    exact fun w' H' σ' cls d st g' s x => h2 w0 H0 D c p e r' h w' H' σ' cls d st g' s x
  | nx e r' => rw [q] at h; exact h
  | rt t r' => rw [q] at h; exact h
  | bk e r' => rw [q] at h; exact h
  | ct e r' => rw [q] at h; exact h
  | bad => rw [q] at h; exact h
end
/-! ### a lambda handed to a def that tries it -/
/-- a def of n slots that tries what it got, then goes on -/
def heardS (n : Nat) (hs : List HdS) (rest : Sm) (act : M T) : M T := fun r => match qSeq (qTry (fun env r => ofM env (fun _ r => .nx env r) (act r)) hs) rest (List.replicate n .un) r with
  | .nx _ r => .ok .non r
  | .rt t r => .ok t r
  | _ => .bad
abbrev D0 (Q : VK) : Ends := { nx := fun _ H' => Q .non H', rt := Q }
theorem Slots.noneAt {G : Gm} {w : Wd} {H0 H : Hp} {σ : L2.St} (n : Nat) (h : σ.length = n) : Slots G w H0 H σ (List.replicate n .un) :=
  ⟨by rw [h, List.length_replicate], fun _ => 0, fun i s hi => by
    rw [List.eq_of_mem_replicate (List.mem_of_getElem? hi)]; trivial, fun i j s u hi hj ps pu _ => by
    rw [List.eq_of_mem_replicate (List.mem_of_getElem? hi)] at ps; cases ps⟩
/-- what the def that tries makes of the reading of what it got -/
def TTh (G : Gm) (n : Nat) (hs : List HdS) (rest : Sm) : (XK → Hp → VK → Prop) → Hp → VK → Prop := fun tl H Q => ∃ w r, Good G w H r ∧ ∀ (E' : XK) (Q' : VK),
  (∀ cls d H', (∃ w' r' c p, Step w H w' H' ∧ Good G w' H' r' ∧ ExcIs G w' H' c p cls d ∧ FlowP G W0 w H (D0 Q) (match pickH hs c p (List.replicate n .un) r' with | .nx env r => rest env r | o => o)) → E' cls d H') →
  (∀ v H', (∃ w' r', Step w H w' H' ∧ Good G w' H' r' ∧ FlowP G W0 w H (D0 Q) (rest (List.replicate n .un) r')) → Q' v H') → tl E' H Q'
theorem takes_len {X : Cx} {W : WX} (tk : Takes X W) : Takes X (fun cls d σ H => σ.length = X.N.length → W cls d σ H) := fun u s' ⟨a, B, sI, pins, σ, H, cls, d, e, I, nb, up, sky, na, os, ag, w⟩ =>
  tk u s' ⟨a, B, sI, pins, σ, H, cls, d, e, I, nb, up, sky, na, os, ag, w I.len⟩
section
variable {X : Cx} {G : Gm} {Ng : List Str} {x a q : Str} {sg : Scope} {g : Addr} {cdg : Value} {n : Nat} {h₀ : ExceptHandler} {hds : List ExceptHandler} {hs : List HdS} {restB : List Stmt} {rest : Sm} {p1 p2 p3 p4 : Pos}
theorem heard_gives (hn : Ng.length = n) (h1 : 1 ≤ n) (nd : Ng.Nodup)
    (hh : ∀ (A : Around) (outer stk : List PySem.Env) (s : Shared) (H : Hp), HG (cxOf C8.CX0 X.prog X.w X.K X.mg X.base Ng x sg g cdg X.A X.stack s H C8.E0).nox G W0 (h₀ :: hds) hs)
    (hr : ∀ (s : Shared) (H : Hp), SSs (cxOf C8.CX0 X.prog X.w X.K X.mg X.base Ng x sg g cdg X.A X.stack s H C8.E0).nox G W0 restB rest) :
    LamX.GivesTo X Ng x sg g cdg (.Try [.Expr (.Call (.Name a p1) [] [] p2) p3] (h₀ :: hds) [] [] p4 :: restB) a q (TTh G n hs rest) := by
  intro f c' s H Q tl act hc ⟨w, r, gd, ht⟩
  obtain ⟨l, k1, k2⟩ := hh X.A [] [] s H
  refine ⟨_, pss_cons (ps_tryMA (X := (cxOf C8.CX0 X.prog X.w X.K X.mg X.base Ng x sg g cdg X.A X.stack s H C8.E0).nox) (tb := fun W' => fun D σ H => ∃ Ech : XK, (∀ cls d σ' H', Ech cls d H' → σ'.length = Ng.length → W' cls d σ' H') ∧ σ[0]? = some (some (.ref f)) ∧ H c' = some (LamX.CodeO c' q) ∧ tl Ech H fun _ H' => D.nx σ H')
    rfl rfl nd LamX.takes0 (fun W' pn xe tk _ => ?_) k1) (hr s H w H), ?_⟩
  · refine ⟨fun pins s' σ H' D I h' => ?_⟩
    obtain ⟨Ech, hW, e1, e2, e3⟩ := h'
    have hp := act (fun cls d σ' H' => σ'.length = Ng.length → W' cls d σ' H') pn xe Ech p1 p2 (takes_len tk) hW
    exact (pss_one (ps_expr (pos := p3) hp)).run pins s' σ H' D I ⟨e1, e2, e3⟩
  · have st : ∀ f : Addr, (L2.start Ng [V.ref f])[0]? = some (some (V.ref f)) := fun f => by
      unfold L2.start
      rfl
    have sl : ∀ f : Addr, (L2.start Ng [V.ref f]).length = n := fun f => by
      unfold L2.start
      simp
      omega
    refine ⟨fun cls d H' => ∃ w' r' c p, Step w H w' H' ∧ Good G w' H' r' ∧ ExcIs G w' H' c p cls d ∧ FlowP G W0 w H (D0 Q) (match pickH hs c p (List.replicate n .un) r' with | .nx env r => rest env r | o => o), ?_, st f, hc, ht _ _ (fun cls d H' z => z) fun v H' ⟨w', r', s1, g1, hq⟩ => ⟨w', List.replicate n .un, r', ⟨s1, g1, Slots.noneAt n (sl f)⟩, hq⟩⟩
    · rintro cls d σ' H' ⟨w', r', c, p, s1, g1, ex, hq⟩ hl
      refine k2 w H _ c p (List.replicate n .un) r' ?_ w' H' σ' cls d s1 g1 (Slots.noneAt n (hl.trans hn)) ex
      cases o : pickH hs c p (List.replicate n .un) r' with
      | nx env r2 => rw [o] at hq; exact fun w2 H2 σ2 st g s => ⟨w2, env, r2, ⟨st, g, s⟩, hq⟩
      | rt t r2 => rw [o] at hq; exact hq
      | bk e r2 => rw [o] at hq; exact fun w2 H2 σ2 st g s => hq w2 H2 σ2 st g s
      | ct e r2 => rw [o] at hq; exact fun w2 H2 σ2 st g s => hq w2 H2 σ2 st g s
      | exn c2 p2 e r2 => rw [o] at hq; exact hq
      | bad => rw [o] at hq; exact hq
end
section
variable {X : Cx} {G : Gm} {W : WX}
theorem ext_step {w : Wd} {H H1 : Hp} (e : LamX.ExtN H H1) : Step w H w H1 := ⟨Same.refl _, fun a o _ h n => e a o h n, fun a ⟨o, h, n⟩ => ⟨o, e a o h n, n⟩, fun _ _ _ h => h, ⟨[], by simp, by simp⟩, rfl⟩
theorem ext_good {w : Wd} {H H1 : Hp} {r : RS} (g : Good G w H r) (e : LamX.ExtN H H1) (t : LamX.Tabs G.tb H1) : Good G w H1 r := ⟨fun a o h => e a o (g.sub a o h) (g.nt a o h), ⟨g.refs.nd, g.refs.len, g.refs.out, fun k xs hk => by
  obtain ⟨a, vs, h1, h2, h3, h4⟩ := g.refs.at_ k xs hk
  exact ⟨a, vs, h1, e a _ h2 (by intro _ z; cases z), h3, h4⟩⟩, t, g.nt⟩
/-- x(lambda: body), x a def that tries what it got -/
theorem s_lam {Ng : List Str} {x a : Str} {stg : Stmt} {g c P : Addr} {fdg : FuncData} {n k : Nat} {h₀ : ExceptHandler} {hds : List ExceptHandler} {hs : List HdS} {restB : List Stmt} {rest : Sm} {p1 p2 p3 p4 : Pos} {params : Arguments} {body : Expr} {scope : Scope} {f : Env → M T} {p lpos pos : Pos}
    (hK : X.K = G.K) (hM : X.mg = G.mg) (hg : Gl X x) (hm : G.mg x = some (.ref g)) (F : FunD G.K x x (defArgs stg) (defBody stg) (defScope stg) [] [] g fdg) (hb : L2.Binds G.K fdg [a] []) (Sg : FnScope Ng [a] (defScope stg)) (hNg : Ng[0]? = some a) (hva : Vis (defScope stg) a)
    (eb : defBody stg = .Try [.Expr (.Call (.Name a p1) [] [] p2) p3] (h₀ :: hds) [] [] p4 :: restB) (hn : Ng.length = n) (h1 : 1 ≤ n)
    (hh : ∀ (cdg : Value) (s : Shared) (H : Hp), HG (cxOf C8.CX0 X.prog X.w X.K X.mg X.base Ng x (defScope stg) g cdg X.A X.stack s H C8.E0).nox G W0 (h₀ :: hds) hs)
    (hr : ∀ (cdg : Value) (s : Shared) (H : Hp), SSs (cxOf C8.CX0 X.prog X.w X.K X.mg X.base Ng x (defScope stg) g cdg X.A X.stack s H C8.E0).nox G W0 restB rest)
    (TB : LamX.TabB X.base X.mg c P) (hcode : X.env.code = .ref c) (hmT : (P, X.env.qual ++ "<lambda>") ∈ G.tb) (hu : ∀ p ∈ G.tb, p.1 = P → p.2 = X.env.qual ++ "<lambda>") (rm : Room (k + 2) X.A) (L : LamX.LamS X.env.scope scope) (tk : Takes X W)
    (hbody : ∀ (A : Around) (outer : List PySem.Env) (s : Shared) (H : Hp) (E : XK) (f' c' : Addr), Room k (A.deeper (LamX.lamEnv X scope s.heap.objs.size f' c')) → SE (LamX.lamCx X A outer s H E scope f' c') G (WD E) body f)
    (hdef : defaultsOf params X.env = ([], []) := by rfl) (hbind : ∀ (q : Str) (cl : List (Str × Addr)) (pm cv ctv : Value), bindArgs (PySem.W.kla_fn "<lambda>" q params body scope cl pm cv ctv) ⟨[], []⟩ = pure [] := by intros; rfl)
    (hdb : (x == ("__debug__" : Str)) = false := by decide) (hd : (a == ("__debug__" : Str)) = false := by decide) (hcd : (a == ("__classdict__" : Str)) = false := by decide) :
    SE X G W (.Call (.Name x p) [.Lambda params body scope lpos] [] pos) (fun env => heardS n hs rest (f env)) := by
  obtain ⟨oc, od, dV, kV, doc, pm, an, cdg, ct, osl, efd, lk, hcg, _, _⟩ := F.ex
  rw [← hK] at lk hcg
  subst efd
  have hb' : L2.Binds X.K (PySem.W.fnOf x x (defArgs stg) (defBody stg) (defScope stg) dV kV doc pm an cdg ct) [a] [] := by rw [hK]; exact hb
  rw [eb] at lk hb'
  refine pe_imp (LamX.pe_lamcall (T := G.tb) (TT := TTh G n hs rest) (t := fun E => tS G (WD E) f) hg (by rw [hM]; exact hm) (by rw [hK]; exact F.kp) lk hcg hb' Sg hNg hva (heard_gives hn h1 Sg.nd (fun A outer stk s H => hh cdg s H) (fun s H => hr cdg s H)) TB hcode hmT hu rm L hdef hbind
    (fun A outer s H E f' c' hr' => hbody A outer s H E f' c' hr') hdb hd hcd) fun σ H Q ⟨w, H0, env, r, gd, sl, h⟩ => ?_
  refine ⟨gd.tabs, fun H1 eN T1 => ⟨w, r, ext_good gd eN T1, fun E' Q' hE hQ => ⟨w, H0, env, r, ext_good gd eN T1, sl.step (ext_step eN), ?_⟩⟩⟩
  have h2 : OutP G w H1 (WE0 W σ) (fun t _ w' H' => ∀ v, Den G w' v t → Q v H') (heardS n hs rest (f env) r) := h.mono (ext_step (w := w) eN)
  unfold heardS at h2
  -- what ends, as a flow
  have key : ∀ so : SO, OutP G w H1 (WE0 W σ) (fun t _ w' H' => ∀ v, Den G w' v t → Q v H') (match so with | .nx _ r => .ok .non r | .rt t r => .ok t r | _ => .bad) → FlowP G W0 w H1 (D0 Q) so := fun so z => by
    cases so with
    | nx e r2 => exact fun w' H' σ' st g _ => z w' H' st g _ .non
    | rt t r2 => exact fun w' H' v st g d => z w' H' st g v d
    | bk e r2 => exact z.elim
    | ct e r2 => exact z.elim
    | exn c p e r2 => exact z.elim
    | bad => exact z.elim
  have e0 : (fun env' r => ofM env' (fun _ r => SO.nx env' r) (f env r)) (List.replicate n Slot.un) r = ofM (List.replicate n Slot.un) (fun _ r => SO.nx (List.replicate n Slot.un) r) (f env r) := rfl
  cases q : f env r with
  | ok t r1 =>
    have e : qSeq (qTry (fun env' r => ofM env' (fun _ r => .nx env' r) (f env r)) hs) rest (List.replicate n .un) r = rest (List.replicate n .un) r1 := by
      unfold qSeq qTry
      rw [e0, q]
      rfl
    rw [e] at h2
    exact fun w' H' st g' v d => hQ v H' ⟨w', r1, st, g', key _ h2⟩
  | exn c0 p0 r1 =>
    have e : qSeq (qTry (fun env' r => ofM env' (fun _ r => .nx env' r) (f env r)) hs) rest (List.replicate n .un) r = (match pickH hs c0 p0 (List.replicate n .un) r1 with | .nx env r => rest env r | o => o) := by
      unfold qSeq qTry
      rw [e0, q]
      show (match pickH hs c0 p0 (List.replicate n .un) r1 with | .nx env r => rest env r | o => o) = _
      rfl
    rw [e] at h2
    exact fun w' H' cls d st g' x => hE cls d H' ⟨w', r1, c0, p0, st, g', x, key _ h2⟩
  | bad =>
    have e : qSeq (qTry (fun env' r => ofM env' (fun _ r => .nx env' r) (f env r)) hs) rest (List.replicate n .un) r = .bad := by
      unfold qSeq qTry
      rw [e0, q]
      rfl
    rw [e] at h2
    exact h2.elim
end
/-! ### a def that makes lambdas: its code's address -/
def cdOf (K : PySem.W.Frag) (f : Addr) : Value := match K.lookup f with
  | some ⟨_, _, .func fd, _⟩ => fd.code
  | _ => .none
section
variable {P : Program} {wd : World} {base : Heap} {G : Gm} {k : Nat} {x qual : Str} {st : Stmt} {f : Addr} {fd : FuncData} {N ps : List Str} {n m : Nat} {g : Sm} {dv : List V} {kw : List (Str × V)}
theorem fn_runC (F : FunD G.K x qual (defArgs st) (defBody st) (defScope st) dv kw f fd) (S : FnScope N ps (defScope st)) (hps : ps.length = n) (hm : N.length - n = m)
    (hb : ∀ cdv A outer s H E, cdv = cdOf G.K f → Room k (A.deeper (envOfC qual (defScope st) s.heap.objs.size f cdv)) → SSs (cxB P wd G base N qual st f cdv A outer s H E) G (WD E) (defBody st) g) :
    FnOk P wd G.K G.mg base (L2.CX P wd) (k + 1) f fd ps (spF G n (fnS m g)) := by
  have hcd : ∀ cdv, (∃ oc od dV kV doc pm an ct osl, G.K.lookup f = some ⟨oc, od, .func (PySem.W.fnOf x qual (defArgs st) (defBody st) (defScope st) dV kV doc pm an cdv ct), osl⟩) → cdv = cdOf G.K f := fun cdv ⟨oc, od, dV, kV, doc, pm, an, ct, osl, e⟩ => by
    unfold cdOf
    rw [e]
  obtain ⟨oc, od, dV, kV, doc, pm, an, cdv, ct, osl, efd, lk, hc, hD, hK⟩ := F.ex
  subst efd
  have ec := hcd cdv ⟨oc, od, dV, kV, doc, pm, an, ct, osl, lk⟩
  refine fn_of (CX := L2.CX P wd) lk hc S (spF_len hps) fun A outer s H vs Q E hr ⟨w, r, ts, gd, d, l, h⟩ => ?_
  refine ⟨_, hb cdv A outer s H E ec hr w H, w, _, r, ⟨Step.refl _ _, gd, start_slots d m (by rw [d.length, l]; exact hm)⟩, ?_⟩
  have h : OutP G w H E (fun t _ w' H' => ∀ v, Den G w' v t → Q v H') (fnS m g ts r) := h
  unfold fnS at h
  cases o : g (envOf m ts) r with
  | nx env' r' => rw [o] at h; exact fun w' H' σ' st g' _ => h w' H' st g' _ .non
  | rt t r' => rw [o] at h; exact fun w' H' v st g' dv => h w' H' st g' v dv
  | bk e r' => rw [o] at h; exact h.elim
  | ct e r' => rw [o] at h; exact h.elim
  | exn c p e r' => rw [o] at h; exact fun w' H' σ' cls dd st g' _ x => h w' H' cls dd st g' x
  | bad => rw [o] at h; exact h.elim
end
/-! ### the end, with tables -/
theorem law_endT {l : PySem.W.OpenLaw} {q : Program} {loose : List Str} {XP : (Str → Option Value) → Heap → Prop} {YP : World → Heap → Prop} {d : DefRec} {K : Params → PySem.W.Frag} {x : Str} (k : Nat) (xs : List Str) (hn : l.most = some 63) (hdf : d.params.defaults = []) (hr : Room k callerA)
    (hY : ∀ (w : World) (h : Heap), YP w h → (K w.params).In h)
    (hx : ∀ y ∈ xs, ((recsOf q).find? fun e => e.name == y).isSome = true)
    (F : ∀ (w : World) (mg : Str → Option Value) (fa : Addr) (h : Heap), (K w.params).In h → h.Ns mainGlobals mg → mg d.name = some (.ref fa) → ∃ (G : Gm) (f : List T → M T) (fd : FuncData) (cs : List (Addr × Addr)), G.K = K w.params ∧ G.mg = mg ∧ (∀ (s : Shared) (u : Value), BindsTo s fd ⟨[u], []⟩ [(x, u)]) ∧
      (∀ p ∈ cs, ∃ y ∈ xs, PySem.W.tabIn (K w.params) y = some p) ∧ (∀ p ∈ cs, (K w.params).lookup p.2 = none) ∧ (∀ t ∈ G.tb, ∃ c, (c, t.1) ∈ cs) ∧
      (∀ ns : List Int, ns.length ≤ 63 → (∀ z ∈ ns, Builtin.Int.intBits z ≤ 1048576) → ∃ r, f [.kls (ns.map T.int)] [] = .ok (.bl true) r) ∧ ∀ base : Heap, (K w.params).In base → base.Ns mainGlobals mg → (∀ p ∈ cs, LamX.TabB base mg p.1 p.2) → FnOk l.prog w G.K G.mg base (L2.CX l.prog w) k fa fd [x] (spF G 1 f)) :
    PySem.W.WalkO q loose XP YP l.row.toRowW d []
      (fun f vs => PySem.call f vs) :=
  by
  refine Att.attach_callB hn hdf fun w s₀ s₁ mg mb fa o pm cd doc a vs ns G Y ho hd hcd hmg hobj hints hlen hbits hg => ?_
  have KX := hY w _ Y
  obtain ⟨G', f, fd, cs, e1, e2, hb, t1, t2, t4, hv, hF⟩ := F w mg fa _ KX G.T.g hmg
  have hT : ∀ p ∈ cs, PySem.W.CodeHd s₁.heap p.1 p.2 ∧ s₁.heap.get? p.2 = some { cls := .none, data := .fields #[] } := fun p hp => by
    obtain ⟨y, hy, ey⟩ := t1 p hp
    cases e : (recsOf q).find? fun e => e.name == y with
    | none => have := hx y hy; rw [e] at this; cases this
    | some dr => exact PySem.W.tab_of G.T KX e ey
  refine LamX.law_callTs (k := k) (x := x) (CX := L2.CX l.prog w) (sp := spF G' 1 f) KX G.T.g G.T.b G.T.builtins G.T.nolimit hg (fun p hp => (hT p hp).2) t2 (fun p hp => (hT p hp).1) G.T.bmain hobj hints (Nat.le_trans hlen (by decide)) hr (fun base KB NB hTB => ?_) hb (fun H hH hS => ?_) fun H e s' ⟨_, _, _, _, _, _, _, _, _, _, _, _, z⟩ => z
  · have := hF base KB NB hTB
    rw [e1, e2] at this
    exact this
  · obtain ⟨r, er⟩ := hv ns hlen hbits
    have dint : ∀ (ns : List Int) (w : Wd), Dens G' w (ns.map V.int) (ns.map T.int) := fun ns w => by
      induction ns with
      | nil => exact .nil
      | cons n ns ih => exact .cons (.int n) ih
    refine ⟨⟨noTb H, [], ⟨0, 0, 0⟩⟩, [], [.kls (ns.map T.int)], ⟨fun b o e => (noTb_of e).1, ⟨List.nodup_nil, rfl, fun a h => (by cases h), fun k xs h => (by cases h)⟩, fun p hp => ?_, fun b o e => (noTb_of e).2⟩, .cons (.kls (by rw [e1]; exact noTb_seq hS) (by rw [List.length_map, sizeLine_eq]; omega) (dint ns _)) .nil, rfl, ?_⟩
    · obtain ⟨c, hc⟩ := t4 p hp
      exact LamX.TabS.nil (hH _ hc)
    · rw [er]
      intro w' H' st g v d
      cases d
      rfl
end Ep
namespace Ep
open PySem PySem.Spec L2 PyProof.Rows
/-! ### own __contains__; own comparisons with what is no instance; names of several classes -/
def own2c (C : Nat) (F : List T → M T) : T → T → M T := fun x y => own2 C F y x >>= fun z => match z with
  | .bl b => pure (.bl b)
  | _ => M.bad
def own2nc (C : Nat) (F : List T → M T) : T → T → M T := fun x y => own2 C F y x >>= negB
theorem bool_ne {m : M T} {k : T → M T} (hm : ∀ r c p r', m r ≠ .exn c p r') (hk : ∀ t r c p r', k t r ≠ .exn c p r') (r : RS) (c : Nat) (p : T) (r' : RS) : (m >>= k) r ≠ .exn c p r' := by
  show M.bind m k r ≠ _
  unfold M.bind
  cases o : m r with
  | ok a r2 => exact hk a r2 c p r'
  | exn c' p' r2 => exact absurd o (hm r c' p' r2)
  | bad => simp
theorem own2c_ne {C : Nat} {F : List T → M T} (t u : T) (r : RS) (c : Nat) (p : T) (r' : RS) : own2c C F t u r ≠ .exn c p r' :=
  bool_ne (fun r c p r' => own2_ne u t r c p r') (fun z r c p r' => by cases z <;> simp [M.bad, pure, M.pure]) r c p r'
theorem own2nc_ne {C : Nat} {F : List T → M T} (t u : T) (r : RS) (c : Nat) (p : T) (r' : RS) : own2nc C F t u r ≠ .exn c p r' :=
  bool_ne (fun r c p r' => own2_ne u t r c p r') (fun z r c p r' => by cases z <;> simp [negB, M.bad, pure, M.pure]) r c p r'
section
variable {X : Cx} {G : Gm} {W : WX} {pos : Pos} {a b : Expr} {f g : Env → M T} {C j k : Nat} {F : List T → M T} {m : Str}
/-- turned: the instance is the second operand -/
theorem r2_turn {x y : V} {H : Hp} {Q : VK} {kk : T → M T} {kb : Bool → T} (hk : ∀ z r o, kk z r = o → (∀ b, z = .bl b → o = .ok (kb b) r) ∧ ((∀ b, z ≠ .bl b) → o = .bad)) (h : r2own G C (fun x y => own2 C F y x >>= kk) x y H Q) : r2own G C (own2 C F) y x H (fun v H' => ∃ b, v = .bl b ∧ ∀ v', (∀ w, Den G w v' (kb b)) → Q v' H') := by
  obtain ⟨w, r, t, u, g0, d1, d2, h⟩ := h
  refine ⟨w, r, u, t, g0, d2, d1, ?_⟩
  have h : OutP G w H (fun _ _ _ => False) (fun t _ w' H' => ∀ v, Den G w' v t → Q v H') (M.bind (own2 C F u t) kk r) := h
  unfold M.bind at h
  cases o : own2 C F u t r with
  | ok z r2 =>
    rw [o] at h
    have h : OutP G w H (fun _ _ _ => False) (fun t _ w' H' => ∀ v, Den G w' v t → Q v H') (kk z r2) := h
    obtain ⟨h1, h2⟩ := hk z r2 _ rfl
    intro w' H' st g' v d
    cases d with
    | bl b =>
      rw [h1 b rfl] at h
      exact ⟨b, rfl, fun v' dv => h w' H' st g' v' (dv w')⟩
    | _ => rw [h2 (by intro b e; cases e)] at h; exact h.elim
  | exn c p r2 => exact absurd o (own2_ne u t r c p r2)
  | bad => rw [o] at h; exact h.elim
theorem op_ownIn (D : MethOk X.prog X.w X.base G k C "__contains__" 2 [] F) (hK : X.K = G.K) (hM : X.mg = G.mg) (hr : Room j X.A) (hk : k ≤ j) : OpR X (compareOp .In) (r2own G C (own2c C F)) := by
  intro pins s σ H x y v u Q I rx ry h
  have h := r2_turn (kb := fun b => .bl b) (fun z r o e => ⟨fun b eb => by subst eb; exact e.symm, fun n => by cases z <;> first | exact e.symm | exact absurd rfl (n _)⟩) h
  obtain ⟨p, cA, fn, od, rfl, c, J, fi, ff, run⟩ := own_args D hK hM hr hk I ry rx h
  obtain ⟨mm, hF⟩ := I.fr
  refine PySem.W.in_K hF I.ok.mod.kin J fi ff (wpAny_mono (run X.A (hr.mono hk) I.env0) (fun w s' z => ?_) fun _ _ e => e)
  obtain ⟨z', H', I', rz, b, eb, q⟩ := z
  subst eb
  obtain rfl : w = Value.bool b := rz
  exact wpAny_truthy_bool ⟨.bl b, H', I', rfl, q _ fun w => .bl b⟩
theorem op_ownNin (D : MethOk X.prog X.w X.base G k C "__contains__" 2 [] F) (hK : X.K = G.K) (hM : X.mg = G.mg) (hr : Room j X.A) (hk : k ≤ j) : OpR X (compareOp .NotIn) (r2own G C (own2nc C F)) := by
  intro pins s σ H x y v u Q I rx ry h
  have h := r2_turn (kb := fun b => .bl !b) (fun z r o e => ⟨fun b eb => by subst eb; exact e.symm, fun n => by cases z <;> first | exact e.symm | exact absurd rfl (n _)⟩) h
  obtain ⟨p, cA, fn, od, rfl, c, J, fi, ff, run⟩ := own_args D hK hM hr hk I ry rx h
  obtain ⟨mm, hF⟩ := I.fr
  refine PySem.W.notIn_K hF I.ok.mod.kin J fi ff (wpAny_mono (run X.A (hr.mono hk) I.env0) (fun w s' z => ?_) fun _ _ e => e)
  obtain ⟨z', H', I', rz, b, eb, q⟩ := z
  subst eb
  obtain rfl : w = Value.bool b := rz
  exact wpAny_truthy_bool ⟨.bl !b, H', I', rfl, q _ fun w => .bl !b⟩
theorem s_ownIn (D : MethOk X.prog X.w X.base G k C "__contains__" 2 [] F) (hK : X.K = G.K) (hM : X.mg = G.mg) (hr : Room j X.A) (hk : k ≤ j) (ha : SE X G W a f) (hb : SE X G W b g) (hm : behindInMarks .In b = false) :
    SE X G W (.Compare a [.In] [b] pos) (fun env => f env >>= fun x => g env >>= fun y => own2c C F x y) := pe_imp (pe_cmpR (op_ownIn D hK hM hr hk) ha hb hm) fun σ H Q hq => own_use own2c_ne hq
theorem s_ownNin (D : MethOk X.prog X.w X.base G k C "__contains__" 2 [] F) (hK : X.K = G.K) (hM : X.mg = G.mg) (hr : Room j X.A) (hk : k ≤ j) (ha : SE X G W a f) (hb : SE X G W b g) (hm : behindInMarks .NotIn b = false) :
    SE X G W (.Compare a [.NotIn] [b] pos) (fun env => f env >>= fun x => g env >>= fun y => own2nc C F x y) := pe_imp (pe_cmpR (op_ownNin D hK hM hr hk) ha hb hm) fun σ H Q hq => own_use own2nc_ne hq
theorem b_ownIn (D : MethOk X.prog X.w X.base G k C "__contains__" 2 [] F) (hK : X.K = G.K) (hM : X.mg = G.mg) (hr : Room j X.A) (hk : k ≤ j) (ha : SE X G W a f) (hb : SE X G W b g) (hm : behindInMarks .In b = false) :
    SB X G W (.Compare a [.In] [b] pos) (fToB fun env => f env >>= fun x => g env >>= fun y => own2c C F x y) := pt_imp (pt_cmpR (op_ownIn D hK hM hr hk) ha hb hm) fun σ H Q hq => own_use own2c_ne (tob_read hq)
theorem b_ownNin (D : MethOk X.prog X.w X.base G k C "__contains__" 2 [] F) (hK : X.K = G.K) (hM : X.mg = G.mg) (hr : Room j X.A) (hk : k ≤ j) (ha : SE X G W a f) (hb : SE X G W b g) (hm : behindInMarks .NotIn b = false) :
    SB X G W (.Compare a [.NotIn] [b] pos) (fToB fun env => f env >>= fun x => g env >>= fun y => own2nc C F x y) := pt_imp (pt_cmpR (op_ownNin D hK hM hr hk) ha hb hm) fun σ H Q hq => own_use own2nc_ne (tob_read hq)
/-- compared with a text, a number, nothing, a list, a tuple -/
def plainT : T → Option String
  | .str _ => some "str"
  | .int _ => some "int"
  | .bl _ => some "bool"
  | .non => some "NoneType"
  | .lst _ => some "list"
  | .kls _ => some "list"
  | .tup _ => some "tuple"
  | _ => none
def own2x (C : Nat) (F : List T → M T) : T → T → M T := fun x y => if (plainT y).isSome = true then own2 C F x y else own2s C F x y
theorem own2x_ne {C : Nat} {F : List T → M T} (t u : T) (r : RS) (c : Nat) (p : T) (r' : RS) : own2x C F t u r ≠ .exn c p r' := by
  unfold own2x
  split
  · exact own2_ne _ _ _ _ _ _
  · exact own2s_ne _ _ _ _ _ _
/-- no class above the builtin one -/
structure PxOk (G : Gm) (C : Nat) : Prop where
  ok : ∀ cA, G.mg (G.cn C) = some (.ref cA) → PySem.W.notFirst G.K cA (.type "str") = true ∧ PySem.W.notFirst G.K cA (.type "int") = true ∧ PySem.W.notFirst G.K cA (.type "bool") = true ∧ PySem.W.notFirst G.K cA (.type "NoneType") = true ∧
    PySem.W.notFirst G.K cA (.type "list") = true ∧ PySem.W.notFirst G.K cA (.type "tuple") = true
theorem op_ownX {op : CmpOp} (hop : ∀ a b, compareOp op a b = richCompare op a b) (px : PxOk G C) (D : MethOk X.prog X.w X.base G k C (cmpInfo op).2.1 2 [] F) (hK : X.K = G.K) (hM : X.mg = G.mg) (hr : Room j X.A) (hk : k ≤ j) : OpR X (compareOp op) (r2own G C (own2x C F)) := by
  intro pins s σ H x y v u Q I rx ry h
  obtain ⟨w, r, t, u', g0, d1, d2, h⟩ := h
  unfold own2x at h
  by_cases hp : (plainT u').isSome = true
  · rw [if_pos hp] at h
    obtain ⟨p, cA, fn, od, rfl, c, J, fi, ff, run⟩ := own_args D hK hM hr hk I rx ry ⟨w, r, t, u', g0, d1, d2, h⟩
    obtain ⟨mm, hF⟩ := I.fr
    obtain ⟨n1, n2, n3, n4, n5, n6⟩ := px.ok cA c
    rw [← hK] at n1 n2 n3 n4 n5 n6
    rw [hop]
    have fin : ∀ {w' : Value} {s' : Shared}, EP X pins σ Q w' s' → PySem.W.CmpBack (EP X pins σ Q) w' s' := fun {w' s'} z => by
      obtain ⟨z', H', I', rz, qz⟩ := z
      exact SlX.cmpback rz ⟨z', H', I', rz, qz⟩
    cases d2 with
    | str x =>
      obtain ⟨tk, rfl⟩ := ry
      exact PySem.W.cmp_K (op := op) (tb := .type "str") hr.units0 hF I.ok.mod.kin J (PySem.W.Looks.of_pure rfl) n1 fi ff (wpAny_mono (run X.A (hr.mono hk) I.env0) (fun w s' z => fin z) fun _ _ e => e)
    | int i =>
      obtain ⟨tk, rfl⟩ := ry
      exact PySem.W.cmp_K (op := op) (tb := .type "int") hr.units0 hF I.ok.mod.kin J (PySem.W.Looks.of_pure rfl) n2 fi ff (wpAny_mono (run X.A (hr.mono hk) I.env0) (fun w s' z => fin z) fun _ _ e => e)
    | bl b =>
      obtain rfl : u = Value.bool b := ry
      exact PySem.W.cmp_K (op := op) (tb := .type "bool") hr.units0 hF I.ok.mod.kin J (PySem.W.Looks.of_pure rfl) n3 fi ff (wpAny_mono (run X.A (hr.mono hk) I.env0) (fun w s' z => fin z) fun _ _ e => e)
    | non =>
      obtain rfl : u = Value.none := ry
      exact PySem.W.cmp_K (op := op) (tb := .type "NoneType") hr.units0 hF I.ok.mod.kin J (PySem.W.Looks.of_pure rfl) n4 fi ff (wpAny_mono (run X.A (hr.mono hk) I.env0) (fun w s' z => fin z) fun _ _ e => e)
    | @lst qa qvs qts hq z dd =>
      have hl : SqL X.K H qa qvs := by rw [hK]; exact g0.sub.seq (.inl (.inl hq))
      obtain ⟨its, _, pl, _⟩ := I.list hl
      obtain rfl := ry
      obtain ⟨o, n, ho, hc, _, _⟩ := pl
      have LT : PySem.W.Looks (model X.prog X.w) s.heap (typeOf (.ref qa)) o.cls := (PySem.W.Looks.ld ho).andThen .now
      rw [hc] at LT
      exact PySem.W.cmp_K (op := op) (tb := .type "list") hr.units0 hF I.ok.mod.kin J LT n5 fi ff (wpAny_mono (run X.A (hr.mono hk) I.env0) (fun w s' z => fin z) fun _ _ e => e)
    | @kls qa qvs qts hq z dd =>
      have hl : SqL X.K H qa qvs := by rw [hK]; exact g0.sub.seq hq
      obtain ⟨its, _, pl, _⟩ := I.list hl
      obtain rfl := ry
      obtain ⟨o, n, ho, hc, _, _⟩ := pl
      have LT : PySem.W.Looks (model X.prog X.w) s.heap (typeOf (.ref qa)) o.cls := (PySem.W.Looks.ld ho).andThen .now
      rw [hc] at LT
      exact PySem.W.cmp_K (op := op) (tb := .type "list") hr.units0 hF I.ok.mod.kin J LT n5 fi ff (wpAny_mono (run X.A (hr.mono hk) I.env0) (fun w s' z => fin z) fun _ _ e => e)
    | @tup qa qvs qts hq z dd =>
      have hl : SqT X.K H qa qvs := by rw [hK]; exact tup_sq g0.sub hq
      obtain ⟨its, _, pl, _⟩ := I.tuple hl
      obtain rfl := ry
      obtain ⟨o, ho, hc, _⟩ := pl
      have LT : PySem.W.Looks (model X.prog X.w) s.heap (typeOf (.ref qa)) o.cls := (PySem.W.Looks.ld ho).andThen .now
      rw [hc] at LT
      exact PySem.W.cmp_K (op := op) (tb := .type "tuple") hr.units0 hF I.ok.mod.kin J LT n6 fi ff (wpAny_mono (run X.A (hr.mono hk) I.env0) (fun w s' z => fin z) fun _ _ e => e)
    | _ => cases hp
  · rw [if_neg hp] at h
    exact op_ownC hop D hK hM hr hk pins s σ H x y v u Q I rx ry ⟨w, r, t, u', g0, d1, d2, h⟩
theorem s_ownX {op : CmpOp} (hop : ∀ a b, compareOp op a b = richCompare op a b) (px : PxOk G C) (D : MethOk X.prog X.w X.base G k C (cmpInfo op).2.1 2 [] F) (hK : X.K = G.K) (hM : X.mg = G.mg) (hr : Room j X.A) (hk : k ≤ j) (ha : SE X G W a f) (hb : SE X G W b g) (hm : behindInMarks op b = false) :
    SE X G W (.Compare a [op] [b] pos) (fun env => f env >>= fun x => g env >>= fun y => own2x C F x y) := pe_imp (pe_cmpR (op_ownX hop px D hK hM hr hk) ha hb hm) fun σ H Q hq => own_use own2x_ne hq
theorem b_ownX {op : CmpOp} (hop : ∀ a b, compareOp op a b = richCompare op a b) (px : PxOk G C) (D : MethOk X.prog X.w X.base G k C (cmpInfo op).2.1 2 [] F) (hK : X.K = G.K) (hM : X.mg = G.mg) (hr : Room j X.A) (hk : k ≤ j) (ha : SE X G W a f) (hb : SE X G W b g) (hm : behindInMarks op b = false) :
    SB X G W (.Compare a [op] [b] pos) (fToB fun env => f env >>= fun x => g env >>= fun y => own2x C F x y) := pt_imp (pt_cmpR (op_ownX hop px D hK hM hr hk) ha hb hm) fun σ H Q hq => own_use own2x_ne (tob_read hq)
end
/-! ### a list taken apart -/
def hTupL (n : Nat) (hs : List T → Env → Option Env) : T → Env → Option Env := fun t env => match t with
  | .tup ts => if ts.length = n then hs ts env else none
  | .lst ts => if ts.length = n then hs ts env else none
  | _ => none
theorem g_lst {X : Cx} {G : Gm} {pos : Pos} {us : List Nat} {es : List Expr} {k n : Nat} {hs : List T → Env → Option Env} (hc : X.calm = true) (hK : X.K = G.K) (h : SGs X G us es hs) (hn : (assignEach es X.env).length = n := by rfl) (hst : (assignEach es X.env).findIdx? (·.1) = none := by rfl) :
    ∀ w0 H0, PG X (.Tuple es k pos) (fun v σ H Q => ∃ w env r t env', At G w0 H0 w H σ env r ∧ Den G w v t ∧ (∃ ts, t = .lst ts ∧ ts.length = n ∧ hs ts env = some env') ∧ ∀ σ', Slots G w H0 H σ' env' → But us σ σ' → Q σ' H) := fun w0 H0 =>
  pg_imp (pg_lst hc (h w0 H0) hn hst) fun v σ H Q ⟨w, env, r, t, env', a, d, ⟨ts, et, hl, e⟩, q⟩ => by
    subst et
    cases d with
    | @lst p vs ts hh z dd =>
      rw [hK]
      exact ⟨p, vs, rfl, SqL.of (a.g.sub _ _ hh), by rw [dd.length]; exact hl, w, env, r, ts, env', a, dd, e, q⟩
/-- a target that takes tuples or lists -/
theorem pg_or {X : Cx} {tg : Expr} {t1 t2 : TG} (h1 : PG X tg t1) (h2 : PG X tg t2) : PG X tg (fun v σ H Q => t1 v σ H Q ∨ t2 v σ H Q) := ⟨fun pins s σ H v u Q I r q => by
  rcases q with q | q
  · exact h1.run pins s σ H v u Q I r q
  · exact h2.run pins s σ H v u Q I r q⟩
theorem g_tl {X : Cx} {G : Gm} {pos : Pos} {us : List Nat} {es : List Expr} {k n : Nat} {hs : List T → Env → Option Env} (hc : X.calm = true) (hK : X.K = G.K) (h : SGs X G us es hs) (hn : (assignEach es X.env).length = n := by rfl) (hst : (assignEach es X.env).findIdx? (·.1) = none := by rfl) : SG X G us (.Tuple es k pos) (hTupL n hs) := fun w0 H0 =>
  pg_imp (pg_or (g_tup (k := k) (pos := pos) hc hK h hn hst w0 H0) (g_lst (k := k) (pos := pos) hc hK h hn hst w0 H0)) fun v σ H Q ⟨w, env, r, t, env', a, d, e, q⟩ => by
    cases t with
    | tup ts => exact .inl ⟨w, env, r, _, env', a, d, e, q⟩
    | lst ts =>
      have e : (if ts.length = n then hs ts env else none) = some env' := e
      by_cases hl : ts.length = n
      · rw [if_pos hl] at e; exact .inr ⟨w, env, r, _, env', a, d, ⟨ts, rfl, hl, e⟩, q⟩
      · rw [if_neg hl] at e; cases e
    | _ => cases e
theorem Bd.tl {X : Cx} {G : Gm} {W : WX} {j : Nat} {pos : Pos} {es : List Expr} (B : Bd X G W j) {us : List Nat} {kk : Nat} {hs : List T → Env → Option Env} (n : Nat) (h : SGs X G us es hs) (hn : (assignEach es X.env).length = n := by rfl) (hst : (assignEach es X.env).findIdx? (·.1) = none := by rfl) : SG X G us (.Tuple es kk pos) (hTupL n hs) := g_tl B.calm B.eK h hn hst
end Ep
namespace Ep
open PySem PySem.Spec L2 PyProof.Rows
/-! ### comprehensions with two clauses -/
/-- a walk by an invariant, for any turn -/
theorem walk_it {J : It} {n : Nat} {Gd : Hp → Prop} {Y : Nat → Hp → V → Hp → Prop} (w : Walk J n Gd Y) {turn : V → Hp → (Hp → Prop) → Prop} {H : Hp} {Qd : Hp → Prop} (Pv : Nat → Hp → Prop) (h0 : Pv 0 H) (hG : ∀ i H, i ≤ n → Pv i H → Gd H)
    (hs : ∀ i x H H', i < n → Pv i H → Y i H x H' → turn x H' (Pv (i + 1))) (hd : ∀ H, Pv n H → Qd H) :
    ∃ W : Nat → Nat → Hp → Prop, (∃ m, W 0 m H) ∧ ∀ i m H, W i m H → (J.stop i H ∧ Qd H) ∨ (J.go i H ∧ ∃ Nx : Hp → Prop, (∀ H', Nx H' → ∃ m', m' < m ∧ W (i + 1) m' H') ∧ ∀ x H', J.yld i H x H' → turn x H' Nx) := by
  refine ⟨fun i m H => m = n - i ∧ i ≤ n ∧ Pv i H, ⟨n, rfl, Nat.zero_le _, h0⟩, ?_⟩
  rintro i m H ⟨rfl, hi, p⟩
  have q := hG i H hi p
  rcases Nat.lt_or_eq_of_le hi with hlt | e
  · exact .inr ⟨w.goes i H hlt q, Pv (i + 1), fun H' p' => ⟨n - (i + 1), by omega, rfl, hlt, p'⟩, fun x H' y => hs i x H H' hlt p (w.yields i H x H' hlt q y)⟩
  · subst e
    exact .inl ⟨w.stops H q, hd H p⟩
/-- the new list at D holds acc -/
structure CS (G : Gm) (D : Addr) (w1 : Wd) (H1 : Hp) (acc : List T) (w' : Wd) (H' : Hp) (r' : RS) : Prop where
  st : Step w1 H1 w' H'
  g : Good G w' H' r'
  hP : w'.P D = none
  hR : D ∉ w'.R
  at_ : ∃ vs, H' D = some (.lst vs) ∧ Dens G w' vs acc
  z : acc.length ≤ sizeLine
theorem CS.step {G : Gm} {D : Addr} {w1 w' w2 : Wd} {H1 H' H2 : Hp} {acc : List T} {r' r2 : RS} (c : CS G D w1 H1 acc w' H' r') (s : Step w' H' w2 H2) (g : Good G w2 H2 r2) : CS G D w1 H1 acc w2 H2 r2 := by
  obtain ⟨vs, h1, h2⟩ := c.at_
  exact ⟨c.st.trans s, g, s.hid D c.hR (vs_of h1) c.hP, s.noR c.hR (vs_of h1), ⟨vs, s.fr D _ c.hR h1 (by intro _ e; cases e), h2.mono s.later⟩, c.z⟩
theorem CS.app {G : Gm} {D : Addr} {w1 w' : Wd} {H1 H' : Hp} {acc : List T} {r' : RS} {v : V} {t : T} (c : CS G D w1 H1 acc w' H' r') (hD : ¬ Vs H1 D) (d : Den G w' v t) (hl : acc.length < sizeLine) : ∃ vs, H' D = some (.lst vs) ∧ vs.length < sizeLine ∧ CS G D w1 H1 (acc ++ [t]) w' (upd H' D (.lst (vs ++ [v]))) r' := by
  obtain ⟨vs, h1, h2⟩ := c.at_
  exact ⟨vs, h1, by rw [h2.length]; exact hl, c.st.chg hD, c.g.priv c.hP c.hR (.inr ⟨_, h1, ⟨fun _ e => (by cases e), fun _ e => (by cases e)⟩⟩), c.hP, c.hR, ⟨_, upd_same, h2.append (.cons d .nil)⟩, by rw [List.length_append, List.length_singleton]; exact hl⟩
/-- without D -/
def wo (H : Hp) (D : Addr) : Hp := fun b => if b = D then none else H b
theorem wo_ne {H : Hp} {D b : Addr} (h : b ≠ D) : wo H D b = H b := if_neg h
theorem wo_of {H : Hp} {D b : Addr} {o : HO} (h : wo H D b = some o) : b ≠ D ∧ H b = some o := by
  by_cases e : b = D
  · unfold wo at h; rw [if_pos e] at h; cases h
  · exact ⟨e, by rw [wo_ne e] at h; exact h⟩
theorem wo_upd {H : Hp} {D : Addr} {o : HO} : wo (upd H D o) D = wo H D := by
  funext b
  by_cases e : b = D
  · unfold wo; rw [if_pos e, if_pos e]
  · rw [wo_ne e, wo_ne e, upd_ne e]
theorem Step.wo {w w' : Wd} {H H' : Hp} {D : Addr} (s : Step w H w' H') : Step w (wo H D) w' (Ep.wo H' D) := ⟨s.pub, fun a o h1 h2 h3 => by
    obtain ⟨e, h⟩ := wo_of h2
    rw [wo_ne e]
    exact s.fr a o h1 h h3, fun a ⟨o, h1, h2⟩ => by
    obtain ⟨e, h⟩ := wo_of h1
    obtain ⟨u, h3, h4⟩ := s.keep a ⟨o, h, h2⟩
    exact ⟨u, by rw [wo_ne e]; exact h3, h4⟩, fun a h1 ⟨o, h2, h3⟩ h4 => s.hid a h1 ⟨o, (wo_of h2).2, h3⟩ h4, by
    obtain ⟨m, e, hm⟩ := s.refs
    exact ⟨m, e, fun a ha ⟨o, h2, h3⟩ => hm a ha ⟨o, (wo_of h2).2, h3⟩⟩, s.me⟩
theorem Slots.wo {G : Gm} {w : Wd} {Hb H : Hp} {σ : L2.St} {env : Env} {D : Addr} (s : Slots G w Hb H σ env) (h : Vs Hb D) : Slots G w Hb (wo H D) σ env := by
  obtain ⟨oa, h1, h2⟩ := s.ex
  refine ⟨s.len, oa, fun i u hi => ?_, h2⟩
  have := h1 i u hi
  cases u with
  | un => trivial
  | val t => exact this
  | pv q =>
    obtain ⟨a1, a2, a3, a4, o, a5, a6⟩ := this
    exact ⟨a1, a2, a3, a4, o, by rw [wo_ne (fun e => a4 (by rw [e]; exact h))]; exact a5, a6⟩
theorem Slots.ow {G : Gm} {w : Wd} {Hb H : Hp} {σ : L2.St} {env : Env} {D : Addr} (s : Slots G w Hb (Ep.wo H D) σ env) : Slots G w Hb H σ env := by
  obtain ⟨oa, h1, h2⟩ := s.ex
  refine ⟨s.len, oa, fun i u hi => ?_, h2⟩
  have := h1 i u hi
  cases u with
  | un => trivial
  | val t => exact this
  | pv q =>
    obtain ⟨a1, a2, a3, a4, o, a5, a6⟩ := this
    exact ⟨a1, a2, a3, a4, o, (wo_of a5).2, a6⟩
open Classical in
/-- another base, in which D is seen -/
theorem Slots.rebaseD {G : Gm} {w : Wd} {H0 H : Hp} {σ : L2.St} {env : Env} {r : RS} {D : Addr} (s : Slots G w H0 (Ep.wo H D) σ env) (g : Good G w H r) (hD : Vs H D) : ∃ Hb, At G w Hb w H σ env r ∧ Vs Hb D := by
  obtain ⟨oa, h1, h2⟩ := s.ex
  let own : Addr → Prop := fun b => ∃ i sl, env[i]? = some sl ∧ Slot.priv sl = true ∧ oa i = b
  have ownD : ¬ own D := fun ⟨i, sl, e1, p1, e2⟩ => by
    have := h1 i sl e1
    cases sl with
    | un => cases p1
    | val _ => cases p1
    | pv o =>
      obtain ⟨_, _, _, _, o, a5, _⟩ := this
      exact (wo_of a5).1 e2
  let Hb : Hp := fun b => if own b then none else H b
  have b1 : ∀ b, own b → Hb b = none := fun b h => if_pos h
  have b2 : ∀ b, ¬ own b → Hb b = H b := fun b h => if_neg h
  have b3 : ∀ b o, Hb b = some o → H b = some o := fun b o e => by
    by_cases q : own b
    · rw [b1 b q] at e; cases e
    · rw [b2 b q] at e; exact e
  refine ⟨Hb, ⟨⟨Same.refl _, fun b o _ e _ => b3 b o e, fun b ⟨o, e, n⟩ => ⟨o, b3 b o e, n⟩, fun _ _ _ e => e, ⟨[], by simp, by simp⟩, rfl⟩, g, s.len, oa, fun i sl hi => ?_, h2⟩, ?_⟩
  · have := h1 i sl hi
    cases sl with
    | un => trivial
    | val t => exact this
    | pv q =>
      obtain ⟨a1, a2, a3, a4, o, a5, a6⟩ := this
      exact ⟨a1, a2, a3, nvs (b1 _ ⟨i, _, hi, rfl, rfl⟩), o, (wo_of a5).2, a6⟩
  · obtain ⟨o, e, n⟩ := hD
    exact ⟨o, by rw [b2 D ownD]; exact e, n⟩
section
variable {G : Gm} {w w1 : Wd} {Hb H1 : Hp} {σ : L2.St} {D : Addr} {f : Env → M T} {p : Env → M Bool} {h : T → Env → Option Env} {us vs : List Nat}
/-- the loop of one clause, whatever follows it -/
theorem one_use {E : XK} {β : Type} {P : β → RS → Wd → Hp → Prop} {k : List T → M β} {J : It} {ys acc : List T} {env : Env} {w4 : Wd} {H4 : Hp} {r4 : RS} (hu : ∀ j ∈ us, j ∈ vs) (hD : ¬ Vs H1 D) (it : ItOk G w4 J ys) (cs : CS G D w1 H1 acc w4 H4 r4) (sl : Slots G w4 Hb H4 σ env) (hb : Vs Hb D)
    (ho : OutP G w1 H1 E P ((compF vs h p f ys acc env >>= k) r4)) :
    ∃ W : Nat → Nat → Hp → Prop, (∃ m, W 0 m H4) ∧ ∀ i m H, W i m H → (J.stop i H ∧ ∃ acc' w5 r5, CS G D w1 H1 acc' w5 H r5 ∧ OutP G w1 H1 E P (k acc' r5)) ∨ (J.go i H ∧ ∃ Nx : Hp → Prop, (∀ H', Nx H' → ∃ m', m' < m ∧ W (i + 1) m' H') ∧
      ∀ x H', J.yld i H x H' → tGx G us h x (wipe σ vs) H' fun σ2 H2 => wipe σ2 vs = wipe σ vs ∧ tSB G W0 p σ2 H2 fun b H3 => if b = true then tS G W0 f σ2 H3 fun y H4 => ∃ acc, H4 D = some (.lst acc) ∧ acc.length < sizeLine ∧ Nx (upd H4 D (.lst (acc ++ [y]))) else Nx H3) := by
  obtain ⟨Gd, Y, wk, hG, hY⟩ := it
  refine walk_it wk (turn := fun x H' Nx => tGx G us h x (wipe σ vs) H' fun σ2 H2 => wipe σ2 vs = wipe σ vs ∧ tSB G W0 p σ2 H2 fun b H3 => if b = true then tS G W0 f σ2 H3 fun y H4 => ∃ acc, H4 D = some (.lst acc) ∧ acc.length < sizeLine ∧ Nx (upd H4 D (.lst (acc ++ [y]))) else Nx H3)
    (fun i H' => ∃ acc' w' r', CS G D w1 H1 acc' w' H' r' ∧ Step w4 (wo H4 D) w' (wo H' D) ∧ OutP G w1 H1 E P ((compF vs h p f (ys.drop i) acc' env >>= k) r')) ⟨acc, w4, r4, cs, Step.refl _ _, ho⟩ (fun i H' _ ⟨acc', w', r', c, s, _⟩ => hG w' H' r' s.later c.g) ?_ ?_
  · rintro i x H2 H3 hlt ⟨acc', w', r', c, s, ho⟩ y
    obtain ⟨t, w2, ht, st2, g2, dx⟩ := hY i H2 x H3 w' r' s.later c.g hlt y
    have c2 := c.step st2 g2
    have s2 := s.trans st2.wo
    have sl2 := (((sl.wo hb).step s2).ow).wiped vs
    obtain ⟨Hc, aB, _⟩ := sl2.rebase g2
    have ed : ys.drop i = t :: ys.drop (i + 1) := by
      rw [List.drop_eq_getElem_cons hlt]
      rw [List.getElem?_eq_getElem hlt] at ht
      cases ht
      rfl
    rw [ed] at ho
    have ho : OutP G w1 H1 E P (M.bind (compF vs h p f (t :: ys.drop (i + 1)) acc' env) k r') := ho
    unfold compF at ho
    cases q : h t (wipeE env vs) with
    | none => rw [q] at ho; exact ho.elim
    | some env1 =>
      rw [q] at ho
      have ho : OutP G w1 H1 E P (M.bind (noEx (p env1) >>= fun b => if b = true then noEx (f env1) >>= fun y => if acc'.length < sizeLine then compF vs h p f (ys.drop (i + 1)) (acc' ++ [y]) env else M.bad else compF vs h p f (ys.drop (i + 1)) acc' env) k r') := ho
      rw [show ∀ (m : M Bool) (kk : Bool → M (List T)), M.bind (m >>= kk) k r' = (m >>= fun b => kk b >>= k) r' from fun m kk => by
        show M.bind (M.bind m kk) k r' = M.bind m (fun b => M.bind (kk b) k) r'
        unfold M.bind
        cases m r' <;> rfl] at ho
      refine ⟨w2, Hc, w2, _, r', t, env1, aB, dx, q, fun σ2 sl b => ⟨wipe_but b hu, ?_⟩⟩
      refine ⟨w2, Hc, env1, r', g2, sl, (noEx_use ho).imp fun b r3 w3 H5 st3 g3 ho => ?_⟩
      have c3 := c2.step st3 g3
      have s3 := s2.trans st3.wo
      cases b with
      | false => exact ⟨acc', w3, r3, c3, s3, ho⟩
      | true =>
        have ho : OutP G w1 H1 E P (M.bind (noEx (f env1) >>= fun y => if acc'.length < sizeLine then compF vs h p f (ys.drop (i + 1)) (acc' ++ [y]) env else M.bad) k r3) := ho
        rw [show ∀ (m : M T) (kk : T → M (List T)), M.bind (m >>= kk) k r3 = (m >>= fun b => kk b >>= k) r3 from fun m kk => by
          show M.bind (M.bind m kk) k r3 = M.bind m (fun b => M.bind (kk b) k) r3
          unfold M.bind
          cases m r3 <;> rfl] at ho
        refine ⟨w3, Hc, env1, r3, g3, sl.step st3, (noEx_use ho).imp fun z r6 w6 H6 st6 g6 ho v dv => ?_⟩
        have c6 := c3.step st6 g6
        have s6 := s3.trans st6.wo
        by_cases hl : acc'.length < sizeLine
        · rw [if_pos hl] at ho
          obtain ⟨vs', e1, e2, c7⟩ := c6.app hD dv hl
          exact ⟨vs', e1, e2, acc' ++ [z], w6, r6, c7, by rw [wo_upd]; exact s6, ho⟩
        · rw [if_neg hl] at ho
          exact ho.elim
  · rintro H2 ⟨acc', w', r', c, s, ho⟩
    rw [List.drop_length] at ho
    exact ⟨acc', w', r', c, ho⟩
/-- two clauses -/
def comp2F (vs vs1 : List Nat) (h : T → Env → Option Env) (p : Env → M Bool) (fi1 : Env → M (List T)) (h1 : T → Env → Option Env) (p1 : Env → M Bool) (f : Env → M T) : List T → List T → Env → M (List T)
  | [], acc, _ => pure acc
  | x :: xs, acc, env => match h x (wipeE env vs) with
    | none => M.bad
    | some env1 => noEx (p env1) >>= fun b => if b = true then noEx (fi1 env1) >>= fun ys => compF vs1 h1 p1 f ys acc env1 >>= fun acc' => comp2F vs vs1 h p fi1 h1 p1 f xs acc' env else comp2F vs vs1 h p fi1 h1 p1 f xs acc env
def fComp2 (vs vs1 : List Nat) (h : T → Env → Option Env) (p : Env → M Bool) (fi1 : Env → M (List T)) (h1 : T → Env → Option Env) (p1 : Env → M Bool) (f : Env → M T) (fi : Env → M (List T)) : Env → M (List T) := fun env => fi env >>= fun xs => comp2F vs vs1 h p fi1 h1 p1 f xs [] env
theorem comp2_use {W : WX} {us1 vs1 : List Nat} {h1 : T → Env → Option Env} {p1 : Env → M Bool} {fi fi1 : Env → M (List T)} {H : Hp} {Q : VK} (hu : ∀ j ∈ us, j ∈ vs) (hu1 : ∀ j ∈ us1, j ∈ vs1) (hq : tSL G W (fComp2 vs vs1 h p fi1 h1 p1 f fi) σ H Q) :
    tLc2 (tSI G W fi) (tGx G us h) (tSB G W0 p) (tSI G W0 fi1) (tGx G us1 h1) (tSB G W0 p1) (tS G W0 f) vs vs1 σ H Q := by
  obtain ⟨w, H0, env, r, g, s, hq⟩ := hq
  refine seqI g s hq fun xs r1 w1 H1 J g1 s1 st1 it ho0 => ?_
  intro D hD
  obtain ⟨Gd, Y, wk, hG, hY⟩ := it
  have hD0 : ¬ Vs H D := st1.before hD
  have stD : Step w1 H1 w1 (upd H1 D (.lst [])) := (Step.refl w1 H1).priv hD
  refine walk_it wk (turn := fun x H' Nx => tGx G us h x (wipe σ vs) H' fun σ2 H2 => wipe σ2 vs = wipe σ vs ∧ tSB G W0 p σ2 H2 fun b H3 =>
    if b = true then tSI G W0 fi1 σ2 H3 fun J1 H4 => ∃ W1 : Nat → Nat → Hp → Prop, (∃ m, W1 0 m H4) ∧ ∀ j k H, W1 j k H →
      (J1.stop j H ∧ Nx H) ∨ (J1.go j H ∧ ∃ Nx1 : Hp → Prop, (∀ H', Nx1 H' → ∃ k', k' < k ∧ W1 (j + 1) k' H') ∧ ∀ x H', J1.yld j H x H' → tGx G us1 h1 x (wipe σ2 vs1) H' fun σ3 H5 => wipe σ3 vs1 = wipe σ2 vs1 ∧ tSB G W0 p1 σ3 H5 fun b H6 =>
        if b = true then tS G W0 f σ3 H6 fun y H7 => ∃ acc, H7 D = some (.lst acc) ∧ acc.length < sizeLine ∧ Nx1 (upd H7 D (.lst (acc ++ [y]))) else Nx1 H6)
    else Nx H3)
    (fun i H' => ∃ acc' w' r', CS G D w1 H1 acc' w' H' r' ∧ OutP G w1 H1 (WE0 W σ) (fun xs _ w' H' => ∀ p vs, ¬ Vs H p → w'.P p = none → p ∉ w'.R → H' p = some (.lst vs) → Dens G w' vs xs → xs.length ≤ sizeLine → Q (.ref p) H') (comp2F vs vs1 h p fi1 h1 p1 f (xs.drop i) acc' env r'))
    ⟨[], w1, r1, ⟨stD, g1.priv (g1.nopub hD) (g1.noref hD) (.inl hD), g1.nopub hD, g1.noref hD, ⟨[], upd_same, .nil⟩, Nat.zero_le _⟩, ho0⟩ (fun i H' _ ⟨acc', w', r', c, _⟩ => hG w' H' r' c.st.later c.g) ?_ ?_
  · rintro i x H2 H3 hlt ⟨acc', w', r', c, ho⟩ y
    obtain ⟨t, w2, ht, st2, g2, dx⟩ := hY i H2 x H3 w' r' c.st.later c.g hlt y
    have c2 := c.step st2 g2
    have eD : wo H1 D = H1 := by
      funext b
      by_cases e : b = D
      · unfold wo; rw [if_pos e, e, hD]
      · exact wo_ne e
    have sl2 := (Slots.step (by rw [eD]; exact s1) c2.st.wo).wiped vs
    obtain ⟨vs0, e0, _⟩ := c2.at_
    obtain ⟨Hc, aB, hVc⟩ := sl2.rebaseD g2 (vs_of e0)
    have ed : xs.drop i = t :: xs.drop (i + 1) := by
      rw [List.drop_eq_getElem_cons hlt]
      rw [List.getElem?_eq_getElem hlt] at ht
      cases ht
      rfl
    rw [ed] at ho
    unfold comp2F at ho
    cases q : h t (wipeE env vs) with
    | none => rw [q] at ho; exact ho.elim
    | some env1 =>
      rw [q] at ho
      refine ⟨w2, Hc, w2, _, r', t, env1, aB, dx, q, fun σ2 sl b => ⟨wipe_but b hu, ?_⟩⟩
      refine ⟨w2, Hc, env1, r', g2, sl, (noEx_use ho).imp fun b r3 w3 H5 st3 g3 ho => ?_⟩
      have c3 := c2.step st3 g3
      cases b with
      | false => exact ⟨acc', w3, r3, c3, ho⟩
      | true =>
        refine ⟨w3, Hc, env1, r3, g3, sl.step st3, (noEx_use ho).imp fun ys r6 w6 H6 st6 g6 ho J1 it1 => ?_⟩
        have c6 := c3.step st6 g6
        obtain ⟨W1, k1, k2⟩ := one_use hu1 (nvs hD) it1 c6 ((sl.step st3).step st6) hVc ho
        exact ⟨W1, k1, fun j m H z => (k2 j m H z).imp_left fun ⟨z1, acc2, w5, r5, z2, z3⟩ => ⟨z1, acc2, w5, r5, z2, z3⟩⟩
  · rintro H2 ⟨acc', w', r', c, ho⟩
    rw [List.drop_length] at ho
    obtain ⟨vs', e1, e2⟩ := c.at_
    exact ho w' H2 c.st c.g D vs' hD0 c.hP c.hR e1 e2 c.z
theorem l_comp2 {X : Cx} {W : WX} {us us1 : List Nat} {h1 : T → Env → Option Env} {p1 : Env → M Bool} {fi fi1 : Env → M (List T)} {elt tg iter tg1 iter1 : Expr} {ifs ifs1 : List Expr} {scope : Scope} {own own1 : List (Str × Nat)} {pos : Pos} (hc : X.calm = true) (hN : X.N.Nodup) (hi : SI X G W tg iter fi) (ok : BlkOk X.N X.env.scope scope own) (hu : ∀ j ∈ us, j ∈ own.map (·.2)) (hu1 : ∀ j ∈ us1, j ∈ own1.map (·.2)) (hv : ∀ j ∈ own1.map (·.2), j ∈ own.map (·.2))
    (hg : ∀ (s : Shared) (H : Hp) (C : Addr) (cl : List (Str × Addr)) (fp : List Addr), SG (X.blk s H scope (compEnvC scope cl C X.env) fp) G us tg h) (ht : ∀ (s : Shared) (H : Hp) (C : Addr) (cl : List (Str × Addr)) (fp : List Addr), STs (X.blk s H scope (compEnvC scope cl C X.env) fp) G ifs p)
    (hi1 : ∀ (s : Shared) (H : Hp) (C : Addr) (cl : List (Str × Addr)) (fp : List Addr), SI (X.blk s H scope (compEnvC scope cl C X.env) fp) G W0 tg1 iter1 fi1)
    (hg1 : ∀ (s : Shared) (H : Hp) (C : Addr) (cl : List (Str × Addr)) (fp : List Addr), SG (X.blk s H scope (compEnvC scope cl C X.env) fp) G us1 tg1 h1) (ht1 : ∀ (s : Shared) (H : Hp) (C : Addr) (cl : List (Str × Addr)) (fp : List Addr), STs (X.blk s H scope (compEnvC scope cl C X.env) fp) G ifs1 p1)
    (he : ∀ (s : Shared) (H : Hp) (C : Addr) (cl : List (Str × Addr)) (fp : List Addr), SE (X.blk s H scope (compEnvC scope cl C X.env) fp) G W0 elt f) (hs : ∀ x, foldedSetIterable iter X.env x = pure x := by intro _; rfl) (hs1 : ∀ env x, foldedSetIterable iter1 env x = pure x := by intro _ _; rfl) :
    SL X G W (.ListComp elt [⟨tg, iter, ifs, 0⟩, ⟨tg1, iter1, ifs1, 0⟩] scope pos) (fComp2 (own.map (·.2)) (own1.map (·.2)) h p fi1 h1 p1 f fi) :=
  pe_imp (pe_lc2 hc hN hi ok hv (fun s H C cl fp => pg_x (hg s H C cl fp)) ht hi1 (fun s H C cl fp => pg_x (hg1 s H C cl fp)) ht1 he hs hs1) fun σ H Q q => comp2_use hu hu1 q
theorem Bd.comp2 {X : Cx} {W : WX} {jj : Nat} (B : Bd X G W jj) {us us1 : List Nat} {h1 : T → Env → Option Env} {p1 : Env → M Bool} {fi fi1 : Env → M (List T)} {elt tg iter tg1 iter1 : Expr} {ifs ifs1 : List Expr} {scope : Scope} {pos : Pos} (own own1 : List (Str × Nat)) (hi : SI X G W tg iter fi)
    (hg : ∀ (s : Shared) (H : Hp) (C : Addr) (cl : List (Str × Addr)) (fp : List Addr), SG (X.blk s H scope (compEnvC scope cl C X.env) fp) G us tg h) (ht : ∀ (s : Shared) (H : Hp) (C : Addr) (cl : List (Str × Addr)) (fp : List Addr), STs (X.blk s H scope (compEnvC scope cl C X.env) fp) G ifs p)
    (hi1 : ∀ (s : Shared) (H : Hp) (C : Addr) (cl : List (Str × Addr)) (fp : List Addr), SI (X.blk s H scope (compEnvC scope cl C X.env) fp) G W0 tg1 iter1 fi1)
    (hg1 : ∀ (s : Shared) (H : Hp) (C : Addr) (cl : List (Str × Addr)) (fp : List Addr), SG (X.blk s H scope (compEnvC scope cl C X.env) fp) G us1 tg1 h1) (ht1 : ∀ (s : Shared) (H : Hp) (C : Addr) (cl : List (Str × Addr)) (fp : List Addr), STs (X.blk s H scope (compEnvC scope cl C X.env) fp) G ifs1 p1)
    (he : ∀ (s : Shared) (H : Hp) (C : Addr) (cl : List (Str × Addr)) (fp : List Addr), SE (X.blk s H scope (compEnvC scope cl C X.env) fp) G W0 elt f) (ok : blkC X.N X.env.scope scope own = true := by kernel_rfl) (hu : ∀ j ∈ us, j ∈ own.map (·.2) := by decide) (hu1 : ∀ j ∈ us1, j ∈ own1.map (·.2) := by decide) (hv : ∀ j ∈ own1.map (·.2), j ∈ own.map (·.2) := by decide) (hs : ∀ x, foldedSetIterable iter X.env x = pure x := by intro _; rfl) (hs1 : ∀ env x, foldedSetIterable iter1 env x = pure x := by intro _ _; rfl) :
    SL X G W (.ListComp elt [⟨tg, iter, ifs, 0⟩, ⟨tg1, iter1, ifs1, 0⟩] scope pos) (fComp2 (own.map (·.2)) (own1.map (·.2)) h p fi1 h1 p1 f fi) := l_comp2 B.calm B.nd hi (blkOk_by ok) hu hu1 hv hg ht hi1 hg1 ht1 he hs hs1
end
end Ep
namespace Ep
open PySem PySem.Spec L2 PyProof.Rows He
/-! ### what the head tells of own exceptions -/
abbrev SupW : Type := Option (Str × Str × Arguments × FuncBody × Scope × Addr × Addr)
def supW (K : PySem.W.Frag) (f : Addr) : SupW := match K.lookup f with
  | some ⟨_, _, .func fd, _⟩ => some (fd.name, fd.qualname, fd.params, fd.body, fd.scope, fd.globals, fd.builtins)
  | _ => none
def supV (qn : Str) (st : Stmt) : SupW := some ("__init__", qn, defArgs st, .stmts (defBody st), defScope st, mainGlobals, builtinsNs)
/-- the class at C is written below b: its order of classes begins with itself, the built-in's follow; its maker is b's; its instances have a dict -/
def excCdB (b : SupX.XB) (C : Addr) (cd : ClassData) : Bool := cd.hasDict && (!cd.hasDel && (cd.mro.head? == some (.ref C) && PySem.W.excTail b.tl cd.mro.tail))
def excSlB (b : SupX.XB) (sl : List (Option Value)) : Bool := sl.length == 6 && sl[4]? == some (some (.builtin b.nw))
def excClsB (b : SupX.XB) (K : PySem.W.Frag) (C : Addr) : Bool := match K.lookup C with
  | some o => match o.cls, o.data with
    | .type n, .cls cd => n == "type" && (excSlB b o.slots.toList && excCdB b C cd)
    | _, _ => false
  | none => false
theorem excSlB_ok {b : SupX.XB} : ∀ {sl : Array (Option Value)}, excSlB b sl.toList = true → ∃ k0 k1 k2 k3 k5, sl = #[k0, k1, k2, k3, some (.builtin b.nw), k5]
  | ⟨l⟩, q => by
    obtain ⟨six, fifth⟩ := Bool.and_eq_true_iff.mp q
    match l, six, fifth with
    | [k0, k1, k2, k3, k4, k5], _, fifth => exact ⟨k0, k1, k2, k3, k5, by rw [Option.some.inj (eq_of_beq fifth)]⟩
theorem excCdB_ok {b : SupX.XB} {C : Addr} : ∀ {cd : ClassData}, excCdB b C cd = true → ∃ nm bs bm N qq sn sub ab col, cd = ⟨nm, bs, .ref C :: bm, N, qq, true, sn, sub, ab, col, false⟩ ∧ PySem.W.excTail b.tl bm = true
  | ⟨_, _, _, _, _, false, _, _, _, _, _⟩, q => absurd q Bool.false_ne_true
  | ⟨_, _, _, _, _, true, _, _, _, _, true⟩, q => absurd q Bool.false_ne_true
  | ⟨_, _, [], _, _, true, _, _, _, _, false⟩, q => absurd q Bool.false_ne_true
  | ⟨nm, bs, own :: bm, N, qq, true, sn, sub, ab, col, false⟩, q => by
    obtain ⟨first, tail⟩ := Bool.and_eq_true_iff.mp (show ((some own == some (Value.ref C)) && PySem.W.excTail b.tl bm) = true from q)
    cases Option.some.inj (eq_of_beq first)
    exact ⟨nm, bs, bm, N, qq, sn, sub, ab, col, rfl, tail⟩
theorem excClsB_ok {b : SupX.XB} {K : PySem.W.Frag} {C : Addr} (q : excClsB b K C = true) : ∃ nm qq N bs bm sn sub ab col dd k0 k1 k2 k3 k5, K.lookup C = some (excClassObj nm qq C N bs bm true sn sub ab col dd k0 k1 k2 k3 k5 b.nw) ∧ PySem.W.excTail b.tl bm = true := by
  unfold excClsB at q
  cases look : K.lookup C with
  | none => rw [look] at q; exact absurd q Bool.false_ne_true
  | some o =>
    rw [look] at q
    obtain ⟨ty, dd, dat, sl⟩ := o
    dsimp only at q
    split at q
    · obtain ⟨isT, q⟩ := Bool.and_eq_true_iff.mp q
      obtain ⟨six, q⟩ := Bool.and_eq_true_iff.mp q
      obtain ⟨k0, k1, k2, k3, k5, es⟩ := excSlB_ok six
      obtain ⟨nm, bs, bm, N, qq, sn, sub, ab, col, ec, tail⟩ := excCdB_ok q
      cases eq_of_beq isT
      cases es
      cases ec
      exact ⟨nm, qq, N, bs, bm, sn, sub, ab, col, dd, k0, k1, k2, k3, k5, rfl, tail⟩
    · exact absurd q Bool.false_ne_true
/-- the parts of __init__ that differ from program to program -/
def supFn (P : Program) (K : PySem.W.Frag) (C f : Addr) (qn : Str) : Bool := match K.lookup f with
  | some ⟨_, _, .func fd, _⟩ => decide (fd.defaults = .none) && (decide (fd.kwdefaults = .none) && (PySem.W.codeIn K fd.code qn && ((match fd.closure with
    | [(x, cc)] => decide (x = "__class__") && (match K.lookup cc with
      | some ⟨_, _, .cell (some (.ref D)), _⟩ => D == C
      | _ => false)
    | _ => false) && (match fd.code with
    | .ref cda => (match K.lookup cda with
      | some ⟨_, _, .fields vs, _⟩ => (match (vs[2]? : Option Value) with
        | some (Value.str file _) => (P.main.file : Str) == file
        | _ => false)
      | _ => false)
    | _ => false))))
  | _ => false
def supL (b : SupX.XB) (P : Program) (K : PySem.W.Frag) (C : Addr) (qn f : Str) : List Bool := [excClsB b K C, eqO (PySem.W.findIn K (.ref C) "__setattr__") (some (some (.builtin "object.__setattr__"))), eqO (PySem.W.findIn K (.ref C) f) (some none), eqO (PySem.W.findIn K (.ref C) "__init__") (some (some (.ref (ma K C "__init__")))),
  decide (PySem.W.typeIn K (.ref (ma K C "__init__")) = some (.type "function")), PySem.W.keepIn K (.ref C), decide (PySem.W.subIn K (.ref C) (.type "BaseException") = some true), decide (PySem.W.subIn K (.ref C) (.type b.B) = some true), decide (PySem.W.typeIn K (.ref C) = some (.type "type")),
  eqO (PySem.W.ks_superIn K C C "__init__") (some (some (.builtin b.ini))), decide (PySem.W.mroIn K C (.ref C) = some true), eqO (PySem.W.nsIn K mainGlobals "super") (some none), eqO (PySem.W.nsIn K cStatics "thirdparty.any") (some none), supFn P K C (ma K C "__init__") qn]
theorem all_at {l : List Bool} (h : l.all id = true) (i : Nat) {b : Bool} (e : l[i]? = some b) : b = true := List.all_eq_true.mp h b (List.mem_of_getElem? e)
/-- the text of such an __init__ -/
structure SupT (f : Str) (st : Stmt) : Prop where
  ar : ∃ p1 p2, defArgs st = SupX.iA f p1 p2
  sc : defScope st = SupX.iS f
  bd : ∃ a1 a2 a3 a4 a5 a6 q1 q2 q3 q4, defBody st = SupX.iB f a1 a2 a3 a4 a5 a6 q1 q2 q3 q4 ∧ ∀ (qn : Str) (L fI cc : Addr) (cdv : Value), ∃ pl : Sem Bool, eval (.Call (.Attribute (.Call (.Name "super" a1) [] [] a2) "__init__" a3) [.Name f a4] [] a5) (PySem.W.ksEnv qn (SupX.iS f) L fI cdv cc) = (do
      let ov ← attributeBase (.Call (.Name "super" a1) [] [] a2) "__init__" (PySem.W.ksEnv qn (SupX.iS f) L fI cdv cc) (eval (.Call (.Name "super" a1) [] [] a2) (PySem.W.ksEnv qn (SupX.iS f) L fI cdv cc))
      standAt a3.atName
      let (g, first) ← holding [ov] (getMethod ov "__init__" pl)
      callWith a5 g first (backTo a5 (starEach [.Name f a4] (PySem.W.ksEnv qn (SupX.iS f) L fI cdv cc))) [])
theorem txt_of {P : Program} {K : PySem.W.Frag} {mg : Str → Option Value} {qn f : Str} {C : Addr} {st : Stmt} (e : supW K (ma K C "__init__") = supV qn st) {xb : SupX.XB} (ok : xb.Ok) (b : (supL xb P K C qn f).all id = true) (t : SupT f st) : SupX.Txt P K mg qn f C (ma K C "__init__") := by
  have rest := all_at b 13 rfl
  refine ⟨⟨xb, ok, of_decide_eq_true (all_at b 7 rfl), eqO_ok (all_at b 9 rfl), excClsB_ok (all_at b 0 rfl)⟩, eqO_ok (all_at b 1 rfl), eqO_ok (all_at b 2 rfl), eqO_ok (all_at b 3 rfl), of_decide_eq_true (all_at b 4 rfl), all_at b 5 rfl, of_decide_eq_true (all_at b 6 rfl), of_decide_eq_true (all_at b 8 rfl),
    of_decide_eq_true (all_at b 10 rfl), eqO_ok (all_at b 11 rfl), eqO_ok (all_at b 12 rfl), ?_⟩
  unfold supW supV at e
  unfold supFn at rest
  cases look : K.lookup (ma K C "__init__") with
  | none => rw [look] at e; cases e
  | some o =>
    obtain ⟨oc, od, dat, osl⟩ := o
    rw [look] at e rest
    cases dat with
    | func fd =>
      obtain ⟨nm, qual, par, body, sc, glb, clo, dfl, kwd, doc, pm, an, code, ct, blt⟩ := fd
      have said : (nm, qual, par, body, sc, glb, blt) = (PySem.Str.ofString "__init__", qn, defArgs st, FuncBody.stmts (defBody st), defScope st, mainGlobals, builtinsNs) := Option.some.inj e
      clear e
      cases said
      obtain ⟨noD, rest⟩ := ba rest
      obtain ⟨noK, rest⟩ := ba rest
      obtain ⟨code_ok, rest⟩ := ba rest
      obtain ⟨cell_ok, file_ok⟩ := ba rest
      obtain rfl : dfl = .none := of_decide_eq_true noD
      obtain rfl : kwd = .none := of_decide_eq_true noK
      obtain ⟨p1, p2, ea⟩ := t.ar
      obtain ⟨a1, a2, a3, a4, a5, a6, q1, q2, q3, q4, eb, hev⟩ := t.bd
      have es := t.sc
      split at cell_ok
      · rename_i x cc ecl
        obtain ⟨isCls, cell_ok⟩ := ba cell_ok
        obtain rfl : x = "__class__" := of_decide_eq_true isCls
        dsimp only at ecl
        subst ecl
        split at cell_ok
        · rename_i u1 u2 D u3 lcc
          obtain rfl : D = C := by simpa using cell_ok
          split at file_ok
          · rename_i cda ecd
            dsimp only at ecd
            subst ecd
            split at file_ok
            · rename_i w1 w2 vs w3 lcd
              split at file_ok
              · rename_i file tf hvs
                exact ⟨oc, od, doc, pm, an, cda, ct, osl, p1, p2, a1, a2, a3, a4, a5, a6, q1, q2, q3, q4, cc, _, _, _, _, _, vs, _, file, tf, (by rw [ea, eb, es]), code_ok, lcc, lcd, hvs, file_ok, fun L => hev _ L _ cc _⟩
              · cases file_ok
            · cases file_ok
          · cases file_ok
        · cases cell_ok
      · cases cell_ok
    | _ => cases e
theorem xc_of {P : Program} {G : Gm} {c : Nat} {f qn : Str} {st : Stmt} {C : Addr} (fl : G.fl c = [f]) (hc : G.mg (G.cn c) = some (.ref C)) (e : supW G.K (ma G.K C "__init__") = supV qn st) {xb : SupX.XB} (ok : xb.Ok) (b : (supL xb P G.K C qn f).all id = true) (t : SupT f st) (y : SupX.FOk P f) : XcOk P G c f := ⟨fl, ⟨qn, C, _, hc, txt_of e ok b t⟩, y⟩
/-- reading a field -/
def xgL (K : PySem.W.Frag) (C : Addr) (f : Str) : List Bool := [eqO (PySem.W.findIn K (.ref C) "__getattribute__") (some (some (.builtin "BaseException.__getattribute__"))), eqO (PySem.W.findIn K (.ref C) "__getattr__") (some none), decide (PySem.W.subIn K (.ref C) (.type "BaseException") = some true), PySem.W.hasDictIn K C, eqO (PySem.W.findIn K (.ref C) f) (some none)]
theorem xg_of {G : Gm} {c : Nat} {f : Str} {C : Addr} (fl : G.fl c = [f]) (hc : ∀ cA, G.mg (G.cn c) = some (.ref cA) → cA = C) (b : (xgL G.K C f).all id = true) : XgOk G c f := ⟨fl, fun cA h => by
  have := hc cA h
  subst this
  exact ⟨eqO_ok (all_at b 0 rfl), eqO_ok (all_at b 1 rfl), of_decide_eq_true (all_at b 2 rfl), all_at b 3 rfl, eqO_ok (all_at b 4 rfl)⟩⟩
/-- a clause -/
def xmB (K : PySem.W.Frag) (cn : Nat → Str) (x : Str) (rows : List (Nat × Bool)) : Bool := rows.all fun p => decide (PySem.W.exmOne K (.ref (ga K (cn p.1))) (.ref (ga K x)) = some p.2)
def xmF (rows : List (Nat × Bool)) (c : Nat) : Option Bool := rows.lookup c
theorem mem_lk {α β : Type} [BEq α] [LawfulBEq α] : ∀ {l : List (α × β)} {a : α} {b : β}, l.lookup a = some b → (a, b) ∈ l
  | [], _, _, h => by cases h
  | (x, y) :: r, a, b, h => by
    rw [List.lookup_cons] at h
    cases e : a == x with
    | true => rw [e] at h; cases h; rw [eq_of_beq e]; exact List.mem_cons_self
    | false => rw [e] at h; exact List.mem_cons_of_mem _ (mem_lk h)
theorem xm_of {K : PySem.W.Frag} {G : Gm} {x : Str} {rows : List (Nat × Bool)} (hc : ∀ c cA, G.mg (G.cn c) = some (.ref cA) → cA = ga K (G.cn c)) (b : xmB K G.cn x rows = true) : XmOk K G (.ref (ga K x)) (xmF rows) := ⟨fun c cA z h e => by
  have := hc c cA h
  subst this
  exact of_decide_eq_true (List.all_eq_true.mp b (c, z) (mem_lk e))⟩
/-! ### tables of code -/
def tabW (K : PySem.W.Frag) (x : Str) : Addr × Addr := (PySem.W.tabIn K x).getD (0, 0)
def tabC (K : PySem.W.Frag) (x : Str) : Bool := decide (PySem.W.tabIn K x = some (tabW K x)) && (decide (K.lookup (tabW K x).2 = none) && decide (cdOf K (ga K x) = .ref (tabW K x).1))
end Ep
namespace Ep
open PySem PySem.Spec L2 PyProof.Rows He
/-! ### words for the generator -/
def qWhile (n : Env → RS → Nat) (p : Env → M Bool) (g : Sm) : Sm := fun env r => whileF p g (n env r) env r
/-- how often a while may turn: the integer of a slot, and one more -/
def fuI (i : Nat) : Env → RS → Nat := fun env _ => match env[i]? with
  | some (.val (.int k)) => k.natAbs + 1
  | _ => 0
/-- the same for a tuple that begins with the integer -/
def fuT (i : Nat) : Env → RS → Nat := fun env _ => match env[i]? with
  | some (.val (.tup (.int k :: _))) => k.natAbs + 1
  | _ => 0
theorem Bd.tr {X : Cx} {G : Gm} {W W' : WX} {j : Nat} {pn : List (Addr × Obj)} {xe : Value → Shared → Prop} (B : Bd X G W j) (tk : Takes (X.tr pn xe) W') : Bd (X.tr pn xe) G W' j := ⟨B.eK, B.eM, tk, B.rm, B.nd, B.calm⟩
theorem bd_lam {X : Cx} {G : Gm} {A : Around} {outer : List PySem.Env} {s : Shared} {H : Hp} {E : XK} {scope : Scope} {f c : Addr} {j : Nat} (nd : X.N.Nodup) (eK : X.K = G.K) (eM : X.mg = G.mg) (hr : Room j (A.deeper (LamX.lamEnv X scope s.heap.objs.size f c))) : Bd (LamX.lamCx X A outer s H E scope f c) G (WD E) j :=
  ⟨eK, eM, takes_of rfl rfl rfl rfl, hr, nd, rfl⟩
theorem tb_un {tb : List (Addr × Str)} {P : Addr} {q : Str} (nd : (tb.map (·.1)).Nodup) (hm : (P, q) ∈ tb) : ∀ p ∈ tb, p.1 = P → p.2 = q := by
  induction tb with
  | nil => cases hm
  | cons x r ih =>
    intro p hp e
    rw [List.map_cons, List.nodup_cons] at nd
    have aux : ∀ (a b : Addr × Str), a ∈ r → b.1 = a.1 → x = b → False := fun a b ha e1 e2 => nd.1 (by rw [e2, e1]; exact List.mem_map_of_mem ha)
    rcases List.mem_cons.mp hm with h1 | h1
    · rcases List.mem_cons.mp hp with h2 | h2
      · rw [h2, ← h1]
      · exact (aux p x h2 (by rw [← h1, e]) rfl).elim
    · rcases List.mem_cons.mp hp with h2 | h2
      · exact (aux _ x h1 (by rw [← h2, e]) rfl).elim
      · exact ih nd.2 h1 p h2 e
theorem he_never {X : Cx} {G : Gm} {a : Addr} {cls : Value} {d : Option Addr} {i : Nat} {e : Expr} : PE X e (tHE G a cls d i fun _ _ _ => M.bad) := ⟨fun _ _ _ _ _ _ ⟨_, _, _, _, _, _, _, _, _, _, h⟩ => h.elim⟩
theorem hs_never {X : Cx} {G : Gm} {a : Addr} {cls : Value} {d : Option Addr} {i : Nat} {st : List Stmt} : PSs X st (tHS G a cls d i fun _ _ _ _ => .bad) := ⟨fun _ _ _ _ _ _ ⟨_, _, _, _, _, _, _, _, _, _, h⟩ => h.elim⟩
def hdsOf : List Stmt → List ExceptHandler
  | .Try _ h _ _ _ :: _ => h
  | _ => []
def restOf : List Stmt → List Stmt
  | _ :: r => r
  | [] => []
theorem px_of {G : Gm} {C : Nat} {c : Addr} (hc : ∀ cA, G.mg (G.cn C) = some (.ref cA) → cA = c) (h1 : PySem.W.notFirst G.K c (.type "str") = true) (h2 : PySem.W.notFirst G.K c (.type "int") = true) (h3 : PySem.W.notFirst G.K c (.type "bool") = true) (h4 : PySem.W.notFirst G.K c (.type "NoneType") = true)
    (h5 : PySem.W.notFirst G.K c (.type "list") = true) (h6 : PySem.W.notFirst G.K c (.type "tuple") = true) : PxOk G C := ⟨fun cA h => by
  have := hc cA h
  subst this
  exact ⟨h1, h2, h3, h4, h5, h6⟩⟩
theorem tab_ok {K : PySem.W.Frag} {x : Str} (h : tabC K x = true) : PySem.W.tabIn K x = some (tabW K x) ∧ K.lookup (tabW K x).2 = none ∧ cdOf K (ga K x) = .ref (tabW K x).1 := by
  obtain ⟨h1, h2⟩ := ba h
  obtain ⟨h3, h4⟩ := ba h2
  exact ⟨of_decide_eq_true h1, of_decide_eq_true h3, of_decide_eq_true h4⟩
/-- s_lam, the def's name by itself -/
theorem s_lamQ {X : Cx} {G : Gm} {W : WX} {Ng : List Str} {x a : Str} {stg : Stmt} {g c P : Addr} {fdg : FuncData} {n k : Nat} {h₀ : ExceptHandler} {hds : List ExceptHandler} {hs : List HdS} {restB : List Stmt} {rest : Sm} {p1 p2 p3 p4 : Pos} {params : Arguments} {body : Expr} {scope : Scope} {f : Env → M T} {p lpos pos : Pos} (qn : Str)
    (hK : X.K = G.K) (hM : X.mg = G.mg) (hg : Gl X x) (hm : G.mg x = some (.ref g)) (F : FunD G.K x x (defArgs stg) (defBody stg) (defScope stg) [] [] g fdg) (hb : L2.Binds G.K fdg [a] []) (Sg : FnScope Ng [a] (defScope stg)) (hNg : Ng[0]? = some a) (hva : Vis (defScope stg) a)
    (eb : defBody stg = .Try [.Expr (.Call (.Name a p1) [] [] p2) p3] (h₀ :: hds) [] [] p4 :: restB) (hn : Ng.length = n) (h1 : 1 ≤ n)
    (hh : ∀ (cdg : Value) (s : Shared) (H : Hp), HG (cxOf C8.CX0 X.prog X.w X.K X.mg X.base Ng x (defScope stg) g cdg X.A X.stack s H C8.E0).nox G W0 (hdsOf (defBody stg)) hs)
    (hr : ∀ (cdg : Value) (s : Shared) (H : Hp), SSs (cxOf C8.CX0 X.prog X.w X.K X.mg X.base Ng x (defScope stg) g cdg X.A X.stack s H C8.E0).nox G W0 (restOf (defBody stg)) rest)
    (TB : LamX.TabB X.base X.mg c P) (hcode : X.env.code = .ref c) (hqn : X.env.qual = qn) (hmT : (P, qn ++ "<lambda>") ∈ G.tb) (hu : (G.tb.map (·.1)).Nodup) (rm : Room (k + 2) X.A) (L : LamX.lamSB X.env.scope scope = true) (tk : Takes X W)
    (hbody : ∀ (A : Around) (outer : List PySem.Env) (s : Shared) (H : Hp) (E : XK) (f' c' : Addr), Room k (A.deeper (LamX.lamEnv X scope s.heap.objs.size f' c')) → SE (LamX.lamCx X A outer s H E scope f' c') G (WD E) body f)
    (hdef : defaultsOf params X.env = ([], []) := by rfl) (hbind : ∀ (q : Str) (cl : List (Str × Addr)) (pm cv ctv : Value), bindArgs (PySem.W.kla_fn "<lambda>" q params body scope cl pm cv ctv) ⟨[], []⟩ = pure [] := by intros; rfl)
    (hdb : (x == ("__debug__" : Str)) = false := by decide) (hd : (a == ("__debug__" : Str)) = false := by decide) (hcd : (a == ("__classdict__" : Str)) = false := by decide) :
    SE X G W (.Call (.Name x p) [.Lambda params body scope lpos] [] pos) (fun env => heardS n hs rest (f env)) := by
  subst hqn
  rw [eb] at hh hr
  exact s_lam hK hM hg hm F hb Sg hNg hva eb hn h1 hh hr TB hcode hmT (tb_un hu hmT) rm (LamX.lamS_by L) tk hbody hdef hbind hdb hd hcd
end Ep
namespace Ep
open PySem PySem.Spec L2
/-! ### texts: join, count, str and repr of an integer -/
def seqS : T → Option (List T)
  | .lst xs => some xs
  | .kls xs => some xs
  | .tup xs => some xs
  | _ => none
def joinT (a : Str) (t : T) : Option T := (seqS t).bind fun xs => (strsT xs).bind fun ys => if (ys.map (·.length)).sum + ys.length * a.length ≤ 16777216 then some (.str (Txt.join a ys)) else none
def fStr1 (h : Str → T → Option T) (f g : Env → M T) : Env → M T := fun env => f env >>= fun x => match x with
  | .str a => g env >>= fun y => M.lift (h a y)
  | _ => M.bad
def countT (a : Str) : T → Option T
  | .str b => some (.int (Txt.count a b))
  | _ => none
def startT (a : Str) : T → Option T
  | .str b => some (.bl (Txt.startswith a b))
  | _ => none
def strI (_ : RS) : T → Option T
  | .int i => if i.natAbs.log2 < 1920 then some (.str (toString i)) else none
  | _ => none
section
variable {X : Cx} {G : Gm} {W : WX} {pos apos : Pos} {a b : Expr} {f g : Env → M T}
theorem str1_use {r : V → List V → Hp → VK → Prop} {h : Str → T → Option T} (hu : ∀ w H rs v t a z Q, Good G w H rs → Den G w v t → h a t = some z → (∀ v', Den G w v' z → Q v' H) → r (.str a) [v] H Q)
    {σ : L2.St} {H : Hp} {Q : VK} (q : tS G W (fStr1 h f g) σ H Q) : tM1 r (tS G W f) (tS G W g) σ H Q := by
  obtain ⟨w, H0, env, rs, g0, s, h0⟩ := q
  refine seqE g0 s h0 fun t r1 w1 H1 x g1 s1 st1 d1 h1 => ?_
  cases d1 with
  | str a =>
    refine ⟨⟨a, rfl⟩, seqE g1 s1 h1 fun u r2 w2 H2 y g2 s2 st2 d2 h2 => ?_⟩
    obtain ⟨z, ez, h3⟩ := liftP h2
    exact hu w2 H2 r2 y u a z Q g2 d2 ez fun v' d => h3 w2 H2 (Step.refl _ _) g2 v' d
  | _ => exact h1.elim
theorem s_join (hK : X.K = G.K) (ha : SE X G W a f) (he : SE X G W b g) (hs : starEach [b] X.env = [(false, eval b X.env)] := by rfl) (hbase : attributeBase a "join" X.env (eval a X.env) = eval a X.env := by rfl) (hline : (apos.endLine == pos.line) = true := by rfl) :
    SE X G W (.Call (.Attribute a "join" apos) [b] [] pos) (fStr1 joinT f g) :=
  pe_imp (pe_join ha he hs hbase hline) fun σ H Q q => str1_use (fun w H rs v t a z Q gd d e k => by
    unfold joinT at e
    cases q1 : seqS t with
    | none => rw [q1] at e; cases e
    | some xs =>
      rw [q1] at e
      have e : (strsT xs).bind (fun ys => if (ys.map (·.length)).sum + ys.length * a.length ≤ 16777216 then some (T.str (Txt.join a ys)) else none) = some z := e
      cases q2 : strsT xs with
      | none => rw [q2] at e; cases e
      | some ys =>
        rw [q2] at e
        have e : (if (ys.map (·.length)).sum + ys.length * a.length ≤ 16777216 then some (T.str (Txt.join a ys)) else none) = some z := e
        by_cases h : (ys.map (·.length)).sum + ys.length * a.length ≤ 16777216
        · rw [if_pos h] at e
          cases e
          have hp : ∃ p us, v = .ref p ∧ (SqL X.K H p us ∨ SqT X.K H p us) ∧ Dens G w us xs := by
            rw [hK]
            cases d with
            | lst hh z d => cases q1; exact ⟨_, _, rfl, .inl (SqL.of (gd.sub _ _ hh)), d⟩
            | kls hh z d => cases q1; exact ⟨_, _, rfl, .inl (gd.sub.seq hh), d⟩
            | tup hh z d =>
              cases q1
              rcases hh with hh | hh
              · exact ⟨_, _, rfl, .inr (.inl (Rd.of (gd.sub _ _ hh))), d⟩
              · exact ⟨_, _, rfl, .inr (.inr hh), d⟩
            | _ => cases q1
          obtain ⟨p, us, rfl, hq, ds⟩ := hp
          have := strs_of ds q2
          subst this
          exact ⟨a, p, ys, rfl, rfl, hq, h, k _ (.str _)⟩
        · rw [if_neg h] at e; cases e) q
theorem s_count (ha : SE X G W a f) (he : SE X G W b g) (hs : starEach [b] X.env = [(false, eval b X.env)] := by rfl) (hbase : attributeBase a "count" X.env (eval a X.env) = eval a X.env := by rfl) (hline : (apos.endLine == pos.line) = true := by rfl) :
    SE X G W (.Call (.Attribute a "count" apos) [b] [] pos) (fStr1 countT f g) :=
  pe_imp (pe_m1 PySem.F.slot_str_count PySem.F.type_str_count mt_count ha he hs hbase hline) fun σ H Q q => str1_use (fun w H rs v t a z Q gd d e k => by
    cases d with
    | str b => cases e; exact ⟨a, b, rfl, rfl, k _ (.int _)⟩
    | _ => cases e) q
theorem v_strI : B1 G (fun xs H Q => ∃ i, xs = [.int i] ∧ i.natAbs.log2 < 1920 ∧ Q (.str (toString i)) H) strI := fun w H r v t z Q g d e q => by
  cases t with
  | int i =>
    have e : (if i.natAbs.log2 < 1920 then some (T.str (toString i)) else none) = some z := e
    by_cases h : i.natAbs.log2 < 1920
    · rw [if_pos h] at e; cases e
      exact ⟨i, by rw [d.int], h, q _ w H (Step.refl _ _) g (.str _)⟩
    · rw [if_neg h] at e; cases e
  | _ => cases e
theorem Bd.strI {j : Nat} (B : Bd X G W j) {p : Pos} (m : G.mg "str" = none) (ha : SK X G W a f) (hg : Gl X "str" := by rfl) (hs : starEach [a] X.env = (false, eval a X.env) :: starEach [] X.env := by rfl) : SE X G W (.Call (.Name "str" p) [a] [] pos) (fB1 Ep.strI f) := s_t1 call_str_int v_strI hg (by rw [B.eM]; exact m) rfl ha hs
theorem Bd.reprI {j : Nat} (B : Bd X G W j) {p : Pos} (m : G.mg "repr" = none) (ha : SK X G W a f) (hg : Gl X "repr" := by rfl) (hs : starEach [a] X.env = (false, eval a X.env) :: starEach [] X.env := by rfl) : SE X G W (.Call (.Name "repr" p) [a] [] pos) (fB1 Ep.strI f) := s_b1 SkE.call_repr_int v_strI hg (by rw [B.eM]; exact m) rfl ha hs
end
end Ep
namespace Ep
open PySem PySem.Spec L2
/-! ### isinstance(e, C) in a handler, e of an own class with a dict -/
structure XiOk (G : Gm) (c C : Nat) (b : Bool) : Prop where
  ex : ∀ cA, G.mg (G.cn c) = some (.ref cA) → ∃ CA, G.mg (G.cn C) = some (.ref CA) ∧ PySem.W.kitOne G.K (.ref cA) (.ref CA) = some b ∧ (PySem.W.clsIn G.K cA).isSome = true ∧ PySem.W.findIn G.K (.ref cA) "__getattribute__" = some (some (.builtin "BaseException.__getattribute__")) ∧ PySem.W.findIn G.K (.ref cA) "__getattr__" = some none ∧
    PySem.W.subIn G.K (.ref cA) (.type "BaseException") = some true ∧ PySem.W.findIn G.K (.ref cA) "__class__" = some (some (.builtin "object.__class__")) ∧ PySem.W.specialIn G.K (.builtin "object.__class__") "__get__" = some (some (.builtin "getset_descriptor.__get__")) ∧ PySem.W.takesIn G.K (.builtin "object.__class__") = some true ∧ PySem.W.mroIn G.K cA (.type "object") = some true
def hIsi (xi : Nat → Option Bool) : HM T := fun c _ _ => match xi c with
  | some b => pure (.bl b)
  | none => M.bad
/-- the call, for the exception that the suite holds -/
theorem call_isX {X : Cx} {a cA dd : Addr} {oe : Obj} {pn : List (Addr × Obj)} {CA : Addr} {b : Bool} {f : Str} {v0 : V} (hz : Zc (.ref cA) (some dd) oe) (hf : ∃ vs, oe.data = .fields vs)
    (k1 : (PySem.W.clsIn X.K cA).isSome = true) (k2 : PySem.W.findIn X.K (.ref cA) "__getattribute__" = some (some (.builtin "BaseException.__getattribute__"))) (k3 : PySem.W.findIn X.K (.ref cA) "__getattr__" = some none) (k4 : PySem.W.subIn X.K (.ref cA) (.type "BaseException") = some true)
    (k5 : PySem.W.findIn X.K (.ref cA) "__class__" = some (some (.builtin "object.__class__"))) (k6 : PySem.W.specialIn X.K (.builtin "object.__class__") "__get__" = some (some (.builtin "getset_descriptor.__get__"))) (k7 : PySem.W.takesIn X.K (.builtin "object.__class__") = some true) (k8 : PySem.W.mroIn X.K cA (.type "object") = some true)
    (k9 : PySem.W.kitOne X.K (.ref cA) (.ref CA) = some b) : CallR (X.suite a ((a, oe) :: pn)) (.builtin "isinstance") (fun xs H Q => xs = [.ref a, .ref CA] ∧ H dd = some (.xd [(f, v0)]) ∧ Q (.bl b) H) := by
  intro pins s σ H xs us Q I r h
  obtain ⟨rfl, hd, q⟩ := h
  cases r with
  | cons rx rr =>
    cases rr with
    | cons rt rr =>
      cases rr
      cases rx
      cases rt
      obtain ⟨hget, _⟩ := I.pin (a, oe) (List.mem_append.mpr (.inl List.mem_cons_self))
      obtain ⟨vs, hv⟩ := hf
      have hxd : ObjOk X.prog X.w H s.heap dd (.xd [(f, v0)]) := I.hok dd _ hd
      obtain ⟨mA, hns, hr⟩ := hxd
      obtain ⟨od, ho, hl⟩ := lookIn_ns hns
      have J : PySem.W.InstAt s.heap a oe cA (some od) := ⟨hget, hz.1, by unfold PySem.W.notCls; rw [hv] <;> rfl, by rw [hz.2]; exact ho⟩
      exact PySem.W.kia_one (PySem.W.kitx_exc k1 k2 k3 k4 k5 k6 k7 k8) I.kIn J k9 (fun z => nomatch z) fun tk => ⟨.bl b, H, I.kept (t' := tk) fun _ _ z => z, rfl, q⟩
section
variable {X : Cx} {G : Gm} {a : Addr} {cls : Value} {d : Option Addr} {i : Nat} {pos : Pos}
theorem he_isi {oe : Obj} {pn : List (Addr × Obj)} {n x : Str} {C : Nat} {p np cp : Pos} {CA0 : Addr} (hK : X.K = G.K) (hM : X.mg = G.mg) (hz : Zc cls d oe) (hf : ∃ vs, oe.data = .fields vs) (xi : Nat → Option Bool) (ok : ∀ c b, xi c = some b → XiOk G c C b) (hx : G.cn C = x) (hcC : G.mg x = some (.ref CA0)) (hN : X.N[i]? = some n) (hv : Vis X.env.scope n)
    (hi : X.mg "isinstance" = none) (hgi : Gl (X.suite a ((a, oe) :: pn)) "isinstance" := by rfl) (hgC : Gl (X.suite a ((a, oe) :: pn)) x := by rfl)
    (hs : starEach [.Name n np, .Name x cp] (X.suite a ((a, oe) :: pn)).env = (false, eval (.Name n np) (X.suite a ((a, oe) :: pn)).env) :: starEach [.Name x cp] (X.suite a ((a, oe) :: pn)).env := by rfl)
    (hs2 : starEach [.Name x cp] (X.suite a ((a, oe) :: pn)).env = (false, eval (.Name x cp) (X.suite a ((a, oe) :: pn)).env) :: starEach [] (X.suite a ((a, oe) :: pn)).env := by rfl)
    (hpl : (backTo pos (starEach [.Name x cp] (X.suite a ((a, oe) :: pn)).env)).any (·.1) = false := by rfl) (hd : (n == ("__debug__" : Str)) = false := by decide) (hcd : (n == ("__classdict__" : Str)) = false := by decide) (hdC : (x == ("__debug__" : Str)) = false := by decide) :
    PE (X.suite a ((a, oe) :: pn)) (.Call (.Name "isinstance" p) [.Name n np, .Name x cp] [] pos) (tHE G a cls d i (hIsi xi)) := by
  refine ⟨fun pins s σ H Q I ⟨w, H0, env, r, c, pl, g, sl, e1, ei, h⟩ => ?_⟩
  unfold hIsi at h
  cases hxi : xi c with
  | none => rw [hxi] at h; exact h.elim
  | some b =>
    rw [hxi] at h
    obtain ⟨cA, dd, v, f, k1, k2, k3, k4, k5, k6, k7⟩ := ei.ex
    obtain ⟨CA, m1, m2, m3, m4, m5, m6, m7, m8, m9, m10⟩ := (ok c b hxi).ex cA k1
    rw [← hK] at m2 m3 m4 m5 m6 m7 m8 m9 m10
    subst k2
    subst k3
    have eCA : CA0 = CA := by
      rw [hx] at m1
      exact Value.ref.inj (Option.some.inj (hcC.symm.trans m1))
    subst eCA
    exact (pe_callB (call_isX (f := f) (v0 := v) hz hf m3 m4 m5 m6 m7 m8 m9 m10 m2) hgi hi rfl (pa_cons (pe_var (X := X.suite a ((a, oe) :: pn)) (pos := np) (i := i) hN hv hd hcd) (pa_cons (pe_glob (X := X.suite a ((a, oe) :: pn)) (v := .ref CA0) (pos := cp) hgC (by show X.mg x = _; rw [hM]; exact hcC) rfl hdC) pa_nil hs2) hs) (by decide) (by decide) hs hpl).run pins s σ H Q I ⟨.ref a, e1, rfl, k5, OutP.here g h (.bl b) (.bl b)⟩
/-- if e: return g, then the rest of the suite -/
def hIfRet (f g : HM T) (k : Nat → T → Sm) : Nat → T → Sm := fun c p env r => ofM env (fun t r => match t with
  | .bl true => hRet g c p env r
  | .bl false => k c p env r
  | _ => .bad) (f c p env r)
theorem hs_nil : PSs X [] (tHS G a cls d i fun _ _ => qNil) := pss_imp pss_nil fun D σ H ⟨w0, H0, w, env, r, c, p, a0, e1, ei, h⟩ => h w H σ a0.st a0.g a0.s
theorem hs_ifret {e1 e2 : Expr} {rest : List Stmt} {f g : HM T} {k : Nat → T → Sm} {p1 p2 : Pos} (h1 : PE X e1 (tHE G a cls d i f)) (h2 : PE X e2 (tHE G a cls d i g)) (h3 : PSs X rest (tHS G a cls d i k))
    (he : ∀ whole, isTrue e1 X.env whole = (do let v ← whole; standAt e1.pos; holding [v] (truthy v)) := by intro _; rfl) : PSs X (.If e1 [.Return (some e2) p1] [] p2 :: rest) (tHS G a cls d i (hIfRet f g k)) :=
  pss_imp (pss_cons (ps_if (pt_val h1 he) (pss_one (ps_ret h2)) pss_nil) h3) fun D σ H ⟨w0, H0, w, env, r, c, p, a0, s1, ei, hq⟩ => by
    refine ⟨w, H0, env, r, c, p, a0.g, a0.s, s1, ei, ((FlowP.ofM a0 hq).imp fun t r1 w1 H1 st1 g1 q v dv => ?_).noW⟩
    obtain ⟨a1, h⟩ := q
    cases dv with
    | bl b =>
      refine ⟨b, rfl, ?_⟩
      cases b with
      | true =>
        rw [if_pos rfl]
        have h : FlowP G W0 w0 H0 D (hRet g c p env r1) := h
        exact ⟨w1, H0, env, r1, c, p, a1.g, a1.s, s1, ei.step st1, ((FlowP.ofM a1 h).imp fun t r2 w2 H2 _ _ q v dv => q.2 w2 H2 v q.1.st q.1.g dv).noW⟩
      | false =>
        rw [if_neg (by decide)]
        exact ⟨w0, H0, w1, env, r1, c, p, a1, s1, ei.step st1, h⟩
    | _ => exact h.elim
end
end Ep
namespace Ep
open PySem PySem.Spec L2
/-! ### repr of None, True, an integer, a text -/
def reprV : V → Option Str
  | .int i => if i.natAbs.log2 < 1920 then some (toString i) else none
  | .str x => if (reprText x).length ≤ 16777216 then some (reprText x) else none
  | .bl b => some (if b then "True" else "False")
  | .non => some "None"
  | _ => none
def reprS : T → Option Str
  | .int i => if i.natAbs.log2 < 1920 then some (toString i) else none
  | .str x => if (reprText x).length ≤ 16777216 then some (reprText x) else none
  | .bl b => some (if b then "True" else "False")
  | .non => some "None"
  | _ => none
def reprT (_ : RS) (t : T) : Option T := (reprS t).map .str
theorem call_reprA {X : Cx} : CallR X (.builtin "repr") (fun xs H Q => ∃ v z, xs = [v] ∧ reprV v = some z ∧ Q (.str z) H) := by
  intro pins s σ H xs us Q I r h
  obtain ⟨v, z, rfl, e, q⟩ := h
  obtain ⟨u, rfl, r1⟩ := vals1 r
  cases v with
  | int i =>
    obtain ⟨t, rfl⟩ := r1
    have e : (if i.natAbs.log2 < 1920 then some (toString i : Str) else none) = some z := e
    by_cases h : i.natAbs.log2 < 1920
    · rw [if_pos h] at e; cases e
      exact PySem.P.repr_of_int h ⟨.str _, H, I.tok _, ⟨_, rfl⟩, q⟩
    · rw [if_neg h] at e; cases e
  | str x =>
    obtain ⟨t, rfl⟩ := r1
    have e : (if (reprText x).length ≤ 16777216 then some (reprText x) else none) = some z := e
    by_cases h : (reprText x).length ≤ 16777216
    · rw [if_pos h] at e; cases e
      exact PySem.P.repr_of_str ⟨.str _, H, I.tok _, ⟨_, rfl⟩, q⟩ (by rw [sizeLine_eq]; exact h)
    · rw [if_neg h] at e; cases e
  | bl b =>
    cases r1
    cases e
    exact PySem.P.repr_of_bool ⟨.str _, H, I.tok _, ⟨_, rfl⟩, q⟩
  | non =>
    cases r1
    cases e
    exact PySem.P.repr_of_none ⟨.str _, H, I.tok _, ⟨_, rfl⟩, q⟩
  | _ => cases e
theorem repr_den {G : Gm} {w : Wd} {v : V} {t : T} {z : Str} (d : Den G w v t) (e : reprS t = some z) : reprV v = some z := by
  cases d <;> first | exact e | cases e
theorem v_repr {G : Gm} : B1 G (fun xs H Q => ∃ v z, xs = [v] ∧ reprV v = some z ∧ Q (.str z) H) reprT := fun w H r v t z Q g d e q => by
  unfold reprT at e
  cases hs : reprS t with
  | none => rw [hs] at e; cases e
  | some y =>
    rw [hs] at e
    cases e
    rcases d with d | ⟨p, us, ys, e1, e2, _⟩
    · exact ⟨v, y, rfl, repr_den d hs, q _ w H (Step.refl _ _) g (.str _)⟩
    · subst e2; cases hs
section
variable {X : Cx} {G : Gm} {W : WX} {a : Addr} {cls : Value} {d : Option Addr} {i j : Nat} {pos p : Pos} {e : Expr} {f : Env → M T} {h : HM T}
theorem Bd.reprA (B : Bd X G W j) (m : G.mg "repr" = none) (ha : SK X G W e f) (hg : Gl X "repr" := by rfl) (hs : starEach [e] X.env = (false, eval e X.env) :: starEach [] X.env := by rfl) : SE X G W (.Call (.Name "repr" p) [e] [] pos) (fB1 reprT f) := s_b1 call_reprA v_repr hg (by rw [B.eM]; exact m) rfl ha hs
theorem he_repr (h1 : PE X e (tHE G a cls d i h)) (hm : X.mg "repr" = none) (hg : Gl X "repr" := by rfl) (hs : starEach [e] X.env = (false, eval e X.env) :: starEach [] X.env := by rfl) (hpl : (backTo pos (starEach [] X.env)).any (·.1) = false := by rfl) :
    PE X (.Call (.Name "repr" p) [e] [] pos) (tHE G a cls d i fun c q => fB1 reprT (h c q)) :=
  pe_imp (pe_callB call_reprA hg hm rfl (pa_cons h1 pa_nil hs) (by decide) (by decide) hs hpl) fun σ H Q ⟨w, H0, env, r, c, q, g, s, e1, ei, ho⟩ => by
    refine ⟨w, H0, env, r, c, q, g, s, e1, ei, ho.bind.imp fun t r1 w1 H1 st1 g1 o v dv => ?_⟩
    have o : OutP G w1 H1 XF (fun t _ w' H' => ∀ v, Den G w' v t → Q v H') (M.lift (reprT r1 t) r1) := o
    cases hs : reprS t with
    | none => rw [show reprT r1 t = none by unfold reprT; rw [hs]; rfl] at o; exact o.elim
    | some y =>
      rw [show reprT r1 t = some (.str y) by unfold reprT; rw [hs]; rfl] at o
      exact ⟨v, y, rfl, repr_den dv hs, OutP.here g1 o (.str y) (.str y)⟩
end
/-! ### isinstance of a caught exception, by the head -/
def xiL (K : PySem.W.Frag) (cA CA : Addr) (b : Bool) : List Bool := [decide (PySem.W.kitOne K (.ref cA) (.ref CA) = some b), (PySem.W.clsIn K cA).isSome, decide (PySem.W.findIn K (.ref cA) "__getattribute__" = some (some (.builtin "BaseException.__getattribute__"))), decide (PySem.W.findIn K (.ref cA) "__getattr__" = some none),
  decide (PySem.W.subIn K (.ref cA) (.type "BaseException") = some true), decide (PySem.W.findIn K (.ref cA) "__class__" = some (some (.builtin "object.__class__"))), decide (PySem.W.specialIn K (.builtin "object.__class__") "__get__" = some (some (.builtin "getset_descriptor.__get__"))), decide (PySem.W.takesIn K (.builtin "object.__class__") = some true), decide (PySem.W.mroIn K cA (.type "object") = some true)]
theorem xi_of {G : Gm} {K : PySem.W.Frag} {c C : Nat} {cA CA : Addr} {b : Bool} (hK : G.K = K) (hA : ∀ x, G.mg (G.cn c) = some (.ref x) → x = cA) (hC : G.mg (G.cn C) = some (.ref CA)) (q : (xiL K cA CA b).all id = true) : XiOk G c C b := by
  subst hK
  have at_ : ∀ (i : Nat) {y : Bool}, (xiL G.K cA CA b)[i]? = some y → y = true := fun i y e => List.all_eq_true.mp q y (List.mem_of_getElem? e)
  exact ⟨fun x hx => by
    have e := hA x hx
    subst e
    exact ⟨CA, hC, of_decide_eq_true (at_ 0 rfl), at_ 1 rfl, of_decide_eq_true (at_ 2 rfl), of_decide_eq_true (at_ 3 rfl), of_decide_eq_true (at_ 4 rfl), of_decide_eq_true (at_ 5 rfl), of_decide_eq_true (at_ 6 rfl), of_decide_eq_true (at_ 7 rfl), of_decide_eq_true (at_ 8 rfl)⟩⟩
end Ep
namespace Ep
open PySem PySem.Spec L2
/-! ### list(e) as a new list of the def's own, or a changed one -/
def fSeqL (f : Env → M T) : Env → M (List T) := fun env => f env >>= fun t => fun r => M.lift (seqT r t) r
theorem new_own {G : Gm} {w1 : Wd} {H1 : Hp} {r1 : RS} {l : Addr} {vs : List V} (g1 : Good G w1 H1 r1) (hp : H1 l = none) : Good G w1 (upd H1 l (.lst vs)) r1 :=
  ⟨fun a o e => by
    have := ne_of_none (g1.sub a o e) hp
    rw [upd_ne this]
    exact g1.sub a o e, ⟨g1.refs.nd, g1.refs.len, g1.refs.out, fun k xs hk => by
    obtain ⟨a, us, h1, h2, h3, h4⟩ := g1.refs.at_ k xs hk
    have := ne_of_none h2 hp
    exact ⟨a, us, h1, by rw [upd_ne this]; exact h2, h3, h4⟩⟩, tabs_put g1.tabs (.inl hp), g1.nt⟩
theorem l_list {X : Cx} {G : Gm} {W : WX} {a : Expr} {f : Env → M T} {p pos : Pos} (hK : X.K = G.K) (m : X.mg "list" = none) (ha : SK X G W a f) (hg : Gl X "list" := by rfl) (hs : starEach [a] X.env = (false, eval a X.env) :: starEach [] X.env := by rfl) (hpl : (backTo pos (starEach [] X.env)).any (·.1) = false := by rfl) :
    SL X G W (.Call (.Name "list" p) [a] [] pos) (fSeqL f) :=
  pe_imp (pe_callTy call_list_of hg m rfl (pa_cons ha pa_nil hs) (by decide) (by decide) hs hpl) fun σ H Q ⟨w, H0, env, r, g0, s, h0⟩ => by
    refine seqK g0 s h0 fun t r1 w1 H1 x g1 s1 st1 d1 h1 => ?_
    obtain ⟨xs, ez, h2⟩ := liftP h1
    obtain ⟨q, rfl, sd⟩ := seq_of g1 d1 ez
    have fin : ∀ (vs : List V), Dens G w1 vs xs → xs.length ≤ sizeLine → ∀ l, H1 l = none → Q (.ref l) (upd H1 l (.lst vs)) := fun vs dd zz l hl => by
      have st2 : Step w1 H1 w1 (upd H1 l (.lst vs)) := (Step.refl w1 H1).priv hl
      exact h2 w1 _ st2 (new_own g1 hl) l vs (fun z => nvs hl (st1.keep l z)) (g1.nopub hl) (g1.noref hl) upd_same dd zz
    cases sd with
    | l vs h dd zz => exact ⟨q, vs, rfl, .inl (by rw [hK]; exact h), fin vs dd zz⟩
    | t vs h dd zz => exact ⟨q, vs, rfl, .inr (by rw [hK]; exact h), fin vs dd zz⟩
/-- the truth of a changed list -/
def truR (r : RS) : T → Option Bool
  | .ref k => r[k]?.map fun xs => !xs.isEmpty
  | _ => none
def fTruR (f : Env → M T) : Env → M Bool := fun env => f env >>= fun x => fun r => M.lift (truR r x) r
theorem s_truR {X : Cx} {G : Gm} {W : WX} {a : Expr} {f : Env → M T} (hK : X.K = G.K) (ha : SE X G W a f) (he : ∀ whole, isTrue a X.env whole = (do let v ← whole; standAt a.pos; holding [v] (truthy v)) := by intro _; rfl) : SB X G W a (fTruR f) :=
  pt_imp (pt_truth ha he) fun σ H Q ⟨w, H0, env, r, g0, s, h0⟩ => by
    refine seqE g0 s h0 fun t r1 w1 H1 x g1 s1 st1 d1 h1 => ?_
    obtain ⟨z, ez, h2⟩ := liftP h1
    refine ⟨z, ?_, h2 w1 H1 (Step.refl _ _) g1⟩
    cases d1 with
    | @ref k p hr =>
      have ez : (r1[k]?).map (fun xs => !xs.isEmpty) = some z := ez
      cases q : r1[k]? with
      | none => rw [q] at ez; cases ez
      | some xs =>
        rw [q] at ez
        cases ez
        obtain ⟨b, vs, e1, e2, e3, _⟩ := g1.refs.at_ k xs q
        rw [hr] at e1
        cases e1
        rw [hK]
        exact .inl ⟨_, SqL.of e2, by rw [e3.emp]⟩
    | _ => cases ez
/-! ### own lists that become values ahead of a statement -/
def qFrz (is : List Nat) (g : Sm) : Sm := fun env r => g (frz is env) r
theorem ss_frzq {X : Cx} {G : Gm} {W : WX} {st : Stmt} {g : Sm} (is : List Nat) (h : SS X G W st g) : SS X G W st (qFrz is g) := ss_frz is h
theorem n_frz {is : List Nat} {g : Sm} {env : Env} {r : RS} {so : SO} (h : g (frz is env) r = so) : qFrz is g env r = so := h
end Ep
namespace Ep
open PySem PySem.Spec L2
/-! ### {} -/
def fDisp0 : Env → M (List Key × List T) := fun _ => pure ([], [])
theorem n_disp0 {X : Cx} {G : Gm} {W : WX} {pos : Pos} : SN X G W (.Dict [] [] pos) fDisp0 := pe_imp pe_dnewK fun σ H Q ⟨w, H0, env, r, g0, s, h⟩ => by
  intro p hp
  have st0 : Step w H w (upd H p (.dK [])) := (Step.refl w H).priv hp
  have g1 : Good G w (upd H p (.dK [])) r := g0.priv (g0.nopub hp) (g0.noref hp) (.inl hp)
  exact h w _ st0 g1 p [] (nvs hp) (g0.nopub hp) (g0.noref hp) upd_same rfl (Nat.zero_le _) .nil
end Ep
namespace Ep
open PySem PySem.Spec L2 PyProof.Rows
/-! ### e[::-1] of a text or a list -/
def revS (z : Str) : Str := ⟨z.cps.toList.reverse.toArray⟩
theorem fm_map {α β : Type} {g : α → Option β} {f : α → β} : ∀ {l : List α}, (∀ a ∈ l, g a = some (f a)) → l.filterMap g = l.map f
  | [], _ => rfl
  | a :: l, h => by
    rw [List.filterMap_cons, h a List.mem_cons_self, List.map_cons, fm_map fun b hb => h b (List.mem_cons_of_mem _ hb)]
theorem range_back : ∀ (l : List Nat) (n : Nat), l.length = n → ((List.range n).map (fun k => n - 1 - k)).filterMap (l[·]?) = l.reverse := fun l n h => by
  refine List.ext_getElem? fun i => ?_
  have e : ((List.range n).map (fun k => n - 1 - k)).filterMap (l[·]?) = (List.range n).map (fun k => (l[n - 1 - k]?).getD 0) := by
    rw [List.filterMap_map]
    refine fm_map fun k hk => ?_
    have hk := List.mem_range.mp hk
    simp only [Function.comp]
    rw [List.getElem?_eq_getElem (by omega)]
    rfl
  rw [e]
  by_cases hi : i < n
  · rw [List.getElem?_map, List.getElem?_range hi, List.getElem?_reverse (by omega), h]
    simp only [Option.map_some]
    rw [List.getElem?_eq_getElem (by omega)]
    rfl
  · rw [List.getElem?_eq_none (by simp; omega), List.getElem?_eq_none (by simp; omega)]
theorem sidx_back (n : Nat) : Builtin.Str.strSliceIndices none none (-1) n = (List.range n).map (fun k => n - 1 - k) := by
  unfold Builtin.Str.strSliceIndices sliceRange
  simp only [show ¬ ((-1 : Int) > 0) from by decide, if_false]
  by_cases h : 0 < n
  · have e : (((n : Int) - 1 - (-1) - (-1) - 1) / (- -1)).toNat = n := by
      rw [show (- (-1 : Int)) = 1 from rfl, Int.ediv_one]; omega
    rw [if_pos (by omega), e]
    refine List.map_congr_left fun k hk => ?_
    have := List.mem_range.mp hk
    omega
  · have : n = 0 := by omega
    subst this
    rfl
def tRevA (K : PySem.W.Frag) (te : TE) : TE := fun σ H Q => te σ H fun x H1 => (∃ z, x = .str z ∧ z.length ≤ sizeLine ∧ Q (.str (revS z)) H1) ∨ (∃ a xs, x = .ref a ∧ SqL K H1 a xs ∧ ∀ p, H1 p = none → Q (.ref p) (upd H1 p (.lst xs.reverse)))
/-- the bounds of [::-1] as the slice's object holds them -/
structure Back (h : Heap) (p : Addr) (l u m : Value) : Prop where
  obj : h.IsSliceOf p l u m
  lo : IsPart l none
  up : IsPart u none
  by_ : IsPart m (some (-1))
/-- the slice of [::-1], evaluated -/
theorem back_slice {X : Cx} {pins : List (Addr × Obj)} {σ : L2.St} {H0 : Hp} {s : Shared} {k : Nat} {p1 p2 p3 : Pos} {Q : Value → Shared → Prop} (I : Inv X pins σ H0 s)
    (h : ∀ s1 l u m, Inv X pins σ H0 s1 → Back s1.heap (s1.heap.objs.size - 1) l u m → Q (.ref (s1.heap.objs.size - 1)) s1) : wpAny (model X.prog X.w) X.A (eval (.Slice none none (some (.UnaryOp .USub (.Constant (.int 1) k p1) p2)) p3) X.env) Q X.xe s := by
  have minus : PO X (some (.UnaryOp .USub (.Constant (.int 1) k p1) p2)) (tPart (tUn (rU fun i => .int (-i)) (tC (.int 1)))) := po_some (pe_un un_neg pe_int)
  refine wpAny_Slice (thn (po_none.run pins s σ H0 (fun o H' => o = none ∧ H' = H0) I ⟨rfl, rfl⟩) ?_)
  rintro l s1 ⟨_, H1, I1, lo, rfl, eH⟩
  rw [eH] at I1
  refine thn (po_none.run pins s1 σ H0 (fun o H' => o = none ∧ H' = H0) I1 ⟨rfl, rfl⟩) ?_
  rintro u s2 ⟨_, H2, I2, up, rfl, eH⟩
  rw [eH] at I2
  refine thn (minus.run pins s2 σ H0 (fun o H' => o = some (-1) ∧ H' = H0) I2 ⟨1, rfl, -1, rfl, rfl, rfl⟩) ?_
  rintro m s3 ⟨_, H3, I3, by_, rfl, eH⟩
  rw [eH] at I3
  have far : (s3.heap.push { cls := .type "slice", data := .fields #[l, u, m] }).objs.size - 1 = s3.heap.objs.size := by rw [Heap.size_push, Nat.add_sub_cancel]
  have told := h { s3 with heap := s3.heap.push { cls := .type "slice", data := .fields #[l, u, m] } } l u m (I3.kept (t' := s3.toks) fun _ _ => Heap.get?_push_of_some _) ⟨by dsimp only; rw [far]; exact Heap.IsSliceOf.new _ l u m, lo, up, by_⟩
  dsimp only at told
  rw [far] at told
  exact told
/-- a text, backwards -/
theorem str_back (z : Str) : (⟨((Builtin.Str.strSliceIndices none none (-1) z.length).filterMap (z.cps[·]?)).toArray⟩ : Str) = revS z := by
  have at_ : (fun i => z.cps[i]?) = fun i => z.cps.toList[i]? := funext fun i => Array.getElem?_toList.symm
  unfold revS
  rw [sidx_back, at_, range_back z.cps.toList z.length rfl]
theorem pe_revA {X : Cx} {e : Expr} {te : TE} {k : Nat} {p1 p2 p3 pos : Pos} (he : PE X e te) : PE X (.Subscript e (.Slice none none (some (.UnaryOp .USub (.Constant (.int 1) k p1) p2)) p3) pos) (tRevA X.K te) := by
  refine ⟨fun pins s σ H Q I h => Subscript_ (thn (he.run pins s σ H _ I h) fun v s1 ⟨x, H1, I1, rel, kinds⟩ => back_slice I1 fun s2 l u m I2 back => ?_)⟩
  rcases kinds with ⟨z, rfl, few, q⟩ | ⟨a, xs, rfl, hq, q⟩
  · obtain ⟨tk, rfl⟩ := rel
    obtain ⟨vl, rfl, el⟩ := IsPart.raw back.lo
    obtain ⟨vu, rfl, eu⟩ := IsPart.raw back.up
    obtain ⟨vm, rfl, em⟩ := IsPart.raw back.by_
    have picked : slicePicked z vl vu vm = Builtin.Str.strSliceIndices none none (-1) z.length := by unfold slicePicked; rw [el, eu, em]; rfl
    refine tail_any (T := "str") (ops := [.str z tk, .ref (s2.heap.objs.size - 1)]) (typeIs_str _ _ _) F.slot_str_getitem.lookup (wpAny_getItem_str_slice back.obj (by rw [em]; rfl) ?_) (by with_unfolding_all rfl)
    unfold sliceMade
    rw [picked, em, if_neg (by simp), str_back]
    exact ⟨by show z.cps.toList.reverse.toArray.size ≤ _; rw [List.size_toArray, List.length_reverse]; exact few, .str _, _, I2.tok _, ⟨_, rfl⟩, q⟩
  · cases rel
    obtain ⟨its, rels, at_a, few⟩ := I2.list hq
    refine tail_any (ops := [.ref a, .ref (s2.heap.objs.size - 1)]) at_a.isList.typeIs PySem.slot_list_getitem.lookup (wpAny_getItem_list_slice at_a.isList back.obj back.lo back.up back.by_ (by decide) ?_ (by rw [List.size_toArray, ← rels.length]; exact few)) (by with_unfolding_all rfl)
    rw [PySem.W.krv_pick]
    have put := I2.laid (t' := s2.toks) (o := .lst xs.reverse) (h' := s2.heap.push { cls := .type "list", data := .seq its.reverse.toArray }) (fun _ _ z => Heap.get?_push_of_some _ z) (Nat.le_refl _) ⟨(List.length_reverse (as := xs)).symm ▸ few, its.reverse, 0, rels.reverse, Heap.get?_push_size _ rfl⟩
    exact ⟨.ref s2.heap.objs.size, _, put, rfl, q _ (I2.hok.fresh (Nat.le_refl _))⟩
def revT : T → Option T
  | .str z => if z.length ≤ 100000 then some (.str (revS z)) else none
  | .lst xs => some (.lst xs.reverse)
  | .kls xs => some (.lst xs.reverse)
  | _ => none
def fRev (f : Env → M T) : Env → M T := fun env => f env >>= fun x => M.lift (revT x)
theorem Dens.rev {G : Gm} {w : Wd} : ∀ {vs : List V} {ts : List T}, Dens G w vs ts → Dens G w vs.reverse ts.reverse
  | _, _, .nil => .nil
  | _, _, .cons a d => by
    rw [List.reverse_cons, List.reverse_cons]
    exact (Dens.rev d).append (.cons a .nil)
theorem s_rev {X : Cx} {G : Gm} {W : WX} {a : Expr} {f : Env → M T} {k : Nat} {p1 p2 p3 pos : Pos} (hK : X.K = G.K) (ha : SE X G W a f) : SE X G W (.Subscript a (.Slice none none (some (.UnaryOp .USub (.Constant (.int 1) k p1) p2)) p3) pos) (fRev f) :=
  pe_imp (pe_revA ha) fun σ H Q ⟨w, H0, env, r, g0, s, h0⟩ => by
    refine seqE g0 s h0 fun t r1 w1 H1 x g1 s1 st1 d1 h1 => ?_
    obtain ⟨z, ez, h2⟩ := liftP h1
    have go : ∀ (a : Addr) (vs : List V) (xs : List T), x = .ref a → SqL G.K H1 a vs → Dens G w1 vs xs → xs.length ≤ sizeLine → z = .lst xs.reverse → ∃ a xs, x = .ref a ∧ SqL X.K H1 a xs ∧ ∀ p, H1 p = none → Q (.ref p) (upd H1 p (.lst xs.reverse)) := fun a vs xs ex h d zz e => ⟨a, vs, ex, by rw [hK]; exact h, fun p hp => by
      obtain ⟨st, g2⟩ := g1.new (o := .lst vs.reverse) hp
      subst e
      exact h2 _ _ st g2 _ (.lst upd_same (by rw [List.length_reverse]; exact zz) (d.rev.mono st.later))⟩
    cases d1 with
    | str zz =>
      have e : (if zz.length ≤ 100000 then some (T.str (revS zz)) else none) = some z := ez
      by_cases hz : zz.length ≤ 100000
      · rw [if_pos hz] at e
        cases e
        exact .inl ⟨zz, rfl, Nat.le_trans hz (by decide), h2 w1 H1 (Step.refl _ _) g1 _ (.str _)⟩
      · rw [if_neg hz] at e; cases e
    | lst h zz d => cases ez; exact .inr (go _ _ _ rfl (SqL.of (g1.sub _ _ h)) d zz rfl)
    | kls h zz d => cases ez; exact .inr (go _ _ _ rfl (g1.sub.seq h) d zz rfl)
    | _ => cases ez
end Ep
namespace Ep
open PySem PySem.Spec L2
/-! ### a, b, c = [], e, e' with a a list of the def's own -/
def qPar3o (i j k : Nat) (fs : List (Env → M T)) : Sm := fun env r => ofM env (fun ts r => match ts with
  | [u, v] => .nx (((env.set i (.own [])).set j (.val u)).set k (.val v)) r
  | _ => .bad) (fAll fs env r)
section
variable {X : Cx} {G : Gm} {W : WX} {pos : Pos}
theorem ss_par3o {i j l : Nat} {x y z : Str} {e2 e3 : Expr} {f2 f3 : Env → M T} {px py pz pt pl : Pos} {kt k2 pt2} (hc : X.calm = true) (hN : X.N.Nodup) (hi : X.N[i]? = some x) (hj : X.N[j]? = some y) (hl : X.N[l]? = some z) (hij : i ≠ j) (hil : i ≠ l) (hjl : j ≠ l)
    (hx : X.env.scope.names.lookup x = some .local) (hy : X.env.scope.names.lookup y = some .local) (hz : X.env.scope.names.lookup z = some .local) (ha : SA X G W [e2, e3] [f2, f3])
    (hw : swappedStores [.Tuple [.Name x px, .Name y py, .Name z pz] kt pt] (.Tuple [.List [] pl, e2, e3] k2 pt2) X.env = pure (some [x, y, z]))
    (hs : swapsWithSole [.Tuple [.Name x px, .Name y py, .Name z pz] kt pt] (.Tuple [.List [] pl, e2, e3] k2 pt2) pos.line X.env = pure false := by rfl)
    (he : starEach (.List [] pl :: [e2, e3]) X.env = (false, eval (.List [] pl) X.env) :: starEach [e2, e3] X.env := by rfl) :
    SS X G W (.Assign [.Tuple [.Name x px, .Name y py, .Name z pz] kt pt] (.Tuple [.List [] pl, e2, e3] k2 pt2) pos) (qPar3o i j l [f2, f3]) := fun w0 H0 => ps_imp (ps_par3 hc hN hi hj hl hij hil hjl hx hy hz (pa_cons (pe_lst pa_nil) ha he) hw hs) fun D σ H ⟨w, env, r, a, h⟩ => by
  refine ⟨Nat.zero_le _, fun p hp => ?_⟩
  have st0 : Step w H w (upd H p (.lst [])) := (Step.refl w H).priv hp
  have g1 : Good G w (upd H p (.lst [])) r := a.g.priv (a.g.nopub hp) (a.g.noref hp) (.inl hp)
  have a' : At G w0 H0 w (upd H p (.lst [])) σ env r := a.step st0 g1
  refine ⟨w, H0, env, r, a'.g, a'.s, (FlowP.ofM a' h).imp fun ts r1 w1 H1 st g2 q vs d ll => ?_⟩
  obtain ⟨a1, h1⟩ := q
  have hh : H1 p = some (.lst []) := st.fr _ _ (a.g.noref hp) upd_same (by intro _ e; cases e)
  have hP := st.hid p (a.g.noref hp) (vs_of upd_same) (a.g.nopub hp)
  have hR := st.noR (a.g.noref hp) (vs_of upd_same)
  cases d with
  | nil => cases ll
  | cons d2 d =>
    cases d with
    | nil => cases ll
    | cons d3 d =>
      cases d with
      | cons _ _ => cases ll
      | nil =>
        have s2 := a1.s.setOwn i (fun j sl b hj pj hb => a.notNew hj pj hb (nvs hp)) hP hR (fun z => nvs hp (a.st.keep _ z)) hh (.lst (Nat.zero_le _) .nil)
        exact ⟨_, _, _, rfl, h1 w1 H1 _ a1.st a1.g ((s2.setVal j d2).setVal l d3)⟩
theorem Bd.par3o {jj : Nat} (B : Bd X G W jj) (i l m : Nat) {x y z : Str} {e2 e3 : Expr} {f2 f3 : Env → M T} {px py pz pt pl : Pos} {kt k2 pt2} (ha : SA X G W [e2, e3] [f2, f3]) (hi : X.N[i]? = some x := by rfl) (hj : X.N[l]? = some y := by rfl) (hl : X.N[m]? = some z := by rfl) (hij : i ≠ l := by decide) (hil : i ≠ m := by decide) (hjl : l ≠ m := by decide)
    (hx : X.env.scope.names.lookup x = some .local := by rfl) (hy : X.env.scope.names.lookup y = some .local := by rfl) (hz : X.env.scope.names.lookup z = some .local := by rfl)
    (hw : swappedStores [.Tuple [.Name x px, .Name y py, .Name z pz] kt pt] (.Tuple [.List [] pl, e2, e3] k2 pt2) X.env = pure (some [x, y, z]) := by rfl)
    (hs : swapsWithSole [.Tuple [.Name x px, .Name y py, .Name z pz] kt pt] (.Tuple [.List [] pl, e2, e3] k2 pt2) pos.line X.env = pure false := by rfl)
    (he : starEach (.List [] pl :: [e2, e3]) X.env = (false, eval (.List [] pl) X.env) :: starEach [e2, e3] X.env := by rfl) :
    SS X G W (.Assign [.Tuple [.Name x px, .Name y py, .Name z pz] kt pt] (.Tuple [.List [] pl, e2, e3] k2 pt2) pos) (qPar3o i l m [f2, f3]) := ss_par3o B.calm B.nd hi hj hl hij hil hjl hx hy hz ha hw hs he
end
end Ep
namespace Ep
namespace EnT
open PySem PySem.Spec L2 PyProof.Rows
section
variable {prog : Program} {w : World} {A : Around} {E : Value → Shared → Prop} {s : Shared} {v : Value} {o : Obj} {HB : Heap → Prop}
/-- enumerate's object, over the iterator at it -/
def eObj (it : Addr) : Obj := { cls := .type "enumerate", data := .fields #[.none, .bool false, .ref it, rawInt 0, .none, .none] }
/-- enumerate.__new__ of one thing that begins to be walked (Begins) -/
theorem new_one (B : Begins v o HB) (now : HB s.heap) {Q : Fin → Shared → Prop} (told : Q (.done (.ret (.ref (s.heap.push o).objs.size))) { s with heap := (s.heap.push o).push (eObj s.heap.objs.size) }) :
    wpAny (model prog w) A (Builtin.«enumerate.__new__» ⟨[.type "enumerate", v], []⟩) Q E s := by
  have cls : Builtin.SmallTypes.newClass "enumerate" ⟨[.type "enumerate", v], []⟩ = pure (.type "enumerate", [v]) := by
    unfold Builtin.SmallTypes.newClass
    show (isSubtype (.type "enumerate") (.type "enumerate") >>= fun b => _) = _
    rw [sub_enumerate]
    rfl
  unfold Builtin.«enumerate.__new__»
  refine wpAny_bind (wpAny_of_eq cls ?_)
  have last : wpAny (model prog w) A (pyIter v >>= fun i => Builtin.SmallTypes.newRecord (.type "enumerate") (Builtin.SmallTypes.ownedTupleFields ++ [i, rawInt 0, .none, .none]) >>= fun r => PySem.ret r) Q E s := by
    refine wpAny_bind (B.iter prog w A E s _ now ?_)
    show wpAny _ A (newObj (.type "enumerate") (.fields #[.none, .bool false, .ref s.heap.objs.size, rawInt 0, .none, .none]) >>= fun r => PySem.ret r) Q E _
    exact wpAny_bind (wpAny_newObj_type (wpAny_pure told))
  dsimp only
  rw [if_pos (beq_self_eq_true _)]
  have how : wpAny (model prog w) A (Builtin.SmallTypes.calledThroughType (.type "enumerate")) (fun _ z => z = s) E s := wpAny_bind (wpAny_stack_any fun _ => wpAny_pure rfl)
  refine wpAny_bind (wpAny_mono how (fun short z same => ?_) fun _ _ => id)
  subst same
  cases short with
  | false => exact last
  | true => exact last
/-- .. and the call of the class -/
theorem call_one (B : Begins v o HB) (now : HB s.heap) {Q : Value → Shared → Prop} (told : ∀ h', IsEnum h' (s.heap.objs.size + 1) s.heap.objs.size 0 .none → h'.get? s.heap.objs.size = some o → (∀ b z, s.heap.get? b = some z → h'.get? b = some z) → Q (.ref (s.heap.objs.size + 1)) { s with heap := h' }) :
    wpAny (model prog w) A (call (.type "enumerate") [v]) Q E s := by
  have one_on : (s.heap.push o).objs.size = s.heap.objs.size + 1 := Heap.size_push ..
  have at_e := Heap.get?_push_size (s.heap.push o) (o := eObj s.heap.objs.size) rfl
  refine callType_new (S := fun _ R z => HB z.heap ∧ R (.ok (.ret (.ref (z.heap.push o).objs.size))) { z with heap := (z.heap.push o).push (eObj z.heap.objs.size) }) F.called_enumerate (by decide) (F.typeCall_enumerate_1 _) (F.newCall_enumerate_1 _) (fun obj => F.args_object_init_2 obj _) F.entry_enumerate_new
    (fun prog w A R z both => new_one B both.1 both.2) ⟨now, ?_⟩
  rw [one_on] at at_e
  show _ ∧ _
  rw [one_on]
  exact ⟨⟨_, at_e, rfl⟩, told _ at_e (Heap.get?_push_of_some _ (Heap.get?_push_size _ B.free)) fun b z q => Heap.get?_push_of_some _ (Heap.get?_push_of_some _ q)⟩
end
/-- the tuple at a as it stands at each turn, each item in a new pair -/
def IteT (K : PySem.W.Frag) (a : Addr) : It :=
  ⟨fun i H => ∃ (xs : List V) (x : V), SqT K H a xs ∧ xs[i]? = some x, fun i H v H' => ∃ T x, v = .ref T ∧ H T = none ∧ H' = upd H T (.tup [.int (i : Nat), x]) ∧ ∀ xs, SqT K H a xs → xs[i]? = some x, fun i H => ∃ xs : List V, SqT K H a xs ∧ xs.length = i⟩
/-- the two records stand, i turns done -/
def At (a e it : Addr) (i : Nat) (h : Heap) : Prop := (∃ old, IsEnum h e it ((i : Nat) : Int) old) ∧ h.IsTupleIter it a i ∧ e ≠ it
theorem apart {h : Heap} {a b : Addr} {S T : String} (x : ∃ o, h.get? a = some o ∧ o.cls = .type S) (y : ∃ o, h.get? b = some o ∧ o.cls = .type T) (n : S ≠ T) : a ≠ b := by
  rintro rfl
  obtain ⟨o, p, c⟩ := x
  obtain ⟨o', p', c'⟩ := y
  cases p.symm.trans p'
  exact n (Value.type.inj (c.symm.trans c'))
/-- as long as the tuple stands, its walk is the library's (Draws.tuple, WalksT.enumerateD) -/
theorem walks {X : Cx} {pins : List (Addr × Obj)} {s : Shared} {σ : L2.St} {H : Hp} {a e it : Addr} {i : Nat} {xs : List V} (hc : X.calm = true) (I : Inv X pins σ H s) (st : At a e it i s.heap) (hq : SqT X.K H a xs) : ∃ its : List Value, Vals xs its ∧ s.heap.IsTuple a its.toArray ∧
    WalksT X.prog X.w X.A e (e :: [it, a]) [e, it] its.toArray.size (fun i vals => ∃ t x, its.toArray[i]? = some x ∧ vals = #[.int i t, x]) (fun i h => (∃ old, IsEnum h e it i old) ∧ h.IsTupleIter it a i ∧ h.IsTuple a its.toArray)
      (fun i T h => (∃ x, IsEnumOut h e it ((i : Int) + 1) x T) ∧ (h.IsTupleIter it a (i + 1) ∧ h.IsTuple a its.toArray) ∧ T ≠ e ∧ T ≠ it) := by
  obtain ⟨⟨old, at_e⟩, at_it, ne⟩ := st
  obtain ⟨its, vals, at_a, _⟩ := I.tuple hq
  have ca : ∃ o, s.heap.get? a = some o ∧ o.cls = .type "tuple" := at_a.imp fun _ z => ⟨z.1, z.2.1⟩
  have ci : ∃ o, s.heap.get? it = some o ∧ o.cls = .type "tuple_iterator" := at_it.imp fun _ z => ⟨z.1, z.2.1⟩
  have ce : ∃ o, s.heap.get? e = some o ∧ o.cls = .type "enumerate" := ⟨_, at_e, rfl⟩
  have nea := apart ce ca (by decide)
  exact ⟨its, vals, at_a, .enumerateD (.tuple (show X.A.in1.handled = none from I.ok.hd hc) it a (apart ca ci (by decide)) its.toArray) e ne (by simp [ne, nea]) (by simp)⟩
theorem at_obj {a e it : Addr} {i : Nat} {h : Heap} (st : At a e it i h) {b : Addr} (of_ : b ∈ [e, it]) : ∃ o, h.get? b = some o ∧ ∀ v, o.data ≠ .cell v := by
  obtain ⟨⟨old, at_e⟩, ⟨o, at_it, _, rec⟩, _⟩ := st
  rcases List.mem_cons.mp of_ with rfl | of_
  · exact ⟨_, at_e, fun _ z => nomatch z⟩
  · cases List.mem_singleton.mp of_
    exact ⟨o, at_it, fun _ z => nomatch rec.symm.trans z⟩
theorem turn {P : Program} {w : World} {K : PySem.W.Frag} {elts : List Expr} {kk : Nat} {tpos : Pos} (a e it : Addr) : Turn P w K (.Tuple elts kk tpos) (IteT K a) [e, it] e (At a e it) where
  mem := List.mem_cons_self
  obj i h st b of_ := at_obj st of_
  keep i h h' st same := ⟨st.1.imp fun _ z => same e (by simp) _ z, st.2.1.at fun o z => same it (by simp) o z, st.2.2⟩
  self A i s Q E st q := st.1.elim fun _ z => wpAny_pyIter_enum z q
  done := by
    rintro X rfl rfl rfl hc i pins s σ H E I hf st ⟨xs, hq, rfl⟩
    obtain ⟨its, vals, at_a, W⟩ := walks hc I st hq
    refine W.done s _ E (by rw [List.size_toArray, ← vals.length]; exact ⟨st.1, st.2.1, at_a⟩) fun h' tk same => ⟨rfl, I.turnedL same hf⟩
  item := by
    rintro X rfl rfl rfl hc i pins s σ H E I hf st ⟨xs, x, hq, hx⟩
    obtain ⟨its, vals, at_a, W⟩ := walks hc I st hq
    obtain ⟨u, at_u, rel⟩ := vals.get hx
    have now : i < its.toArray.size := by simpa using (List.getElem?_eq_some_iff.mp at_u).1
    refine W.item i s _ E now ⟨st.1, st.2.1, at_a⟩ fun T _ h' tk ⟨t, y, at_y, ev⟩ new at_T mid same => ⟨_, rfl, W.go elts kk tpos i T _ _ _ mid fun h'' st' same' => ?_⟩
    subst ev
    obtain rfl : y = u := by
      rw [show its.toArray[i]? = its[i]? from by simp, at_u] at at_y
      exact (Option.some.inj at_y).symm
    have put : h''.IsTuple T #[.int i t, y] := at_T.at fun o z => same' T o (W.apart i T h' mid) z
    have pair : ObjOk X.prog X.w (upd H T (.tup [.int (i : Nat), x])) h'' T (.tup [.int (i : Nat), x]) := ⟨show 2 ≤ sizeLine by decide, [.int i t, y], .cons ⟨t, rfl⟩ (.cons rel .nil), put⟩
    refine ⟨.ref T, _, I.turnedNew (fun b o out z => same' b o out (same b o out z)) hf new pair, rfl, ⟨T, x, rfl, I.hok.fresh new, rfl, fun ys hy => by rw [I.tuple_inj hy hq]; exact hx⟩, ⟨st'.1, st'.2.1, st.2.2⟩, fun b of_ => ?_⟩
    have before : b < s.heap.objs.size := (at_obj st of_).elim fun _ z => Heap.lt_size z.1
    rw [upd_ne (Nat.ne_of_lt (Nat.lt_of_lt_of_le before new))]
    exact (hf b of_).1
/-- enumerate of a list or a tuple -/
def iEnumA (K : PySem.W.Frag) (ta : TA) : TI := fun σ H R => ta σ H fun vs H1 => ∃ a xs, vs = [.ref a] ∧ ((SqL K H1 a xs ∧ R (Ite K a) H1) ∨ (SqT K H1 a xs ∧ R (IteT K a) H1))
theorem pi_enumA {X : Cx} {e : Expr} {ta : TA} {p pos tpos : Pos} {elts : List Expr} {kk : Nat} (hg : Gl X "enumerate") (hm : X.mg "enumerate" = none) (ha : PA X [e] ta) (hs : starEach [e] X.env = [(false, eval e X.env)] := by rfl) :
    PI X (.Tuple elts kk tpos) (.Call (.Name "enumerate" p) [e] [] pos) (iEnumA X.K ta) := by
  have laid : ∀ {pins : List (Addr × Obj)} {s1 : Shared} {H1 : Hp} {σ : L2.St}, Inv X pins σ H1 s1 → ∀ b ∈ [s1.heap.objs.size + 1, s1.heap.objs.size], FpOk X pins H1 b := fun {pins s1 H1 σ} I1 b hb => by
    have new : s1.heap.objs.size ≤ b := by
      rcases List.mem_cons.mp hb with rfl | hb
      · exact Nat.le_succ _
      · exact Nat.le_of_eq (List.mem_singleton.mp hb).symm
    exact I1.fpOk new (I1.hok.fresh new)
  refine ⟨fun pins s σ H R I h => Call_ (ld_blt I hg hm boot_enumerate (PyProof.Rows.callWith_type1 (thn (ha.run pos pins s σ H _ I h) fun us s1 came => ?_) hs rfl))⟩
  obtain ⟨_, H1, I1, rels, a, xs, rfl, q⟩ := came
  cases rels with
  | cons rel none_ =>
    cases none_
    cases rel
    rcases q with ⟨hq, q⟩ | ⟨hq, q⟩
    · obtain ⟨its, _, at_a, _⟩ := I1.list hq
      exact call_enumerate_list at_a.isList fun h' at_e at_it _ same => wpAny_pyIter_enum at_e ⟨_, _, _, _, H1, rfl, I1.kept (t' := s1.toks) same, turn_enum a _ s1.heap.objs.size, ⟨⟨.none, at_e⟩, at_it, Nat.succ_ne_self _⟩, laid I1, q⟩
    · obtain ⟨its, _, at_a, _⟩ := I1.tuple hq
      exact call_one (begins_tuple a its.toArray) at_a fun h' at_e at_it same => wpAny_pyIter_enum at_e ⟨_, _, _, _, H1, rfl, I1.kept (t' := s1.toks) same, turn a _ s1.heap.objs.size, ⟨⟨.none, at_e⟩, ⟨_, at_it, rfl, rfl⟩, Nat.succ_ne_self _⟩, laid I1, q⟩
theorem walk {K : PySem.W.Frag} {a : Addr} {xs : List V} : Walk (IteT K a) xs.length (fun H => SqT K H a xs) (YPair (fun i => some (.int (i : Nat))) (fun i => xs[i]?)) where
  goes i H lt hq := ⟨xs, _, hq, List.getElem?_eq_getElem lt⟩
  stops H hq := ⟨xs, hq, rfl⟩
  yields i H v H' lt hq := fun ⟨p, x, ev, new, eH, item⟩ => ⟨p, .int (i : Nat), x, ev, new, eH, rfl, item xs hq⟩
end EnT
open PySem PySem.Spec L2
section
variable {X : Cx} {G : Gm} {W : WX} {f : Env → M T} {pos : Pos}
theorem it_eT {w : Wd} {a : Addr} {vs : List V} {xs : List T} (h : TupAt G.K w.P a vs) (d : Dens G w vs xs) : ItOk G w (EnT.IteT G.K a) (enumL 0 xs) := by
  refine ⟨_, _, by rw [enumL_len, ← d.length]; exact EnT.walk (xs := vs), fun w' H' r' L g => tup_sq g.sub (h.mono L.pub), fun i H1 v H2 w1 r1 L g hi y => ?_⟩
  obtain ⟨p, x, y, ev, hp, e2, ex, ey⟩ := y
  subst ev
  cases ex
  obtain ⟨t, ht, hd⟩ := d.getV ey
  obtain ⟨w2, st, g2, d2⟩ := pair_new g hp e2 (.int (i : Nat)) (hd.mono L)
  exact ⟨_, w2, by rw [enumL_at xs 0 i t ht, Nat.zero_add], st, g2, d2⟩
def EnTlt : T → Option (List T)
  | .lst xs => some xs
  | .kls xs => some xs
  | .tup xs => some xs
  | _ => none
def fEnumA (f : Env → M T) : Env → M (List T) := fun env => fAll [f] env >>= fun ts => M.lift (match ts with
  | [t] => (EnTlt t).map (enumL 0)
  | _ => none)
theorem i_enumA {a : Expr} {p tpos : Pos} {elts : List Expr} {kk : Nat} (hK : X.K = G.K) (hg : Gl X "enumerate") (hm : X.mg "enumerate" = none) (ha : SE X G W a f) (hs : starEach [a] X.env = [(false, eval a X.env)] := by rfl) :
    SI X G W (.Tuple elts kk tpos) (.Call (.Name "enumerate" p) [a] [] pos) (fEnumA f) :=
  pi_imp (EnT.pi_enumA hg hm (a_cons ha a_nil hs) hs) fun σ H R ⟨w, H0, env, r, g, s, h⟩ => by
    refine seqA g s h fun ts r1 w1 H1 vs g1 s1 st1 d1 l h1 => ?_
    obtain ⟨xs, e1, h2⟩ := liftP h1
    have h3 := h2 w1 H1 (Step.refl _ _) g1
    cases d1 with
    | nil => cases e1
    | @cons v vs t ts d d' =>
      cases d' with
      | cons _ _ => cases l
      | nil =>
        have e1 : (EnTlt t).map (enumL 0) = some xs := e1
        rw [hK]
        cases d with
        | lst h z dd => cases e1; exact ⟨_, _, rfl, .inl ⟨g1.sub.seq (.inl (.inl h)), h3 _ (it_e (.inl (.inl h)) dd)⟩⟩
        | kls h z dd => cases e1; exact ⟨_, _, rfl, .inl ⟨g1.sub.seq h, h3 _ (it_e h dd)⟩⟩
        | tup h z dd => cases e1; exact ⟨_, _, rfl, .inr ⟨tup_sq g1.sub h, h3 _ (it_eT h dd)⟩⟩
        | _ => cases e1
end
end Ep
namespace Ep
open PySem PySem.Spec L2
/-! ### self.f in an __init__, of the fields that are there already -/
def fFldS (m : Nat → Option Nat) (i : Nat) : Env → M T := fun env => match env[i]? with
  | some (.pv (.ins C vs)) => M.lift ((m C).bind fun j => vs[j]?)
  | some (.val (.obj C vs)) => M.lift ((m C).bind fun j => vs[j]?)
  | _ => M.bad
theorem find_take {p : Str → Bool} : ∀ {l : List Str} {n j : Nat}, l.findIdx? p = some j → j < n → (l.take n).findIdx? p = some j
  | [], _, _, h, _ => by simp at h
  | x :: l, 0, _, _, hn => by omega
  | x :: l, n + 1, j, h, hn => by
    rw [List.findIdx?_cons] at h
    rw [List.take_succ_cons, List.findIdx?_cons]
    by_cases c : p x = true
    · rw [if_pos c] at h ⊢; exact h
    · rw [if_neg c] at h ⊢
      cases q : l.findIdx? p with
      | none => rw [q] at h; cases h
      | some k =>
        rw [q] at h
        have hk : k + 1 = j := by simpa using h
        rw [find_take q (by omega)]
        simp [hk]
theorem s_fldS {X : Cx} {G : Gm} {W : WX} {pos p : Pos} {name x : Str} (hK : X.K = G.K) (i : Nat) (m : Nat → Option Nat) (ok : ∀ C j, m C = some j → FldOk G name C j) (hN : X.N[i]? = some x) (hv : Vis X.env.scope x)
    (hb : attributeBase (.Name x p) name X.env (eval (.Name x p) X.env) = eval (.Name x p) X.env := by rfl) (hd : (x == ("__debug__" : Str)) = false := by decide) (hcd : (x == ("__classdict__" : Str)) = false := by decide) : SE X G W (.Attribute (.Name x p) name pos) (fFldS m i) :=
  pe_imp (pe_fld (pe_var hN hv hd hcd) hb) fun σ H Q ⟨w, H0, env, r, g, s, h⟩ => by
    unfold fFldS at h
    cases e : env[i]? with
    | none => rw [e] at h; exact h.elim
    | some sl =>
      rw [e] at h
      obtain ⟨oa, k1, k2⟩ := s.ex
      have := k1 i sl e
      cases sl with
      | un => exact h.elim
      | val t =>
        obtain ⟨v, e1, d1⟩ := this
        cases d1 with
        | @obj p cA dx C vs ts c h0 l d =>
          obtain ⟨z, ez, h2⟩ := liftP h
          cases q : m C with
          | none => rw [q] at ez; cases ez
          | some j =>
            rw [q] at ez
            have o := ok C j q
            obtain ⟨v, e3, e2⟩ := d.get (i := j) ez
            refine ⟨_, e1, p, cA, dx, _, v, rfl, g.sub _ _ h0, ?_, ?_, by rw [lookup_zip o.at_ l]; exact e3, h2 w H (Step.refl _ _) g v e2⟩
            · rw [hK]; exact (o.cl cA c).1
            · rw [hK]; exact (o.cl cA c).2
        | _ => exact h.elim
      | pv q =>
        cases q with
        | ins C ts =>
          obtain ⟨e1, a2, a3, a4, u, a6, a7⟩ := this
          cases a7 with
          | @ins C cA dx vs ts hm c l d =>
            obtain ⟨z, ez, h2⟩ := liftP h
            cases q : m C with
            | none => rw [q] at ez; cases ez
            | some j =>
              rw [q] at ez
              have o := ok C j q
              obtain ⟨v, e3, e2⟩ := d.get (i := j) ez
              have hj : j < ts.length := (List.getElem?_eq_some_iff.mp ez).1
              refine ⟨_, e1, oa i, cA, dx, _, v, rfl, a6, ?_, ?_, by rw [lookup_zip (find_take o.at_ hj) (by rw [d.length, List.length_take]; omega)]; exact e3, h2 w H (Step.refl _ _) g v e2⟩
              · rw [hK]; exact (o.cl cA c).1
              · rw [hK]; exact (o.cl cA c).2
        | _ => exact h.elim
end Ep
namespace Ep
open PySem PySem.Spec L2
/-! ### a, b = e, e' where one of both is a new list of the def's own -/
def qPar2ov (i j : Nat) (f : Env → M (List T)) (g : Env → M T) : Sm := fun env r => ofM env (fun xs r => ofM env (fun u r => .nx ((env.set i (.own xs)).set j (.val u)) r) (g env r)) (f env r)
def qPar2vo (i j : Nat) (f : Env → M T) (g : Env → M (List T)) : Sm := fun env r => ofM env (fun u r => ofM env (fun xs r => .nx ((env.set j (.own xs)).set i (.val u)) r) (g env r)) (f env r)
section
variable {X : Cx} {G : Gm} {W : WX} {pos : Pos}
theorem set_comm {α : Type} (l : List α) {i j : Nat} (h : i ≠ j) (a b : α) : (l.set i a).set j b = (l.set j b).set i a := List.set_comm a b h
theorem ss_par2ov {i j : Nat} {x y : Str} {e1 e2 : Expr} {f : Env → M (List T)} {g : Env → M T} {px py pt : Pos} {kt k2 pt2} (hc : X.calm = true) (hN : X.N.Nodup) (hi : X.N[i]? = some x) (hj : X.N[j]? = some y) (hij : i ≠ j)
    (hx : X.env.scope.names.lookup x = some .local) (hy : X.env.scope.names.lookup y = some .local) (h1 : SL X G W e1 f) (h2 : SE X G W e2 g)
    (hw : swappedStores [.Tuple [.Name x px, .Name y py] kt pt] (.Tuple [e1, e2] k2 pt2) X.env = pure (some [x, y]))
    (hs : swapsWithSole [.Tuple [.Name x px, .Name y py] kt pt] (.Tuple [e1, e2] k2 pt2) pos.line X.env = pure false)
    (a1 : starEach [e1, e2] X.env = (false, eval e1 X.env) :: starEach [e2] X.env) (a2 : starEach [e2] X.env = (false, eval e2 X.env) :: starEach [] X.env) :
    SS X G W (.Assign [.Tuple [.Name x px, .Name y py] kt pt] (.Tuple [e1, e2] k2 pt2) pos) (qPar2ov i j f g) := fun w0 H0 => ps_imp (ps_par hc hN hi hj hij hx hy (pa_cons h1 (pa_cons h2 pa_nil a2) a1) hw hs) fun D σ H ⟨w, env, r, a, h⟩ => by
  refine ⟨w, H0, env, r, a.g, a.s, (FlowP.ofM a h).imp fun xs r1 w1 H1 st g1 q p vs hp hP hR hh d z => ?_⟩
  obtain ⟨b1, h1⟩ := q
  refine ⟨w1, H0, env, r1, b1.g, b1.s, (FlowP.ofM b1 h1).imp fun t r2 w2 H2 st2 g2 q v dv => ?_⟩
  obtain ⟨b2, h2⟩ := q
  have hh2 : H2 p = some (.lst vs) := st2.fr _ _ hR hh (by intro _ e; cases e)
  have hP2 := st2.hid p hR (vs_of hh) hP
  have hR2 := st2.noR hR (vs_of hh)
  have s2 := b2.s.setOwn i (fun j sl b hj pj hb => a.notNew hj pj hb hp) hP2 hR2 (fun z => hp (a.st.keep _ z)) hh2 (.lst z (d.mono st2.later))
  exact ⟨_, _, rfl, h2 w2 H2 _ b2.st b2.g (s2.setVal j dv)⟩
theorem ss_par2vo {i j : Nat} {x y : Str} {e1 e2 : Expr} {f : Env → M T} {g : Env → M (List T)} {px py pt : Pos} {kt k2 pt2} (hc : X.calm = true) (hN : X.N.Nodup) (hi : X.N[i]? = some x) (hj : X.N[j]? = some y) (hij : i ≠ j)
    (hx : X.env.scope.names.lookup x = some .local) (hy : X.env.scope.names.lookup y = some .local) (h1 : SE X G W e1 f) (h2 : SL X G W e2 g)
    (hw : swappedStores [.Tuple [.Name x px, .Name y py] kt pt] (.Tuple [e1, e2] k2 pt2) X.env = pure (some [x, y]))
    (hs : swapsWithSole [.Tuple [.Name x px, .Name y py] kt pt] (.Tuple [e1, e2] k2 pt2) pos.line X.env = pure false)
    (a1 : starEach [e1, e2] X.env = (false, eval e1 X.env) :: starEach [e2] X.env) (a2 : starEach [e2] X.env = (false, eval e2 X.env) :: starEach [] X.env) :
    SS X G W (.Assign [.Tuple [.Name x px, .Name y py] kt pt] (.Tuple [e1, e2] k2 pt2) pos) (qPar2vo i j f g) := fun w0 H0 => ps_imp (ps_par hc hN hi hj hij hx hy (pa_cons h1 (pa_cons h2 pa_nil a2) a1) hw hs) fun D σ H ⟨w, env, r, a, h⟩ => by
  refine ⟨w, H0, env, r, a.g, a.s, (FlowP.ofM a h).imp fun t r1 w1 H1 st g1 q v dv => ?_⟩
  obtain ⟨b1, h1⟩ := q
  refine ⟨w1, H0, env, r1, b1.g, b1.s, (FlowP.ofM b1 h1).imp fun xs r2 w2 H2 st2 g2 q p vs hp hP hR hh d z => ?_⟩
  obtain ⟨b2, h2⟩ := q
  have s2 := b2.s.setOwn j (fun j sl b hj pj hb => b1.notNew hj pj hb hp) hP hR (fun z => hp (b1.st.keep _ z)) hh (.lst z d)
  refine ⟨_, _, rfl, ?_⟩
  rw [set_comm _ hij]
  exact h2 w2 H2 _ b2.st b2.g (s2.setVal i (dv.mono st2.later))
theorem Bd.par2ov {jj : Nat} (B : Bd X G W jj) (i j : Nat) {x y : Str} {e1 e2 : Expr} {f : Env → M (List T)} {g : Env → M T} {px py pt : Pos} {kt k2 pt2} (h1 : SL X G W e1 f) (h2 : SE X G W e2 g) (hi : X.N[i]? = some x := by rfl) (hj : X.N[j]? = some y := by rfl) (hij : i ≠ j := by decide)
    (hx : X.env.scope.names.lookup x = some .local := by rfl) (hy : X.env.scope.names.lookup y = some .local := by rfl)
    (hw : swappedStores [.Tuple [.Name x px, .Name y py] kt pt] (.Tuple [e1, e2] k2 pt2) X.env = pure (some [x, y]) := by rfl)
    (hs : swapsWithSole [.Tuple [.Name x px, .Name y py] kt pt] (.Tuple [e1, e2] k2 pt2) pos.line X.env = pure false := by rfl)
    (a1 : starEach [e1, e2] X.env = (false, eval e1 X.env) :: starEach [e2] X.env := by rfl) (a2 : starEach [e2] X.env = (false, eval e2 X.env) :: starEach [] X.env := by rfl) :
    SS X G W (.Assign [.Tuple [.Name x px, .Name y py] kt pt] (.Tuple [e1, e2] k2 pt2) pos) (qPar2ov i j f g) := ss_par2ov B.calm B.nd hi hj hij hx hy h1 h2 hw hs a1 a2
theorem Bd.par2vo {jj : Nat} (B : Bd X G W jj) (i j : Nat) {x y : Str} {e1 e2 : Expr} {f : Env → M T} {g : Env → M (List T)} {px py pt : Pos} {kt k2 pt2} (h1 : SE X G W e1 f) (h2 : SL X G W e2 g) (hi : X.N[i]? = some x := by rfl) (hj : X.N[j]? = some y := by rfl) (hij : i ≠ j := by decide)
    (hx : X.env.scope.names.lookup x = some .local := by rfl) (hy : X.env.scope.names.lookup y = some .local := by rfl)
    (hw : swappedStores [.Tuple [.Name x px, .Name y py] kt pt] (.Tuple [e1, e2] k2 pt2) X.env = pure (some [x, y]) := by rfl)
    (hs : swapsWithSole [.Tuple [.Name x px, .Name y py] kt pt] (.Tuple [e1, e2] k2 pt2) pos.line X.env = pure false := by rfl)
    (a1 : starEach [e1, e2] X.env = (false, eval e1 X.env) :: starEach [e2] X.env := by rfl) (a2 : starEach [e2] X.env = (false, eval e2 X.env) :: starEach [] X.env := by rfl) :
    SS X G W (.Assign [.Tuple [.Name x px, .Name y py] kt pt] (.Tuple [e1, e2] k2 pt2) pos) (qPar2vo i j f g) := ss_par2vo B.calm B.nd hi hj hij hx hy h1 h2 hw hs a1 a2
end
end Ep
namespace Ep
open PySem PySem.Spec L2
/-! ### a walk through a list that is changed by several defs, as long as it stays as it is -/
def chkR (c : Option (Nat × List T)) (r : RS) : Prop := match c with
  | none => True
  | some (k, ys) => r[k]? = some ys
open Classical in
noncomputable def loopG (c : Option (Nat × List T)) (h : T → Env → Option Env) (g : Sm) : List T → Sm
  | [], env, r => if chkR c r then .nx env r else .bad
  | x :: xs, env, r => if chkR c r then (match h x env with
    | none => .bad
    | some env1 => match g env1 r with
      | .nx e r' => loopG c h g xs e r'
      | .ct e r' => loopG c h g xs e r'
      | .bk e r' => .nx e r'
      | .rt t r' => .rt t r'
      | .exn c p e r' => .exn c p e r'
      | .bad => .bad) else .bad
noncomputable def qForG (f : Env → M (List T × Option (Nat × List T))) (h : T → Env → Option Env) (g : Sm) : Sm := fun env r => ofM env (fun p r => loopG p.2 h g p.1 env r) (f env r)
theorem loopG_nil {c : Option (Nat × List T)} {h : T → Env → Option Env} {g : Sm} {env : Env} {r : RS} (hc : chkR c r) : loopG c h g [] env r = .nx env r := by unfold loopG; rw [if_pos hc]
theorem loopG_cons {c : Option (Nat × List T)} {h : T → Env → Option Env} {g : Sm} {x : T} {xs : List T} {env : Env} {r : RS} (hc : chkR c r) : loopG c h g (x :: xs) env r = (match h x env with
    | none => .bad
    | some env1 => match g env1 r with
      | .nx e r' => loopG c h g xs e r'
      | .ct e r' => loopG c h g xs e r'
      | .bk e r' => .nx e r'
      | .rt t r' => .rt t r'
      | .exn c p e r' => .exn c p e r'
      | .bad => .bad) := by rw [loopG, if_pos hc]
theorem loopG_chk {G : Gm} {W : WX} {w0 : Wd} {H0 : Hp} {D : Ends} {c : Option (Nat × List T)} {h : T → Env → Option Env} {g : Sm} : ∀ {xs : List T} {env : Env} {r : RS}, FlowP G W w0 H0 D (loopG c h g xs env r) → chkR c r
  | [], env, r, q => by
    unfold loopG at q
    by_cases hc : chkR c r
    · exact hc
    · rw [if_neg hc] at q; exact q.elim
  | x :: xs, env, r, q => by
    rw [loopG] at q
    by_cases hc : chkR c r
    · exact hc
    · rw [if_neg hc] at q; exact q.elim
def ItOkG (G : Gm) (w : Wd) (J : It) (xs : List T) (c : Option (Nat × List T)) : Prop := ∃ Gd Y, Walk J xs.length Gd Y ∧ (∀ w' H' r', Later w w' → Good G w' H' r' → chkR c r' → Gd H') ∧
  ∀ i H1 v H2 w1 r1, Later w w1 → Good G w1 H1 r1 → chkR c r1 → i < xs.length → Y i H1 v H2 → ∃ t w2, xs[i]? = some t ∧ Step w1 H1 w2 H2 ∧ Good G w2 H2 r1 ∧ Den G w2 v t
theorem ItOk.g {G : Gm} {w : Wd} {J : It} {xs : List T} (h : ItOk G w J xs) (c : Option (Nat × List T)) : ItOkG G w J xs c := by
  obtain ⟨Gd, Y, h1, h2, h3⟩ := h
  exact ⟨Gd, Y, h1, fun w' H' r' a b _ => h2 w' H' r' a b, fun i H1 v H2 w1 r1 a b _ => h3 i H1 v H2 w1 r1 a b⟩
def tSIG (G : Gm) (W : WX) (f : Env → M (List T × Option (Nat × List T))) : TI := fun σ H R => ∃ w H0 env r, Good G w H r ∧ Slots G w H0 H σ env ∧ OutP G w H (WE0 W σ) (fun p _ w' H' => ∀ J, ItOkG G w' J p.1 p.2 → R J H') (f env r)
abbrev SIG (X : Cx) (G : Gm) (W : WX) (tg e : Expr) (f : Env → M (List T × Option (Nat × List T))) : Prop := PI X tg e (tSIG G W f)
section
variable {X : Cx} {G : Gm} {W : WX} {pos : Pos}
theorem ss_forG {us : List Nat} {iter tg : Expr} {body : List Stmt} {f : Env → M (List T × Option (Nat × List T))} {h : T → Env → Option Env} {g : Sm} (hp : PassesOwn (model X.prog X.w) X.A X.env X.xe) (hc : X.calm = true) (hi : SIG X G W tg iter f) (hg : SG X G us tg h) (hb : SSs X G W body g)
    (hs : ∀ x, foldedSetIterable iter X.env x = pure x := by intro _; rfl) : SS X G W (.For tg iter body [] pos) (qForG f h g) := by
  intro w0 H0
  refine ⟨fun pins s σ H D I ⟨w, env, r, a, hq⟩ => ?_⟩
  refine (ps_for hp hc hi (pg_x hg) (pss_x hb) hs).run pins s σ H D I ?_
  refine ⟨w, H0, env, r, a.g, a.s, (FlowP.ofM a hq).imp fun xc r1 w1 H1 st1 g1 q J it => ?_⟩
  obtain ⟨xs, c⟩ := xc
  obtain ⟨a1, hf⟩ := q
  obtain ⟨Gd, Y, wk, hG, hY⟩ := it
  obtain ⟨Hc, stc, ac⟩ := a1.rebase
  have hf : FlowP G W w0 H0 D (loopG c h g xs env r1) := hf
  refine for_it wk (fun i σ H => ∃ w' env r, At G w1 Hc w' H σ env r ∧ FlowP G W w1 Hc D (loopG c h g (xs.drop i) env r)) ⟨w1, env, r1, ac, hf.base stc⟩ (fun i σ' H' _ ⟨w', env', r', a', hl⟩ => hG w' H' r' a'.st.later a'.g (loopG_chk hl)) ?_ ?_
  · rintro i x σ' H2 H3 hlt ⟨w', env', r', a', hl⟩ y
    have ck := loopG_chk hl
    obtain ⟨t, w2, ht, st2, g2, d⟩ := hY i H2 x H3 w' r' a'.st.later a'.g ck hlt y
    have a2 := a'.step st2 g2
    have ed : xs.drop i = t :: xs.drop (i + 1) := by
      rw [List.drop_eq_getElem_cons hlt]
      rw [List.getElem?_eq_getElem hlt] at ht
      cases ht
      rfl
    rw [ed, loopG_cons ck] at hl
    cases q : h t env' with
    | none => rw [q] at hl; exact hl.elim
    | some env1 =>
      rw [q] at hl
      refine ⟨w1, Hc, w2, env', r', t, env1, a2, d, q, fun σ2 s2 _ => ⟨w1, Hc, w2, env1, r', ⟨a2.st, a2.g, s2⟩, ?_⟩⟩
      simp only at hl
      cases o : g env1 r' with
      | nx e r2 => rw [o] at hl; exact fun w3 H4 σ3 st g s => ⟨w3, e, r2, ⟨st, g, s⟩, hl⟩
      | ct e r2 => rw [o] at hl; exact fun w3 H4 σ3 st g s => ⟨w3, e, r2, ⟨st, g, s⟩, hl⟩
      | bk e r2 => rw [o] at hl; exact hl
      | rt u r2 => rw [o] at hl; exact hl
      | exn c p e r2 => rw [o] at hl; exact hl
      | bad => rw [o] at hl; exact hl
  · rintro σ' H2 ⟨w', env', r', a', hl⟩
    have hl : FlowP G W w1 Hc D (loopG c h g (xs.drop xs.length) env' r') := hl
    rw [List.drop_length] at hl
    have ck := loopG_chk hl
    rw [loopG_nil ck] at hl
    exact hl w' H2 σ' a'.st a'.g a'.s
theorem walk_enumR {K : PySem.W.Frag} {a : Addr} {n : Nat} : Walk (Ite K a) n (fun H => ∃ vs : List V, vs.length = n ∧ SqL K H a vs) (fun i H v H' => ∃ (T : Addr) (x : V), v = .ref T ∧ H T = none ∧ H' = upd H T (.tup [.int (i : Nat), x]) ∧ ∀ vs, SqL K H a vs → vs[i]? = some x) := by
  refine ⟨fun i H hi q => ?_, fun H q => ?_, fun i H v H' _ q y => ?_⟩
  · obtain ⟨vs, hl, h⟩ := q
    exact ⟨vs, vs[i], h, by simp [hl, hi]⟩
  · obtain ⟨vs, hl, h⟩ := q
    exact ⟨vs, h, by omega⟩
  · obtain ⟨T, x, h1, h2, h3, h4⟩ := y
    exact ⟨T, x, h1, h2, h3, h4⟩
theorem it_eR {w : Wd} {a : Addr} {k : Nat} {ys : List T} (hk : w.R[k]? = some a) : ItOkG G w (Ite G.K a) (enumL 0 ys) (some (k, ys)) := by
  have same : ∀ w' H' r', Later w w' → Good G w' H' r' → r'[k]? = some ys → ∃ vs, H' a = some (.lst vs) ∧ Dens G w' vs ys := fun w' H' r' L g c => by
    obtain ⟨a', vs, h1, h2, h3, h4⟩ := g.refs.at_ k ys c
    obtain ⟨more, e⟩ := L.refs
    have : w'.R[k]? = some a := by
      rw [e, List.getElem?_append_left (List.getElem?_eq_some_iff.mp hk).1]; exact hk
    rw [this] at h1
    cases h1
    exact ⟨vs, h2, h3⟩
  refine ⟨_, _, by rw [enumL_len]; exact walk_enumR, fun w' H' r' L g c => ?_, fun i H1 v H2 w1 r1 L g c hi y => ?_⟩
  · obtain ⟨vs, h1, h2⟩ := same w' H' r' L g c
    exact ⟨vs, h2.length, SqL.of h1⟩
  · obtain ⟨p, x, ev, hp, e2, hx⟩ := y
    subst ev
    obtain ⟨vs, h1, h2⟩ := same w1 H1 r1 L g c
    have ey := hx vs (SqL.of h1)
    obtain ⟨t, ht, hd⟩ := h2.getV ey
    obtain ⟨w2, st, g2, d2⟩ := pair_new g hp e2 (.int (i : Nat)) hd
    exact ⟨_, w2, by rw [enumL_at ys 0 i t ht, Nat.zero_add], st, g2, d2⟩
def EnTltR (r : RS) : T → Option (List T × Option (Nat × List T))
  | .lst xs => some (xs, none)
  | .kls xs => some (xs, none)
  | .tup xs => some (xs, none)
  | .ref k => (r[k]?).map fun ys => (ys, some (k, ys))
  | _ => none
def fEnumG (f : Env → M T) : Env → M (List T × Option (Nat × List T)) := fun env => f env >>= fun t => fun r => M.lift ((EnTltR r t).map fun p => (enumL 0 p.1, p.2)) r
theorem i_enumG {a : Expr} {f : Env → M T} {p tpos : Pos} {elts : List Expr} {kk : Nat} (hK : X.K = G.K) (hg : Gl X "enumerate") (hm : X.mg "enumerate" = none) (ha : SE X G W a f) (hs : starEach [a] X.env = [(false, eval a X.env)] := by rfl) :
    SIG X G W (.Tuple elts kk tpos) (.Call (.Name "enumerate" p) [a] [] pos) (fEnumG f) :=
  pi_imp (EnT.pi_enumA hg hm (pa_cons ha pa_nil hs) hs) fun σ H R ⟨w, H0, env, r, g, s, h⟩ => by
    refine seqE g s h fun t r1 w1 H1 v g1 s1 st1 d h1 => ?_
    have h1 : OutP G w1 H1 (WE0 W σ) (fun p _ w' H' => ∀ J, ItOkG G w' J p.1 p.2 → R J H') (M.lift ((EnTltR r1 t).map fun p => (enumL 0 p.1, p.2)) r1) := h1
    show ∃ a xs, [v] = [V.ref a] ∧ _
    rw [hK]
    cases d with
    | lst h z dd => exact ⟨_, _, rfl, .inl ⟨g1.sub.seq (.inl (.inl h)), OutP.here g1 h1 _ ((it_e (.inl (.inl h)) dd).g _)⟩⟩
    | kls h z dd => exact ⟨_, _, rfl, .inl ⟨g1.sub.seq h, OutP.here g1 h1 _ ((it_e h dd).g _)⟩⟩
    | tup h z dd => exact ⟨_, _, rfl, .inr ⟨tup_sq g1.sub h, OutP.here g1 h1 _ ((it_eT h dd).g _)⟩⟩
    | @ref k b h =>
      cases q : r1[k]? with
      | none =>
        have e : EnTltR r1 (.ref k) = none := by show (r1[k]?).map _ = none; rw [q]; rfl
        rw [e] at h1
        exact h1.elim
      | some ys =>
        have e : EnTltR r1 (.ref k) = some (ys, some (k, ys)) := by show (r1[k]?).map _ = _; rw [q]; rfl
        rw [e] at h1
        obtain ⟨b', vs, k1, k2, k3, k4⟩ := g1.refs.at_ k ys q
        rw [h] at k1
        cases k1
        exact ⟨_, _, rfl, .inl ⟨SqL.of k2, OutP.here g1 h1 _ (it_eR h)⟩⟩
    | _ => exact h1.elim
end
end Ep
/-! int of a whole number, a truth or a short text of figures -/
namespace Ep
open PySem PySem.Spec L2 PyProof.Rows
def intTS (r : RS) (t : T) : Option T := match t with
  | .str z => if z.length ≤ 640 then (PySem.intText? z).map .int else none
  | t => intT r t
section
variable {X : Cx} {G : Gm} {W : WX} {pos : Pos} {a : Expr} {f : Env → M T}
abbrev rIntTS : List V → Hp → VK → Prop := fun xs H Q => ((∃ i, xs = [.int i] ∧ Q (.int i) H) ∨ ∃ k, xs = [.bl k] ∧ Q (.int (if k then 1 else 0)) H) ∨ ∃ a n, xs = [.str a] ∧ PySem.intText? a = some n ∧ a.length ≤ 640 ∧ Q (.int n) H
theorem v_intTS : B1 G rIntTS intTS := fun w H r v t z Q g d e q => by
  cases t with
  | str y =>
    obtain rfl : v = .str y := d.str
    have e : (if y.length ≤ 640 then (PySem.intText? y).map T.int else none) = some z := e
    by_cases short : y.length ≤ 640
    · rw [if_pos short] at e
      obtain ⟨n, en, rfl⟩ := Option.map_eq_some_iff.mp e
      exact .inr ⟨y, n, rfl, en, short, q _ w H (Step.refl _ _) g (.int _)⟩
    · rw [if_neg short] at e; cases e
  | _ => exact .inl (v_int w H r v _ z Q g d e q)
theorem Bd.intTS {j : Nat} (B : Bd X G W j) {p : Pos} (m : G.mg "int" = none) (ha : SK X G W a f) (hg : Gl X "int" := by rfl) (hs : starEach [a] X.env = (false, eval a X.env) :: starEach [] X.env := by rfl) : SE X G W (.Call (.Name "int" p) [a] [] pos) (fB1 Ep.intTS f) :=
  s_t1 (call_int1.or call_int_str) v_intTS hg (by rw [B.eM]; exact m) rfl ha hs
end
end Ep
namespace Ep
open PySem PySem.Spec L2
/-! ### steps, for the walker (wk.hd) -/
section
variable {f g k : Env → M T} {p q : Env → M Bool} {env env' env2 e : Env} {r r1 r2 r3 : RS} {x y z t u : T} {s s' : Sm} {so : SO} {b c : Bool} {n C : Nat} {F : List T → M T} {ts vs us : List T} {fs : List (Env → M T)}
theorem x_call {o : Out T} (h1 : fAll fs env r = .ok ts r1) (h2 : F ts r1 = o) : fCall F [] fs env r = o := bind_ok h1 (by rw [List.append_nil]; exact h2)
theorem x_make {F : List T → M (List T)} (h1 : fAll fs env r = .ok ts r1) (h2 : F ts r1 = .ok us r2) : fMake C F [] fs env r = .ok (.obj C us) r2 := bind_ok h1 (by rw [List.append_nil]; exact bind_ok h2 rfl)
theorem x_meth {o : Out T} (h1 : f env r = .ok (.obj C vs) r1) (h2 : fAll fs env r1 = .ok ts r2) (h3 : F (.obj C vs :: ts) r2 = o) : fMeth C F [] f fs env r = o := e_meth h1 h2 (by rw [List.append_nil]; exact h3)
theorem x_fld {m : Nat → Option Nat} {j : Nat} (h1 : f env r = .ok (.obj C vs) r1) (h2 : m C = some j) (h3 : vs[j]? = some t) : fFld m f env r = .ok t r1 := bind_ok h1 (by
  show M.lift ((m C).bind fun j => vs[j]?) r1 = _
  rw [h2]
  show M.lift (vs[j]?) r1 = _
  rw [h3]; rfl)
theorem x_exn {α β : Type} {m : M α} {k : α → M β} {c : Nat} {p : T} (h1 : m r = .exn c p r1) : (m >>= k) r = .exn c p r1 := by
  show M.bind m k r = _
  unfold M.bind
  rw [h1]
theorem x_makeX {F : List T → M (List T)} {c : Nat} {p : T} (h1 : fAll fs env r = .ok ts r1) (h2 : F ts r1 = .exn c p r2) : fMake C F [] fs env r = .exn c p r2 := bind_ok h1 (by rw [List.append_nil]; exact x_exn h2)
theorem x_exprX {c : Nat} {p : T} (h : f env r = .exn c p r1) : qExpr f env r = .exn c p env r1 := by unfold qExpr ofM; rw [h]
theorem x_retX {c : Nat} {p : T} (h : f env r = .exn c p r1) : qRet f env r = .exn c p env r1 := by unfold qRet ofM; rw [h]
theorem x_setX {i c : Nat} {p : T} (h : f env r = .exn c p r1) : qSet i f env r = .exn c p env r1 := by unfold qSet ofM; rw [h]
theorem x_expr (h : f env r = .ok t r1) : qExpr f env r = .nx env r1 := by unfold qExpr ofM; rw [h]
theorem x_seqX {c : Nat} {p : T} (h : s env r = .exn c p e r1) : qSeq s s' env r = .exn c p e r1 := by unfold qSeq; rw [h]
theorem x_fnX {m c : Nat} {p : T} (h : s (envOf m ts) r = .exn c p e r1) : fnS m s ts r = .exn c p r1 := by unfold fnS; rw [h]
theorem x_raise {i : Nat} (h : f env r = .ok t r1) : qRaise i f env r = .exn i t env r1 := by unfold qRaise ofM; rw [h]
theorem x_own {i : Nat} {f : Env → M (List T)} {xs : List T} (h : f env r = .ok xs r1) : qOwn i f env r = .nx (env.set i (.own xs)) r1 := by unfold qOwn ofM; rw [h]
theorem x_app {i : Nat} {xs : List T} (h : f env r = .ok t r1) (he : env[i]? = some (.own xs)) (hl : xs.length < 100000) : qApp i f env r = .nx (env.set i (.own (xs ++ [t]))) r1 := by
  have e1 : isMut env i = true := by unfold isMut; rw [he]
  have e2 : mutGet env i r1 = some xs := by unfold mutGet; rw [he]
  have e3 : mutSet env i r1 (xs ++ [t]) = .nx (env.set i (.own (xs ++ [t]))) r1 := by unfold mutSet; rw [he]
  unfold qApp
  rw [if_pos e1, h]
  show (match mutGet env i r1 with
    | some xs => if xs.length < 100000 then mutSet env i r1 (xs ++ [t]) else .bad
    | none => .bad) = _
  rw [e2]
  show (if xs.length < 100000 then mutSet env i r1 (xs ++ [t]) else .bad) = _
  rw [if_pos hl, e3]
theorem x_notF (h1 : p env r = .ok true r1) : fNotB p env r = .ok false r1 := e_notB h1
theorem x_notT (h1 : p env r = .ok false r1) : fNotB p env r = .ok true r1 := e_notB h1
theorem x_nvF (h1 : f env r = .ok (.bl true) r1) : fNot f env r = .ok (.bl false) r1 := e_not h1
theorem x_nvT (h1 : f env r = .ok (.bl false) r1) : fNot f env r = .ok (.bl true) r1 := e_not h1
theorem x_ref {f : Env → M (List T)} {xs : List T} (h : f env r = .ok xs r1) : fRef f env r = .ok (.ref r1.length) (r1 ++ [xs]) := by
  unfold fRef; rw [h]
theorem x_seqL {xs : List T} (h : f env r = .ok t r1) (h2 : seqT r1 t = some xs) : fSeqL f env r = .ok xs r1 := bind_ok h (by
  show M.lift (seqT r1 t) r1 = _
  rw [h2]; rfl)
theorem x_it {xs : List T} (h : f env r = .ok t r1) (h2 : iterT t = some xs) : fIter f env r = .ok xs r1 := bind_ok h (by rw [h2]; rfl)
theorem x_sl2 {i j : Int} (h1 : f env r = .ok x r1) (h2 : g env r1 = .ok (.int i) r2) (h3 : k env r2 = .ok (.int j) r3) (h4 : slT r3 x (some i) (some j) = some y) : fSl f (some g) (some k) env r = .ok y r3 := by
  refine bind_ok h1 (bind_ok (a := some i) (r1 := r2) (bind_ok h2 rfl) (bind_ok (a := some j) (r1 := r3) (bind_ok h3 rfl) ?_))
  show M.lift (slT r3 x (some i) (some j)) r3 = _
  rw [h4]; rfl
theorem x_sl0 {j : Int} (h1 : f env r = .ok x r1) (h3 : k env r1 = .ok (.int j) r2) (h4 : slT r2 x none (some j) = some y) : fSl f none (some k) env r = .ok y r2 := by
  refine bind_ok h1 (bind_ok (a := none) (r1 := r1) rfl (bind_ok (a := some j) (r1 := r2) (bind_ok h3 rfl) ?_))
  show M.lift (slT r2 x none (some j)) r2 = _
  rw [h4]; rfl
theorem x_sl1 {j : Int} (h1 : f env r = .ok x r1) (h3 : k env r1 = .ok (.int j) r2) (h4 : slT r2 x (some j) none = some y) : fSl f (some k) none env r = .ok y r2 := by
  refine bind_ok h1 (bind_ok (a := some j) (r1 := r2) (bind_ok h3 rfl) (bind_ok (a := none) (r1 := r2) rfl ?_))
  show M.lift (slT r2 x (some j) none) r2 = _
  rw [h4]; rfl
theorem x_sl {r2 : RS} (h1 : f env r = .ok x r1) (h4 : slT r1 x none none = some y) : fSl f none none env r = .ok y r1 := by
  refine bind_ok h1 (bind_ok (a := none) (r1 := r1) rfl (bind_ok (a := none) (r1 := r1) rfl ?_))
  show M.lift (slT r1 x none none) r1 = _
  rw [h4]; rfl
theorem x_str1 {h : Str → T → Option T} {a : Str} (h1 : f env r = .ok (.str a) r1) (h2 : g env r1 = .ok y r2) (h3 : h a y = some z) : fStr1 h f g env r = .ok z r2 := bind_ok h1 (bind_ok h2 (by rw [h3]; rfl))
theorem x_comp {ws : List Nat} {h : T → Env → Option Env} {fi : Env → M (List T)} {xs ys : List T} (h1 : fi env r = .ok xs r1) (h2 : compF ws h p f xs [] env r1 = .ok ys r2) : fComp ws h p f fi env r = .ok ys r2 := bind_ok h1 h2
theorem x_rng1 {xs : List T} (h1 : f env r = .ok x r1) (h2 : rng1T [x] = some xs) : fRng1 f env r = .ok xs r1 := bind_ok (e_cons h1 e_nil) (by rw [h2]; rfl)
theorem x_rng2 {xs : List T} (h1 : f env r = .ok x r1) (h2 : g env r1 = .ok y r2) (h3 : rng2T [x, y] = some xs) : fRng2 f g env r = .ok xs r2 := bind_ok (e_cons h1 (e_cons h2 e_nil)) (by rw [h3]; rfl)
theorem x_par3 {i j l : Nat} (h : fAll fs env r = .ok [x, y, z] r1) : qPar3 i j l fs env r = .nx (((env.set i (.val x)).set j (.val y)).set l (.val z)) r1 := by
  unfold qPar3 ofM; rw [h]
theorem x_chain {h h' : T → T → Option Bool} (h1 : f env r = .ok x r1) (h2 : g env r1 = .ok y r2) (h3 : h x y = some true) (h4 : k env r2 = .ok z r3) (h5 : h' y z = some b) : fChain h h' f g k env r = .ok (.bl b) r3 :=
  bind_ok h1 (bind_ok h2 (bind_ok (a := true) (r1 := r2) (by rw [h3]; rfl) (by rw [if_pos rfl]; exact bind_ok h4 (by rw [h5]; rfl))))
theorem x_chainF {h h' : T → T → Option Bool} (h1 : f env r = .ok x r1) (h2 : g env r1 = .ok y r2) (h3 : h x y = some false) : fChain h h' f g k env r = .ok (.bl false) r2 :=
  bind_ok h1 (bind_ok h2 (bind_ok (a := false) (r1 := r2) (by rw [h3]; rfl) rfl))
theorem x_chainB {h h' : T → T → Option Bool} (h1 : f env r = .ok x r1) (h2 : g env r1 = .ok y r2) (h3 : h x y = some true) (h4 : k env r2 = .ok z r3) (h5 : h' y z = some b) : fChainB h h' f g k env r = .ok b r3 :=
  bind_ok h1 (bind_ok h2 (bind_ok (a := true) (r1 := r2) (by rw [h3]; rfl) (by rw [if_pos rfl]; exact bind_ok h4 (by rw [h5]; rfl))))
theorem x_chainBF {h h' : T → T → Option Bool} (h1 : f env r = .ok x r1) (h2 : g env r1 = .ok y r2) (h3 : h x y = some false) : fChainB h h' f g k env r = .ok false r2 :=
  bind_ok h1 (bind_ok h2 (bind_ok (a := false) (r1 := r2) (by rw [h3]; rfl) rfl))
/-! own comparisons -/
theorem x_own2s {o : Out T} (h1 : f env r = .ok x r1) (h2 : g env r1 = .ok y r2) (h3 : own2s C F x y r2 = o) : (f env >>= fun x => g env >>= fun y => own2s C F x y) r = o := bind_ok h1 (bind_ok h2 h3)
theorem x_own2n {o : Out T} (h1 : f env r = .ok x r1) (h2 : g env r1 = .ok y r2) (h3 : own2n C F x y r2 = o) : (f env >>= fun x => g env >>= fun y => own2n C F x y) r = o := bind_ok h1 (bind_ok h2 h3)
theorem x_own2x {o : Out T} (h1 : f env r = .ok x r1) (h2 : g env r1 = .ok y r2) (h3 : own2x C F x y r2 = o) : (f env >>= fun x => g env >>= fun y => own2x C F x y) r = o := bind_ok h1 (bind_ok h2 h3)
theorem x_own2c {o : Out T} (h1 : f env r = .ok x r1) (h2 : g env r1 = .ok y r2) (h3 : own2c C F x y r2 = o) : (f env >>= fun x => g env >>= fun y => own2c C F x y) r = o := bind_ok h1 (bind_ok h2 h3)
theorem x_own2nc {o : Out T} (h1 : f env r = .ok x r1) (h2 : g env r1 = .ok y r2) (h3 : own2nc C F x y r2 = o) : (f env >>= fun x => g env >>= fun y => own2nc C F x y) r = o := bind_ok h1 (bind_ok h2 h3)
theorem y_own2 (h : F [.obj C vs, y] r = .ok t r1) : own2 C F (.obj C vs) y r = .ok t r1 := by
  show (if C = C then noEx (F [.obj C vs, y]) else M.bad : M T) r = _
  rw [if_pos rfl]
  unfold noEx
  rw [h]
theorem y_own2s (h : F [.obj C vs, .obj C us] r = .ok t r1) : own2s C F (.obj C vs) (.obj C us) r = .ok t r1 := by
  unfold own2s
  rw [if_pos (show sameT C (.obj C vs) (.obj C us) = true from decide_eq_true rfl)]
  exact y_own2 h
theorem y_own2n (h : F [.obj C vs, .obj C us] r = .ok (.bl b) r1) : own2n C F (.obj C vs) (.obj C us) r = .ok (.bl !b) r1 := bind_ok (y_own2s h) rfl
theorem y_own2nT (h : F [.obj C vs, .obj C us] r = .ok (.bl true) r1) : own2n C F (.obj C vs) (.obj C us) r = .ok (.bl false) r1 := y_own2n h
theorem y_own2nF (h : F [.obj C vs, .obj C us] r = .ok (.bl false) r1) : own2n C F (.obj C vs) (.obj C us) r = .ok (.bl true) r1 := y_own2n h
theorem y_own2c (h : F [.obj C vs, x] r = .ok (.bl b) r1) : own2c C F x (.obj C vs) r = .ok (.bl b) r1 := bind_ok (y_own2 h) rfl
theorem y_own2nc (h : F [.obj C vs, x] r = .ok (.bl b) r1) : own2nc C F x (.obj C vs) r = .ok (.bl !b) r1 := bind_ok (y_own2 h) rfl
end
/-! loops, by what stands of the slots -/
theorem x_pass {h : T → Env → Option Env} {s : Sm} {P : Env → Prop} {r : RS} : ∀ (xs : List T) (env : Env), P env → (∀ x ∈ xs, ∀ env, P env → ∃ e1 e2, h x env = some e1 ∧ s e1 r = .nx e2 r ∧ P e2) → ∃ e2, loopF h s xs env r = .nx e2 r ∧ P e2
  | [], env, f, _ => ⟨env, rfl, f⟩
  | x :: xs, env, f, G => by
    obtain ⟨e1, e2, h1, h2, f2⟩ := G x List.mem_cons_self env f
    obtain ⟨e3, h3, f3⟩ := x_pass xs e2 f2 fun y hy => G y (List.mem_cons_of_mem _ hy)
    exact ⟨e3, n_loop h1 h2 h3, f3⟩
theorem x_passR {h : T → Env → Option Env} {s : Sm} {P : Env → RS → Prop} : ∀ (xs : List T) (env : Env) (r : RS), P env r → (∀ x ∈ xs, ∀ env r, P env r → ∃ e1 e2 r2, h x env = some e1 ∧ s e1 r = .nx e2 r2 ∧ P e2 r2) → ∃ e2 r2, loopF h s xs env r = .nx e2 r2 ∧ P e2 r2
  | [], env, r, f, _ => ⟨env, r, rfl, f⟩
  | x :: xs, env, r, f, G => by
    obtain ⟨e1, e2, r2, h1, h2, f2⟩ := G x List.mem_cons_self env r f
    obtain ⟨e3, r3, h3, f3⟩ := x_passR xs e2 r2 f2 fun y hy => G y (List.mem_cons_of_mem _ hy)
    exact ⟨e3, r3, n_loop h1 h2 h3, f3⟩
theorem n_forP {fi : Env → M (List T)} {h : T → Env → Option Env} {s : Sm} {env : Env} {r : RS} {xs : List T} (P : Env → Prop) (h1 : fi env r = .ok xs r) (hp : P env) (st : ∀ x ∈ xs, ∀ env, P env → ∃ e1 e2, h x env = some e1 ∧ s e1 r = .nx e2 r ∧ P e2) : ∃ e2, qFor fi h s env r = .nx e2 r ∧ P e2 := by
  obtain ⟨e2, l, p⟩ := x_pass xs env hp st
  exact ⟨e2, n_for h1 l, p⟩
theorem n_forR {fi : Env → M (List T)} {h : T → Env → Option Env} {s : Sm} {env : Env} {r r1 : RS} {xs : List T} (P : Env → RS → Prop) (h1 : fi env r = .ok xs r1) (hp : P env r1) (st : ∀ x ∈ xs, ∀ env r, P env r → ∃ e1 e2 r2, h x env = some e1 ∧ s e1 r = .nx e2 r2 ∧ P e2 r2) : ∃ e2 r2, qFor fi h s env r = .nx e2 r2 ∧ P e2 r2 := by
  obtain ⟨e2, r2, l, p⟩ := x_passR xs env r1 hp st
  exact ⟨e2, r2, n_for h1 l, p⟩
theorem n_seqP {s s' : Sm} {env : Env} {r r1 : RS} {so : SO} {P : Env → Prop} (h1 : ∃ e2, s env r = .nx e2 r1 ∧ P e2) (h2 : ∀ e2, P e2 → s' e2 r1 = so) : qSeq s s' env r = so := by
  obtain ⟨e2, l, p⟩ := h1
  exact n_seq l (h2 e2 p)
theorem n_seqE {s s' : Sm} {env : Env} {r : RS} {P : Env → RS → Prop} {Q : SO → Prop} (h1 : ∃ e2 r2, s env r = .nx e2 r2 ∧ P e2 r2) (h2 : ∀ e2 r2, P e2 r2 → ∃ so, s' e2 r2 = so ∧ Q so) : ∃ so, qSeq s s' env r = so ∧ Q so := by
  obtain ⟨e2, r2, l, p⟩ := h1
  obtain ⟨so, e, q⟩ := h2 e2 r2 p
  exact ⟨so, n_seq l e, q⟩
/-! what holds of a run's end -/
def Ho (Q : SO → Prop) (so : SO) : Prop := Q so
section
variable {s s' : Sm} {env env' : Env} {r r1 : RS} {t : T} {Q : SO → Prop}
theorem ho_seq (h1 : s env r = .nx env' r1) (h2 : Ho Q (s' env' r1)) : Ho Q (qSeq s s' env r) := by unfold Ho at h2 ⊢; rw [n_seq h1 rfl]; exact h2
theorem ho_ret (h1 : s env r = .rt t r1) (h2 : Q (.rt t r1)) : Ho Q (qSeq s s' env r) := by unfold Ho; rw [n_seqR h1]; exact h2
theorem ho_nil (h : Q (.nx env r)) : Ho Q (qNil env r) := h
theorem ho_if {p : Env → M Bool} {b : Bool} {sa sb s' : Sm} (h1 : p env r = .ok b r1) (h2 : b = true → Ho Q (qSeq sa s' env r1)) (h3 : b = false → Ho Q (qSeq sb s' env r1)) : Ho Q (qSeq (qIf p sa sb) s' env r) := by
  cases b with
  | true =>
    have e : qIf p sa sb env r = sa env r1 := n_ifT h1 rfl
    have := h2 rfl
    unfold Ho qSeq at this ⊢
    rw [e]; exact this
  | false =>
    have e : qIf p sa sb env r = sb env r1 := n_ifF h1 rfl
    have := h3 rfl
    unfold Ho qSeq at this ⊢
    rw [e]; exact this
/-- a loop by what stands behind each turn -/
theorem ho_for {fi : Env → M (List T)} {h : T → Env → Option Env} {g : Sm} {xs : List T} (P : Env → RS → Prop) (h1 : fi env r = .ok xs r1) (hp : P env r1) (st : ∀ x ∈ xs, ∀ env r, P env r → ∃ e1, h x env = some e1 ∧ Ho (fun so => ∃ e2 r2, so = .nx e2 r2 ∧ P e2 r2) (g e1 r))
    (h2 : ∀ env r, P env r → Ho Q (s' env r)) : Ho Q (qSeq (qFor fi h g) s' env r) := by
  obtain ⟨e2, r2, l, p⟩ := n_forR (s := g) (h := h) P h1 hp fun x hx env r p => by
    obtain ⟨e1, a1, e2, r2, a2, a3⟩ := st x hx env r p
    exact ⟨e1, e2, r2, a1, a2, a3⟩
  exact ho_seq l (h2 e2 r2 p)
/-- by what is left and what was done -/
theorem ho_fori {fi : Env → M (List T)} {h : T → Env → Option Env} {g : Sm} {xs : List T} (P : List T → Env → RS → Prop) (h1 : fi env r = .ok xs r1) (hp : P xs env r1) (st : ∀ x ys env r, P (x :: ys) env r → ∃ e1, h x env = some e1 ∧ Ho (fun so => ∃ e2 r2, so = .nx e2 r2 ∧ P ys e2 r2) (g e1 r))
    (h2 : ∀ env r, P [] env r → Ho Q (s' env r)) : Ho Q (qSeq (qFor fi h g) s' env r) := by
  obtain ⟨e2, r2, l, p⟩ := loop_inv (s := g) (h := h) P (fun x ys env r p => by
    obtain ⟨e1, a1, e2, r2, a2, a3⟩ := st x ys env r p
    exact ⟨e1, e2, r2, a1, a2, a3⟩) xs env r1 hp
  exact ho_seq (n_for h1 l) (h2 e2 r2 p)
theorem ho_fn {m : Nat} {ts : List T} {P : T → RS → Prop} (h : Ho (fun so => ∃ t r', so = .rt t r' ∧ P t r') (s (envOf m ts) r)) : ∃ t r', fnS m s ts r = .ok t r' ∧ P t r' := by
  obtain ⟨t, r', e, p⟩ := h
  exact ⟨t, r', n_fn e, p⟩
theorem ho_fnB {m : Nat} {ts : List T} {P : RS → Prop} (h : Ho (fun so => ∃ r', so = .rt (.bl true) r' ∧ P r') (s (envOf m ts) r)) : ∃ r', fnS m s ts r = .ok (.bl true) r' ∧ P r' := by
  obtain ⟨r', e, p⟩ := h
  exact ⟨r', n_fn e, p⟩
end
/-! leaves -/
theorem lf_lt {i j : Int} (h : i < j) : ltT (.int i) (.int j) = some true := by show some (decide (i < j)) = _; rw [decide_eq_true h]
theorem lf_ltF {i j : Int} (h : ¬ i < j) : ltT (.int i) (.int j) = some false := by show some (decide (i < j)) = _; rw [decide_eq_false h]
theorem lf_le {i j : Int} (h : i ≤ j) : leT (.int i) (.int j) = some true := by show some (decide (i ≤ j)) = _; rw [decide_eq_true h]
theorem lf_leF {i j : Int} (h : ¬ i ≤ j) : leT (.int i) (.int j) = some false := by show some (decide (i ≤ j)) = _; rw [decide_eq_false h]
theorem lf_gt {i j : Int} (h : j < i) : gtT (.int i) (.int j) = some true := by show some (decide (j < i)) = _; rw [decide_eq_true h]
theorem lf_gtF {i j : Int} (h : ¬ j < i) : gtT (.int i) (.int j) = some false := by show some (decide (j < i)) = _; rw [decide_eq_false h]
theorem lf_ge {i j : Int} (h : j ≤ i) : geT (.int i) (.int j) = some true := by show some (decide (j ≤ i)) = _; rw [decide_eq_true h]
theorem lf_geF {i j : Int} (h : ¬ j ≤ i) : geT (.int i) (.int j) = some false := by show some (decide (j ≤ i)) = _; rw [decide_eq_false h]
theorem lf_eq {i j : Int} (h : i = j) : eqT (.int i) (.int j) = some true := by show some (i == j) = _; rw [h, beq_self_eq_true]
theorem lf_eqF {i j : Int} (h : i ≠ j) : eqT (.int i) (.int j) = some false := by show some (i == j) = _; rw [beq_eq_false_iff_ne.mpr h]
theorem lf_ne {i j : Int} (h : i ≠ j) : neT (.int i) (.int j) = some true := by show some (!(i == j)) = _; rw [beq_eq_false_iff_ne.mpr h]; rfl
theorem lf_neF {i j : Int} (h : i = j) : neT (.int i) (.int j) = some false := by show some (!(i == j)) = _; rw [h, beq_self_eq_true]; rfl
theorem lf_mulR {i j : Int} (h : -(2 ^ 64) < j ∧ j < 2 ^ 64) : mulT (.int i) (.int j) = some (.int (i * j)) := by
  show (if mulOk i j = true then some (T.int (i * j)) else none) = _
  rw [if_pos]
  unfold mulOk
  rw [decide_eq_true h.1, decide_eq_true h.2]
  simp
theorem lf_mulL {i j : Int} (h : -(2 ^ 64) < i ∧ i < 2 ^ 64) : mulT (.int i) (.int j) = some (.int (i * j)) := by
  show (if mulOk i j = true then some (T.int (i * j)) else none) = _
  rw [if_pos]
  unfold mulOk
  rw [decide_eq_true h.1, decide_eq_true h.2]
  simp
theorem lf_mod {i j : Int} (h : 0 < j) : modT (.int i) (.int j) = some (.int (i % j)) := if_pos h
theorem lf_div {i j : Int} (h : 0 < j) (h2 : j.natAbs < 2 ^ 1000) : divT (.int i) (.int j) = some (.int (i / j)) := by
  refine if_pos ⟨h, ?_⟩
  have := (Nat.log2_lt (by omega : j.natAbs ≠ 0)).mpr h2
  omega
end Ep
local macro_rules | `(tactic| infer_instance) => `(tactic| first
  | with_reducible assumption
  | with_reducible exact Ep.e_nil
  | (with_reducible apply Ep.e_cons) <;> infer_instance
  | (with_reducible apply Ep.e_bin) <;> infer_instance
  | (with_reducible apply Ep.e_un) <;> infer_instance
  | (with_reducible apply Ep.e_b1) <;> infer_instance
  | (with_reducible apply Ep.e_ix) <;> infer_instance
  | (with_reducible apply Ep.e_tup) <;> infer_instance
  | (with_reducible apply Ep.e_lst) <;> infer_instance
  | (with_reducible apply Ep.e_own) <;> infer_instance
  | (with_reducible apply Ep.x_call) <;> infer_instance
  | (with_reducible apply Ep.x_make) <;> infer_instance
  | (with_reducible apply Ep.x_meth) <;> infer_instance
  | (with_reducible apply Ep.x_fld) <;> infer_instance
  | (with_reducible apply Ep.e_cmpB) <;> infer_instance
  | (with_reducible apply Ep.e_cmp) <;> infer_instance
  | (with_reducible apply Ep.e_tru) <;> infer_instance
  | (with_reducible apply Ep.e_toB) <;> infer_instance
  | (with_reducible apply Ep.x_ref) <;> infer_instance
  | (with_reducible apply Ep.x_seqL) <;> infer_instance
  | (with_reducible apply Ep.x_it) <;> infer_instance
  | (with_reducible apply Ep.x_sl2) <;> infer_instance
  | (with_reducible apply Ep.x_sl1) <;> infer_instance
  | (with_reducible apply Ep.x_sl0) <;> infer_instance
  | (with_reducible apply Ep.x_str1) <;> infer_instance
  | (with_reducible apply Ep.x_rng1) <;> infer_instance
  | (with_reducible apply Ep.x_rng2) <;> infer_instance
  | exact rfl)
local macro_rules | `(tactic| infer_instance) => `(tactic| first
  | (with_reducible apply Ep.x_own2s) <;> infer_instance
  | (with_reducible apply Ep.x_own2n) <;> infer_instance
  | (with_reducible apply Ep.x_own2x) <;> infer_instance
  | (with_reducible apply Ep.x_own2c) <;> infer_instance
  | (with_reducible apply Ep.x_own2nc) <;> infer_instance
  | (with_reducible apply Ep.x_notF) <;> infer_instance
  | (with_reducible apply Ep.x_notT) <;> infer_instance
  | (with_reducible apply Ep.x_nvF) <;> infer_instance
  | (with_reducible apply Ep.x_nvT) <;> infer_instance
  | (with_reducible apply Ep.e_notB) <;> infer_instance
  | (with_reducible apply Ep.e_not) <;> infer_instance
  | (with_reducible apply Ep.e_orBF) <;> infer_instance
  | (with_reducible apply Ep.e_orBT) <;> infer_instance
  | (with_reducible apply Ep.e_andBF) <;> infer_instance
  | (with_reducible apply Ep.e_andBT) <;> infer_instance
  | (with_reducible apply Ep.e_orF) <;> infer_instance
  | (with_reducible apply Ep.e_orT) <;> infer_instance
  | (with_reducible apply Ep.e_andF) <;> infer_instance
  | (with_reducible apply Ep.e_andT) <;> infer_instance
  | (with_reducible apply Ep.e_ifF) <;> infer_instance
  | (with_reducible apply Ep.e_ifT) <;> infer_instance
  | (with_reducible apply Ep.x_chain) <;> infer_instance
  | (with_reducible apply Ep.x_chainF) <;> infer_instance
  | (with_reducible apply Ep.x_chainB) <;> infer_instance
  | (with_reducible apply Ep.x_chainBF) <;> infer_instance)
local macro_rules | `(tactic| infer_instance) => `(tactic| first
  | (with_reducible apply Ep.n_set) <;> infer_instance
  | (with_reducible apply Ep.n_par2) <;> infer_instance
  | (with_reducible apply Ep.x_par3) <;> infer_instance
  | (with_reducible apply Ep.n_asg) <;> infer_instance
  | (with_reducible apply Ep.x_expr) <;> infer_instance
  | (with_reducible apply Ep.n_ret) <;> infer_instance
  | (with_reducible apply Ep.x_own) <;> infer_instance
  | (with_reducible apply Ep.x_app) <;> infer_instance
  | (with_reducible apply Ep.x_raise) <;> infer_instance
  | (with_reducible apply Ep.n_ifF) <;> infer_instance
  | (with_reducible apply Ep.n_ifT) <;> infer_instance
  | (with_reducible apply Ep.n_seqR) <;> infer_instance
  | (with_reducible apply Ep.n_seq) <;> infer_instance
  | (with_reducible apply Ep.x_seqX) <;> infer_instance)
local macro_rules | `(tactic| infer_instance) => `(tactic| first
  | (with_reducible apply Ep.lf_lt); omega
  | (with_reducible apply Ep.lf_ltF); omega
  | (with_reducible apply Ep.lf_le); omega
  | (with_reducible apply Ep.lf_leF); omega
  | (with_reducible apply Ep.lf_gt); omega
  | (with_reducible apply Ep.lf_gtF); omega
  | (with_reducible apply Ep.lf_ge); omega
  | (with_reducible apply Ep.lf_geF); omega
  | (with_reducible apply Ep.lf_eq); omega
  | (with_reducible apply Ep.lf_eqF); omega
  | (with_reducible apply Ep.lf_ne); omega
  | (with_reducible apply Ep.lf_neF); omega
  | (with_reducible apply Ep.lf_mulL); omega
  | (with_reducible apply Ep.lf_mulR); omega
  | (with_reducible apply Ep.lf_mod); omega
  | (with_reducible apply Ep.lf_div) <;> omega)
namespace Ep
open PySem PySem.Spec L2
/-! ### == and != where a changed list stands on a side -/
def pyR (r : RS) (t : T) : Option PyData := match t with
  | .ref k => (r[k]?).bind fun xs => (pyTs xs).map PyData.list
  | t => pyT t
def eqR (r : RS) (t u : T) : Option Bool := match pyR r t, pyR r u with
  | some d, some e => if (SeqAt.shaped d && SeqAt.shaped e) = true then some (PyData.eqv d e) else none
  | _, _ => none
def neR (r : RS) (t u : T) : Option Bool := (eqR r t u).map (!·)
section
variable {X : Cx} {G : Gm} {W : WX} {j : Nat} {pos : Pos} {a b : Expr} {f g : Env → M T}
theorem pyR_dp {w : Wd} {H : Hp} {r : RS} {v : V} {t : T} {d : PyData} (gd : Good G w H r) (h : DenB G w H v t) (e : pyR r t = some d) : Dp G.K H v d := by
  cases t with
  | ref k =>
    rcases h with h | ⟨_, _, _, _, e2, _⟩
    · cases h with
      | ref ha =>
        have e : ((r[k]?).bind fun xs => (pyTs xs).map PyData.list) = some d := e
        cases q : r[k]? with
        | none => rw [q] at e; simp at e
        | some xs =>
          obtain ⟨c, vs, h1, h2, h3, h4⟩ := gd.refs.at_ k xs q
          rw [ha] at h1
          cases h1
          rw [q] at e
          have e : (pyTs xs).map PyData.list = some d := e
          cases q2 : pyTs xs with
          | none => rw [q2] at e; simp at e
          | some ds =>
            rw [q2] at e
            obtain rfl := Option.some.inj e
            exact .lst (SqL.of h2) (pyTs_dp gd.sub xs vs ds h3 q2)
    · cases e2
  | _ => exact denB_dp gd h e
theorem eqR_use {w : Wd} {H : Hp} {r : RS} {x y : V} {t u : T} {z : Bool} (gd : Good G w H r) (d1 : DenB G w H x t) (d2 : DenB G w H y u) (e : eqR r t u = some z) : ∃ d e, Dp G.K H x d ∧ Dp G.K H y e ∧ SeqAt.shaped d = true ∧ SeqAt.shaped e = true ∧ z = PyData.eqv d e := by
  unfold eqR at e
  cases q1 : pyR r t with
  | none => rw [q1] at e; simp at e
  | some d =>
    cases q2 : pyR r u with
    | none => rw [q1, q2] at e; simp at e
    | some d' =>
      rw [q1, q2] at e
      have e : (if (SeqAt.shaped d && SeqAt.shaped d') = true then some (PyData.eqv d d') else none) = some z := e
      by_cases h : (SeqAt.shaped d && SeqAt.shaped d') = true
      · rw [if_pos h] at e
        obtain rfl := Option.some.inj e
        have hh := Bool.and_eq_true_iff.mp h
        exact ⟨d, d', pyR_dp gd d1 q1, pyR_dp gd d2 q2, hh.1, hh.2, rfl⟩
      · rw [if_neg h] at e; simp at e
def fCmpR (h : RS → T → T → Option Bool) (f g : Env → M T) : Env → M Bool := fun env => f env >>= fun x => g env >>= fun y => fun r => M.lift (h r x y) r
theorem Bd.neR (B : Bd X G W j) (ha : SK X G W a f) (hb : SK X G W b g) (hm : behindInMarks .NotEq b = false := by rfl) : SB X G W (.Compare a [.NotEq] [b] pos) (fCmpR neR f g) :=
  pt_imp (pt_cmpR (op_neD B.rm.units) ha hb hm) fun σ H Q ⟨w, H0, env, r, g0, s, h0⟩ => by
    refine seqK g0 s h0 fun t r1 w1 H1 x g1 s1 st1 d1 h1 => ?_
    refine seqK g1 s1 h1 fun u r2 w2 H2 y g2 s2 st2 d2 h2 => ?_
    have h2 : OutP G w2 H2 (WE0 W σ) _ (M.lift (Ep.neR r2 t u) r2) := h2
    obtain ⟨z, ez, hz⟩ := liftP h2
    unfold Ep.neR at ez
    cases q : eqR r2 t u with
    | none => rw [q] at ez; simp at ez
    | some b =>
      rw [q] at ez
      obtain rfl := Option.some.inj ez
      obtain ⟨d, d', k1, k2, k3, k4, e⟩ := eqR_use g2 (d1.step st2) d2 q
      subst e
      rw [B.eK]
      exact ⟨d, d', k1, k2, k3, k4, _, rfl, hz w2 H2 (Step.refl _ _) g2⟩
theorem e_neR {env : Env} {r r1 r2 : RS} {x y : T} {b : Bool} (h1 : f env r = .ok x r1) (h2 : g env r1 = .ok y r2) (h3 : Ep.neR r2 x y = some b) : fCmpR Ep.neR f g env r = .ok b r2 := bind_ok h1 (bind_ok h2 (by
  show M.lift (Ep.neR r2 x y) r2 = _
  rw [h3]; rfl))
end
/-! ### [x] * n and xs + ys as new lists -/
def OpL (G : Gm) (r2 : R2) (h : T → T → Option (List T)) : Prop := ∀ w H r x y t u z Q, Good G w H r → Den G w x t → Den G w y u → h t u = some z → (∀ l vs, H l = none → Dens G w vs z → z.length ≤ sizeLine → Q (.ref l) (upd H l (.lst vs))) → r2 x y H Q
def fBinL (h : T → T → Option (List T)) (f g : Env → M T) : Env → M (List T) := fun env => f env >>= fun x => g env >>= fun y => M.lift (h x y)
section
variable {X : Cx} {G : Gm} {W : WX} {pos : Pos} {a b : Expr} {f g : Env → M T}
theorem l_bin {op : Operator} {r2 : R2} {h : T → T → Option (List T)} (ho : OpR X (binaryOp op) r2) (hv : OpL G r2 h) (ha : SE X G W a f) (hb : SE X G W b g) : SL X G W (.BinOp a op b pos) (fBinL h f g) :=
  pe_imp (pe_op ho ha hb) fun σ H Q ⟨w, H0, env, r, g0, s, h0⟩ => by
    refine seqE g0 s h0 fun t r1 w1 H1 x g1 s1 st1 d1 h1 => ?_
    refine seqE g1 s1 h1 fun u r2 w2 H2 y g2 s2 st2 d2 h2 => ?_
    obtain ⟨z, ez, h3⟩ := liftP h2
    refine hv w2 H2 r2 x y t u z Q g2 (d1.mono st2.later) d2 ez fun l vs hl dd zz => ?_
    have st3 : Step w2 H2 w2 (upd H2 l (.lst vs)) := (Step.refl w2 H2).priv hl
    exact h3 w2 _ st3 (new_own g2 hl) l vs (fun z => nvs hl (st1.trans st2 |>.keep l z)) (g2.nopub hl) (g2.noref hl) upd_same dd zz
def repL (t u : T) : Option (List T) := match t, u with
  | .lst xs, .int k => if 0 ≤ k ∧ k ≤ 100000 ∧ xs.length * k.toNat ≤ 100000 then some (List.replicate k.toNat xs).flatten else none
  | _, _ => none
def catL (t u : T) : Option (List T) := match t, u with
  | .lst xs, .lst ys => if xs.length + ys.length ≤ 100000 then some (xs ++ ys) else none
  | _, _ => none
theorem v_repL : OpL G rRep repL := fun w H r x y t u z Q gd d1 d2 e q => by
  cases d1 with
  | @lst p vs ts h1 z1 dd =>
    cases d2 with
    | int k =>
      have e : (if 0 ≤ k ∧ k ≤ 100000 ∧ ts.length * k.toNat ≤ 100000 then some (List.replicate k.toNat ts).flatten else none) = some z := e
      by_cases h : 0 ≤ k ∧ k ≤ 100000 ∧ ts.length * k.toNat ≤ 100000
      · rw [if_pos h] at e
        obtain rfl := Option.some.inj e
        exact ⟨p, k, vs, rfl, rfl, gd.sub _ _ h1, by omega, by omega, by rw [dd.length]; exact le_size h.2.2, fun l hl => q l _ hl (dens_rep dd _) (by rw [len_rep]; exact le_size h.2.2)⟩
      · rw [if_neg h] at e; simp at e
    | _ => simp [repL] at e
  | _ => simp [repL] at e
theorem v_catL : OpL G rCat catL := fun w H r x y t u z Q gd d1 d2 e q => by
  cases d1 with
  | @lst p vs ts h1 z1 dd =>
    cases d2 with
    | @lst p2 vs2 ts2 h2 z2 dd2 =>
      have e : (if ts.length + ts2.length ≤ 100000 then some (ts ++ ts2) else none) = some z := e
      by_cases h : ts.length + ts2.length ≤ 100000
      · rw [if_pos h] at e
        obtain rfl := Option.some.inj e
        exact ⟨p, p2, vs, vs2, rfl, rfl, gd.sub _ _ h1, gd.sub _ _ h2, by rw [dd.length, dd2.length]; exact le_size h, fun l hl => q l _ hl (dd.append dd2) (by rw [List.length_append]; exact le_size h)⟩
      · rw [if_neg h] at e; simp at e
    | _ => simp [catL] at e
  | _ => simp [catL] at e
theorem l_rep (ha : SE X G W a f) (hb : SE X G W b g) : SL X G W (.BinOp a .Mult b pos) (fBinL repL f g) := l_bin op_rep v_repL ha hb
theorem l_cat (ha : SE X G W a f) (hb : SE X G W b g) : SL X G W (.BinOp a .Add b pos) (fBinL catL f g) := l_bin op_cat v_catL ha hb
theorem x_binL {env : Env} {r r1 r2 : RS} {h : T → T → Option (List T)} {x y : T} {z : List T} (h1 : f env r = .ok x r1) (h2 : g env r1 = .ok y r2) (h3 : h x y = some z) : fBinL h f g env r = .ok z r2 := bind_ok h1 (bind_ok h2 (by rw [h3]; rfl))
end
end Ep
namespace Ep
open PySem PySem.Spec L2
/-! ### a def called on instances of several classes; x += an integer -/
def fMethP (Cs : List Nat) (F : List T → M T) (ds : List T) (f : Env → M T) (fs : List (Env → M T)) : Env → M T := fun env => f env >>= fun x => match x with
  | .obj C' vs => if C' ∈ Cs then fAll fs env >>= fun ts => F (.obj C' vs :: (ts ++ ds)) else M.bad
  | _ => M.bad
def qAug (i : Nat) (f : Env → M T) : Sm := fun env r => match env[i]? with
  | some (.val (.int a)) => ofM env (fun t r => match t with
    | .int b => .nx (env.set i (.val (.int (a + b)))) r
    | _ => .bad) (f env r)
  | _ => .bad
section
variable {X : Cx} {G : Gm} {W : WX} {pos apos : Pos} {e : Expr} {es : List Expr} {f : Env → M T} {fs : List (Env → M T)} {ds : List T} {j k n : Nat} {Cs : List Nat}
theorem s_methP {F : List T → M T} {m : Str} {o : Expr} {pl : Sem Bool} (D : ∀ C ∈ Cs, MethOk X.prog X.w X.base G k C m n ds F) (hK : X.K = G.K) (hM : X.mg = G.mg) (tk : Takes X W) (hr : Room j X.A) (hk : k ≤ j) (ho : SE X G W o f) (ha : SA X G W (e :: es) fs) (hn : fs.length + ds.length + 1 = n := by rfl)
    (hst : starEach (e :: es) X.env = (false, eval e X.env) :: starEach es X.env := by rfl) (hpl : (backTo pos (starEach es X.env)).any (·.1) = false := by rfl)
    (ht : eval (.Call (.Attribute o m apos) (e :: es) [] pos) X.env = (do let ov ← eval o X.env; standAt apos.atName; let (f, first) ← holding [ov] (getMethod ov m pl); callWith pos f first (backTo pos (starEach (e :: es) X.env)) (backToKw pos (keywordEach [] X.env))) := by rfl) : SE X G W (.Call (.Attribute o m apos) (e :: es) [] pos) (fMethP Cs F ds f fs) := by
  refine ⟨fun pins s σ H Q I ⟨w, H0, env, r, g0, s0, h0⟩ => ?_⟩
  refine PySem.W.methodCall_KW (pl := pl) (thn (ho.run pins s σ H _ I (seqE g0 s0 h0 fun t r1 w1 H1 x g1 s1 st1 d1 h1 => show (∃ w1 r1 t, Good G w1 H1 r1 ∧ Slots G w1 H0 H1 σ env ∧ Den G w1 x t ∧ OutP G w1 H1 (WE0 W σ) (fun t x w' H' => ∀ (v : V), Den G w' v t → Q v H') ((match t with | .obj C' vs => if C' ∈ Cs then fAll fs env >>= fun ts => F (.obj C' vs :: (ts ++ ds)) else M.bad | _ => M.bad : M T) r1)) from ⟨w1, r1, t, g1, s1, d1, h1⟩)) fun u s1 ⟨v, H1, I1, rv, w1, r1, t, g1, sl1, d1, h2⟩ => ?_) ht
  cases d1 with
  | @obj q cA' dx C' vs ts c h l d =>
    by_cases hC : C' ∈ Cs
    · obtain ⟨cA, fn, fd, ps, dvs, dus, c1, c2, c3, h1, h4, h5, h6⟩ := (D C' hC).ex
      rw [← hK, ← hM] at h1
      rw [c1] at c
      obtain rfl : cA = cA' := Value.ref.inj (Option.some.inj c)
      obtain rfl : u = Value.ref q := rv
      have h2 : OutP G w1 H1 (WE0 W σ) (fun t x w' H' => ∀ (v : V), Den G w' v t → Q v H') ((fAll fs env >>= fun us => F (.obj C' ts :: (us ++ ds))) r1) := by simpa [hC] using h2
      refine getmeth_ok I1 (g1.sub _ _ h) (by rw [hK]; exact c2) (by rw [hK]; exact c3) (lookup_zip_none (D C' hC).nof) ?_
      refine PySem.W.callWith_K (first := [.ref q]) (h₀ := X.base) I.ok.mod.kin (by rw [hK]; exact c3.kp) (thn (ha.run pos pins s1 σ H1 _ I1 (seqA g1 sl1 h2 fun us r2 w2 H2 ws g2 s2 st2 d2 l2 h3 => show (∃ w2 r2 us, Good G w2 H2 r2 ∧ Dens G w2 (.ref q :: (ws ++ dvs)) (.obj C' ts :: (us ++ ds)) ∧ us.length = fs.length ∧ OutP G w2 H2 (WE0 W σ) (fun t x w' H' => ∀ (v : V), Den G w' v t → Q v H') (F (.obj C' ts :: (us ++ ds)) r2)) from ⟨w2, r2, us, g2, .cons ((Den.obj c1 h l d).mono st2.later) (d2.append (h6 w2)), l2, h3⟩)) fun us s2 ⟨ws, H2, I2, rw2, w2, r2, us', g2, d2, l2, h3⟩ => ⟨I2.kIn, ?_⟩) hst hpl
      exact run_fnSD (us := .ref q :: us) (vs := .ref q :: ws) h1 (hr.mono hk) (by rw [hK]; exact h4) h5 (passAt tk σ) I2 (.cons rfl rw2) ⟨w2, r2, _, g2, d2, by rw [List.length_cons, List.length_append, l2, ← hn], h3⟩
    · have h2 : OutP G w1 H1 (WE0 W σ) (fun t x w' H' => ∀ (v : V), Den G w' v t → Q v H') ((M.bad : M T) r1) := by simpa [hC] using h2
      exact h2.elim
  | _ => exact h2.elim
theorem s_methP0 {F : List T → M T} {m : Str} {o : Expr} {pl : Sem Bool} (D : ∀ C ∈ Cs, MethOk X.prog X.w X.base G k C m n ds F) (hK : X.K = G.K) (hM : X.mg = G.mg) (tk : Takes X W) (hr : Room j X.A) (hk : k ≤ j) (ho : SE X G W o f) (hn : ds.length + 1 = n := by rfl)
    (ht : eval (.Call (.Attribute o m apos) [] [] pos) X.env = (do let ov ← eval o X.env; standAt apos.atName; let (f, first) ← holding [ov] (getMethod ov m pl); callWith pos f first (backTo pos (starEach [] X.env)) (backToKw pos (keywordEach [] X.env))) := by rfl) : SE X G W (.Call (.Attribute o m apos) [] [] pos) (fMethP Cs F ds f []) := by
  refine ⟨fun pins s σ H Q I ⟨w, H0, env, r, g0, s0, h0⟩ => ?_⟩
  refine PySem.W.methodCall_KW (pl := pl) (thn (ho.run pins s σ H _ I (seqE g0 s0 h0 fun t r1 w1 H1 x g1 s1 st1 d1 h1 => show (∃ w1 r1 t, Good G w1 H1 r1 ∧ Slots G w1 H0 H1 σ env ∧ Den G w1 x t ∧ OutP G w1 H1 (WE0 W σ) (fun t x w' H' => ∀ (v : V), Den G w' v t → Q v H') ((match t with | .obj C' vs => if C' ∈ Cs then fAll [] env >>= fun ts => F (.obj C' vs :: (ts ++ ds)) else M.bad | _ => M.bad : M T) r1)) from ⟨w1, r1, t, g1, s1, d1, h1⟩)) fun u s1 ⟨v, H1, I1, rv, w1, r1, t, g1, sl1, d1, h2⟩ => ?_) ht
  cases d1 with
  | @obj q cA' dx C' vs ts c h l d =>
    by_cases hC : C' ∈ Cs
    · obtain ⟨cA, fn, fd, ps, dvs, dus, c1, c2, c3, h1, h4, h5, h6⟩ := (D C' hC).ex
      rw [← hK, ← hM] at h1
      rw [c1] at c
      obtain rfl : cA = cA' := Value.ref.inj (Option.some.inj c)
      obtain rfl : u = Value.ref q := rv
      have h2 : OutP G w1 H1 (WE0 W σ) (fun t x w' H' => ∀ (v : V), Den G w' v t → Q v H') (F (.obj C' ts :: ([] ++ ds)) r1) := by
        have h2 : OutP G w1 H1 (WE0 W σ) (fun t x w' H' => ∀ (v : V), Den G w' v t → Q v H') ((if C' ∈ Cs then (fAll [] env >>= fun us => F (.obj C' ts :: (us ++ ds))) else M.bad : M T) r1) := h2
        rw [if_pos hC] at h2
        exact h2
      refine getmeth_ok I1 (g1.sub _ _ h) (by rw [hK]; exact c2) (by rw [hK]; exact c3) (lookup_zip_none (D C' hC).nof) ?_
      exact PySem.W.callWith_K0 (first := [.ref q]) I1.kIn (by rw [hK]; exact c3.kp) (run_fnSD (us := [.ref q]) (vs := [.ref q]) h1 (hr.mono hk) (by rw [hK]; exact h4) h5 (passAt tk σ) I1 (.cons rfl .nil) ⟨w1, r1, _, g1, .cons (.obj c1 h l d) (h6 w1), by simpa using hn, h2⟩)
    · have h2 : OutP G w1 H1 (WE0 W σ) (fun t x w' H' => ∀ (v : V), Den G w' v t → Q v H') ((M.bad : M T) r1) := by simpa [hC] using h2
      exact h2.elim
  | _ => exact h2.elim
theorem ss_aug {i : Nat} {x : Str} {pos' : Pos} (hN : X.N.Nodup) (hi : X.N[i]? = some x) (hx : Loc X.env.scope x) (he : SE X G W e f) (hf : X.fn x = true ∨ X.env.scope.names.lookup x = some .local := by first | exact .inl rfl | exact .inr rfl | assumption) :
    SS X G W (.AugAssign (.Name x pos') .Add e pos) (qAug i f) := fun w0 H0 => ps_imp (ps_aug hN hi hx he ip_add hf) fun D σ H ⟨w, env, r, a, h⟩ => by
  unfold qAug at h
  obtain ⟨oa, hs, _⟩ := a.s.ex
  cases q : env[i]? with
  | none => rw [q] at h; exact h.elim
  | some sl =>
    rw [q] at h
    cases sl with
    | val t =>
      obtain ⟨v, e1, d⟩ := hs i _ q
      cases d with
      | int z =>
        refine ⟨.int z, e1, at_e a h fun t r1 w1 H1 v a1 d1 h1 => ?_⟩
        cases d1 with
        | int b => exact ⟨z, b, rfl, rfl, h1 w1 H1 _ a1.st a1.g (a1.s.setVal i (.int _))⟩
        | _ => exact h1.elim
      | _ => exact h.elim
    | _ => exact h.elim
end
theorem Bd.aug {X : Cx} {G : Gm} {W : WX} {pos pos' : Pos} {e : Expr} {f : Env → M T} {j : Nat} {x : Str} (B : Bd X G W j) (i : Nat) (he : SE X G W e f) (hi : X.N[i]? = some x := by rfl) (hx : Loc X.env.scope x := by first | exact Or.inl rfl | exact Or.inr rfl)
    (hf : X.fn x = true ∨ X.env.scope.names.lookup x = some .local := by first | exact .inl rfl | exact .inr rfl | assumption) : SS X G W (.AugAssign (.Name x pos') .Add e pos) (qAug i f) := ss_aug B.nd hi hx he hf
theorem x_aug {env : Env} {r r1 : RS} {i : Nat} {f : Env → M T} {a b : Int} (h : f env r = .ok (.int b) r1) (he : env[i]? = some (.val (.int a))) : qAug i f env r = .nx (env.set i (.val (.int (a + b)))) r1 := by
  unfold qAug; rw [he]
  show ofM env _ (f env r) = _
  rw [h]; rfl
theorem x_methP {env : Env} {r r1 r2 : RS} {Cs : List Nat} {C : Nat} {F : List T → M T} {f : Env → M T} {fs : List (Env → M T)} {vs ts : List T} {o : Out T} (h1 : f env r = .ok (.obj C vs) r1) (hC : C ∈ Cs) (h2 : fAll fs env r1 = .ok ts r2) (h3 : F (.obj C vs :: ts) r2 = o) : fMethP Cs F [] f fs env r = o := bind_ok h1 (by
  show (if C ∈ Cs then (fAll fs env >>= fun ts => F (.obj C vs :: (ts ++ []))) else M.bad : M T) r1 = o
  rw [if_pos hC]
  exact bind_ok h2 (by rw [List.append_nil]; exact h3))
end Ep
/-! zip of two sources of any kind: lists, tuples, texts. -/
namespace Ep
open PySem PySem.Spec PyProof.Rows L2
theorem vals_back {xs : List V} {us : List Value} (rel : Vals xs us) {i : Nat} {v : Value} (e : us[i]? = some v) : ∃ x, xs[i]? = some x ∧ RelV x v := by
  have lt : i < xs.length := by rw [rel.length]; exact (List.getElem?_eq_some_iff.mp e).1
  obtain ⟨u, eu, r⟩ := rel.get (List.getElem?_eq_getElem lt)
  rw [e] at eu
  cases eu
  exact ⟨_, List.getElem?_eq_getElem lt, r⟩
inductive Src where
  | l (a : Addr)
  | t (a : Addr)
  | s (z : Str) (tk : Tok)
namespace Src
def val : Src → Value
  | .l a => .ref a
  | .t a => .ref a
  | .s z tk => .str z tk
def fp (it : Addr) : Src → List Addr
  | .l a => [it, a]
  | .t a => [it, a]
  | .s _ _ => [it]
def At (K : PySem.W.Frag) (H : Hp) : Src → List V → Prop
  | .l a, xs => SqL K H a xs
  | .t a, xs => SqT K H a xs
  | .s z _, xs => xs = z.cps.toList.map fun c => V.str ⟨#[c]⟩
def Cur (it : Addr) : Src → Nat → Heap → Prop
  | .l a, i, h => h.IsListIter it a i
  | .t a, i, h => h.IsTupleIter it a i
  | .s z tk, i, h => h.IsStrIter it (strIterType z) z tk i
def ob : Src → Obj
  | .l a => { cls := .type "list_iterator", data := .fields #[.ref a, .int 0 0] }
  | .t a => { cls := .type "tuple_iterator", data := .fields #[.ref a, .int 0 0] }
  | .s z tk => { cls := .type (strIterType z), data := .fields #[.str z tk, .int 0 0] }
theorem cur_ob : ∀ (o : Src) {it : Addr} {i : Nat} {h : Heap}, o.Cur it i h → ∃ b, h.get? it = some b ∧ ∀ v, b.data ≠ .cell v
  | .l _, _, _, _, ⟨b, e, _, d⟩ => ⟨b, e, fun v q => by rw [d] at q; nomatch q⟩
  | .t _, _, _, _, ⟨b, e, _, d⟩ => ⟨b, e, fun v q => by rw [d] at q; nomatch q⟩
  | .s _ _, _, _, _, ⟨b, e, _, d⟩ => ⟨b, e, fun v q => by rw [d] at q; nomatch q⟩
theorem cur_keep : ∀ (o : Src) {it : Addr} {i : Nat} {h h' : Heap}, o.Cur it i h → (∀ b, h.get? it = some b → h'.get? it = some b) → o.Cur it i h'
  | .l _, _, _, _, _, ⟨b, e, r⟩, k => ⟨b, k b e, r⟩
  | .t _, _, _, _, _, ⟨b, e, r⟩, k => ⟨b, k b e, r⟩
  | .s _ _, _, _, _, _, ⟨b, e, r⟩, k => ⟨b, k b e, r⟩
theorem cur_new : ∀ (o : Src) {it : Addr} {h : Heap}, h.get? it = some o.ob → o.Cur it 0 h
  | .l _, _, _, e => ⟨_, e, rfl, rfl⟩
  | .t _, _, _, e => ⟨_, e, rfl, rfl⟩
  | .s _ _, _, _, e => ⟨_, e, rfl, rfl⟩
variable {s : Shared} {H : Hp} {σ : L2.St} {X : Cx} {pins : List (Addr × Obj)}
theorem at_one (I : Inv X pins σ H s) : ∀ {o : Src} {xs ys : List V}, o.At X.K H xs → o.At X.K H ys → xs = ys
  | .l _, _, _, h, h' => I.list_inj h h'
  | .t _, _, _, h, h' => I.tuple_inj h h'
  | .s _ _, _, _, h, h' => h.trans h'.symm
theorem draws {A : Around} (hh : A.handled = none) (I : Inv X pins σ H s) (it : Addr) : ∀ {o : Src} {xs : List V}, o.At X.K H xs → (∀ a, o.val = .ref a → a ≠ it) →
    ∃ Pd Sd, Draws X.prog X.w A it (o.fp it) xs.length Pd Sd ∧ (∀ i v, Pd i v → ∃ x, xs[i]? = some x ∧ RelV x v) ∧ (∀ i h, Sd i h → o.Cur it i h) ∧ ∀ i, o.Cur it i s.heap → Sd i s.heap
  | .l a, xs, h, ne => by
    obtain ⟨us, rel, pl, _⟩ := I.list h
    have D := Draws.list (prog := X.prog) (w := X.w) hh it a (ne a rfl) us.toArray
    rw [show us.toArray.size = xs.length by rw [rel.length]; rfl] at D
    exact ⟨_, _, D, fun i v q => vals_back rel (by simpa using q), fun i h q => q.1, fun i q => ⟨q, pl.isList⟩⟩
  | .t a, xs, h, ne => by
    obtain ⟨us, rel, pl, _⟩ := I.tuple h
    have D := Draws.tuple (prog := X.prog) (w := X.w) hh it a (ne a rfl) us.toArray
    rw [show us.toArray.size = xs.length by rw [rel.length]; rfl] at D
    exact ⟨_, _, D, fun i v q => vals_back rel (by simpa using q), fun i h q => q.1, fun i q => ⟨q, pl⟩⟩
  | .s z tk, xs, h, _ => by
    have D := Draws.text (prog := X.prog) (w := X.w) hh it z tk
    have h : xs = z.cps.toList.map fun c => V.str ⟨#[c]⟩ := h
    rw [show z.cps.size = xs.length by rw [h]; simp] at D
    exact ⟨_, _, D, fun i v ⟨c, u, e, ev⟩ => ⟨.str ⟨#[c]⟩, by rw [h]; simp [e], u, ev⟩, fun _ _ q => q, fun _ q => q⟩
theorem begins (I : Inv X pins σ H s) : ∀ {o : Src} {xs : List V}, o.At X.K H xs → ∃ Hb, Begins o.val o.ob Hb ∧ Hb s.heap
  | .l a, xs, h => by
    obtain ⟨us, rel, pl, _⟩ := I.list h
    exact ⟨_, begins_list a us.toArray, pl.isList⟩
  | .t a, xs, h => by
    obtain ⟨us, rel, pl, _⟩ := I.tuple h
    exact ⟨_, begins_tuple a us.toArray, pl⟩
  | .s z tk, _, _ => ⟨_, begins_text z tk, trivial⟩
end Src
def Itq (K : PySem.W.Frag) (o p : Src) : It where
  go i H := ∃ xs ys, o.At K H xs ∧ p.At K H ys ∧ i < xs.length ∧ i < ys.length
  yld i H v H' := ∃ q x y, v = .ref q ∧ H q = none ∧ H' = upd H q (.tup [x, y]) ∧ (∀ xs, o.At K H xs → xs[i]? = some x) ∧ ∀ ys, p.At K H ys → ys[i]? = some y
  stop i H := ∃ xs ys, o.At K H xs ∧ p.At K H ys ∧ i = min xs.length ys.length
section
variable {P : Program} {w : World} {K : PySem.W.Frag} {elts : List Expr} {kk : Nat} {tpos : Pos}
structure Five (o p : Src) (z TI TO i1 i2 : Addr) : Prop where
  sep : ZipSep2 z TI TO i1 i2 (o.fp i1) (p.fp i2)
  ne1 : ∀ a, o.val = .ref a → a ≠ i1
  ne2 : ∀ a, p.val = .ref a → a ≠ i2
def Stand (o p : Src) (z TI TO i1 i2 : Addr) (i : Nat) (h : Heap) : Prop := IsZip h z TI TO .none ∧ IsTupOf2 h TI (.ref i1) (.ref i2) ∧ (∃ a1 a2, IsTupOf2 h TO a1 a2) ∧ o.Cur i1 i h ∧ p.Cur i2 i h
theorem turn_q {o p : Src} {z TI TO i1 i2 : Addr} (F : Five o p z TI TO i1 i2) : Turn P w K (.Tuple elts kk tpos) (Itq K o p) [z, TI, TO, i1, i2] z (Stand o p z TI TO i1 i2) := by
  have five : ∀ {i h}, Stand o p z TI TO i1 i2 i h → ∀ c ∈ [z, TI, TO, i1, i2], ∃ b, h.get? c = some b ∧ ∀ v, b.data ≠ .cell v := by
    rintro i h ⟨hz, hTI, ⟨a1, a2, hTO⟩, c1, c2⟩ c hc
    simp only [List.mem_cons, List.not_mem_nil, or_false] at hc
    rcases hc with rfl | rfl | rfl | rfl | rfl
    · exact ⟨_, hz, fun _ q => nomatch q⟩
    · exact ⟨_, hTI, fun _ q => nomatch q⟩
    · exact ⟨_, hTO, fun _ q => nomatch q⟩
    · exact o.cur_ob c1
    · exact p.cur_ob c2
  refine ⟨List.mem_cons_self .., fun i h st => five st, ?_, ?_, ?_, fun A i s Q E st q => wpAny_pyIter_zip st.1 q⟩
  · rintro i h h' ⟨hz, hTI, ⟨a1, a2, hTO⟩, c1, c2⟩ k
    exact ⟨k z (by simp) _ hz, k TI (by simp) _ hTI, ⟨a1, a2, k TO (by simp) _ hTO⟩, o.cur_keep c1 (k i1 (by simp)), p.cur_keep c2 (k i2 (by simp))⟩
  · rintro X rfl rfl rfl hc i pins s σ H E I free st ⟨xs, ys, hx, hy, lx, ly⟩
    obtain ⟨P1, S1, D1, v1, o1, n1⟩ := Src.draws (A := X.A.in1) (I.ok.hd hc) I i1 hx F.ne1
    obtain ⟨P2, S2, D2, v2, o2, n2⟩ := Src.draws (A := X.A.in1) (I.ok.hd hc) I i2 hy F.ne2
    have Z := WalksT.zipD2 (A := X.A) F.sep D1 D2
    have lts : ∀ c ∈ [z, TI, TO, i1, i2], c < s.heap.objs.size := fun c hcm => let ⟨_, e, _⟩ := five st c hcm; Heap.lt_size e
    obtain ⟨hz, hTI, hTO, c1, c2⟩ := st
    refine Z.item i s _ E (Nat.lt_min.mpr ⟨lx, ly⟩) ⟨hz, hTI, hTO, n1 _ c1, n2 _ c2⟩ fun q us h' tk pt hq hT mid kept => ⟨_, rfl, Z.go elts kk tpos i q ⟨h', s.gens, s.drawn, tk, s.os⟩ _ E mid fun h2 st2 kept2 => ?_⟩
    obtain ⟨u1, u2, pu1, pu2, rfl⟩ := pt
    obtain ⟨x, ex, rx⟩ := v1 i u1 pu1
    obtain ⟨y, ey, ry⟩ := v2 i u2 pu2
    obtain ⟨bT, gT, cT, nT, dT⟩ := hT
    have new : ObjOk X.prog X.w (upd H q (.tup [x, y])) h2 q (.tup [x, y]) :=
      ⟨by rw [sizeLine_eq]; exact Nat.le_of_lt (by simp), [u1, u2], .cons rx (.cons ry .nil), bT, kept2 q bT (Z.apart i q h' mid) gT, cT, nT, dT⟩
    have sub : ∀ c, c ∈ [z, TO, i1, i2] → c ∈ [z, TI, TO, i1, i2] := fun c hcm => by simp at hcm ⊢; rcases hcm with h | h | h | h <;> simp [h]
    have I2 := I.turnedNew (t' := tk) (ch := [z, TI, TO, i1, i2]) (h' := h2) (T := q) (fun c ob hb e => kept2 c ob (fun m => hb (sub c m)) (kept c ob (fun m => hb (sub c m)) e)) free hq new
    obtain ⟨sz, sTI, sTO, s1, s2⟩ := st2
    exact ⟨.ref q, _, I2, rfl, ⟨q, x, y, rfl, I.hok.fresh hq, rfl, fun l hl => by rw [Src.at_one I hl hx]; exact ex, fun l hl => by rw [Src.at_one I hl hy]; exact ey⟩,
      ⟨sz, sTI, sTO, o1 _ _ s1, o2 _ _ s2⟩, fun c hcm => by rw [upd_ne (Nat.ne_of_lt (Nat.lt_of_lt_of_le (lts c hcm) hq))]; exact (free c hcm).1⟩
  · rintro X rfl rfl rfl hc i pins s σ H E I free ⟨hz, hTI, hTO, c1, c2⟩ ⟨xs, ys, hx, hy, rfl⟩
    obtain ⟨P1, S1, D1, v1, o1, n1⟩ := Src.draws (A := X.A.in1) (I.ok.hd hc) I i1 hx F.ne1
    obtain ⟨P2, S2, D2, v2, o2, n2⟩ := Src.draws (A := X.A.in1) (I.ok.hd hc) I i2 hy F.ne2
    have sub : ∀ c, c ∈ [z, TO, i1, i2] → c ∈ [z, TI, TO, i1, i2] := fun c hcm => by simp at hcm ⊢; rcases hcm with h | h | h | h <;> simp [h]
    exact (WalksT.zipD2 (A := X.A) F.sep D1 D2).done s _ E ⟨hz, hTI, hTO, n1 _ c1, n2 _ c2⟩ fun h' tk kept => ⟨rfl, I.turnedL (t' := tk) (ch := [z, TI, TO, i1, i2]) (fun c ob hb e => kept c ob (fun m => hb (sub c m)) e) free⟩
theorem Src.fp_cases : ∀ {o : Src} {it c : Addr}, c ∈ o.fp it → c = it ∨ o.val = .ref c
  | .l a, it, c, h => by simp [Src.fp] at h; exact h.imp id fun e => by rw [e]; rfl
  | .t a, it, c, h => by simp [Src.fp] at h; exact h.imp id fun e => by rw [e]; rfl
  | .s _ _, it, c, h => by simp [Src.fp] at h; exact .inl h
theorem Src.fp_mem : ∀ (o : Src) (it : Addr), it ∈ o.fp it
  | .l _, _ => List.mem_cons_self ..
  | .t _, _ => List.mem_cons_self ..
  | .s _ _, _ => List.mem_cons_self ..
theorem Src.below {X : Cx} {pins : List (Addr × Obj)} {σ : L2.St} {H : Hp} {s : Shared} (I : Inv X pins σ H s) : ∀ {o : Src} {xs : List V} {a : Addr}, o.At X.K H xs → o.val = .ref a → a < s.heap.objs.size
  | .l _, _, _, h, e => by cases e; obtain ⟨_, _, pl, _⟩ := I.list h; exact pl.lt
  | .t _, _, _, h, e => by cases e; obtain ⟨_, _, ⟨_, q, _⟩, _⟩ := I.tuple h; exact Heap.lt_size q
  | .s _ _, _, _, _, e => nomatch e
theorem five_new {o p : Src} {n : Nat} (h : ∀ a, o.val = .ref a → a < n) (h' : ∀ a, p.val = .ref a → a < n) : Five o p (n + 4) (n + 2) (n + 3) n (n + 1) := by
  have no : ∀ {q : Src} {it c : Addr}, (∀ a, q.val = .ref a → a < n) → c ≠ it → n ≤ c → c ∉ q.fp it := fun hq ne le m => by
    rcases Src.fp_cases m with e | e
    · exact ne e
    · exact absurd (hq _ e) (Nat.not_lt.mpr le)
  have k : ∀ i j : Nat, i ≠ j → (n + i : Nat) ≠ n + j := fun i j ne e => ne (Nat.add_left_cancel e)
  have le : ∀ i : Nat, n ≤ (n + i : Nat) := Nat.le_add_right n
  exact ⟨{ TIz := k 2 4 (by decide), TOz := k 3 4 (by decide), TITO := k 2 3 (by decide), TIi1 := k 2 0 (by decide), TIi2 := k 2 1 (by decide), mem1 := o.fp_mem n, mem2 := p.fp_mem (n + 1)
           zf1 := no h (k 4 0 (by decide)) (le 4), Tf1 := no h (k 3 0 (by decide)) (le 3), zf2 := no h' (k 4 1 (by decide)) (le 4), Tf2 := no h' (k 3 1 (by decide)) (le 3)
           sep1_2 := no h' (k 0 1 (by decide)) (Nat.le_refl _), sep2_1 := no h (k 1 0 (by decide)) (le 1) }, fun a e => Nat.ne_of_lt (h a e), fun a e => Nat.ne_of_lt (Nat.lt_succ_of_lt (h' a e))⟩
structure SrcOf (K : PySem.W.Frag) (H : Hp) (x : V) (xs : List V) (o : Tok → Src) : Prop where
  val : ∀ u, RelV x u → ∃ tk, u = (o tk).val
  at_ : ∀ tk, (o tk).At K H xs
def iZipQ (K : PySem.W.Frag) (ta : TA) : TI := fun σ H R => ta σ H fun vs H1 => ∃ x y xs ys o p, vs = [x, y] ∧ SrcOf K H1 x xs o ∧ SrcOf K H1 y ys p ∧ ∀ tk tk', R (Itq K (o tk) (p tk')) H1
theorem pi_zipQ {X : Cx} {e e2 : Expr} {ta : TA} {np pos : Pos} (hg : Gl X "zip") (hm : X.mg "zip" = none) (ha : PA X [e, e2] ta)
    (hs : starEach [e, e2] X.env = (false, eval e X.env) :: starEach [e2] X.env) (hpl : (backTo pos (starEach [e2] X.env)).any (·.1) = false) :
    PI X (.Tuple elts kk tpos) (.Call (.Name "zip" np) [e, e2] [] pos) (iZipQ X.K ta) where
  run pins s σ H R I h := Call_ (ld_blt I hg hm PyProof.Rows.boot_zip (PyProof.Rows.callWith_type1 (thn (ha.run pos pins s σ H _ I h) fun us s1 ⟨vs, H1, I1, r1, x, y, xs, ys, o, p, ev, sx, sy, q⟩ => by
    subst ev
    obtain ⟨u1, rest, rfl, rx, r2⟩ : ∃ u1 rest, us = u1 :: rest ∧ RelV x u1 ∧ Vals [y] rest := by cases r1 with | cons a b => exact ⟨_, _, rfl, a, b⟩
    obtain ⟨u2, rfl, ry⟩ := vals1 r2
    obtain ⟨k1, rfl⟩ := sx.val u1 rx
    obtain ⟨k2, rfl⟩ := sy.val u2 ry
    obtain ⟨_, B1, b1⟩ := Src.begins I1 (sx.at_ k1)
    obtain ⟨_, B2, b2⟩ := Src.begins I1 (sy.at_ k2)
    refine zip_begins2 B1 B2 b1 b2 fun h' hz hTI hTO g1 g2 _ kept => wpAny_pyIter_zip hz ⟨s1.heap.objs.size + 4, _, _, _, H1, rfl, I1.kept (t' := s1.toks) kept, turn_q (five_new (fun a e => Src.below I1 (sx.at_ k1) e) (fun a e => Src.below I1 (sy.at_ k2) e)), ⟨hz, hTI, ⟨_, _, hTO⟩, Src.cur_new _ g1, Src.cur_new _ g2⟩, fun c hcm => ?_, q k1 k2⟩
    have le : s1.heap.objs.size ≤ c := by
      simp only [List.mem_cons, List.not_mem_nil, or_false] at hcm
      rcases hcm with rfl | rfl | rfl | rfl | rfl <;> first | exact Nat.le_refl _ | exact Nat.le_add_right _ _
    exact I1.fpOk le (I1.hok.fresh le)) hs hpl))
end
def srcL : T → Option (List T)
  | .tup xs => some xs
  | .str z => some (chrT z)
  | t => lstOnly t
def zipQT : List T → Option (List T)
  | [t, u] => (srcL t).bind fun xs => (srcL u).map (zipL xs)
  | _ => none
def fZipQ (f f' : Env → M T) : Env → M (List T) := fun env => fAll [f, f'] env >>= fun ts => M.lift (zipQT ts)
section
variable {X : Cx} {G : Gm} {W : WX} {pos : Pos} {f : Env → M T}
theorem src_of {w : Wd} {H : Hp} {r : RS} {v : V} {t : T} {xs : List T} (g : Good G w H r) (d : Den G w v t) (e : srcL t = some xs) : ∃ vs o, SrcOf G.K H v vs o ∧ Dens G w vs xs ∧ ∀ w' H' r', Later w w' → Good G w' H' r' → ∀ tk, (o tk).At G.K H' vs := by
  have lst : lstOnly t = some xs → ∃ vs o, SrcOf G.K H v vs o ∧ Dens G w vs xs ∧ ∀ w' H' r', Later w w' → Good G w' H' r' → ∀ tk, (o tk).At G.K H' vs := fun e => by
    obtain ⟨a, vs, rfl, hq, dd⟩ := lst_pub d e
    exact ⟨vs, fun _ => .l a, ⟨fun u ru => ⟨0, by cases ru; rfl⟩, fun _ => g.sub.seq hq⟩, dd, fun w' H' r' L g' _ => g'.sub.seq (L.pub.seq hq)⟩
  cases d with
  | tup h z dd =>
    cases e
    exact ⟨_, fun _ => .t _, ⟨fun u ru => ⟨0, by cases ru; rfl⟩, fun _ => tup_sq g.sub h⟩, dd, fun w' H' r' L g' _ => tup_sq g'.sub (h.mono L.pub)⟩
  | str z =>
    cases e
    refine ⟨_, fun tk => .s z tk, ⟨fun u ⟨tk, eu⟩ => ⟨tk, eu⟩, fun _ => rfl⟩, ?_, fun _ _ _ _ _ _ => rfl⟩
    show Dens G w (z.cps.toList.map _) (z.cps.toList.map _)
    generalize z.cps.toList = cs
    induction cs with
    | nil => exact .nil
    | cons c cs ih => exact .cons (.str _) ih
  | _ => exact lst e
theorem it_q {w : Wd} {o p : Src} {us vs : List V} {xs ys : List T} (d : Dens G w us xs) (d' : Dens G w vs ys) (h : ∀ w' H' r', Later w w' → Good G w' H' r' → o.At G.K H' us) (h' : ∀ w' H' r', Later w w' → Good G w' H' r' → p.At G.K H' vs) :
    ItOk G w (Itq G.K o p) (zipL xs ys) := by
  have len : (zipL xs ys).length = min us.length vs.length := by rw [zipL_len, d.length, d'.length]
  refine ⟨fun H => o.At G.K H us ∧ p.At G.K H vs, YPair (fun i => us[i]?) (fun i => vs[i]?), ?_, fun w' H' r' L g => ⟨h w' H' r' L g, h' w' H' r' L g⟩, fun i H1 v H2 w1 r1 L g _ y => it_zY d d' L g y⟩
  rw [len]
  exact ⟨fun i H lt q => ⟨us, vs, q.1, q.2, (Nat.lt_min.mp lt).1, (Nat.lt_min.mp lt).2⟩, fun H q => ⟨us, vs, q.1, q.2, rfl⟩, fun i H v H' _ q ⟨a, x, y, ev, new, eH, fx, fy⟩ => ⟨a, x, y, ev, new, eH, fx us q.1, fy vs q.2⟩⟩
theorem i_zipQ {a b : Expr} {f' : Env → M T} {np tpos : Pos} {elts : List Expr} {kk : Nat} (hK : X.K = G.K) (hg : Gl X "zip") (hm : X.mg "zip" = none) (ha : SE X G W a f) (hb : SE X G W b f')
    (hs : starEach [a, b] X.env = (false, eval a X.env) :: starEach [b] X.env := by rfl) (hs2 : starEach [b] X.env = (false, eval b X.env) :: starEach [] X.env := by rfl) (hpl : (backTo pos (starEach [b] X.env)).any (·.1) = false := by rfl) :
    SI X G W (.Tuple elts kk tpos) (.Call (.Name "zip" np) [a, b] [] pos) (fZipQ f f') :=
  pi_imp (pi_zipQ hg hm (a_cons ha (a_cons hb a_nil hs2) hs) hs hpl) fun σ H R ⟨w, H0, env, r, g, s, h⟩ => by
    refine seqA g s h fun ts r1 w1 H1 us g1 s1 st1 d1 l h1 => ?_
    obtain ⟨xs, e1, h2⟩ := liftP h1
    have h3 := h2 w1 H1 (Step.refl _ _) g1
    rw [hK]
    obtain ⟨t1, t2, rfl⟩ : ∃ t1 t2, ts = [t1, t2] := by
      unfold zipQT at e1
      split at e1
      · exact ⟨_, _, rfl⟩
      · nomatch e1
    obtain ⟨v1, v2, rfl, da, db⟩ : ∃ v1 v2, us = [v1, v2] ∧ Den G w1 v1 t1 ∧ Den G w1 v2 t2 := by
      cases d1 with
      | cons da d1 => cases d1 with
        | cons db d1 => cases d1; exact ⟨_, _, rfl, da, db⟩
    have e1 : ((srcL t1).bind fun xs => (srcL t2).map (zipL xs)) = some xs := e1
    obtain ⟨as, ea, e1⟩ := Option.bind_eq_some_iff.mp e1
    obtain ⟨bs, eb, rfl⟩ := Option.map_eq_some_iff.mp e1
    obtain ⟨va, o, so, dda, ka⟩ := src_of g1 da ea
    obtain ⟨vb, p, sp, ddb, kb⟩ := src_of g1 db eb
    exact ⟨v1, v2, va, vb, o, p, rfl, so, sp, fun tk tk' => h3 _ (it_q dda ddb (fun w' H' r' L g => ka w' H' r' L g tk) (fun w' H' r' L g => kb w' H' r' L g tk'))⟩
end
/-! e[::-1] of a tuple -/
section
variable {s : Shared} {w : World} {prog : Program} {E : Value → Shared → Prop} {A : Around}
theorem back_places (n : Nat) : Builtin.Slice.sliceAdjust none none (-1) (n : Int) = ((n : Int) - 1, -1) ∧ Builtin.Slice.slicePlaces ((n : Int) - 1) (-1) (-1) = n := by
  refine ⟨?_, ?_⟩
  · unfold Builtin.Slice.sliceAdjust
    simp
  · unfold Builtin.Slice.slicePlaces
    rw [if_neg (by decide), show (- -1 : Int) = 1 from rfl, Int.ediv_one]
    split <;> omega
theorem back_cut {sl : Addr} {l u m : Value} (b : Back s.heap sl l u m) (n : Nat) {Q : Int × Int × Nat → Shared → Prop} (h : Q ((n : Int) - 1, -1, n) s) : wpAny (model prog w) A (Builtin.Slice.sliceApplied (.ref sl) (pure (n : Int))) Q E s := by
  obtain ⟨⟨os, at_sl, _, parts⟩, lo, up, step⟩ := b
  have read : wpAny (model prog w) A (Builtin.Slice.sliceFields (.ref sl)) (fun r s' => s' = s ∧ r = (l, u, m)) E s := by
    unfold Builtin.Slice.sliceFields
    exact wpAny_bind (wpAny_field at_sl parts (x := l) rfl (wpAny_bind (wpAny_field at_sl parts (x := u) rfl (wpAny_bind (wpAny_field at_sl parts (x := m) rfl (wpAny_pure ⟨rfl, rfl⟩))))))
  have part : ∀ {v : Value} {o : Option Int} {R : Option Int → Shared → Prop}, IsPart v o → R o s → wpAny (model prog w) A (Builtin.Slice.slicePartIndex v) R E s := fun pv r => by
    cases pv with
    | none => exact slicePart_none r
    | int i t => exact slicePart_int r
  obtain ⟨e1, e2⟩ := back_places n
  have told : wpAny (model prog w) A (pure ((n : Int) - 1, (-1 : Int), n)) Q E s := wpAny_pure h
  unfold Builtin.Slice.sliceApplied
  refine wpAny_bind (wpAny_mono read ?_ fun _ _ e => e)
  rintro r s' ⟨rfl, rfl⟩
  refine wpAny_bind (part step ?_)
  dsimp only [Option.getD]
  rw [if_neg (by decide)]
  refine wpAny_bind (part lo (wpAny_bind (part up (wpAny_bind (wpAny_pure ?_)))))
  rw [e1]
  dsimp only
  rw [e2]
  exact told
theorem tuple_back {t sl : Addr} {l u m : Value} {items : Array Value} {Q : Value → Shared → Prop} (ht : IsTup s.heap t items) (b : Back s.heap sl l u m) (few : items.size ≤ sizeLine)
    (h : Q (.ref s.heap.objs.size) { s with heap := s.heap.push { cls := .type "tuple", data := .seq items.toList.reverse.toArray } }) : wpAny (model prog w) A (getItem (.ref t) (.ref sl)) Q E s := by
  have size : items.toList.reverse.toArray.size ≤ sizeLine := by simpa using few
  have picked : ((List.range items.size).filterMap fun (k : Nat) => items[(((items.size : Int) - 1) + (k : Int) * -1).toNat]?).toArray = items.toList.reverse.toArray := by
    rw [← PySem.W.krv_pick]
    unfold slicePick
    rw [PySem.W.krv_bounds]
    dsimp only
    rw [PySem.W.krv_sliceRange, List.filterMap_map]
    refine congrArg List.toArray (congrArg (fun f => List.filterMap f (List.range items.size)) (funext fun k => ?_))
    show items[((items.size : Int) - 1 + (k : Int) * -1).toNat]? = items[items.size - 1 - k]?
    rw [show ((items.size : Int) - 1 + (k : Int) * -1).toNat = items.size - 1 - k by omega]
  have kind : s.TypeIs (.ref sl) "slice" := let ⟨os, at_sl, c, _⟩ := b.obj; ⟨os, at_sl, c⟩
  unfold getItem
  refine wpAny_holding (wpAny_bind (wpAny_sequenceKey ht.typeIs (by decide) (wpAny_bind (wpAny_callSpecial?_slot (name := Str.ofString "__getitem__") ht.typeIs slot_tuple_getitem (wpAny_call_entry slot_tuple_getitem ht.typeIs entry_tuple_getitem ?_ (args_tuple_getitem _ _))))))
  refine wpAny_bind (m := Builtin.Tuple.tupleItemsOf (.ref t)) (tupleItemsOf_ ht (wpAny_bind (wpAny_typeOf kind ?_)))
  rw [if_pos (by decide)]
  refine wpAny_bind (back_cut b items.size ?_)
  dsimp only
  rw [if_neg (by simp)]
  rw [picked]
  refine wpAny_bind (m := Builtin.Tuple.tupleExact _) (wpAny_newObj_type (wpAny_pure ⟨_, rfl, wpAny_pure h⟩) size)
end
def tRevB (K : PySem.W.Frag) (te : TE) : TE := fun σ H Q => te σ H fun x H1 => ∃ a xs, x = .ref a ∧ SqT K H1 a xs ∧ ∀ p, H1 p = none → Q (.ref p) (upd H1 p (.tup xs.reverse))
theorem pe_revB {X : Cx} {e : Expr} {te : TE} {k : Nat} {p1 p2 p3 pos : Pos} (he : PE X e te) : PE X (.Subscript e (.Slice none none (some (.UnaryOp .USub (.Constant (.int 1) k p1) p2)) p3) pos) (tRevB X.K te) where
  run pins s σ H Q I h := Subscript_ (thn (he.run pins s σ H _ I h) fun v s1 ⟨x, H1, I1, rel, a, xs, ex, hq, q⟩ => back_slice I1 fun s2 l u m I2 back => by
    subst ex
    cases rel
    obtain ⟨its, rels, at_a, few⟩ := I2.tuple hq
    have few' : its.toArray.size ≤ sizeLine := by rw [List.size_toArray, ← rels.length]; exact few
    refine tail_any (ops := [.ref a, .ref (s2.heap.objs.size - 1)]) at_a.typeIs slot_tuple_getitem.lookup (tuple_back at_a back few' ?_) (by with_unfolding_all rfl)
    have put := I2.laid (t' := s2.toks) (o := .tup xs.reverse) (h' := s2.heap.push { cls := .type "tuple", data := .seq its.reverse.toArray }) (fun _ _ z => Heap.get?_push_of_some _ z) (Nat.le_refl _) ⟨by rw [List.length_reverse]; exact few, its.reverse, rels.reverse, _, Heap.get?_push_size _ rfl, rfl, _, rfl⟩
    exact ⟨.ref s2.heap.objs.size, _, put, rfl, q _ (I2.hok.fresh (Nat.le_refl _))⟩)
def revTT : T → Option T
  | .tup xs => some (.tup xs.reverse)
  | _ => none
def fRevT (f : Env → M T) : Env → M T := fun env => f env >>= fun x => M.lift (revTT x)
theorem s_revT {X : Cx} {G : Gm} {W : WX} {a : Expr} {f : Env → M T} {k : Nat} {p1 p2 p3 pos : Pos} (hK : X.K = G.K) (ha : SE X G W a f) : SE X G W (.Subscript a (.Slice none none (some (.UnaryOp .USub (.Constant (.int 1) k p1) p2)) p3) pos) (fRevT f) :=
  pe_imp (pe_revB ha) fun σ H Q ⟨w, H0, env, r, g0, s, h0⟩ => by
    refine seqE g0 s h0 fun t r1 w1 H1 x g1 s1 st1 d1 h1 => ?_
    obtain ⟨z, ez, h2⟩ := liftP h1
    cases d1 with
    | @tup a vs xs h zz d =>
      cases ez
      refine ⟨a, vs, rfl, by rw [hK]; exact tup_sq g1.sub h, fun p hp => ?_⟩
      obtain ⟨st, g2⟩ := g1.new (o := .tup vs.reverse) hp
      exact h2 _ _ st g2 _ (.tup (.inl upd_same) (by rw [List.length_reverse]; exact zz) (d.rev.mono st.later))
    | _ => cases ez
theorem x_zipQ {f g : Env → M T} {env : Env} {r r1 r2 : RS} {x y : T} {xs : List T} (h1 : f env r = .ok x r1) (h2 : g env r1 = .ok y r2) (h3 : zipQT [x, y] = some xs) : fZipQ f g env r = .ok xs r2 := bind_ok (e_cons h1 (e_cons h2 e_nil)) (by rw [h3]; rfl)
theorem x_revT {f : Env → M T} {env : Env} {r r1 : RS} {xs : List T} (h : f env r = .ok (.tup xs) r1) : fRevT f env r = .ok (.tup xs.reverse) r1 := bind_ok h rfl
theorem x_revL {f : Env → M T} {env : Env} {r r1 : RS} {xs : List T} (h : f env r = .ok (.lst xs) r1) : fRev f env r = .ok (.lst xs.reverse) r1 := bind_ok h rfl
theorem x_revS {f : Env → M T} {env : Env} {r r1 : RS} {z : Str} (h : f env r = .ok (.str z) r1) (hz : z.length ≤ 100000) : fRev f env r = .ok (.str (revS z)) r1 := bind_ok h (by show Ep.M.lift (if z.length ≤ 100000 then _ else _) _ = _; rw [if_pos hz]; rfl)
end Ep
/-! a tuple of any length times any small integer -/
namespace Ep
open PySem PySem.Spec PyProof.Rows L2
section
variable {l : Addr} {us : Array Value} {n : Nat} {dd : Option Addr} {sl : Array (Option Value)} {k : Int} {tk : Tok}
theorem tmul_same (near : (decide (k < -(2 ^ 63)) || decide (k ≥ 2 ^ 63)) = false) (same : (us.isEmpty || k == 1) = true) :
    Meets (Builtin.«tuple.__mul__» ⟨[.ref l, .int k tk], []⟩) (fun _ R s => s.heap.get? l = some { cls := .type "tuple", dict := dd, data := .seq us n, slots := sl } ∧ R (.ok (.ret (.ref l))) s) :=
  .of_wp fun prog w A R ⟨hp, g, d, toks, os⟩ ⟨at_l, q⟩ => by
    have ix := AutoSeq1.idx_int
    wp_walk using wpAny_loadPart' at_l
    refine wpAny_ite_false (decide_eq_false (near ▸ Bool.false_ne_true)) ?_
    wp_walk using wpAny_loadPart' at_l
    exact ⟨_, rfl, q⟩
theorem tmul_none (near : (decide (k < -(2 ^ 63)) || decide (k ≥ 2 ^ 63)) = false) (other : (us.isEmpty || k == 1) = false) (none : (decide (k ≤ 0) || us.isEmpty) = true) :
    Meets (Builtin.«tuple.__mul__» ⟨[.ref l, .int k tk], []⟩) (fun _ R s => s.heap.get? l = some { cls := .type "tuple", dict := dd, data := .seq us n, slots := sl } ∧ R (.ok (.ret (.ref s.heap.objs.size))) { s with heap := s.heap.push { cls := .type "tuple", data := .seq #[] } }) :=
  .of_wp fun prog w A R ⟨hp, g, d, toks, os⟩ ⟨at_l, q⟩ => by
    have ix := AutoSeq1.idx_int
    wp_walk using wpAny_loadPart' at_l
    refine wpAny_ite_false (decide_eq_false (near ▸ Bool.false_ne_true)) ?_
    wp_walk using wpAny_loadPart' at_l
    exact ⟨_, rfl, q⟩
end
/-- no turns, one turn, or nothing to turn over -/
def rFew (K : PySem.W.Frag) : R2 := fun x y H Q => ∃ l k xs, x = .ref l ∧ y = .int k ∧ SqT K H l xs ∧ -1000 ≤ k ∧ k ≤ 1000 ∧ ((xs = [] ∨ k = 1) ∧ Q (.ref l) H ∨ (xs ≠ [] ∧ k ≤ 0) ∧ ∀ p, H p = none → Q (.ref p) (upd H p (.tup [])))
theorem op_few {X : Cx} : OpR X (binaryOp .Mult) (rFew X.K) := fun pins s σ H x y v u Q I rx ry ⟨l, k, xs, ex, ey, hT, k0, k1, q⟩ => by
  subst ex ey
  obtain ⟨us, rel, ⟨⟨cls, dd, data, sl⟩, at_l, c, n, d⟩, few⟩ := I.tuple hT
  obtain ⟨tk, rfl⟩ := ry
  cases rx
  dsimp only at c d
  subst c d
  have near : (decide (k < -(2 ^ 63)) || decide (k ≥ 2 ^ 63)) = false := by
    simp only [Bool.or_eq_false_iff, decide_eq_false_iff_not]
    omega
  have emp : us.toArray.isEmpty = decide (xs = []) := by
    cases rel with
    | nil => rfl
    | cons _ _ => rfl
  have one : (k == 1) = decide (k = 1) := rfl
  refine wpAny_binaryOp_repeat_ref (T := "tuple") (U := "int") (by decide) ⟨_, at_l, rfl⟩ (fun s' => typeIs_int s' k tk) noFill_tuple_mul F.fills_int_mul F.slot_int_rmul repeat_tuple F.slot_int_index.lookup ?_
  refine call_meets F.slot_int_rmul (typeIs_int s k tk) F.entry_int_rmul (F.args_int_rmul_2 _ _) (int_rmul_tuple k tk l us.toArray n dd sl) ⟨at_l, rfl, ⟨_, at_l, rfl⟩, ?_⟩
  rcases q with ⟨h, q⟩ | ⟨⟨h, hk⟩, q⟩
  · refine call_meets F.slot_tuple_mul ⟨_, at_l, rfl⟩ F.entry_tuple_mul (F.args_tuple_mul_2 _ _) (tmul_same (n := n) (dd := dd) (sl := sl) near ?_) ⟨at_l, .ref l, H, I, rfl, q⟩
    rw [emp, one]
    rcases h with h | h
    · rw [decide_eq_true h, Bool.true_or]
    · rw [decide_eq_true h, Bool.or_true]
  · refine call_meets F.slot_tuple_mul ⟨_, at_l, rfl⟩ F.entry_tuple_mul (F.args_tuple_mul_2 _ _) (tmul_none (n := n) (dd := dd) (sl := sl) near ?_ ?_) ⟨at_l, .ref s.heap.objs.size, _, I.laid (t' := s.toks) (o := .tup []) (fun _ _ e => Heap.get?_push_of_some _ e) (Nat.le_refl _) ⟨Nat.zero_le _, [], .nil, _, Heap.get?_push_size _ rfl, rfl, _, rfl⟩, rfl, q _ (I.hok.fresh (Nat.le_refl _))⟩
    · rw [emp, one, decide_eq_false h, decide_eq_false (by omega)]; rfl
    · rw [decide_eq_true hk, Bool.true_or]
def mulU : T → T → Option T
  | .tup xs, .int k => if -1000 ≤ k ∧ k ≤ 1000 ∧ xs.length ≤ 1000 then some (.tup (List.replicate k.toNat xs).flatten) else none
  | _, _ => none
def rMany (K : PySem.W.Frag) : R2 := fun x y H Q => rFew K x y H Q ∨ rRepT K x y H Q
theorem v_mulU {X : Cx} {G : Gm} (hK : X.K = G.K) : OpV G (rMany X.K) mulU := fun w H r x y t u z Q g d1 d2 e q => by
  rw [hK]
  cases d1 with
  | @tup p vs ts h1 z1 dd =>
    cases d2 with
    | int k =>
      have e : (if -1000 ≤ k ∧ k ≤ 1000 ∧ ts.length ≤ 1000 then some (T.tup (List.replicate k.toNat ts).flatten) else none) = some z := e
      by_cases small : -1000 ≤ k ∧ k ≤ 1000 ∧ ts.length ≤ 1000
      · rw [if_pos small] at e
        cases e
        have nil : vs = [] ↔ ts = [] := by cases dd <;> simp
        by_cases e0 : ts = []
        · refine .inl ⟨p, k, vs, rfl, rfl, tup_sq g.sub h1, small.1, small.2.1, .inl ⟨.inl (nil.mpr e0), q _ w H (Step.refl _ _) g ?_⟩⟩
          have flat : (List.replicate k.toNat ts).flatten = ts := by rw [e0]; simp
          rw [flat]
          exact .tup h1 z1 dd
        · by_cases e1 : k = 1
          · refine .inl ⟨p, k, vs, rfl, rfl, tup_sq g.sub h1, small.1, small.2.1, .inl ⟨.inr e1, q _ w H (Step.refl _ _) g ?_⟩⟩
            have flat : (List.replicate k.toNat ts).flatten = ts := by rw [e1]; simp
            rw [flat]
            exact .tup h1 z1 dd
          · by_cases k0 : k ≤ 0
            · refine .inl ⟨p, k, vs, rfl, rfl, tup_sq g.sub h1, small.1, small.2.1, .inr ⟨⟨fun e => e0 (nil.mp e), k0⟩, fun a ha => ?_⟩⟩
              obtain ⟨st, g2⟩ := g.new (o := .tup []) ha
              have flat : (List.replicate k.toNat ts).flatten = [] := by rw [show k.toNat = 0 by omega]; rfl
              rw [flat] at q
              exact q _ _ _ st g2 (.tup (.inl upd_same) (Nat.zero_le _) .nil)
            · refine .inr ⟨p, k, vs, rfl, rfl, tup_sq g.sub h1, fun e => e0 (nil.mp e), by omega, small.2.1, by rw [dd.length]; exact small.2.2, fun a ha => ?_⟩
              obtain ⟨st, g2⟩ := g.new (o := .tup (List.replicate k.toNat vs).flatten) ha
              refine q _ _ _ st g2 (.tup (.inl upd_same) ?_ ((dens_rep dd _).mono st.later))
              rw [len_rep, sizeLine_eq]
              have := Nat.mul_le_mul small.2.2 (show k.toNat ≤ 1000 by omega)
              omega
      · rw [if_neg small] at e; cases e
    | _ => cases e
  | _ => cases e
theorem Bd.mulU {X : Cx} {G : Gm} {W : WX} {j : Nat} {a b : Expr} {f g : Env → M T} {pos : Pos} (B : Bd X G W j) (ha : SE X G W a f) (hb : SE X G W b g) : SE X G W (.BinOp a .Mult b pos) (fBin Ep.mulU f g) := s_bin (op_few.or op_repT) (v_mulU B.eK) ha hb
/-- xs + ys, the first a list of the frame's own -/
theorem l_catK {X : Cx} {G : Gm} {W : WX} {pos : Pos} {a b : Expr} {f g : Env → M T} (ha : SK X G W a f) (hb : SE X G W b g) : SL X G W (.BinOp a .Add b pos) (fBinL catL f g) :=
  pe_imp (pe_op op_cat ha hb) fun σ H Q ⟨w, H0, env, r, g0, s, h0⟩ => by
    refine seqK g0 s h0 fun t r1 w1 H1 x g1 s1 st1 d1 h1 => ?_
    refine seqE g1 s1 h1 fun u r2 w2 H2 y g2 s2 st2 d2 h2 => ?_
    have d1 := d1.step st2
    obtain ⟨z, ez, h3⟩ := liftP h2
    have fin : ∀ l vs, H2 l = none → Dens G w2 vs z → z.length ≤ sizeLine → Q (.ref l) (upd H2 l (.lst vs)) := fun l vs hl dd zz =>
      h3 w2 _ ((Step.refl w2 H2).priv hl) (new_own g2 hl) l vs (fun z => nvs hl (st1.trans st2 |>.keep l z)) (g2.nopub hl) (g2.noref hl) upd_same dd zz
    rcases d1 with d1 | ⟨p, vs, xs, rfl, rfl, _, hp, dd, _⟩
    · exact v_catL w2 H2 r2 x y t u z Q g2 d1 d2 ez fin
    · cases d2 with
      | @lst p2 vs2 ts2 hq z2 dd2 =>
        have ez : (if xs.length + ts2.length ≤ 100000 then some (xs ++ ts2) else none) = some z := ez
        by_cases few : xs.length + ts2.length ≤ 100000
        · rw [if_pos few] at ez
          obtain rfl := Option.some.inj ez
          exact ⟨p, p2, vs, vs2, rfl, rfl, hp, g2.sub _ _ hq, by rw [dd.length, dd2.length]; exact le_size few, fun l hl => fin l _ hl (dd.append dd2) (by rw [List.length_append]; exact le_size few)⟩
        · rw [if_neg few] at ez; cases ez
      | _ => cases ez
end Ep
/-! displays with stars, list(range(..)), sorted(ints), walks over a new dict of a comprehension. -/
namespace Ep
open PySem PySem.Spec PyProof.Rows L2
/-! ### arguments with stars -/
def tSAx (G : Gm) (W : WX) (f : Env → M (List T)) : TA := fun σ H Q => ∃ w H0 env r, Good G w H r ∧ Slots G w H0 H σ env ∧ OutP G w H (WE0 W σ) (fun ts _ w' H' => ∀ vs, Dens G w' vs ts → Q vs H') (f env r)
abbrev SAx (X : Cx) (G : Gm) (W : WX) (es : List Expr) (f : Env → M (List T)) : Prop := PA X es (tSAx G W f)
def fCons (f : Env → M T) (g : Env → M (List T)) : Env → M (List T) := fun env => f env >>= fun x => g env >>= fun xs => pure (x :: xs)
def mSeq (t : T) : M (List T) := fun r => M.lift (seqT r t) r
def fStar (f : Env → M T) (g : Env → M (List T)) : Env → M (List T) := fun env => f env >>= fun x => mSeq x >>= fun xs => g env >>= fun ys => pure (xs ++ ys)
section
variable {X : Cx} {G : Gm} {W : WX} {pos : Pos} {a e : Expr} {es : List Expr} {f : Env → M T} {g : Env → M (List T)} {fs : List (Env → M T)}
theorem seqAx {α : Type} {w : Wd} {H0 H : Hp} {r : RS} {σ : L2.St} {env : Env} {k : List T → M α} {P : α → RS → Wd → Hp → Prop} {Q : List V → Hp → Prop} (g0 : Good G w H r) (s : Slots G w H0 H σ env) (h : OutP G w H (WE0 W σ) P ((g env >>= k) r))
    (n : ∀ t r1 w1 H1 v, Good G w1 H1 r1 → Slots G w1 H0 H1 σ env → Step w H w1 H1 → Dens G w1 v t → OutP G w1 H1 (WE0 W σ) P (k t r1) → Q v H1) : tSAx G W g σ H Q :=
  ⟨w, H0, env, r, g0, s, h.bind.imp fun t r1 w1 H1 st g1 o v d => n t r1 w1 H1 v g1 (s.step st) st d o⟩
theorem ax_of (h : SA X G W es fs) : SAx X G W es (fAll fs) := pa_imp h fun σ H Q ⟨w, H0, env, r, g, s, h⟩ => ⟨w, H0, env, r, g, s, h.imp fun _ _ _ _ _ _ z v d _ => z v d⟩
theorem ax_cons (ha : SE X G W e f) (hr : SAx X G W es g) (hs : starEach (e :: es) X.env = (false, eval e X.env) :: starEach es X.env := by rfl) : SAx X G W (e :: es) (fCons f g) :=
  pa_imp (pa_cons ha hr hs) fun σ H Q ⟨w, H0, env, r, g0, s, h0⟩ => by
    refine seqE g0 s h0 fun t r1 w1 H1 x g1 s1 st1 d1 h1 => ?_
    refine seqAx g1 s1 h1 fun ts r2 w2 H2 xs g2 s2 st2 d2 h2 => ?_
    exact OutP.here g2 h2 (x :: xs) (.cons (d1.mono st2.later) d2)
theorem ax_star {p : Pos} (hK : X.K = G.K) (he : SK X G W e f) (hr : SAx X G W es g) (hs : starEach (.Starred e p :: es) X.env = (true, eval e X.env) :: starEach es X.env := by rfl) : SAx X G W (.Starred e p :: es) (fStar f g) :=
  pa_imp (StX.pa_star he hr hs) fun σ H Q ⟨w, H0, env, r, g0, s, h0⟩ => by
    refine seqK g0 s h0 fun t r1 w1 H1 x g1 s1 st1 d1 h1 => ?_
    have h1 := h1.bind
    have h1 : OutP G w1 H1 (WE0 W σ) _ (M.lift (seqT r1 t) r1) := h1
    obtain ⟨xs, ex, h2⟩ := liftP h1
    obtain ⟨b, rfl, sq⟩ := seq_of g1 d1 ex
    have h3 := h2 w1 H1 (Step.refl _ _) g1
    rw [hK]
    cases sq with
    | l vs h d z => exact ⟨b, vs, rfl, .inr h, seqAx g1 s1 h3 fun ts r2 w2 H2 us g2 s2 st2 d2 h4 => OutP.here g2 h4 (vs ++ us) ((d.mono st2.later).append d2)⟩
    | t vs h d z => exact ⟨b, vs, rfl, .inl h, seqAx g1 s1 h3 fun ts r2 w2 H2 us g2 s2 st2 d2 h4 => OutP.here g2 h4 (vs ++ us) ((d.mono st2.later).append d2)⟩
def fitL (ts : List T) : M (List T) := if ts.length ≤ sizeLine then pure ts else M.bad
def fTupX (g : Env → M (List T)) : Env → M T := fun env => g env >>= fun ts => fitL ts >>= fun us => pure (.tup us)
def fLstX (g : Env → M (List T)) : Env → M T := fun env => g env >>= fun ts => fitL ts >>= fun us => pure (.lst us)
theorem fit_use {α : Type} {w : Wd} {H : Hp} {r : RS} {E : XK} {ts : List T} {k : List T → M α} {P : α → RS → Wd → Hp → Prop} (g : Good G w H r) (h : OutP G w H E P ((fitL ts >>= k) r)) : ts.length ≤ sizeLine ∧ OutP G w H E P (k ts r) := by
  unfold fitL at h
  by_cases q : ts.length ≤ sizeLine
  · rw [if_pos q] at h; exact ⟨q, h⟩
  · rw [if_neg q] at h; exact h.elim
theorem s_tupX {j : Nat} (ha : SAx X G W es g) : SE X G W (.Tuple es j pos) (fTupX g) :=
  pe_imp (pe_tup ha) fun σ H Q ⟨w, H0, env, r, g0, s, h0⟩ => by
    refine seqAx g0 s h0 fun ts r1 w1 H1 vs g1 s1 st1 d1 h1 => ?_
    obtain ⟨hz, h1⟩ := fit_use g1 h1
    refine ⟨by rw [d1.length]; exact hz, fun p hp => ?_⟩
    obtain ⟨st, g2⟩ := g1.new (o := .tup vs) hp
    exact h1 _ _ st g2 _ (.tup (.inl upd_same) hz (d1.mono st.later))
theorem s_lstX (ha : SAx X G W es g) : SE X G W (.List es pos) (fLstX g) :=
  pe_imp (pe_lst ha) fun σ H Q ⟨w, H0, env, r, g0, s, h0⟩ => by
    refine seqAx g0 s h0 fun ts r1 w1 H1 vs g1 s1 st1 d1 h1 => ?_
    obtain ⟨hz, h1⟩ := fit_use g1 h1
    refine ⟨by rw [d1.length]; exact hz, fun p hp => ?_⟩
    obtain ⟨st, g2⟩ := g1.new (o := .lst vs) hp
    exact h1 _ _ st g2 _ (.lst upd_same hz (d1.mono st.later))
end
/-! ### list(range(..)) -/
def rgsT (a b : T) : Option T := match a, b with
  | .int i, .int j => if -(2 ^ 62) ≤ i ∧ i < 2 ^ 62 ∧ -(2 ^ 62) ≤ j ∧ j < 2 ^ 62 ∧ (j - i).toNat ≤ 2 ^ 24 then some (.lst (rngL i (j - i).toNat)) else none
  | _, _ => none
theorem rg_dens {G : Gm} {w : Wd} (i : Int) (n : Nat) : Dens G w ((List.range n).map fun k => V.int (i + (k : Nat))) (rngL i n) := by
  unfold rngL
  generalize List.range n = l
  induction l with
  | nil => exact .nil
  | cons k l ih => exact .cons (.int _) ih
section
variable {X : Cx} {G : Gm} {W : WX} {pos pos2 p p2 : Pos} {a b : Expr} {f g : Env → M T}
theorem rg_use {w : Wd} {H : Hp} {r : RS} {E : XK} {x y z : T} {vx vy : V} {Q : VK} (g1 : Good G w H r) (dx : Den G w vx x) (dy : Den G w vy y) (e : rgsT x y = some z) (h : ∀ w' H', Step w H w' H' → Good G w' H' r → ∀ v, Den G w' v z → Q v H') :
    ∃ i j, vx = .int i ∧ vy = .int j ∧ RgOk i j ∧ ∀ q, H q = none → Q (.ref q) (upd H q (.lst (rgV i j))) := by
  unfold rgsT at e
  split at e
  · rename_i i j
    split at e
    · rename_i c
      cases e
      cases dx
      cases dy
      refine ⟨i, j, rfl, rfl, c, fun q hq => ?_⟩
      obtain ⟨st, g2⟩ := g1.new (o := .lst (rgV i j)) hq
      refine h _ _ st g2 _ (.lst upd_same ?_ (rg_dens i _))
      rw [show (rngL i (j - i).toNat).length = (j - i).toNat by simp [rngL], sizeLine_eq]
      have := c.2.2.2.2
      omega
    · cases e
  · cases e
theorem s_lrg1 (hc : X.calm = true) (hl : Gl X "list") (ml : X.mg "list" = none) (hg : Gl X "range") (hm : X.mg "range" = none) (ha : SE X G W a f) (hs : starEach [a] X.env = (false, eval a X.env) :: starEach [] X.env := by rfl)
    (hs2 : starEach [Expr.Call (.Name "range" p) [a] [] pos] X.env = (false, eval (Expr.Call (.Name "range" p) [a] [] pos) X.env) :: starEach [] X.env := by rfl) :
    SE X G W (.Call (.Name "list" p2) [.Call (.Name "range" p) [a] [] pos] [] pos2) (fBin rgsT (fC (.int 0)) f) :=
  pe_imp (pe_listRg hc hl ml (prg_1 hg hm ha hs) hs2) fun σ H Q ⟨w, H0, env, r, g0, s, h0⟩ => by
    have h0 : OutP G w H (WE0 W σ) (fun t _ w' H' => ∀ v, Den G w' v t → Q v H') ((f env >>= fun y => M.lift (rgsT (.int 0) y)) r) := h0
    refine seqE g0 s h0 fun t r1 w1 H1 x g1 s1 st1 d1 h1 => ?_
    obtain ⟨z, ez, h2⟩ := liftP h1
    obtain ⟨i, j, e1, e2, ok, q⟩ := rg_use (E := WE0 W σ) g1 (.int 0) d1 ez h2
    cases e1
    exact ⟨j, e2, ok, q⟩
theorem s_lrg2 (hc : X.calm = true) (hl : Gl X "list") (ml : X.mg "list" = none) (hg : Gl X "range") (hm : X.mg "range" = none) (ha : SE X G W a f) (hb : SE X G W b g) (hs : starEach [a, b] X.env = (false, eval a X.env) :: starEach [b] X.env := by rfl)
    (hs1 : starEach [b] X.env = (false, eval b X.env) :: starEach [] X.env := by rfl) (hpl : (backTo pos (starEach [b] X.env)).any (·.1) = false := by rfl)
    (hs2 : starEach [Expr.Call (.Name "range" p) [a, b] [] pos] X.env = (false, eval (Expr.Call (.Name "range" p) [a, b] [] pos) X.env) :: starEach [] X.env := by rfl) :
    SE X G W (.Call (.Name "list" p2) [.Call (.Name "range" p) [a, b] [] pos] [] pos2) (fBin rgsT f g) :=
  pe_imp (pe_listRg hc hl ml (prg_2 hg hm ha hb hs hs1 hpl) hs2) fun σ H Q ⟨w, H0, env, r, g0, s, h0⟩ => by
    refine seqE g0 s h0 fun t r1 w1 H1 x g1 s1 st1 d1 h1 => ?_
    refine seqE g1 s1 h1 fun u r2 w2 H2 y g2 s2 st2 d2 h2 => ?_
    obtain ⟨z, ez, h3⟩ := liftP h2
    exact rg_use (E := WE0 W σ) g2 (d1.mono st2.later) d2 ez h3
end
/-! ### sorted(ints) -/
def sortI (ns : List Int) : List Int := ns.mergeSort (fun a b => decide (a ≤ b))
theorem sortI_perm (ns : List Int) : (sortI ns).Perm ns := List.mergeSort_perm _ _
theorem sortI_le (ns : List Int) : (sortI ns).Pairwise (· ≤ ·) :=
  (List.pairwise_mergeSort (le := fun a b : Int => decide (a ≤ b)) (fun a b c h1 h2 => by simp at *; omega) (fun a b => by simp; omega) ns).imp fun h => by simpa using h
theorem sort_one : ∀ {xs ys : List Int}, xs.Perm ys → xs.Pairwise (· ≤ ·) → ys.Pairwise (· ≤ ·) → xs = ys
  | [], ys, p, _, _ => (List.nil_perm.mp p).symm ▸ rfl
  | x :: xs, [], p, _, _ => absurd p.length_eq (by simp)
  | x :: xs, y :: ys, p, hx, hy => by
    have h1 := List.pairwise_cons.mp hx
    have h2 := List.pairwise_cons.mp hy
    have e : x = y := by
      have a : y ∈ x :: xs := p.mem_iff.mpr (List.mem_cons_self ..)
      have b : x ∈ y :: ys := p.mem_iff.mp (List.mem_cons_self ..)
      rcases List.mem_cons.mp a with q | q
      · exact q.symm
      · rcases List.mem_cons.mp b with q' | q'
        · exact q'
        · have := h1.1 y q; have := h2.1 x q'; omega
    subst e
    rw [sort_one ((List.perm_cons x).mp p) h1.2 h2.2]
def sortT (r : RS) (t : T) : Option T := (lstT r t).bind fun xs => (intsT xs).map fun ns => .lst ((sortI ns).map T.int)
theorem ints_back {G : Gm} {w : Wd} : ∀ ns : List Int, Dens G w (ns.map V.int) (ns.map T.int)
  | [] => .nil
  | _ :: ns => .cons (.int _) (ints_back ns)
theorem ints_len : ∀ {ts : List T} {ns : List Int}, intsT ts = some ns → ns.length = ts.length
  | [], ns, e => by cases e; rfl
  | t :: ts, ns, e => by
    cases t <;> try (cases e)
    rename_i i
    have e : (intsT ts).map (i :: ·) = some ns := e
    cases q : intsT ts with
    | none => rw [q] at e; exact nomatch e
    | some ms => rw [q] at e; cases e; simp [ints_len q]
theorem v_sort {X : Cx} {G : Gm} (hK : X.K = G.K) : B1 G (rSortedI X.K) sortT := fun w H r v t z Q g d e q => by
  unfold sortT at e
  obtain ⟨xs, e1, e⟩ := Option.bind_eq_some_iff.mp e
  obtain ⟨ns, e2, rfl⟩ := Option.map_eq_some_iff.mp e
  obtain ⟨a, vs, rfl, hq, dd, hz⟩ := lst_of g d e1
  have ev := ints_of dd e2
  subst ev
  refine ⟨a, ns, rfl, by rw [hK]; exact hq, fun ns' p hp hs hn => ?_⟩
  obtain rfl : ns' = sortI ns := sort_one (hp.trans (sortI_perm ns).symm) hs (sortI_le ns)
  obtain ⟨st, g2⟩ := g.new (o := .lst ((sortI ns).map V.int)) hn
  exact q _ _ _ st g2 (.lst upd_same (by rw [List.length_map, (sortI_perm ns).length_eq, ints_len e2]; exact hz) (ints_back _))
/-! ### {k: v for x in xs if p}, a new dict -/
def compD (vs : List Nat) (h : T → Env → Option Env) (p : Env → M Bool) (fk fv : Env → M T) : List T → List Key → List T → Env → M (List Key × List T)
  | [], ks, ts, _ => pure (ks, ts)
  | x :: xs, ks, ts, env => match h x (wipeE env vs) with
    | none => M.bad
    | some env1 => noEx (p env1) >>= fun b => if b = true then noEx (fk env1) >>= fun y => noEx (fv env1) >>= fun z => (match keyT y with
        | some k => if ks.length < sizeLine then compD vs h p fk fv xs (putKs ks k) (putVs ks ts k z) env else M.bad
        | none => M.bad) else compD vs h p fk fv xs ks ts env
def fCompD (vs : List Nat) (h : T → Env → Option Env) (p : Env → M Bool) (fk fv : Env → M T) (fi : Env → M (List T)) : Env → M (List Key × List T) := fun env => fi env >>= fun xs => compD vs h p fk fv xs [] [] env
/-- one turn: a key and its value stored into the dict at D, or the turn passed over; then R -/
def DTurn (g : TG) (tt : TT) (tk tv : TE) (vs : List Nat) (σ : L2.St) (D : Addr) (x : V) (Ha : Hp) (R : Hp → Prop) : Prop := g x (wipe σ vs) Ha fun τ Hb => wipe τ vs = wipe σ vs ∧ tt τ Hb fun taken Hc => if taken = true then (tk τ Hc fun y Hd => tv τ Hd fun u He => ∃ kvs k, y = kV k ∧ He D = some (.dK kvs) ∧ kvs.length < sizeLine ∧ R (upd He D (.dK (putK kvs k u)))) else R Hc
theorem dc_by {J : It} {n : Nat} {Gd : Hp → Prop} {Y : Nat → Hp → V → Hp → Prop} (wk : Walk J n Gd Y) {g : TG} {tt : TT} {tk tv : TE} {vs : List Nat} {σ : L2.St} {H1 : Hp} {Q : VK} (Pv : Addr → Nat → Hp → Prop) (h0 : ∀ D, H1 D = none → Pv D 0 (upd H1 D (.dK []))) (hG : ∀ D i H, Pv D i H → Gd H)
    (hs : ∀ D i x Ha Hb, H1 D = none → i < n → Pv D i Ha → Y i Ha x Hb → DTurn g tt tk tv vs σ D x Hb (Pv D (i + 1))) (hd : ∀ D H, H1 D = none → Pv D n H → Q (.ref D) H) : tDc (fun _ H R => R J H) g tt tk tv vs σ H1 Q := fun D hD =>
  ⟨fun i m H => i + m = n ∧ Pv D i H, ⟨n, Nat.zero_add n, h0 D hD⟩, fun i m H ⟨em, p⟩ => match m, em with
    | 0, em => .inl (by subst em; exact ⟨wk.stops H (hG D _ H p), hd D H hD p⟩)
    | m + 1, em => .inr ⟨wk.goes i H (by omega) (hG D i H p), Pv D (i + 1), fun H' q => ⟨m, Nat.lt_succ_self m, by omega, q⟩, fun x H' y => hs D i x H H' hD (by omega) p (wk.yields i H x H' (by omega) (hG D i H p) y)⟩⟩
section
variable {X : Cx} {G : Gm} {W : WX} {pos : Pos} {fk fv : Env → M T} {p : Env → M Bool} {env : Env} {r : RS} {w : Wd} {H0 H : Hp} {σ : L2.St}
theorem dcomp_use {us vs : List Nat} {h : T → Env → Option Env} {fi : Env → M (List T)} {Q : VK} (hu : ∀ j ∈ us, j ∈ vs) (hq : tSN G W (fCompD vs h p fk fv fi) σ H Q) : tDc (tSI G W fi) (tGx G us h) (tSB G W0 p) (tS G W0 fk) (tS G W0 fv) vs σ H Q := by
  obtain ⟨w, H0, env, r, g, s, hq⟩ := hq
  refine seqI g s hq fun xs r1 w1 H1 J g1 s1 st1 it h1 => ?_
  obtain ⟨Gd, Y, wk, hG, hY⟩ := it
  have stD : ∀ D, H1 D = none → Step w1 H1 w1 (upd H1 D (.dK [])) := fun D hD => (Step.refl w1 H1).priv hD
  refine dc_by wk (fun D i H' => ∃ w' r' ks ts vs', Step w1 H1 w' H' ∧ Good G w' H' r' ∧ w'.P D = none ∧ D ∉ w'.R ∧ H' D = some (.dK (ks.zip vs')) ∧ ks.length = ts.length ∧ Dens G w' vs' ts ∧ OutP G w1 H1 (WE0 W σ) (fun p _ w' H' => ∀ a vs, ¬ Vs H a → w'.P a = none → a ∉ w'.R → H' a = some (.dK (p.1.zip vs)) → p.1.length = p.2.length → p.1.length ≤ sizeLine → Dens G w' vs p.2 → Q (.ref a) H') (compD vs h p fk fv (xs.drop i) ks ts env r') ∧ ks.length ≤ sizeLine)
    (fun D hD => ⟨w1, r1, [], [], [], stD D hD, g1.priv (g1.nopub hD) (g1.noref hD) (.inl hD), g1.nopub hD, g1.noref hD, upd_same, rfl, .nil, h1, Nat.zero_le _⟩)
    (fun D i H' ⟨w', r', _, _, _, st, g', _⟩ => hG w' H' r' st.later g') ?_ ?_
  · rintro D i x H2 H3 hD hlt ⟨w', r', ks, ts, us', st, g', hP, hR, hh, hl, d, hc, hz⟩ y
    obtain ⟨t, w2, ht, st2, g2, dx⟩ := hY i H2 x H3 w' r' st.later g' hlt y
    have hP2 := st2.hid D hR (vs_of hh) hP
    have hR2 := st2.noR hR (vs_of hh)
    have hh2 := st2.fr D _ hR hh (by intro _ e; cases e)
    have d2 := d.mono st2.later
    have s2 := ((s1.step st).step st2).wiped vs
    obtain ⟨Hb, aB, _⟩ := s2.rebase g2
    have ed : xs.drop i = t :: xs.drop (i + 1) := by
      obtain ⟨_, rfl⟩ := List.getElem?_eq_some_iff.mp ht
      exact List.drop_eq_getElem_cons hlt
    rw [ed] at hc
    unfold compD at hc
    cases q : h t (wipeE env vs) with
    | none => rw [q] at hc; exact hc.elim
    | some env1 =>
      rw [q] at hc
      refine ⟨w2, Hb, w2, _, r', t, env1, aB, dx, q, fun σ2 sl b => ⟨wipe_but b hu, ?_⟩⟩
      refine ⟨w2, Hb, env1, r', g2, sl, (noEx_use hc).imp fun b r3 w3 H4 st3 g3 hc => ?_⟩
      have hP3 := st3.hid D hR2 (vs_of hh2) hP2
      have hR3 := st3.noR hR2 (vs_of hh2)
      have hh3 := st3.fr D _ hR2 hh2 (by intro _ e; cases e)
      have d3 := d2.mono st3.later
      have stA := (st.trans st2).trans st3
      have sl3 := sl.step st3
      cases b with
      | false => exact ⟨w3, r3, ks, ts, us', stA, g3, hP3, hR3, hh3, hl, d3, hc, hz⟩
      | true =>
        refine ⟨w3, Hb, env1, r3, g3, sl3, (noEx_use (m := fk env1) hc).imp fun y r4 w4 H5 st4 g4 hc v dv => ?_⟩
        have hP4 := st4.hid D hR3 (vs_of hh3) hP3
        have hR4 := st4.noR hR3 (vs_of hh3)
        have hh4 := st4.fr D _ hR3 hh3 (by intro _ e; cases e)
        have d4 := d3.mono st4.later
        refine ⟨w4, Hb, env1, r4, g4, sl3.step st4, (noEx_use (m := fv env1) hc).imp fun z r5 w5 H6 st5 g5 hc u du => ?_⟩
        have hP5 := st5.hid D hR4 (vs_of hh4) hP4
        have hR5 := st5.noR hR4 (vs_of hh4)
        have hh5 := st5.fr D _ hR4 hh4 (by intro _ e; cases e)
        have d5 := d4.mono st5.later
        have stB := (stA.trans st4).trans st5
        cases qk : keyT y with
        | none => rw [qk] at hc; exact hc.elim
        | some k =>
          rw [qk] at hc
          by_cases hlz : ks.length < sizeLine
          · have hc : OutP G w1 H1 (WE0 W σ) (fun p _ w' H' => ∀ a vs, ¬ Vs H a → w'.P a = none → a ∉ w'.R → H' a = some (.dK (p.1.zip vs)) → p.1.length = p.2.length → p.1.length ≤ sizeLine → Dens G w' vs p.2 → Q (.ref a) H') (compD vs h p fk fv (xs.drop (i + 1)) (putKs ks k) (putVs ks ts k z) env r5) := by
              have hc := hc
              dsimp only at hc
              rw [if_pos hlz] at hc
              exact hc
            have ll : ks.length = us'.length := by rw [hl, d5.length]
            refine ⟨ks.zip us', k, key_of' dv qk, hh5, by rw [List.length_zip]; omega, w5, r5, putKs ks k, putVs ks ts k z, putVs ks us' k u, stB.chg (nvs hD), g5.priv hP5 hR5 (.inr ⟨_, hh5, ⟨fun _ e => (by cases e), fun _ e => (by cases e)⟩⟩), hP5, hR5, by rw [putK_zip k u ll]; exact upd_same, putKV_len k z hl, Dens.put du d5, hc, ?_⟩
            have := putKs_len k ks
            omega
          · dsimp only at hc
            rw [if_neg hlz] at hc
            exact hc.elim
  · rintro D H2 hD ⟨w', r', ks, ts, us', st, g', hP, hR, hh, hl, d, hc, hz⟩
    rw [List.drop_length] at hc
    exact hc w' H2 st g' D us' (st1.before hD) hP hR hh hl hz d
variable {kx vx tg iter : Expr} {ifs : List Expr} {scope : Scope} {own : List (Str × Nat)} {us : List Nat} {h : T → Env → Option Env} {fi : Env → M (List T)}
theorem n_dcomp (hc : X.calm = true) (hN : X.N.Nodup) (hi : SI X G W tg iter fi) (ok : BlkOk X.N X.env.scope scope own) (hu : ∀ j ∈ us, j ∈ own.map (·.2))
    (hg : ∀ (s : Shared) (H : Hp) (C : Addr) (cl : List (Str × Addr)) (fp : List Addr), SG (X.blk s H scope (compEnvC scope cl C X.env) fp) G us tg h) (ht : ∀ (s : Shared) (H : Hp) (C : Addr) (cl : List (Str × Addr)) (fp : List Addr), STs (X.blk s H scope (compEnvC scope cl C X.env) fp) G ifs p)
    (hk : ∀ (s : Shared) (H : Hp) (C : Addr) (cl : List (Str × Addr)) (fp : List Addr), SE (X.blk s H scope (compEnvC scope cl C X.env) fp) G W0 kx fk) (he : ∀ (s : Shared) (H : Hp) (C : Addr) (cl : List (Str × Addr)) (fp : List Addr), SE (X.blk s H scope (compEnvC scope cl C X.env) fp) G W0 vx fv)
    (hs : ∀ x, foldedSetIterable iter X.env x = pure x := by intro _; rfl) : SN X G W (.DictComp kx vx [⟨tg, iter, ifs, 0⟩] scope pos) (fCompD (own.map (·.2)) h p fk fv fi) :=
  pe_imp (pe_dc hc hN hi ok (fun s H C cl fp => pg_x (hg s H C cl fp)) ht hk he hs) fun σ H Q q => dcomp_use hu q
end
/-! ### walking a new dict -/
def keyV : Key → T
  | .inl i => .int i
  | .inr z => .str z
theorem den_key {G : Gm} {w : Wd} : ∀ k : Key, Den G w (kV k) (keyV k)
  | .inl i => .int i
  | .inr z => .str z
def fKeys (f : Env → M (List Key × List T)) : Env → M (List T) := fun env => f env >>= fun p => pure (p.1.map keyV)
def iKeysF (td : TE) : TI := fun σ H R => td σ H fun x H1 => ∃ d kvs, x = .ref d ∧ H1 d = some (.dK kvs) ∧ ∀ od, R (Itk d od kvs) (upd H1 d (.frz od (.dK kvs)))
section
variable {X : Cx} {G : Gm} {W : WX} {tg e : Expr}
theorem pi_keysF {td : TE} (he : PE X e td) : PI X tg e (iKeysF td) := by
  refine ⟨fun pins s σ H R I h => thn (he.run pins s σ H _ I h) fun u s1 ⟨x, H1, I1, rx, d, kvs, ex, hd, q⟩ => ?_⟩
  subst ex
  cases rx
  obtain ⟨od, I2⟩ := I1.lock hd trivial
  obtain ⟨hs, hgd, hx, es, ep, vs, hdt, hsz, kv, hm⟩ := I2.frzK upd_same
  refine iter_keys hs hgd hx hdt (pi_one (tk := s1.toks) I2 _ (turn_keys _ hdt) ⟨_, Heap.get?_push_size _ rfl, rfl, ?_⟩ (q od))
  rw [hsz]
  rfl
theorem it_keys {w : Wd} {d : Addr} {od : Obj} {ks : List Key} {vs : List V} (hl : ks.length = vs.length) (h : w.P d = some (.frz od (.dK (ks.zip vs)))) : ItOk G w (Itk d od (ks.zip vs)) (ks.map keyV) := by
  have len : (ks.map keyV).length = (ks.zip vs).length := by rw [List.length_map, List.length_zip, ← hl, Nat.min_self]
  refine ⟨_, _, by rw [len]; exact walk_keys, fun w' H' r' L g => g.sub _ _ (L.pub _ _ h), fun i H1 v H2 w1 r1 L g hi y => ?_⟩
  obtain ⟨e, k, u, hk, ev⟩ := y
  subst e ev
  have hk' : ks[i]? = some k := by
    rw [List.getElem?_zip_eq_some] at hk
    exact hk.1
  exact ⟨keyV k, w1, by rw [List.getElem?_map, hk']; rfl, Step.refl _ _, g, den_key k⟩
theorem i_keysF {f : Env → M (List Key × List T)} (h : SN X G W e f) : SI X G W tg e (fKeys f) :=
  pi_imp (pi_keysF h) fun σ H R ⟨w, H0, env, r, g, s, h⟩ => by
    refine ⟨w, H0, env, r, g, s, ?_⟩
    have h : OutP G w H (WE0 W σ) (fun xs _ w' H' => ∀ J, ItOk G w' J xs → R J H') (M.bind (f env) (fun p => M.pure (p.1.map keyV)) r) := h
    unfold M.bind at h
    cases q : f env r with
    | ok p r1 =>
      rw [q] at h
      intro w1 H1 st g1 a vs ha hP hR hh hl hz d
      refine ⟨a, p.1.zip vs, rfl, hh, fun od => ?_⟩
      have st2 := (st.chg (o := .frz od (.dK (p.1.zip vs))) ha).publish (o := .frz od (.dK (p.1.zip vs))) ha hP
      have g2 := (g1.priv (o := .frz od (.dK (p.1.zip vs))) hP hR (.inr ⟨_, hh, ⟨fun _ e => (by cases e), fun _ e => (by cases e)⟩⟩)).publish hP hR upd_same
      exact h _ _ st2 g2 _ (it_keys (by rw [hl, d.length]) upd_same)
    | exn c p r1 => rw [q] at h; exact h
    | bad => rw [q] at h; exact h
end
section
variable {X : Cx} {G : Gm} {W : WX} {j : Nat} {pos p p2 : Pos} {a b : Expr} {f g : Env → M T}
theorem Bd.lrg1 (B : Bd X G W j) (ml : G.mg "list" = none) (mr : G.mg "range" = none) (ha : SE X G W a f) (gl : Gl X "list" := by rfl) (gr : Gl X "range" := by rfl) (hs : starEach [a] X.env = (false, eval a X.env) :: starEach [] X.env := by rfl)
    (hs2 : starEach [Expr.Call (.Name "range" p) [a] [] pos] X.env = (false, eval (Expr.Call (.Name "range" p) [a] [] pos) X.env) :: starEach [] X.env := by rfl) {pos2 : Pos} :
    SE X G W (.Call (.Name "list" p2) [.Call (.Name "range" p) [a] [] pos] [] pos2) (fBin rgsT (fC (.int 0)) f) := s_lrg1 B.calm gl (by rw [B.eM]; exact ml) gr (by rw [B.eM]; exact mr) ha hs hs2
theorem Bd.lrg2 (B : Bd X G W j) (ml : G.mg "list" = none) (mr : G.mg "range" = none) (ha : SE X G W a f) (hb : SE X G W b g) (gl : Gl X "list" := by rfl) (gr : Gl X "range" := by rfl) (hs : starEach [a, b] X.env = (false, eval a X.env) :: starEach [b] X.env := by rfl)
    (hs1 : starEach [b] X.env = (false, eval b X.env) :: starEach [] X.env := by rfl) (hpl : (backTo pos (starEach [b] X.env)).any (·.1) = false := by rfl)
    (hs2 : starEach [Expr.Call (.Name "range" p) [a, b] [] pos] X.env = (false, eval (Expr.Call (.Name "range" p) [a, b] [] pos) X.env) :: starEach [] X.env := by rfl) {pos2 : Pos} :
    SE X G W (.Call (.Name "list" p2) [.Call (.Name "range" p) [a, b] [] pos] [] pos2) (fBin rgsT f g) := s_lrg2 B.calm gl (by rw [B.eM]; exact ml) gr (by rw [B.eM]; exact mr) ha hb hs hs1 hpl hs2
theorem Bd.sorted (B : Bd X G W j) (m : G.mg "sorted" = none) (ha : SK X G W a f) (hg : Gl X "sorted" := by rfl) (hs : starEach [a] X.env = (false, eval a X.env) :: starEach [] X.env := by rfl) : SE X G W (.Call (.Name "sorted" p) [a] [] pos) (fB1 sortT f) := s_b1 cr_sortedI (v_sort B.eK) hg (by rw [B.eM]; exact m) rfl ha hs
variable {fk fv : Env → M T} {q : Env → M Bool} {kx vx tg iter : Expr} {ifs : List Expr} {scope : Scope} {us : List Nat} {h : T → Env → Option Env} {fi : Env → M (List T)}
theorem Bd.dcomp (B : Bd X G W j) (own : List (Str × Nat)) (hi : SI X G W tg iter fi)
    (hg : ∀ (s : Shared) (H : Hp) (C : Addr) (cl : List (Str × Addr)) (fp : List Addr), SG (X.blk s H scope (compEnvC scope cl C X.env) fp) G us tg h) (ht : ∀ (s : Shared) (H : Hp) (C : Addr) (cl : List (Str × Addr)) (fp : List Addr), STs (X.blk s H scope (compEnvC scope cl C X.env) fp) G ifs q)
    (hk : ∀ (s : Shared) (H : Hp) (C : Addr) (cl : List (Str × Addr)) (fp : List Addr), SE (X.blk s H scope (compEnvC scope cl C X.env) fp) G W0 kx fk) (he : ∀ (s : Shared) (H : Hp) (C : Addr) (cl : List (Str × Addr)) (fp : List Addr), SE (X.blk s H scope (compEnvC scope cl C X.env) fp) G W0 vx fv)
    (ok : blkC X.N X.env.scope scope own = true := by kernel_rfl) (hu : ∀ j ∈ us, j ∈ own.map (·.2) := by decide) (hs : ∀ x, foldedSetIterable iter X.env x = pure x := by intro _; rfl) : SN X G W (.DictComp kx vx [⟨tg, iter, ifs, 0⟩] scope pos) (fCompD (own.map (·.2)) h q fk fv fi) := n_dcomp B.calm B.nd hi (blkOk_by ok) hu hg ht hk he hs
end
end Ep
/-! list(zip(a, b)) of two lists. -/
namespace Ep
open PySem PySem.Spec PyProof.Rows L2
theorem zip_len0 : typeLookup (.type "zip") "__len__" = pure none := by rw [typeLookup_type, builtinLookup_eq_fast]; kernel_rfl
theorem zip_hint0 : typeLookup (.type "zip") "__length_hint__" = pure none := by rw [typeLookup_type, builtinLookup_eq_fast]; kernel_rfl
/-- two lists and the zip that walks both, i turns on; S: the list that takes the pairs -/
structure ZW (z TI TO i1 i2 l1 l2 S : Addr) (xs ys : Array Value) (i : Nat) (h : Heap) : Prop where
  ti : IsPair h TI (.ref i1) (.ref i2)
  c1 : h.IsListIter i1 l1 i
  c2 : h.IsListIter i2 l2 i
  a1 : h.IsList l1 xs
  a2 : h.IsList l2 ys
  z : (IsZip h z TI TO .none ∧ ∃ a b, IsPair h TO a b) ∨ ∃ T f oT, IsZipHeld h z TI TO T f ∧ h.get? T = some oT ∧ T ≠ z ∧ T ≠ i1 ∧ T ≠ i2 ∧ T ≠ S
section
variable {z TI TO i1 i2 l1 l2 S : Addr} {xs ys : Array Value} {i : Nat}
/-- a write at S alone leaves it -/
theorem ZW.put {h h' : Heap} (w : ZW z TI TO i1 i2 l1 l2 S xs ys i h) (k : ∀ b o, b ≠ S → h.get? b = some o → h'.get? b = some o) (n : ∀ b ∈ [z, TI, TO, i1, i2, l1, l2], b ≠ S) : ZW z TI TO i1 i2 l1 l2 S xs ys i h' := by
  have nz : z ≠ S := n _ (by simp)
  refine ⟨k _ _ (n _ (by simp)) w.ti, w.c1.at fun o e => k _ o (n _ (by simp)) e, w.c2.at fun o e => k _ o (n _ (by simp)) e, w.a1.at fun o e => k _ o (n _ (by simp)) e, w.a2.at fun o e => k _ o (n _ (by simp)) e, ?_⟩
  rcases w.z with ⟨hz, a, b, hT⟩ | ⟨T, f, oT, hz, hT, r1, r2, r3, r4⟩
  · exact .inl ⟨k _ _ nz hz, a, b, k _ _ (n _ (by simp)) hT⟩
  · exact .inr ⟨T, f, oT, k _ _ nz hz, k _ _ r4 hT, r1, r2, r3, r4⟩
variable {s : Shared} {A : Around} {P : Program} {w : World} {E : Value → Shared → Prop}
theorem ZW.item (D : ZipApart z TI TO i1 i2 l1 l2) (st : ZW z TI TO i1 i2 l1 l2 S xs ys i s.heap) (hS : S < s.heap.objs.size) {x y : Value} (ex : xs[i]? = some x) (ey : ys[i]? = some y) {Q : Option Value → Shared → Prop}
    (q : ∀ h', IsPair h' s.heap.objs.size x y → ZW z TI TO i1 i2 l1 l2 S xs ys (i + 1) h' → (∀ c o, c ∉ [z, TO, i1, i2] → s.heap.get? c = some o → h'.get? c = some o) → Q (some (.ref s.heap.objs.size)) { s with heap := h' }) : wpAny (model P w) A (pyNext (.ref z)) Q E s := by
  have gone : ∀ {c o}, s.heap.get? c = some o → s.heap.objs.size ≠ c := fun e => Nat.ne_of_gt (Heap.lt_size e)
  have g1 : s.heap.objs.size ≠ i1 := let ⟨_, e, _⟩ := st.c1; gone e
  have g2 : s.heap.objs.size ≠ i2 := let ⟨_, e, _⟩ := st.c2; gone e
  rcases st.z with ⟨hz, a, b, hT⟩ | ⟨T, f, oT, hz, hT, r1, r2, r3, r4⟩
  · refine wpAny_pyNext_zip_item D hz st.ti hT st.c1 st.c2 st.a1 st.a2 ex ey fun h' b1 _ b3 b4 b5 _ k => q h' b5 ⟨k _ _ D.TIz D.TITO D.TIi1 D.TIi2 st.ti, b3, b4, st.a1.at fun o e => k _ o D.l1z D.l1TO D.l1i1 D.l1i2 e, st.a2.at fun o e => k _ o D.l2z D.l2TO D.l2i1 D.l2i2 e, .inr ⟨_, false, _, b1, b5, gone hz, g1, g2, Nat.ne_of_gt hS⟩⟩ fun c o hc e => ?_
    simp only [List.mem_cons, List.not_mem_nil, or_false, not_or] at hc
    exact k c o hc.1 hc.2.1 hc.2.2.1 hc.2.2.2 e
  · refine wpAny_pyNext_zip_item_held D hz hT st.ti st.c1 st.c2 st.a1 st.a2 ex ey fun h' b1 b3 b4 b5 _ k => q h' b5 ⟨k _ _ D.TIz D.TIi1 D.TIi2 st.ti, b3, b4, st.a1.at fun o e => k _ o D.l1z D.l1i1 D.l1i2 e, st.a2.at fun o e => k _ o D.l2z D.l2i1 D.l2i2 e, .inr ⟨T, true, oT, b1, k _ _ r1 r2 r3 hT, r1, r2, r3, r4⟩⟩ fun c o hc e => ?_
    simp only [List.mem_cons, List.not_mem_nil, or_false, not_or] at hc
    exact k c o hc.1 hc.2.2.1 hc.2.2.2 e
theorem ZW.done (hh : A.handled = none) (D : ZipApart z TI TO i1 i2 l1 l2) (st : ZW z TI TO i1 i2 l1 l2 S xs ys (min xs.size ys.size) s.heap) {Q : Option Value → Shared → Prop}
    (q : ∀ h', (∀ c o, c ∉ [z, TO, i1, i2] → s.heap.get? c = some o → h'.get? c = some o) → Q none { s with heap := h' }) : wpAny (model P w) A (pyNext (.ref z)) Q E s := by
  have en : xs[min xs.size ys.size]? = none ∨ ys[min xs.size ys.size]? = none := by
    rw [Array.getElem?_eq_none_iff, Array.getElem?_eq_none_iff]
    omega
  rcases st.z with ⟨hz, a, b, hT⟩ | ⟨T, f, oT, hz, hT, r1, r2, r3, r4⟩
  · refine wpAny_pyNext_zip_end hh D hz st.ti hT st.c1 st.c2 st.a1 st.a2 en fun h' k => q h' fun c o hc e => ?_
    simp only [List.mem_cons, List.not_mem_nil, or_false, not_or] at hc
    exact k c o hc.1 hc.2.1 hc.2.2.1 hc.2.2.2 e
  · refine wpAny_pyNext_zip_end_held hh D hz hT st.ti st.c1 st.c2 st.a1 st.a2 en fun h' k => q h' fun c o hc e => ?_
    simp only [List.mem_cons, List.not_mem_nil, or_false, not_or] at hc
    exact k c o hc.1 hc.2.2.1 hc.2.2.2 e
end
/-- the pairs of two rows, drawn one by one into new tuples: what a world keeps of it -/
structure ZJ (us vs : List V) (J : Nat → List V → Hp → Prop) : Prop where
  step : ∀ i ws H q x y, J i ws H → H q = none → us[i]? = some x → vs[i]? = some y → J (i + 1) (ws ++ [.ref q]) (upd H q (.tup [x, y]))
section
variable {X : Cx} {pins : List (Addr × Obj)} {σ : L2.St} {H0 : Hp} {s0 : Shared} {z TI TO i1 i2 l1 l2 S : Addr} {us vs : List V} {xs ys : Array Value}
/-- the list S as it stands; s0: ahead of the zip's making -/
structure ZE (X : Cx) (pins : List (Addr × Obj)) (σ : L2.St) (S : Addr) (H0 : Hp) (s0 : Shared) (i : Nat) (H : Hp) (s : Shared) (ws : List V) (acc : Array Value) (c : Nat) : Prop where
  I : Inv X pins σ H s
  own : s.heap.get? S = some (lstObj acc c)
  rel : Vals ws acc.toList
  len : ws.length = i
  free : H S = none
  gt : s0.heap.objs.size ≤ S
  old : ∀ b o, s0.heap.get? b = some o → s.heap.get? b = some o
  hp : ∀ b, b < s0.heap.objs.size → H b = H0 b
  os : s.os = s0.os
/-- the loop amid its turns -/
structure ZL (X : Cx) (pins : List (Addr × Obj)) (σ : L2.St) (z TI TO i1 i2 l1 l2 S : Addr) (H0 : Hp) (s0 : Shared) (J : Nat → List V → Hp → Prop) (i : Nat) (H : Hp) (s : Shared) (ws : List V) (acc : Array Value) (c : Nat) : Prop where
  e : ZE X pins σ S H0 s0 i H s ws acc c
  fr : ∀ b ∈ [z, TO, i1, i2, S], FpOk X pins H b ∧ s0.heap.objs.size ≤ b ∧ b < s.heap.objs.size
  j : J i ws H
  ne : ∀ b ∈ [z, TI, TO, i1, i2, l1, l2], b ≠ S
variable {J : Nat → List V → Hp → Prop} {i : Nat} {H : Hp} {s : Shared} {ws : List V} {acc : Array Value} {c : Nat}
theorem in5 {b : Addr} (m : b ∈ [z, TO, i1, i2]) : b ∈ [z, TO, i1, i2, S] := by
  simp only [List.mem_cons, List.not_mem_nil, or_false] at m ⊢
  rcases m with h | h | h | h <;> simp [h]
theorem in7 {b : Addr} (m : b ∈ [z, TO, i1, i2]) : b ∈ [z, TI, TO, i1, i2, l1, l2] := by
  simp only [List.mem_cons, List.not_mem_nil, or_false] at m ⊢
  rcases m with h | h | h | h <;> simp [h]
/-- the end: the list is known -/
theorem ZE.known (L : ZE X pins σ S H0 s0 i H s ws acc c) (I0 : Inv X pins σ H0 s0) (few : i ≤ sizeLine) : Inv X pins σ (upd H S (.lst ws)) s := by
  have lt : ∀ b u, H0 b = some u → b < s0.heap.objs.size := fun b u e => by
    rcases Nat.lt_or_ge b s0.heap.objs.size with h | h
    · exact h
    · rw [I0.hok.fresh h] at e; cases e
  have at_ : ∀ b, b < s0.heap.objs.size → upd H S (.lst ws) b = H0 b := fun b h => by rw [upd_ne (Nat.ne_of_lt (Nat.lt_of_lt_of_le h L.gt)), L.hp b h]
  refine I0.call' (ch := []) L.os ⟨fun b o e _ _ _ => L.old b o e, fun b o e _ _ _ => ⟨o.slots, L.old b o e⟩, fun b o e n _ => (at_ b (Heap.lt_size e)).trans n, fun b o e _ => ⟨o, L.old b o e⟩, fun b xs e => (at_ b (lt b _ e)).trans e, fun b o u e => (at_ b (lt b _ e)).trans e, fun b ps e => ⟨#[], by rw [at_ b (lt b _ e), e]; simp⟩⟩ (fun b u e => ?_) L.I.bare (fun b hb => absurd hb List.not_mem_nil)
  by_cases q : b = S
  · subst q
    rw [upd_same] at e
    cases e
    exact ⟨by rw [L.len]; exact few, acc.toList, c, L.rel, L.own⟩
  · rw [upd_ne q] at e
    refine (L.I.hok b u e).stay (fun _ _ _ h => h) (fun d h => ?_) (fun d v h => ?_)
    · rw [upd_ne (ne_of_none h L.free)]; exact h
    · rw [upd_ne (ne_of_none h L.free)]; exact h
theorem loop_turn {P : Program} {w : World} {B : Around} {R : Result → Shared → Prop} {a : Args} (h : wpAny (model P w) B.in1 (Builtin.«list.extend.loop» a) (fun fin s' => match fin with | .done f => R (.ok f) s' | .again c' => c'.quiet = true ∧ codeAny (model P w) B c' R s') (fun e s' => R (.error e) s') s) : codeAny (model P w) B (.builtin "list.extend.loop" a) R s :=
  codeAny_builtin F.entry_extend_loop (by rw [Around.under_plainId F.plain_extend_loop]; exact h)
theorem ZL.turned {h' : Heap} (L : ZL X pins σ z TI TO i1 i2 l1 l2 S H0 s0 J i H s ws acc c) (kp : ∀ c o, c ∉ [z, TO, i1, i2] → s.heap.get? c = some o → h'.get? c = some o) : ZE X pins σ S H0 s0 i H { s with heap := h' } ws acc c where
  I := L.e.I.turnedL (t' := s.toks) (ch := [z, TO, i1, i2]) kp fun b hb => (L.fr b (in5 hb)).1
  own := kp S _ (fun m => L.ne S (in7 m) rfl) L.e.own
  rel := L.e.rel
  len := L.e.len
  free := L.e.free
  gt := L.e.gt
  old := fun b o q => kp b o (fun m => absurd (L.fr b (in5 m)).2.1 (Nat.not_le.mpr (Heap.lt_size q))) (L.e.old b o q)
  hp := L.e.hp
  os := L.e.os
theorem zl_run (hc : X.calm = true) (D : ZipApart z TI TO i1 i2 l1 l2) (r1 : Vals us xs.toList) (r2 : Vals vs ys.toList) (hJ : ZJ us vs J) (few : min xs.size ys.size ≤ sizeLine) {B : Around} (hB : B.handled = none) {R : Result → Shared → Prop} {res : Value} (I0 : Inv X pins σ H0 s0)
    (fin : ∀ H s ws, Inv X pins σ (upd H S (.lst ws)) s → J (min xs.size ys.size) ws H → ws.length = min xs.size ys.size → H S = none → R (.ok (.ret res)) s) :
    ∀ (k i : Nat) (H : Hp) (s : Shared) (ws : List V) (acc : Array Value) (c : Nat), min xs.size ys.size = i + k → ZL X pins σ z TI TO i1 i2 l1 l2 S H0 s0 J i H s ws acc c → ZW z TI TO i1 i2 l1 l2 S xs ys i s.heap → codeAny (model X.prog X.w) B (.builtin "list.extend.loop" ⟨[.ref S, .ref z, res], []⟩) R s := by
  intro k
  induction k with
  | zero =>
    intro i H s ws acc c e L st
    obtain rfl : min xs.size ys.size = i := e
    refine loop_turn ?_
    show wpAny _ B.in1 (pyNext (.ref z) >>= _) _ _ s
    refine wpAny_bind (wpAny_mono (Q := fun o s' => o = none ∧ ∃ h', s' = { s with heap := h' } ∧ ∀ c o, c ∉ [z, TO, i1, i2] → s.heap.get? c = some o → h'.get? c = some o) (st.done (A := B.in1) hB D fun h' kp => ⟨rfl, h', rfl, kp⟩) ?_ fun _ _ h => h)
    rintro o s' ⟨rfl, h', rfl, kp⟩
    refine wpAny_pure ?_
    exact fin H _ ws ((L.turned kp).known I0 few) L.j L.e.len L.e.free
  | succ k ih =>
    intro i H s ws acc c e L st
    have lx : i < xs.size := by omega
    have ly : i < ys.size := by omega
    obtain ⟨x, ex, rx⟩ := vals_back r1 (i := i) (v := xs[i]) (by simp)
    obtain ⟨y, ey, ry⟩ := vals_back r2 (i := i) (v := ys[i]) (by simp)
    refine loop_turn ?_
    show wpAny _ B.in1 (pyNext (.ref z) >>= _) _ _ s
    refine wpAny_bind (st.item (A := B.in1) D (Heap.lt_size L.e.own) (Array.getElem?_eq_getElem lx) (Array.getElem?_eq_getElem ly) fun h' pq st' kp => ?_)
    have oS : h'.get? S = some (lstObj acc c) := kp S _ (fun m => L.ne S (in7 m) rfl) L.e.own
    have asz : acc.size = i := by rw [← L.e.len, L.e.rel.length]; simp
    show wpAny _ B.in1 (updateSeq S (·.push (.ref s.heap.objs.size)) >>= _) _ _ _
    have own2 := Heap.get?_update_self (Obj.mapSeq (·.push (Value.ref s.heap.objs.size))) oS rfl
    refine wpAny_bind (wpAny_updateSeq oS rfl (wpAny_pure ⟨plainId_quiet F.plain_extend_loop _, ih (i + 1) (upd H s.heap.objs.size (.tup [x, y])) _ (ws ++ [.ref s.heap.objs.size]) (acc.push (.ref s.heap.objs.size)) (if (acc.push (Value.ref s.heap.objs.size)).size == acc.size then c else c + 1) (by omega) ?_ (st'.put (fun b o n q => (Heap.get?_update_other _ _ (Ne.symm n)).trans q) L.ne)⟩) (by rw [asz]; omega) (by show (acc.push _).size ≤ _; rw [Array.size_push, asz]; omega))
    have put : ∀ b o, b ≠ S → h'.get? b = some o → (h'.update S (Obj.mapSeq (·.push (.ref s.heap.objs.size)))).get? b = some o := fun b o n q => (Heap.get?_update_other _ _ (Ne.symm n)).trans q
    have keep : ∀ b o, b ∉ [z, TO, i1, i2, S] → s.heap.get? b = some o → (h'.update S (Obj.mapSeq (·.push (.ref s.heap.objs.size)))).get? b = some o := fun b o n q => put b o (fun e => n (by simp [e])) (kp b o (fun m => n (in5 m)) q)
    have qS : s.heap.objs.size ≠ S := Nat.ne_of_gt (Heap.lt_size L.e.own)
    have qlt : s.heap.objs.size < (h'.update S (Obj.mapSeq (·.push (.ref s.heap.objs.size)))).objs.size := Heap.lt_size (put _ _ qS pq)
    refine ⟨⟨?_, own2, ?_, ?_, (upd_ne (Ne.symm qS)).trans L.e.free, L.e.gt, fun b o q => keep b o (fun m => absurd (L.fr b m).2.1 (Nat.not_le.mpr (Heap.lt_size q))) (L.e.old b o q), fun b h => ?_, L.e.os⟩, fun b hb => ⟨⟨(upd_ne (Nat.ne_of_lt (L.fr b hb).2.2)).trans (L.fr b hb).1.1, (L.fr b hb).1.2⟩, (L.fr b hb).2.1, Nat.lt_trans (L.fr b hb).2.2 qlt⟩, ?_, L.ne⟩
    · exact L.e.I.turnedNew (t' := s.toks) (ch := [z, TO, i1, i2, S]) keep (fun b hb => (L.fr b hb).1) (Nat.le_refl _) ⟨by show 2 ≤ sizeLine; decide, [xs[i], ys[i]], .cons rx (.cons ry .nil), ⟨_, put _ _ qS pq, rfl, _, rfl⟩⟩
    · rw [Array.toList_push]; exact L.e.rel.append (.cons rfl .nil)
    · rw [List.length_append, L.e.len]; rfl
    · exact (upd_ne (Nat.ne_of_lt (Nat.lt_of_lt_of_le h (Nat.le_trans L.e.gt (Nat.le_of_lt (Heap.lt_size L.e.own)))))).trans (L.e.hp b h)
    · exact hJ.step i ws H _ x y L.j (L.e.I.hok.fresh (Nat.le_refl _)) ex ey
end
/-! ### the call -/
section
variable {X : Cx} {pins : List (Addr × Obj)} {σ : L2.St} {H0 : Hp} {s0 s : Shared} {z : Addr} {A : Around} {E : Value → Shared → Prop} {Q : Value → Shared → Prop} {P : Program} {w : World}
theorem zip_room {TI TO : Addr} {f0 : Value} (hz : IsZip s.heap z TI TO f0) {Q : Bool → Shared → Prop} (q : Q true s) : wpAny (model P w) A (Builtin.List.listLengthHint (.ref z)) Q E s := by
  have ty : s.TypeIs (.ref z) "zip" := ⟨_, hz, rfl⟩
  rw [Builtin.List.listLengthHint]
  refine wpAny_bind (wpAny_specialOf ty zip_len0 ?_)
  show wpAny _ A (specialOf (Value.ref z) (Str.ofString "__length_hint__") >>= _) _ _ _
  exact wpAny_bind (wpAny_specialOf ty zip_hint0 (wpAny_pure q))
/-- list.__init__ of a zip: its loop begins -/
theorem zip_init {TI TO S : Addr} {R : Result → Shared → Prop} (hz : IsZip s.heap z TI TO .none) (hS : s.heap.get? S = some (lstObj #[] 0)) (ne : S ≠ z)
    (q : ∀ h' c, (∀ b o, b ≠ S → s.heap.get? b = some o → h'.get? b = some o) → h'.get? S = some (lstObj #[] c) → codeAny (model P w) A (.builtin "list.extend.loop" ⟨[.ref S, .ref z, .none], []⟩) R { s with heap := h' }) :
    wpAny (model P w) A.in1 (Builtin.«list.__init__» ⟨[.ref S, .ref z], []⟩) (fun fin s' => match fin with | .done f => R (.ok f) s' | .again c' => c'.quiet = true ∧ codeAny (model P w) A c' R s') (fun e s' => R (.error e) s') s := by
  have oth : ∀ (h : Heap) (f : Array Value → Array Value) (b : Addr) (o : Obj), b ≠ S → h.get? b = some o → (h.update S (Obj.mapSeq f)).get? b = some o := fun h f b o n e => (Heap.get?_update_other _ _ (Ne.symm n)).trans e
  show wpAny _ _ (Builtin.List.listItems (.ref S) >>= fun old => Builtin.List.listUpdate (.ref S) (fun _ => #[]) >>= fun _ => letGo old.toList.reverse >>= fun _ => Builtin.List.listExtendWith (.ref S) (.ref z) .none) _ _ s
  unfold Builtin.List.listItems
  refine wpAny_bind (wpAny_bind (wpAny_seqItems hS rfl (wpAny_pure ?_)))
  refine wpAny_bind (m := updateSeq S (fun _ => #[])) (wpAny_updateSeq hS rfl (wpAny_bind (wpAny_letGo ?_)))
  have o1 := Heap.get?_update_self (Obj.mapSeq (fun _ => (#[] : Array Value))) hS rfl
  have z1 : IsZip (s.heap.update S (Obj.mapSeq (fun _ => (#[] : Array Value)))) z TI TO .none := oth _ _ _ _ (Ne.symm ne) hz
  rw [Builtin.List.listExtendWith]
  refine wpAny_bind (wpAny_typeOf (T := "zip") ⟨_, z1, rfl⟩ ?_)
  rw [if_neg (by simp [Builtin.List.listSameRef, ne] <;> decide)]
  refine wpAny_bind (wpAny_pyIter_zip z1 (wpAny_bind (wpAny_holding (zip_room z1 ?_))))
  rw [if_pos (by rfl)]
  refine wpAny_bind (wpAny_rule (wpAny_bind (m := updateSeq S (·.push .none) >>= fun _ => updateSeq S (·.pop)) (wpAny_bind (wpAny_updateSeq o1 rfl ?_))))
  have o2 := Heap.get?_update_self (Obj.mapSeq (·.push Value.none)) o1 rfl
  refine wpAny_updateSeq (hz := by seq_fits) o2 rfl (wpAny_pure ⟨plainId_quiet F.plain_extend_loop _, q _ _ (fun b o n e => oth _ _ _ _ n (oth _ _ _ _ n (oth _ _ _ _ n e))) (Heap.get?_update_self (Obj.mapSeq (·.pop)) o2 rfl)⟩)
/-- list(z), z the zip of two lists -/
theorem zip_list {TI TO i1 i2 l1 l2 : Addr} {us vs : List V} {xs ys : Array Value} {H : Hp} {J : Nat → List V → Hp → Prop} (hc : X.calm = true) (hB : X.A.handled = none) (D : ZipApart z TI TO i1 i2 l1 l2) (r1 : Vals us xs.toList) (r2 : Vals vs ys.toList) (hJ : ZJ us vs J) (few : min xs.size ys.size ≤ sizeLine)
    (I0 : Inv X pins σ H s0) (I : Inv X pins σ H s) (os : s.os = s0.os) (gt : s0.heap.objs.size ≤ s.heap.objs.size) (old : ∀ b o, s0.heap.get? b = some o → s.heap.get? b = some o) (hz : IsZip s.heap z TI TO .none) (hTI : IsPair s.heap TI (.ref i1) (.ref i2)) (hTO : ∃ a b, IsPair s.heap TO a b) (c1 : s.heap.IsListIter i1 l1 0) (c2 : s.heap.IsListIter i2 l2 0)
    (a1 : s.heap.IsList l1 xs) (a2 : s.heap.IsList l2 ys) (new : ∀ b ∈ [z, TO, i1, i2], s0.heap.objs.size ≤ b) (hn : ∀ b ∈ [z, TO, i1, i2], FpOk X pins H b) (j0 : J 0 [] H)
    (q : ∀ H' s' ws S, Inv X pins σ (upd H' S (.lst ws)) s' → J (min xs.size ys.size) ws H' → ws.length = min xs.size ys.size → H' S = none → Q (.ref S) s') : wpAny (model X.prog X.w) X.A (call (.type "list") [.ref z]) Q E s := by
  refine callType_codes (Q₁ := fun obj s₁ => obj = .ref s.heap.objs.size ∧ s₁ = { s with heap := s.heap.push (lstObj #[] 0) }) F.called_list (F.typeCall_list_1 _) F.entry_list_init (code_list_new _ ⟨rfl, rfl⟩) fun obj s₁ h₁ => ?_
  obtain ⟨rfl, rfl⟩ := h₁
  have up : ∀ b o, s.heap.get? b = some o → (s.heap.push (lstObj #[] 0)).get? b = some o := fun b o e => Heap.get?_push_of_some _ e
  have gS : (s.heap.push (lstObj #[] 0)).get? s.heap.objs.size = some (lstObj #[] 0) := Heap.get?_push_size _ rfl
  have ex : ∀ b ∈ [z, TI, TO, i1, i2, l1, l2], ∃ o, s.heap.get? b = some o := fun b m => by
    obtain ⟨_, _, e3⟩ := hTO
    obtain ⟨_, e4, _⟩ := c1
    obtain ⟨_, e5, _⟩ := c2
    obtain ⟨_, e6, _⟩ := a1
    obtain ⟨_, e7, _⟩ := a2
    simp only [List.mem_cons, List.not_mem_nil, or_false] at m
    rcases m with rfl | rfl | rfl | rfl | rfl | rfl | rfl
    · exact ⟨_, hz⟩
    · exact ⟨_, hTI⟩
    · exact ⟨_, e3⟩
    · exact ⟨_, e4⟩
    · exact ⟨_, e5⟩
    · exact ⟨_, e6⟩
    · exact ⟨_, e7⟩
  have ne : ∀ b ∈ [z, TI, TO, i1, i2, l1, l2], b ≠ s.heap.objs.size := fun b m => let ⟨_, e⟩ := ex b m; Nat.ne_of_lt (Heap.lt_size e)
  refine ⟨⟨_, gS, rfl⟩, F.args_list_init_2 _ _, zip_init (A := X.A.in1) (s := { s with heap := s.heap.push (lstObj #[] 0) }) (up _ _ hz) gS (Ne.symm (ne z (by simp))) fun h' c kp oS => ?_⟩
  have kp2 : ∀ b o, s.heap.get? b = some o → h'.get? b = some o := fun b o e => kp b o (Nat.ne_of_lt (Heap.lt_size e)) (up b o e)
  refine zl_run hc D r1 r2 hJ few (B := X.A.in1) hB I0 (fun H' s' ws I' j l f => ⟨rfl, q H' s' ws _ I' j l f⟩) (min xs.size ys.size) 0 H _ [] #[] c (by simp) ⟨⟨I.kept (t' := s.toks) kp2, oS, .nil, rfl, I.hok.fresh (Nat.le_refl _), gt, fun b o e => kp2 b o (old b o e), fun _ _ => rfl, os⟩, fun b m => ?_, j0, ne⟩
    ⟨kp2 _ _ hTI, c1.at fun o e => kp2 _ o e, c2.at fun o e => kp2 _ o e, a1.at fun o e => kp2 _ o e, a2.at fun o e => kp2 _ o e, .inl ⟨kp2 _ _ hz, let ⟨a, b, e⟩ := hTO; ⟨a, b, kp2 _ _ e⟩⟩⟩
  by_cases e : b = s.heap.objs.size
  · subst e
    exact ⟨I.fpOk (Nat.le_refl _) (I.hok.fresh (Nat.le_refl _)), gt, Heap.lt_size oS⟩
  · have m4 : b ∈ [z, TO, i1, i2] := by
      simp only [List.mem_cons, List.not_mem_nil, or_false] at m ⊢
      rcases m with h | h | h | h | h
      · exact .inl h
      · exact .inr (.inl h)
      · exact .inr (.inr (.inl h))
      · exact .inr (.inr (.inr h))
      · exact absurd h e
    obtain ⟨o, g⟩ := ex b (in7 m4)
    exact ⟨hn b m4, new b m4, Heap.lt_size (kp2 b o g)⟩
end
def tZipL (K : PySem.W.Frag) (ta : TA) : TE := fun σ H Q => ta σ H fun ws H1 => ∃ a b us vs J, ws = [.ref a, .ref b] ∧ SqL K H1 a us ∧ SqL K H1 b vs ∧ ZJ us vs J ∧ J 0 [] H1 ∧ ∀ H' ws S, J (min us.length vs.length) ws H' → ws.length = min us.length vs.length → H' S = none → Q (.ref S) (upd H' S (.lst ws))
section
variable {X : Cx}
theorem pe_zipL {e e2 : Expr} {ta : TA} {p np pos pos2 : Pos} (hc : X.calm = true) (hl : Gl X "list") (ml : X.mg "list" = none) (hg : Gl X "zip") (hm : X.mg "zip" = none) (ha : PA X [e, e2] ta) (hs : starEach [e, e2] X.env = (false, eval e X.env) :: starEach [e2] X.env) (hpl : (backTo pos (starEach [e2] X.env)).any (·.1) = false)
    (hs2 : starEach [Expr.Call (.Name "zip" np) [e, e2] [] pos] X.env = (false, eval (Expr.Call (.Name "zip" np) [e, e2] [] pos) X.env) :: starEach [] X.env := by rfl) : PE X (.Call (.Name "list" p) [.Call (.Name "zip" np) [e, e2] [] pos] [] pos2) (tZipL X.K ta) where
  run pins s σ H Q I h := by
    refine Call_ (ld_blt I hl ml boot_list (PyProof.Rows.callWith_type1 (args_cons (Call_ (ld_blt I hg hm PyProof.Rows.boot_zip (PyProof.Rows.callWith_type1 (thn (ha.run pos pins s σ H _ I h) fun us s1 ⟨ws, H1, I1, r1, a, b, xs, ys, J, ev, sx, sy, hJ, j0, q⟩ => ?_) hs hpl))) hs2) hs2))
    subst ev
    obtain ⟨u1, rest, rfl, rx, r2⟩ : ∃ u1 rest, us = u1 :: rest ∧ RelV (.ref a) u1 ∧ Vals [.ref b] rest := by cases r1 with | cons a b => exact ⟨_, _, rfl, a, b⟩
    obtain ⟨u2, rfl, ry⟩ := vals1 r2
    cases rx
    cases ry
    obtain ⟨as, ra, pa, za⟩ := I1.list sx
    obtain ⟨bs, rb, pb, zb⟩ := I1.list sy
    have la : a < s1.heap.objs.size := pa.lt
    have lb : b < s1.heap.objs.size := pb.lt
    have mn : min as.toArray.size bs.toArray.size = min xs.length ys.length := by rw [ra.length, rb.length]; simp
    refine zip_begins2 (begins_list a as.toArray) (begins_list b bs.toArray) pa.isList pb.isList fun h' hz hTI hTO g1 g2 sz kept => args_nil ?_
    generalize hn : s1.heap.objs.size = n at *
    have hn' : ∀ k : Nat, n ≤ (n + k : Nat) := Nat.le_add_right n
    refine zip_list (s0 := s1) (s := { s1 with heap := h' }) (H := H1) (J := J) hc (I1.ok.hd hc) (z := n + 4) (TI := n + 2) (TO := n + 3) (i1 := n) (i2 := n + 1) (l1 := a) (l2 := b) ?_ ra rb hJ (by rw [mn]; exact Nat.le_trans (Nat.min_le_left _ _) za) I1 (I1.kept (t' := s1.toks) kept) rfl (by rw [hn]; show n ≤ h'.objs.size; rw [sz]; exact hn' 5) kept hz hTI ⟨_, _, hTO⟩ (Src.cur_new (.l a) g1) (Src.cur_new (.l b) g2) (pa.isList.at fun o e => kept _ o e) (pb.isList.at fun o e => kept _ o e) (fun c m => ?_) (fun c m => ?_) j0 fun H' s' ws S I' j l f => ⟨.ref S, _, I', rfl, q H' ws S (by rw [← mn]; exact j) (by rw [← mn]; exact l) f⟩
    · have k : ∀ i j : Nat, i ≠ j → (n + i : Nat) ≠ n + j := fun i j ne e => ne (Nat.add_left_cancel e)
      have na : ∀ k : Nat, a ≠ n + k := fun k => Nat.ne_of_lt (Nat.lt_of_lt_of_le la (hn' k))
      have nb : ∀ k : Nat, b ≠ n + k := fun k => Nat.ne_of_lt (Nat.lt_of_lt_of_le lb (hn' k))
      exact ⟨k 2 4 (by decide), k 3 4 (by decide), k 0 4 (by decide), k 1 4 (by decide), k 2 3 (by decide), k 2 0 (by decide), k 2 1 (by decide), k 3 0 (by decide), k 3 1 (by decide), k 0 1 (by decide), na 4, na 3, na 0, na 1, nb 4, nb 3, nb 0, nb 1⟩
    · rw [hn]
      simp only [List.mem_cons, List.not_mem_nil, or_false] at m
      rcases m with rfl | rfl | rfl | rfl <;> first | exact Nat.le_refl _ | exact hn' _
    · refine I1.fpOk ?_ (I1.hok.fresh ?_) <;>
      · rw [hn]
        simp only [List.mem_cons, List.not_mem_nil, or_false] at m
        rcases m with rfl | rfl | rfl | rfl <;> first | exact Nat.le_refl _ | exact hn' _
end
def zipLT : List T → Option T
  | [t, u] => (lstOnly t).bind fun xs => (lstOnly u).bind fun ys => if (zipL xs ys).length ≤ sizeLine then some (.lst (zipL xs ys)) else none
  | _ => none
def fZipL (f g : Env → M T) : Env → M T := fun env => fAll [f, g] env >>= fun ts => M.lift (zipLT ts)
section
variable {X : Cx} {G : Gm} {W : WX} {pos pos2 p np : Pos} {a b : Expr} {f g : Env → M T}
theorem zipJ {w1 : Wd} {H1 : Hp} {r1 : RS} {us vs : List V} {xs ys : List T} (da : Dens G w1 us xs) (db : Dens G w1 vs ys) : ZJ us vs (fun i ws H' => ∃ w', Step w1 H1 w' H' ∧ Good G w' H' r1 ∧ Dens G w' ws ((zipL xs ys).take i)) := by
  refine ⟨fun i ws H q x y ⟨w', st, g', d⟩ hq hx hy => ?_⟩
  obtain ⟨tx, ex, dx⟩ := da.getV hx
  obtain ⟨ty, ey, dy⟩ := db.getV hy
  obtain ⟨st2, g2⟩ := g'.new (o := .tup [x, y]) hq
  have L := st.later.trans st2.later
  refine ⟨_, st.trans st2, g2, ?_⟩
  rw [List.take_add_one, zipL_at xs ys i tx ty ex ey]
  exact (d.mono st2.later).append (.cons (.tup (.inl upd_same) (by rw [sizeLine_eq]; simp) (.cons (dx.mono L) (.cons (dy.mono L) .nil))) .nil)
theorem s_zipL (hK : X.K = G.K) (hc : X.calm = true) (hl : Gl X "list") (ml : X.mg "list" = none) (hg : Gl X "zip") (hm : X.mg "zip" = none) (ha : SE X G W a f) (hb : SE X G W b g)
    (hs : starEach [a, b] X.env = (false, eval a X.env) :: starEach [b] X.env := by rfl) (hs2 : starEach [b] X.env = (false, eval b X.env) :: starEach [] X.env := by rfl) (hpl : (backTo pos (starEach [b] X.env)).any (·.1) = false := by rfl)
    (hs3 : starEach [Expr.Call (.Name "zip" np) [a, b] [] pos] X.env = (false, eval (Expr.Call (.Name "zip" np) [a, b] [] pos) X.env) :: starEach [] X.env := by rfl) :
    SE X G W (.Call (.Name "list" p) [.Call (.Name "zip" np) [a, b] [] pos] [] pos2) (fZipL f g) :=
  pe_imp (pe_zipL hc hl ml hg hm (a_cons ha (a_cons hb a_nil hs2) hs) hs hpl hs3) fun σ H Q ⟨w, H0, env, r, g0, s, h0⟩ => by
    refine seqA g0 s h0 fun ts r1 w1 H1 us g1 s1 st1 d1 l h1 => ?_
    obtain ⟨z, ez, h2⟩ := liftP h1
    rw [hK]
    obtain ⟨t1, t2, rfl⟩ : ∃ t1 t2, ts = [t1, t2] := by
      unfold zipLT at ez
      split at ez
      · exact ⟨_, _, rfl⟩
      · cases ez
    obtain ⟨v1, v2, rfl, da, db⟩ : ∃ v1 v2, us = [v1, v2] ∧ Den G w1 v1 t1 ∧ Den G w1 v2 t2 := by
      cases d1 with
      | cons da d1 => cases d1 with
        | cons db d1 => cases d1; exact ⟨_, _, rfl, da, db⟩
    have ez : ((lstOnly t1).bind fun xs => (lstOnly t2).bind fun ys => if (zipL xs ys).length ≤ sizeLine then some (T.lst (zipL xs ys)) else none) = some z := ez
    obtain ⟨xs, e1, ez⟩ := Option.bind_eq_some_iff.mp ez
    obtain ⟨ys, e2, ez⟩ := Option.bind_eq_some_iff.mp ez
    by_cases hz : (zipL xs ys).length ≤ sizeLine
    · rw [if_pos hz] at ez
      cases ez
      obtain ⟨x, as, rfl, ha, dda⟩ := lst_pub da e1
      obtain ⟨y, bs, rfl, hb, ddb⟩ := lst_pub db e2
      refine ⟨x, y, as, bs, _, rfl, g1.sub.seq ha, g1.sub.seq hb, zipJ dda ddb, ⟨w1, Step.refl _ _, g1, .nil⟩, fun H' ws S ⟨w', st, g', d⟩ hl hS => ?_⟩
      rw [show min as.length bs.length = (zipL xs ys).length by rw [zipL_len, dda.length, ddb.length], List.take_length] at d
      obtain ⟨st2, g2⟩ := g'.new (o := .lst ws) hS
      exact h2 _ _ (st.trans st2) g2 _ (.lst upd_same hz (d.mono st2.later))
    · rw [if_neg hz] at ez
      cases ez
theorem Bd.zipl {j : Nat} (B : Bd X G W j) (ml : G.mg "list" = none) (mz : G.mg "zip" = none) (ha : SE X G W a f) (hb : SE X G W b g) (gl : Gl X "list" := by rfl) (gz : Gl X "zip" := by rfl)
    (hs : starEach [a, b] X.env = (false, eval a X.env) :: starEach [b] X.env := by rfl) (hs2 : starEach [b] X.env = (false, eval b X.env) :: starEach [] X.env := by rfl) (hpl : (backTo pos (starEach [b] X.env)).any (·.1) = false := by rfl)
    (hs3 : starEach [Expr.Call (.Name "zip" np) [a, b] [] pos] X.env = (false, eval (Expr.Call (.Name "zip" np) [a, b] [] pos) X.env) :: starEach [] X.env := by rfl) :
    SE X G W (.Call (.Name "list" p) [.Call (.Name "zip" np) [a, b] [] pos] [] pos2) (fZipL f g) := s_zipL B.eK B.calm gl (by rw [B.eM]; exact ml) gz (by rw [B.eM]; exact mz) ha hb hs hs2 hpl hs3
end
end Ep
/-! a comprehension over a list that is changed by several defs, as long as it stays as it is. -/
namespace Ep
open PySem PySem.Spec PyProof.Rows L2
def fIterG (f : Env → M T) : Env → M (List T × Option (Nat × List T)) := fun env => f env >>= fun t => fun r => M.lift (EnTltR r t) r
section
variable {X : Cx} {G : Gm} {W : WX} {pos : Pos} {tg e : Expr}
theorem it_lR {w : Wd} {a : Addr} {k : Nat} {ys : List T} (hk : w.R[k]? = some a) : ItOkG G w (Itl G.K a) ys (some (k, ys)) := by
  have same : ∀ w' H' r', Later w w' → Good G w' H' r' → r'[k]? = some ys → ∃ vs, SqL G.K H' a vs ∧ Dens G w' vs ys := fun w' H' r' L g c => by
    obtain ⟨a', vs, h1, h2, h3, _⟩ := g.refs.at_ k ys c
    obtain ⟨more, em⟩ := L.refs
    rw [em, List.getElem?_append_left (List.getElem?_eq_some_iff.mp hk).1, hk] at h1
    cases h1
    exact ⟨vs, SqL.of h2, h3⟩
  refine ⟨fun H => ∃ vs : List V, vs.length = ys.length ∧ SqL G.K H a vs, fun i H x H' => H' = H ∧ ∀ vs, SqL G.K H a vs → vs[i]? = some x, ⟨fun i H hi ⟨vs, l, h⟩ => ⟨vs, vs[i], h, by simp [l, hi]⟩, fun H ⟨vs, l, h⟩ => ⟨vs, h, by omega⟩, fun i H x H' _ _ y => y⟩, fun w' H' r' L g c => ?_, fun i H1 v H2 w1 r1 L g c hi y => ?_⟩
  · obtain ⟨vs, h1, h2⟩ := same w' H' r' L g c
    exact ⟨vs, h2.length, h1⟩
  · obtain ⟨rfl, y⟩ := y
    obtain ⟨vs, h1, h2⟩ := same w1 _ r1 L g c
    obtain ⟨t, ht, hd⟩ := h2.getV (y vs h1)
    exact ⟨t, w1, ht, Step.refl _ _, g, hd⟩
theorem i_seqG {f : Env → M T} (hK : X.K = G.K) (he : SE X G W e f) : SIG X G W tg e (fIterG f) :=
  pi_imp (pi_seqA he) fun σ H R ⟨w, H0, env, r, g, s, h⟩ => by
    refine seqE g s h fun t r1 w1 H1 v g1 s1 st1 d h1 => ?_
    have h1 : OutP G w1 H1 (WE0 W σ) (fun p _ w' H' => ∀ J, ItOkG G w' J p.1 p.2 → R J H') (M.lift (EnTltR r1 t) r1) := h1
    rw [hK]
    cases d with
    | lst h z dd => exact .inl ⟨_, _, rfl, .inl (.inl (g1.sub _ _ h)), OutP.here g1 h1 _ ((it_l (.inl (.inl h)) dd).g _)⟩
    | kls h z dd => exact .inl ⟨_, _, rfl, g1.sub.seq h, OutP.here g1 h1 _ ((it_l h dd).g _)⟩
    | tup h z dd => exact .inr (.inl ⟨_, _, rfl, tup_sq g1.sub h, OutP.here g1 h1 _ ((it_t h dd).g _)⟩)
    | @ref k b h =>
      cases q : r1[k]? with
      | none =>
        have e : EnTltR r1 (.ref k) = none := by show (r1[k]?).map _ = none; rw [q]; rfl
        rw [e] at h1
        exact h1.elim
      | some ys =>
        have e : EnTltR r1 (.ref k) = some (ys, some (k, ys)) := by show (r1[k]?).map _ = _; rw [q]; rfl
        rw [e] at h1
        obtain ⟨b', vs, k1, k2, k3, k4⟩ := g1.refs.at_ k ys q
        rw [h] at k1
        cases k1
        exact .inl ⟨_, _, rfl, SqL.of k2, OutP.here g1 h1 _ (it_lR h)⟩
    | _ => exact h1.elim
end
open Classical in
noncomputable def ifR {α : Type} (c : Option (Nat × List T)) (m : M α) : M α := fun r => if chkR c r then m r else .bad
theorem ifR_ok {α : Type} {c : Option (Nat × List T)} {m : M α} {r : RS} (h : chkR c r) : ifR c m r = m r := by unfold ifR; rw [if_pos h]
theorem ifR_use {α : Type} {G : Gm} {w : Wd} {H : Hp} {E : XK} {P : α → RS → Wd → Hp → Prop} {c : Option (Nat × List T)} {m : M α} {r : RS} (h : OutP G w H E P (ifR c m r)) : chkR c r ∧ OutP G w H E P (m r) := by
  by_cases q : chkR c r
  · rw [ifR_ok q] at h; exact ⟨q, h⟩
  · unfold ifR at h; rw [if_neg q] at h; exact h.elim
noncomputable def compG (c : Option (Nat × List T)) (vs : List Nat) (h : T → Env → Option Env) (p : Env → M Bool) (f : Env → M T) : List T → List T → Env → M (List T)
  | [], acc, _ => ifR c (pure acc)
  | x :: xs, acc, env => ifR c (match h x (wipeE env vs) with
    | none => M.bad
    | some env1 => noEx (p env1) >>= fun b => if b = true then noEx (f env1) >>= fun y => if acc.length < sizeLine then compG c vs h p f xs (acc ++ [y]) env else M.bad else compG c vs h p f xs acc env)
noncomputable def fCompG (vs : List Nat) (h : T → Env → Option Env) (p : Env → M Bool) (f : Env → M T) (fi : Env → M (List T × Option (Nat × List T))) : Env → M (List T) := fun env => fi env >>= fun q => compG q.2 vs h p f q.1 [] env
theorem compG_chk {α : Type} {G : Gm} {w : Wd} {H : Hp} {E : XK} {P : List T → RS → Wd → Hp → Prop} {c : Option (Nat × List T)} {vs : List Nat} {h : T → Env → Option Env} {p : Env → M Bool} {f : Env → M T} : ∀ {xs acc : List T} {env : Env} {r : RS}, OutP G w H E P (compG c vs h p f xs acc env r) → chkR c r
  | [], _, _, _, q => (ifR_use q).1
  | _ :: _, _, _, _, q => (ifR_use q).1
section
variable {X : Cx} {G : Gm} {W : WX} {pos : Pos} {f : Env → M T} {p : Env → M Bool}
theorem compG_use {σ : L2.St} {H : Hp} {us vs : List Nat} {h : T → Env → Option Env} {fi : Env → M (List T × Option (Nat × List T))} {Q : VK} (hu : ∀ j ∈ us, j ∈ vs) (hq : tSL G W (fCompG vs h p f fi) σ H Q) : tLc (tSIG G W fi) (tGx G us h) (tSB G W0 p) (tS G W0 f) vs σ H Q := by
  obtain ⟨w, H0, env, r, g, s, hq⟩ := hq
  refine ⟨w, H0, env, r, g, s, hq.bind.imp fun xc r1 w1 H1 st1 g1 h1 J it D hD => ?_⟩
  obtain ⟨xs, c⟩ := xc
  obtain ⟨Gd, Y, wk, hG, hY⟩ := it
  have s1 := s.step st1
  have hD0 : ¬ Vs H D := st1.before hD
  have c0 : CS G D w1 H1 [] w1 (upd H1 D (.lst [])) r1 := ⟨(Step.refl w1 H1).priv hD, g1.priv (g1.nopub hD) (g1.noref hD) (.inl hD), g1.nopub hD, g1.noref hD, ⟨[], upd_same, .nil⟩, Nat.zero_le _⟩
  refine lc_it wk (fun i H' => ∃ w' r' acc, CS G D w1 H1 acc w' H' r' ∧ OutP G w1 H1 (WE0 W σ) (fun xs _ w' H' => ∀ p vs, ¬ Vs H p → w'.P p = none → p ∉ w'.R → H' p = some (.lst vs) → Dens G w' vs xs → xs.length ≤ sizeLine → Q (.ref p) H') (compG c vs h p f (xs.drop i) acc env r'))
    ⟨w1, r1, [], c0, h1⟩ (fun i H' _ ⟨w', r', acc, cs, hc⟩ => hG w' H' r' cs.st.later cs.g (compG_chk (α := Unit) hc)) ?_ ?_
  · rintro i x H2 H3 hlt ⟨w', r', acc, cs, hc⟩ y
    obtain ⟨t, w2, ht, st2, g2, dx⟩ := hY i H2 x H3 w' r' cs.st.later cs.g (compG_chk (α := Unit) hc) hlt y
    have cs2 := cs.step st2 g2
    have s2 := (s1.step cs2.st).wiped vs
    obtain ⟨Hb, aB, _⟩ := s2.rebase g2
    obtain ⟨_, et⟩ := List.getElem?_eq_some_iff.mp ht
    rw [List.drop_eq_getElem_cons hlt, et] at hc
    have hc := (ifR_use hc).2
    cases q : h t (wipeE env vs) with
    | none => rw [q] at hc; exact hc.elim
    | some env1 =>
      rw [q] at hc
      refine ⟨w2, Hb, w2, _, r', t, env1, aB, dx, q, fun σ2 sl b => ⟨wipe_but b hu, w2, Hb, env1, r', g2, sl, (noEx_use hc).imp fun b r3 w3 H4 st3 g3 hc => ?_⟩⟩
      have cs3 := cs2.step st3 g3
      cases b with
      | false => exact ⟨w3, r3, acc, cs3, hc⟩
      | true =>
        refine ⟨w3, Hb, env1, r3, g3, sl.step st3, (noEx_use (m := f env1) hc).imp fun y r4 w4 H5 st4 g4 hc v dv => ?_⟩
        have cs4 := cs3.step st4 g4
        by_cases hl : acc.length < sizeLine
        · rw [if_pos hl] at hc
          obtain ⟨us', hh, hz, cs5⟩ := cs4.app (nvs hD) dv hl
          exact ⟨us', hh, hz, w4, r4, acc ++ [y], cs5, hc⟩
        · rw [if_neg hl] at hc
          exact hc.elim
  · rintro H2 ⟨w', r', acc, cs, hc⟩
    rw [List.drop_length] at hc
    obtain ⟨us', hh, dd⟩ := cs.at_
    exact (ifR_use hc).2 w' H2 cs.st cs.g D us' hD0 cs.hP cs.hR hh dd cs.z
variable {elt tg iter : Expr} {ifs : List Expr} {scope : Scope} {us : List Nat} {h : T → Env → Option Env} {fi : Env → M (List T × Option (Nat × List T))} {j : Nat}
theorem Bd.compR (B : Bd X G W j) (own : List (Str × Nat)) (hi : SIG X G W tg iter fi)
    (hg : ∀ (s : Shared) (H : Hp) (C : Addr) (cl : List (Str × Addr)) (fp : List Addr), SG (X.blk s H scope (compEnvC scope cl C X.env) fp) G us tg h) (ht : ∀ (s : Shared) (H : Hp) (C : Addr) (cl : List (Str × Addr)) (fp : List Addr), STs (X.blk s H scope (compEnvC scope cl C X.env) fp) G ifs p)
    (he : ∀ (s : Shared) (H : Hp) (C : Addr) (cl : List (Str × Addr)) (fp : List Addr), SE (X.blk s H scope (compEnvC scope cl C X.env) fp) G W0 elt f) (ok : blkC X.N X.env.scope scope own = true := by kernel_rfl) (hu : ∀ j ∈ us, j ∈ own.map (·.2) := by decide) (hs : ∀ x, foldedSetIterable iter X.env x = pure x := by intro _; rfl) :
    SL X G W (.ListComp elt [⟨tg, iter, ifs, 0⟩] scope pos) (fCompG (own.map (·.2)) h p f fi) :=
  pe_imp (pe_lc B.calm B.nd hi (blkOk_by ok) (fun s H C cl fp => pg_x (hg s H C cl fp)) ht he hs) fun σ H Q q => compG_use hu q
theorem Bd.setCR (B : Bd X G W j) (i : Nat) (own : List (Str × Nat)) {y : Str} {py spos : Pos} (hi : SIG X G W tg iter fi)
    (hg : ∀ (s : Shared) (H : Hp) (C : Addr) (cl : List (Str × Addr)) (fp : List Addr), SG (X.blk s H scope (compEnvC scope cl C X.env) fp) G us tg h) (ht : ∀ (s : Shared) (H : Hp) (C : Addr) (cl : List (Str × Addr)) (fp : List Addr), STs (X.blk s H scope (compEnvC scope cl C X.env) fp) G ifs p)
    (he : ∀ (s : Shared) (H : Hp) (C : Addr) (cl : List (Str × Addr)) (fp : List Addr), SE (X.blk s H scope (compEnvC scope cl C X.env) fp) G W0 elt f) (ok : blkC X.N X.env.scope scope own = true := by kernel_rfl) (hu : ∀ j ∈ us, j ∈ own.map (·.2) := by decide)
    (hy : X.N[i]? = some y := by rfl) (hyl : X.env.scope.names.lookup y = some .local := by rfl) (hsw : swapsWith (.ListComp elt [⟨tg, iter, ifs, 0⟩] scope pos) (some (.Name y py)) spos.line X.env = pure true := by rfl) (hs : ∀ x, foldedSetIterable iter X.env x = pure x := by intro _; rfl) :
    SS X G W (.Assign [.Name y py] (.ListComp elt [⟨tg, iter, ifs, 0⟩] scope pos) spos) (qSet i (fOwn (fCompG (own.map (·.2)) h p f fi))) := fun w0 H0 =>
  ps_imp (ps_setLc B.calm B.nd hy hyl hsw hi (blkOk_by ok) (fun s H C cl fp => pg_x (hg s H C cl fp)) ht he hs) fun D σ H ⟨w, env, r, a, q⟩ => compG_use hu (own_read (at_e a q fun t r1 w1 H1 v a1 d h1 => h1 w1 H1 _ a1.st a1.g (a1.s.setVal i d)))
end
end Ep
/-! what comprehensions compute, told for rows of any kind. -/
namespace Ep
open PySem PySem.Spec L2
section
variable {α β : Type} {vs vs1 : List Nat} {h h1 : T → Env → Option Env} {p p1 : Env → M Bool} {f fk fv : Env → M T} {env : Env} {r r1 : RS}
theorem noEx_k {γ δ : Type} {m : M γ} {k : γ → M δ} {a : γ} {o : Out δ} (h1 : m r = .ok a r1) (h2 : k a r1 = o) : (noEx m >>= k) r = o := bind_ok (a := a) (r1 := r1) (by unfold noEx; rw [h1]) h2
theorem compF_ok (u v : α → T) (c : α → Bool) : ∀ (L : List α) (acc : List T), (∀ a ∈ L, ∃ e, h (u a) (wipeE env vs) = some e ∧ p e r = .ok (c a) r ∧ (c a = true → f e r = .ok (v a) r)) → acc.length + L.length ≤ 100000 → compF vs h p f (L.map u) acc env r = .ok (acc ++ (L.filter c).map v) r
  | [], acc, _, _ => by show Out.ok acc r = Out.ok (acc ++ []) r; rw [List.append_nil]
  | a :: L, acc, H, hl => by
    obtain ⟨e, k1, k2, k3⟩ := H a (List.mem_cons_self ..)
    rw [List.length_cons] at hl
    have hz : acc.length < sizeLine := by rw [sizeLine_eq]; omega
    have tl := fun b hb => H b (List.mem_cons_of_mem a hb)
    rw [List.map_cons]
    unfold compF
    rw [k1]
    refine noEx_k k2 ?_
    cases q : c a with
    | true =>
      rw [if_pos rfl]
      refine noEx_k (k3 q) ?_
      rw [if_pos hz, compF_ok u v c L (acc ++ [v a]) tl (by rw [List.length_append, List.length_singleton]; omega), List.filter_cons_of_pos q, List.map_cons, List.append_assoc]
      rfl
    | false =>
      rw [if_neg Bool.false_ne_true, compF_ok u v c L acc tl (by omega), List.filter_cons_of_neg (by rw [q]; exact Bool.false_ne_true)]
theorem comp_ok {fi : Env → M (List T)} (u v : α → T) (c : α → Bool) (L : List α) (hi : fi env r = .ok (L.map u) r) (H : ∀ a ∈ L, ∃ e, h (u a) (wipeE env vs) = some e ∧ p e r = .ok (c a) r ∧ (c a = true → f e r = .ok (v a) r)) (hl : L.length ≤ 100000) : fComp vs h p f fi env r = .ok ((L.filter c).map v) r :=
  bind_ok hi ((compF_ok u v c L [] H (by rw [List.length_nil]; omega)).trans (by rw [List.nil_append]))
theorem comp_all {fi : Env → M (List T)} (u v : α → T) (L : List α) (hi : fi env r = .ok (L.map u) r) (H : ∀ a ∈ L, ∃ e, h (u a) (wipeE env vs) = some e ∧ f e r = .ok (v a) r) (hl : L.length ≤ 100000) : fComp vs h fYes f fi env r = .ok (L.map v) r :=
  (comp_ok u v (fun _ => true) L hi (fun a m => let ⟨e, k1, k2⟩ := H a m; ⟨e, k1, rfl, fun _ => k2⟩) hl).trans (by rw [List.filter_eq_self.mpr fun _ _ => rfl])
theorem compG_ok (u v : α → T) (c : α → Bool) {q : Option (Nat × List T)} (ck : chkR q r) : ∀ (L : List α) (acc : List T), (∀ a ∈ L, ∃ e, h (u a) (wipeE env vs) = some e ∧ p e r = .ok (c a) r ∧ (c a = true → f e r = .ok (v a) r)) → acc.length + L.length ≤ 100000 → compG q vs h p f (L.map u) acc env r = .ok (acc ++ (L.filter c).map v) r
  | [], acc, _, _ => by show ifR q (pure acc) r = Out.ok (acc ++ []) r; rw [List.append_nil]; exact ifR_ok ck
  | a :: L, acc, H, hl => by
    obtain ⟨e, k1, k2, k3⟩ := H a (List.mem_cons_self ..)
    rw [List.length_cons] at hl
    have hz : acc.length < sizeLine := by rw [sizeLine_eq]; omega
    have tl := fun b hb => H b (List.mem_cons_of_mem a hb)
    rw [List.map_cons]
    unfold compG
    rw [ifR_ok ck, k1]
    refine noEx_k k2 ?_
    cases w : c a with
    | true =>
      rw [if_pos rfl]
      refine noEx_k (k3 w) ?_
      rw [if_pos hz, compG_ok u v c ck L (acc ++ [v a]) tl (by rw [List.length_append, List.length_singleton]; omega), List.filter_cons_of_pos w, List.map_cons, List.append_assoc]
      rfl
    | false =>
      rw [if_neg Bool.false_ne_true, compG_ok u v c ck L acc tl (by omega), List.filter_cons_of_neg (by rw [w]; exact Bool.false_ne_true)]
theorem compR_ok {fi : Env → M (List T × Option (Nat × List T))} {q : Option (Nat × List T)} (u v : α → T) (c : α → Bool) (L : List α) (hi : fi env r = .ok (L.map u, q) r) (ck : chkR q r) (H : ∀ a ∈ L, ∃ e, h (u a) (wipeE env vs) = some e ∧ p e r = .ok (c a) r ∧ (c a = true → f e r = .ok (v a) r)) (hl : L.length ≤ 100000) : fCompG vs h p f fi env r = .ok ((L.filter c).map v) r :=
  bind_ok hi ((compG_ok u v c ck L [] H (by rw [List.length_nil]; omega)).trans (by rw [List.nil_append]))
/-- integers as the keys of a new dict -/
abbrev kI : Int → Key := Sum.inl
def ddi (ks : List Int) (k : Int) : List Int := if k ∈ ks then ks else ks ++ [k]
theorem put_ddi (ks : List Int) (k : Int) : putKs (ks.map kI) (kI k) = (ddi ks k).map kI := by
  have e : hasK (ks.map kI) (kI k) = decide (k ∈ ks) := by
    unfold hasK
    rw [List.any_map]
    induction ks with
    | nil => rfl
    | cons a l ih =>
      rw [List.any_cons, ih]
      show (decide (kI a = kI k) || decide (k ∈ l)) = decide (k ∈ a :: l)
      by_cases q : a = k
      · subst q; simp
      · have : ¬ (kI a = kI k) := fun e => q (Sum.inl.inj e)
        simp [q, this, Ne.symm q]
  unfold putKs ddi
  rw [e]
  by_cases q : k ∈ ks
  · rw [if_pos (decide_eq_true q), if_pos q]
  · rw [if_neg (by rw [decide_eq_false q]; exact Bool.false_ne_true), if_neg q, List.map_append]; rfl
theorem ddi_len (ks : List Int) (k : Int) : (ddi ks k).length ≤ ks.length + 1 := by
  unfold ddi
  split
  · omega
  · rw [List.length_append, List.length_singleton]; exact Nat.le_refl _
theorem ddi_all (xs : List Int) : ∀ ks : List Int, (xs.foldl ddi ks).length ≤ ks.length + xs.length := by
  induction xs with
  | nil => intro ks; exact Nat.le_refl _
  | cons x xs ih =>
    intro ks
    have := ih (ddi ks x)
    have := ddi_len ks x
    rw [List.foldl_cons, List.length_cons]
    omega
theorem compD_ints (u : α → T) (k : α → Int) : ∀ (L : List α) (ks : List Int) (ts : List T), (∀ a ∈ L, ∃ e z, h (u a) (wipeE env vs) = some e ∧ fk e r = .ok (.int (k a)) r ∧ fv e r = .ok z r) → ks.length + L.length ≤ 100000 → ∃ ts', compD vs h fYes fk fv (L.map u) (ks.map kI) ts env r = .ok (((L.map k).foldl ddi ks).map kI, ts') r
  | [], ks, ts, _, _ => ⟨ts, rfl⟩
  | a :: L, ks, ts, H, hl => by
    obtain ⟨e, z, k1, k2, k3⟩ := H a (List.mem_cons_self ..)
    rw [List.length_cons] at hl
    have dl := ddi_len ks (k a)
    obtain ⟨ts', ih⟩ := compD_ints u k L (ddi ks (k a)) (putVs (ks.map kI) ts (kI (k a)) z) (fun b hb => H b (List.mem_cons_of_mem a hb)) (by omega)
    refine ⟨ts', ?_⟩
    rw [List.map_cons, List.map_cons, List.foldl_cons]
    unfold compD
    rw [k1]
    refine noEx_k (a := true) (r1 := r) rfl ?_
    rw [if_pos rfl]
    refine noEx_k k2 (noEx_k k3 ?_)
    show (if (ks.map kI).length < sizeLine then _ else M.bad) r = _
    rw [if_pos (by rw [List.length_map, sizeLine_eq]; omega), put_ddi]
    exact ih
/-- its keys, walked -/
theorem keys_ints {fi : Env → M (List T)} (u : α → T) (k : α → Int) (L : List α) (hi : fi env r = .ok (L.map u) r) (H : ∀ a ∈ L, ∃ e z, h (u a) (wipeE env vs) = some e ∧ fk e r = .ok (.int (k a)) r ∧ fv e r = .ok z r) (hl : L.length ≤ 100000) : fKeys (fCompD vs h fYes fk fv fi) env r = .ok (((L.map k).foldl ddi []).map T.int) r := by
  obtain ⟨ts', e⟩ := compD_ints (vs := vs) (h := h) (fk := fk) (fv := fv) (env := env) (r := r) u k L [] [] H (by rw [List.length_nil]; omega)
  refine bind_ok (a := (((L.map k).foldl ddi []).map kI, ts')) (r1 := r) (bind_ok hi e) ?_
  show Out.ok ((((L.map k).foldl ddi []).map kI).map keyV) r = _
  rw [List.map_map]
  rfl
/-- two `for` -/
theorem comp2F_ok {fi1 : Env → M (List T)} (u : α → T) (W : α → List T) : ∀ (L : List α) (acc : List T), (∀ a ∈ L, ∃ e xs, h (u a) (wipeE env vs) = some e ∧ fi1 e r = .ok xs r ∧ ∀ acc : List T, acc.length + (W a).length ≤ 90000 → compF vs1 h1 p1 f xs acc e r = .ok (acc ++ W a) r) → acc.length + (L.flatMap W).length ≤ 90000 → comp2F vs vs1 h fYes fi1 h1 p1 f (L.map u) acc env r = .ok (acc ++ L.flatMap W) r
  | [], acc, _, _ => by show Out.ok acc r = Out.ok (acc ++ []) r; rw [List.append_nil]
  | a :: L, acc, H, hl => by
    obtain ⟨e, xs, k1, k2, k3⟩ := H a (List.mem_cons_self ..)
    rw [List.flatMap_cons, List.length_append] at hl
    rw [List.map_cons]
    unfold comp2F
    rw [k1]
    refine noEx_k (a := true) (r1 := r) rfl ?_
    rw [if_pos rfl]
    refine noEx_k k2 (bind_ok (k3 acc (by omega)) ?_)
    rw [comp2F_ok u W L (acc ++ W a) (fun b hb => H b (List.mem_cons_of_mem a hb)) (by rw [List.length_append]; omega), List.append_assoc, List.flatMap_cons]
theorem comp2_ok {fi fi1 : Env → M (List T)} (u : α → T) (W : α → List T) (L : List α) (hi : fi env r = .ok (L.map u) r)
    (H : ∀ a ∈ L, ∃ e xs, h (u a) (wipeE env vs) = some e ∧ fi1 e r = .ok xs r ∧ ∀ acc : List T, acc.length + (W a).length ≤ 90000 → compF vs1 h1 p1 f xs acc e r = .ok (acc ++ W a) r) (hl : (L.flatMap W).length ≤ 90000) : fComp2 vs vs1 h fYes fi1 h1 p1 f fi env r = .ok (L.flatMap W) r :=
  bind_ok hi ((comp2F_ok u W L [] H (by rw [List.length_nil]; omega)).trans (by rw [List.nil_append]))
end
end Ep
/-! == of plain trees: tuples and lists of leaves that are told apart. -/
namespace Ep
open PySem PySem.Spec L2
/-- leaves: told apart by their data, unlike tuples and lists -/
structure LeafOk (L : T → Prop) : Prop where
  two : ∀ t u, L t → L u → ∃ d e, pyT t = some d ∧ pyT u = some e ∧ (PyData.eqv d e = true ↔ t = u)
  one : ∀ t, L t → ∃ d, pyT t = some d ∧ d.canLay0 = true ∧ d.depth = 0 ∧ (∀ ds, PyData.eqv d (.tuple ds) = false ∧ PyData.eqv (.tuple ds) d = false ∧ PyData.eqv d (.list ds) = false ∧ PyData.eqv (.list ds) d = false) ∧ ∀ xs, t ≠ .tup xs ∧ t ≠ .lst xs
def LfI (t : T) : Prop := t = .non ∨ (∃ i, t = .int i) ∨ ∃ x, t = .str x ∧ PyData.strOk x = true
def LfB (t : T) : Prop := ∃ b, t = .bl b
theorem lfI : LeafOk LfI := by
  refine ⟨fun t u ht hu => ?_, fun t ht => ?_⟩
  · rcases ht with rfl | ⟨i, rfl⟩ | ⟨x, rfl, _⟩ <;> rcases hu with rfl | ⟨j, rfl⟩ | ⟨y, rfl, _⟩
    · exact ⟨_, _, rfl, rfl, Iff.intro (fun _ => rfl) fun _ => rfl⟩
    · exact ⟨_, _, rfl, rfl, ⟨fun h => Bool.noConfusion (show false = true from h), fun h => T.noConfusion h⟩⟩
    · exact ⟨_, _, rfl, rfl, ⟨fun h => Bool.noConfusion (show false = true from h), fun h => T.noConfusion h⟩⟩
    · exact ⟨_, _, rfl, rfl, ⟨fun h => Bool.noConfusion (show false = true from h), fun h => T.noConfusion h⟩⟩
    · exact ⟨_, _, rfl, rfl, ⟨fun h => by have : (i == j) = true := h; rw [eq_of_beq this], fun h => by cases h; show (i == i) = true; exact beq_self_eq_true i⟩⟩
    · exact ⟨_, _, rfl, rfl, ⟨fun h => Bool.noConfusion (show false = true from h), fun h => T.noConfusion h⟩⟩
    · exact ⟨_, _, rfl, rfl, ⟨fun h => Bool.noConfusion (show false = true from h), fun h => T.noConfusion h⟩⟩
    · exact ⟨_, _, rfl, rfl, ⟨fun h => Bool.noConfusion (show false = true from h), fun h => T.noConfusion h⟩⟩
    · exact ⟨_, _, rfl, rfl, ⟨fun h => by have : (x == y) = true := h; rw [eq_of_beq this], fun h => by cases h; show (x == x) = true; exact beq_self_eq_true x⟩⟩
  · rcases ht with rfl | ⟨i, rfl⟩ | ⟨x, rfl, hx⟩
    · exact ⟨.none, rfl, rfl, rfl, fun ds => ⟨rfl, rfl, rfl, rfl⟩, fun xs => ⟨fun h => T.noConfusion h, fun h => T.noConfusion h⟩⟩
    · exact ⟨.int i, rfl, rfl, rfl, fun ds => ⟨rfl, rfl, rfl, rfl⟩, fun xs => ⟨fun h => T.noConfusion h, fun h => T.noConfusion h⟩⟩
    · exact ⟨.str x, rfl, hx, rfl, fun ds => ⟨rfl, rfl, rfl, rfl⟩, fun xs => ⟨fun h => T.noConfusion h, fun h => T.noConfusion h⟩⟩
theorem lfB : LeafOk LfB := by
  refine ⟨fun t u ⟨a, ha⟩ ⟨b, hb⟩ => ?_, fun t ⟨a, ha⟩ => ?_⟩
  · subst ha hb
    exact ⟨.bool a, .bool b, rfl, rfl, ⟨fun h => by have : (a == b) = true := h; rw [eq_of_beq this], fun h => by cases h; show (a == a) = true; exact beq_self_eq_true a⟩⟩
  · subst ha
    exact ⟨.bool a, rfl, rfl, rfl, fun ds => ⟨rfl, rfl, rfl, rfl⟩, fun xs => ⟨fun h => T.noConfusion h, fun h => T.noConfusion h⟩⟩
/-- a plain tree over leaves, of some depth -/
def Pt (L : T → Prop) : Nat → T → Prop
  | 0, t => L t
  | n + 1, t => L t ∨ (∃ ts, t = .tup ts ∧ ∀ x ∈ ts, Pt L n x) ∨ ∃ ts, t = .lst ts ∧ ∀ x ∈ ts, Pt L n x
theorem Pt.leaf {L : T → Prop} {t : T} (h : L t) : ∀ n, Pt L n t
  | 0 => h
  | _ + 1 => .inl h
theorem Pt.tup {L : T → Prop} {n : Nat} {ts : List T} (h : ∀ x ∈ ts, Pt L n x) : Pt L (n + 1) (.tup ts) := .inr (.inl ⟨ts, rfl, h⟩)
theorem Pt.lst {L : T → Prop} {n : Nat} {ts : List T} (h : ∀ x ∈ ts, Pt L n x) : Pt L (n + 1) (.lst ts) := .inr (.inr ⟨ts, rfl, h⟩)
structure Dt (n : Nat) (t : T) (d : PyData) : Prop where
  py : pyT t = some d
  lay : d.canLay0 = true
  dep : d.depth ≤ n
theorem dts {L : T → Prop} {n : Nat} (h : ∀ t, Pt L n t → ∃ d, Dt n t d) : ∀ {ts : List T}, (∀ x ∈ ts, Pt L n x) → ∃ ds, pyTs ts = some ds ∧ PyData.canLayAll0 ds = true ∧ PyData.depthAll ds ≤ n
  | [], _ => ⟨[], rfl, rfl, Nat.zero_le _⟩
  | t :: ts, hh => by
    obtain ⟨d, e⟩ := h t (hh t (List.mem_cons_self ..))
    obtain ⟨ds, f1, f2, f3⟩ := dts h fun x m => hh x (List.mem_cons_of_mem _ m)
    refine ⟨d :: ds, ?_, ?_, ?_⟩
    · show (pyT t).bind (fun d => (pyTs ts).map (d :: ·)) = _
      rw [e.py, f1]; rfl
    · show (d.canLay0 && PyData.canLayAll0 ds) = true
      rw [e.lay, f2]; rfl
    · have := e.dep
      show max d.depth (PyData.depthAll ds) ≤ n
      omega
theorem dt_of {L : T → Prop} (ok : LeafOk L) : ∀ {n : Nat} {t : T}, Pt L n t → ∃ d, Dt n t d
  | 0, t, h => by
    obtain ⟨d, h1, h2, h3, _⟩ := ok.one t h
    exact ⟨d, h1, h2, by omega⟩
  | n + 1, t, h => by
    rcases h with h | ⟨ts, rfl, h⟩ | ⟨ts, rfl, h⟩
    · obtain ⟨d, h1, h2, h3, _⟩ := ok.one t h
      exact ⟨d, h1, h2, by omega⟩
    · obtain ⟨ds, f1, f2, f3⟩ := dts (fun t ht => dt_of ok ht) h
      refine ⟨.tuple ds, ?_, f2, ?_⟩
      · show (pyTs ts).map PyData.tuple = _
        rw [f1]; rfl
      · show PyData.depthAll ds + 1 ≤ n + 1
        omega
    · obtain ⟨ds, f1, f2, f3⟩ := dts (fun t ht => dt_of ok ht) h
      refine ⟨.list ds, ?_, f2, ?_⟩
      · show (pyTs ts).map PyData.list = _
        rw [f1]; rfl
      · show PyData.depthAll ds + 1 ≤ n + 1
        omega
theorem eqvs {L : T → Prop} {n : Nat} (h : ∀ t u d e, Pt L n t → Pt L n u → pyT t = some d → pyT u = some e → (PyData.eqv d e = true ↔ t = u)) : ∀ {ts us : List T} {ds es : List PyData}, (∀ x ∈ ts, Pt L n x) → (∀ x ∈ us, Pt L n x) → pyTs ts = some ds → pyTs us = some es → (PyData.eqvAll ds es = true ↔ ts = us)
  | [], [], ds, es, _, _, e1, e2 => by cases e1; cases e2; exact ⟨fun _ => rfl, fun _ => rfl⟩
  | [], u :: us, ds, es, _, _, e1, e2 => by
    cases e1
    obtain ⟨d, _, e2⟩ := Option.bind_eq_some_iff.mp (show (pyT u).bind (fun d => (pyTs us).map (d :: ·)) = some es from e2)
    obtain ⟨l, _, rfl⟩ := Option.map_eq_some_iff.mp e2
    exact ⟨fun q => Bool.noConfusion (show false = true from q), fun q => nomatch q⟩
  | t :: ts, [], ds, es, _, _, e1, e2 => by
    cases e2
    obtain ⟨d, _, e1⟩ := Option.bind_eq_some_iff.mp (show (pyT t).bind (fun d => (pyTs ts).map (d :: ·)) = some ds from e1)
    obtain ⟨l, _, rfl⟩ := Option.map_eq_some_iff.mp e1
    exact ⟨fun q => Bool.noConfusion (show false = true from q), fun q => nomatch q⟩
  | t :: ts, u :: us, ds, es, ht, hu, e1, e2 => by
    obtain ⟨d, k1, e1⟩ := Option.bind_eq_some_iff.mp (show (pyT t).bind (fun d => (pyTs ts).map (d :: ·)) = some ds from e1)
    obtain ⟨l, k2, rfl⟩ := Option.map_eq_some_iff.mp e1
    obtain ⟨e, k3, e2⟩ := Option.bind_eq_some_iff.mp (show (pyT u).bind (fun d => (pyTs us).map (d :: ·)) = some es from e2)
    obtain ⟨m, k4, rfl⟩ := Option.map_eq_some_iff.mp e2
    have a := h t u d e (ht t (List.mem_cons_self ..)) (hu u (List.mem_cons_self ..)) k1 k3
    have b := eqvs h (fun x q => ht x (List.mem_cons_of_mem _ q)) (fun x q => hu x (List.mem_cons_of_mem _ q)) k2 k4
    show (PyData.eqv d e && PyData.eqvAll l m) = true ↔ _
    rw [Bool.and_eq_true, a, b]
    exact ⟨fun ⟨x, y⟩ => by rw [x, y], fun q => by cases q; exact ⟨rfl, rfl⟩⟩
theorem eqv_of {L : T → Prop} (ok : LeafOk L) : ∀ {n : Nat} (t u : T) (d e : PyData), Pt L n t → Pt L n u → pyT t = some d → pyT u = some e → (PyData.eqv d e = true ↔ t = u)
  | 0, t, u, d, e, h, h', e1, e2 => by
    obtain ⟨d', e', k1, k2, k3⟩ := ok.two t u h h'
    rw [e1] at k1; rw [e2] at k2
    cases k1; cases k2
    exact k3
  | n + 1, t, u, d, e, h, h', e1, e2 => by
    rcases h with h | ⟨ts, rfl, h⟩ | ⟨ts, rfl, h⟩
    · obtain ⟨d1, k1, _, _, k4, k5⟩ := ok.one t h
      rw [e1] at k1
      cases k1
      rcases h' with h' | ⟨us, rfl, h'⟩ | ⟨us, rfl, h'⟩
      · obtain ⟨d', e', j1, j2, j3⟩ := ok.two t u h h'
        rw [e1] at j1; rw [e2] at j2
        cases j1; cases j2
        exact j3
      · obtain ⟨l, _, rfl⟩ := Option.map_eq_some_iff.mp (show (pyTs us).map PyData.tuple = some e from e2)
        exact ⟨fun q => (by rw [(k4 l).1] at q; cases q), fun q => absurd q (k5 us).1⟩
      · obtain ⟨l, _, rfl⟩ := Option.map_eq_some_iff.mp (show (pyTs us).map PyData.list = some e from e2)
        exact ⟨fun q => (by rw [(k4 l).2.2.1] at q; cases q), fun q => absurd q (k5 us).2⟩
    · obtain ⟨m, m1, rfl⟩ := Option.map_eq_some_iff.mp (show (pyTs ts).map PyData.tuple = some d from e1)
      rcases h' with h' | ⟨us, rfl, h'⟩ | ⟨us, rfl, h'⟩
      · obtain ⟨d1, k1, _, _, k4, k5⟩ := ok.one u h'
        rw [e2] at k1
        cases k1
        exact ⟨fun q => (by rw [(k4 m).2.1] at q; cases q), fun q => absurd q.symm (k5 ts).1⟩
      · obtain ⟨l, l1, rfl⟩ := Option.map_eq_some_iff.mp (show (pyTs us).map PyData.tuple = some e from e2)
        have := eqvs (fun t u d e => eqv_of ok t u d e) h h' m1 l1
        show PyData.eqvAll m l = true ↔ _
        rw [this]
        exact ⟨fun q => by rw [q], fun q => by cases q; rfl⟩
      · obtain ⟨l, _, rfl⟩ := Option.map_eq_some_iff.mp (show (pyTs us).map PyData.list = some e from e2)
        exact ⟨fun q => Bool.noConfusion (show false = true from q), fun q => T.noConfusion q⟩
    · obtain ⟨m, m1, rfl⟩ := Option.map_eq_some_iff.mp (show (pyTs ts).map PyData.list = some d from e1)
      rcases h' with h' | ⟨us, rfl, h'⟩ | ⟨us, rfl, h'⟩
      · obtain ⟨d1, k1, _, _, k4, k5⟩ := ok.one u h'
        rw [e2] at k1
        cases k1
        exact ⟨fun q => (by rw [(k4 m).2.2.2] at q; cases q), fun q => absurd q.symm (k5 ts).2⟩
      · obtain ⟨l, _, rfl⟩ := Option.map_eq_some_iff.mp (show (pyTs us).map PyData.tuple = some e from e2)
        exact ⟨fun q => Bool.noConfusion (show false = true from q), fun q => T.noConfusion q⟩
      · obtain ⟨l, l1, rfl⟩ := Option.map_eq_some_iff.mp (show (pyTs us).map PyData.list = some e from e2)
        have := eqvs (fun t u d e => eqv_of ok t u d e) h h' m1 l1
        show PyData.eqvAll m l = true ↔ _
        rw [this]
        exact ⟨fun q => by rw [q], fun q => by cases q; rfl⟩
/-- == of plain trees tells whether they are the same -/
theorem eq_pt {L : T → Prop} (ok : LeafOk L) {n : Nat} {t u : T} (h : Pt L n t) (h' : Pt L n u) (l : n ≤ 64) {b : Bool} (hb : b = true ↔ t = u) : eqT t u = some b := by
  obtain ⟨d, a1, a2, a3⟩ := dt_of ok h
  obtain ⟨e, b1, b2, b3⟩ := dt_of ok h'
  have q := eqv_of ok t u d e h h' a1 b1
  unfold eqT
  rw [a1, b1]
  show (if (SeqAt.shaped d && SeqAt.shaped e) = true then some (PyData.eqv d e) else none) = _
  have x1 : SeqAt.shaped d = true := by unfold SeqAt.shaped; rw [a2, decide_eq_true (by omega)]; rfl
  have x2 : SeqAt.shaped e = true := by unfold SeqAt.shaped; rw [b2, decide_eq_true (by omega)]; rfl
  rw [x1, x2]
  show some (PyData.eqv d e) = some b
  rw [show PyData.eqv d e = b from by rw [Bool.eq_iff_iff, q, hb]]
theorem ne_pt {L : T → Prop} (ok : LeafOk L) {n : Nat} {t u : T} (h : Pt L n t) (h' : Pt L n u) (l : n ≤ 64) {b : Bool} (hb : b = true ↔ t = u) : neT t u = some (!b) := by
  unfold neT
  rw [eq_pt ok h h' l hb]; rfl
end Ep
/-! steps for a def's own list: its last item, that exchanged, a loop that keeps it. -/
namespace Ep
open PySem PySem.Spec L2
section
variable {env : Env} {r r1 r2 : RS} {i : Nat} {f g : Env → M T} {t : T} {xs : List T}
theorem y_bor (h : env[i]? = some (.own xs)) : fBor i env r = .ok (.lst xs) r := by unfold fBor; rw [h]; rfl
theorem y_lastIx (h : env[i]? = some (.own (xs ++ [t]))) : fIx (fBor i) (fUn negT (fC (.int 1))) env r = .ok t r := e_ix (y_bor h) (e_un (x := .int 1) (r1 := r) rfl rfl) (show atI (xs ++ [t]) (-1) = some t from atI_last xs t)
theorem y_setLast {u : T} (h : env[i]? = some (.own (xs ++ [t]))) (hf : f env r = .ok u r) : qSetIx i f (fUn negT (fC (.int 1))) env r = .nx (env.set i (.own (xs ++ [u]))) r := by
  have e1 : isMut env i = true := by unfold isMut; rw [h]
  have e2 : mutGet env i r = some (xs ++ [t]) := by unfold mutGet; rw [h]
  have e3 : mutSet env i r (xs ++ [u]) = .nx (env.set i (.own (xs ++ [u]))) r := by unfold mutSet; rw [h]
  unfold qSetIx
  rw [if_pos e1, hf]
  show (match mutGet env i r, T.int (-1) with
    | some xs, .int k => match ixN xs.length k with
      | some j => mutSet env i r (xs.set j u)
      | none => .bad
    | _, _ => .bad) = _
  rw [e2]
  have en : ixN (xs ++ [t]).length (-1) = some xs.length := by
    unfold ixN
    rw [if_neg (by decide), if_pos (by rw [List.length_append, List.length_singleton]; omega)]
    congr 1
    rw [List.length_append, List.length_singleton]
    omega
  show (match ixN (xs ++ [t]).length (-1) with
      | some j => mutSet env i r ((xs ++ [t]).set j u)
      | none => .bad) = _
  rw [en]
  show mutSet env i r ((xs ++ [t]).set xs.length u) = _
  rw [List.set_append_right _ _ (Nat.le_refl _), Nat.sub_self]
  exact e3
theorem y_ext {ys : List T} (he : env[i]? = some (.own xs)) (hf : f env r = .ok (.lst ys) r1) (hl : xs.length + ys.length ≤ 100000) : qExt i f env r = .nx (env.set i (.own (xs ++ ys))) r1 := by
  have e1 : isMut env i = true := by unfold isMut; rw [he]
  have e2 : mutGet env i r1 = some xs := by unfold mutGet; rw [he]
  have e3 : mutSet env i r1 (xs ++ ys) = .nx (env.set i (.own (xs ++ ys))) r1 := by unfold mutSet; rw [he]
  unfold qExt
  rw [if_pos e1, hf]
  show (match mutGet env i r1, T.lst ys with
    | some xs, .lst ys => if xs.length + ys.length ≤ 100000 then mutSet env i r1 (xs ++ ys) else .bad
    | _, _ => .bad) = _
  rw [e2]
  show (if xs.length + ys.length ≤ 100000 then mutSet env i r1 (xs ++ ys) else .bad) = _
  rw [if_pos hl, e3]
theorem y_lstX {g : Env → M (List T)} (h : g env r = .ok xs r1) (hl : xs.length ≤ sizeLine) : fLstX g env r = .ok (.lst xs) r1 := bind_ok h (by
  show (fitL xs >>= fun us => pure (T.lst us)) r1 = _
  unfold fitL
  rw [if_pos hl]; rfl)
theorem y_tupX {g : Env → M (List T)} (h : g env r = .ok xs r1) (hl : xs.length ≤ sizeLine) : fTupX g env r = .ok (.tup xs) r1 := bind_ok h (by
  show (fitL xs >>= fun us => pure (T.tup us)) r1 = _
  unfold fitL
  rw [if_pos hl]; rfl)
theorem y_cons {g : Env → M (List T)} (h1 : f env r = .ok t r1) (h2 : g env r1 = .ok xs r2) : fCons f g env r = .ok (t :: xs) r2 := bind_ok h1 (bind_ok h2 rfl)
theorem y_star {g : Env → M (List T)} {ys : List T} (h1 : f env r = .ok t r1) (hs : seqT r1 t = some xs) (h2 : g env r1 = .ok ys r2) : fStar f g env r = .ok (xs ++ ys) r2 := bind_ok h1 (bind_ok (a := xs) (r1 := r1) (by show M.lift (seqT r1 t) r1 = _; rw [hs]; rfl) (bind_ok h2 rfl))
theorem y_zipl {u v : T} {zs : List T} (h1 : f env r = .ok u r1) (h2 : g env r1 = .ok v r2) (h3 : zipLT [u, v] = some (.lst zs)) : fZipL f g env r = .ok (.lst zs) r2 := bind_ok (e_cons h1 (e_cons h2 e_nil)) (by rw [h3]; rfl)
/-- a loop over rows of any kind: the state is an invariant of what is left -/
theorem y_loop {α : Type} {h : T → Env → Option Env} {s : Sm} (u : α → T) (P : List α → Env → Prop) (st : ∀ a L env, P (a :: L) env → ∃ e1 e2, h (u a) env = some e1 ∧ s e1 r = .nx e2 r ∧ P L e2) : ∀ (L : List α) (env : Env), P L env → ∃ e2, loopF h s (L.map u) env r = .nx e2 r ∧ P [] e2
  | [], env, p => ⟨env, rfl, p⟩
  | a :: L, env, p => by
    obtain ⟨e1, e2, k1, k2, p2⟩ := st a L env p
    obtain ⟨e3, k3, p3⟩ := y_loop u P st L e2 p2
    exact ⟨e3, n_loop k1 k2 k3, p3⟩
end
end Ep
/-! drawing from a pool of two numbers. -/
namespace Dr
open PySem Ep L2
theorem ltI (i j : Int) : ltT (.int i) (.int j) = some (decide (i < j)) := rfl
theorem n_setIx {f g : Ep.Env → M T} {env : Ep.Env} {r r1 r2 : RS} {t : T} {i k j : Nat} {x : Int} {xs : List T} (hi : env[i]? = some (.val (.ref k))) (h1 : f env r = .ok t r1) (h2 : g env r1 = .ok (.int x) r2) (hk : r2[k]? = some xs) (hx : L2.ixN xs.length x = some j) : qSetIx i f g env r = .nx env (r2.set k (xs.set j t)) := by
  have e1 : isMut env i = true := by unfold isMut; rw [hi]
  have e2 : mutGet env i r2 = some xs := by unfold mutGet; rw [hi]; exact hk
  have e3 : mutSet env i r2 (xs.set j t) = .nx env (r2.set k (xs.set j t)) := by unfold mutSet; rw [hi]
  unfold qSetIx
  rw [if_pos e1, h1]
  show ofM env (fun u r => match mutGet env i r, u with
    | some xs, .int k => match L2.ixN xs.length k with
      | some j => mutSet env i r (xs.set j t)
      | none => .bad
    | _, _ => .bad) (g env r1) = _
  rw [h2]
  show (match mutGet env i r2, T.int x with
    | some xs, .int k => match L2.ixN xs.length k with
      | some j => mutSet env i r2 (xs.set j t)
      | none => .bad
    | _, _ => .bad) = _
  rw [e2]
  show (match L2.ixN xs.length x with
      | some j => mutSet env i r2 (xs.set j t)
      | none => .bad) = _
  rw [hx]
  exact e3
theorem ix_ref {r : RS} {k : Nat} {xs : List T} {i : Int} {t : T} (hk : r[k]? = some xs) (h : L2.atI xs i = some t) : ixT r (.ref k) (.int i) = some t := by
  show (r[k]?).bind (fun xs => L2.atI xs i) = some t
  rw [hk]
  exact h
theorem gt_ii (i j : Int) : gtT (.int i) (.int j) = some (decide (j < i)) := rfl
theorem fst_ref {r : RS} {k : Nat} {a b : Int} (hk : r[k]? = some [.int a, .int b]) : ixT r (.ref k) (.int 0) = some (.int a) := ix_ref hk rfl
theorem snd_ref {r : RS} {k : Nat} {a b : Int} (hk : r[k]? = some [.int a, .int b]) : ixT r (.ref k) (.int 1) = some (.int b) := ix_ref hk rfl
theorem get_set_ne {r : RS} {i j : Nat} {x : List T} (h : i ≠ j) : (r.set i x)[j]? = r[j]? := List.getElem?_set_ne h
theorem n_expr {f : Ep.Env → M T} {env : Ep.Env} {r r1 : RS} {t : T} (h1 : f env r = .ok t r1) : qExpr f env r = .nx env r1 := by unfold qExpr ofM; rw [h1]
theorem qTry_x {g : Sm} {hs : List HdS} {env e : Ep.Env} {r r' : RS} {c : Nat} {p : T} (h : g env r = .exn c p e r') : qTry g hs env r = pickH hs c p e r' := by
  unfold qTry; rw [h]
theorem heard_rt {n : Nat} {hs : List HdS} {rest : Sm} {act : M T} {r r' : RS} {t : T} (h : qTry (fun env r => ofM env (fun _ r => .nx env r) (act r)) hs (List.replicate n .un) r = .rt t r') : heardS n hs rest act r = .ok t r' := by
  unfold heardS qSeq; rw [h]
theorem ofM_x {α : Type} {env : Ep.Env} {k : α → RS → SO} {o : Out α} {c : Nat} {p : T} {r : RS} (h : o = .exn c p r) : ofM env k o = .exn c p env r := by subst h; rfl
theorem comp_st {vs : List Nat} {h : T → Ep.Env → Option Ep.Env} {p : Ep.Env → M Bool} {f : Ep.Env → M T} {env : Ep.Env} {I : RS → Prop} {Q : T → Prop} : ∀ (xs acc : List T) (r : RS), I r → (∀ x ∈ xs, ∀ r, I r → ∃ env1 y r', h x (wipeE env vs) = some env1 ∧ p env1 r = .ok true r ∧ f env1 r = .ok y r' ∧ I r' ∧ Q y) → (∀ y ∈ acc, Q y) → acc.length + xs.length ≤ 100000 → ∃ ys r', compF vs h p f xs acc env r = .ok ys r' ∧ I r' ∧ (∀ y ∈ ys, Q y) ∧ ys.length = acc.length + xs.length
  | [], acc, r, i, _, q, _ => ⟨acc, r, rfl, i, q, rfl⟩
  | x :: xs, acc, r, i, H, q, hl => by
    obtain ⟨env1, y, r', h1, h2, h3, i', qy⟩ := H x List.mem_cons_self r i
    obtain ⟨ys, r2, e, i2, q2, l2⟩ := comp_st (vs := vs) (h := h) (p := p) (f := f) (env := env) (I := I) (Q := Q) xs (acc ++ [y]) r' i' (fun z hz => H z (List.mem_cons_of_mem _ hz)) (fun z hz => by
      rcases List.mem_append.mp hz with hz | hz
      · exact q z hz
      · rw [List.mem_singleton.mp hz]; exact qy) (by rw [List.length_append]; simp at hl ⊢; omega)
    have hz : acc.length < sizeLine := by rw [sizeLine_eq]; simp at hl; omega
    refine ⟨ys, r2, ?_, i2, q2, by rw [l2, List.length_append]; simp; omega⟩
    unfold compF
    rw [h1]
    exact noEx_k h2 (by rw [if_pos rfl]; exact noEx_k h3 (by rw [if_pos hz]; exact e))
theorem rng1s {f : Ep.Env → M T} {env : Ep.Env} {r r1 : RS} {i : Int} (h1 : f env r = .ok (.int i) r1) (h : -(2 ^ 62) ≤ i ∧ i < 2 ^ 62) : fRng1 f env r = .ok (rngL 0 i.toNat) r1 := by
  refine bind_ok (a := [.int i]) (r1 := r1) (e_cons (x := .int i) (r1 := r1) h1 rfl) ?_
  show M.lift (if -(2 ^ 62) ≤ i ∧ i < 2 ^ 62 then some (rngL 0 i.toNat) else none) r1 = _
  rw [if_pos h]; rfl
theorem e_ref {f : Ep.Env → M (List T)} {env : Ep.Env} {r r1 : RS} {xs : List T} (h : f env r = .ok xs r1) : fRef f env r = .ok (.ref r1.length) (r1 ++ [xs]) := by
  unfold fRef; rw [h]
theorem call1 {F : List T → M T} {f : Ep.Env → M T} {env : Ep.Env} {r r1 : RS} {t u : T} (h : f env r = .ok t r) (hF : F [t] r = .ok u r1) : fCall F [] [f] env r = .ok u r1 := x_call (ts := [t]) (r1 := r) (e_cons (x := t) (r1 := r) h rfl) hF
theorem call2 {F : List T → M T} {f g : Ep.Env → M T} {env : Ep.Env} {r r1 : RS} {t u v : T} (h : f env r = .ok t r) (h' : g env r = .ok v r) (hF : F [t, v] r = .ok u r1) : fCall F [] [f, g] env r = .ok u r1 := x_call (ts := [t, v]) (r1 := r) (e_cons (x := t) (r1 := r) h (e_cons (x := v) (r1 := r) h' rfl)) hF
theorem n_fld {i C n : Nat} {f : Ep.Env → M T} {env : Ep.Env} {r r1 : RS} {t : T} {ts : List T} (he : env[i]? = some (.ins C ts)) (hl : ts.length = n) (h : f env r = .ok t r1) : qFld i C n f env r = .nx (env.set i (.ins C (ts ++ [t]))) r1 := by
  unfold qFld
  rw [he]
  show (if C = C ∧ ts.length = n then ofM env (fun t r => .nx (env.set i (.ins C (ts ++ [t]))) r) (f env r) else .bad) = _
  rw [if_pos ⟨rfl, hl⟩, h]; rfl
section
variable {s s' : Sm} {env e : Ep.Env} {r r1 r2 : RS} {c : Nat} {p t : T} {f : Ep.Env → M T}
theorem n_exprX (h : f env r = .exn c p r1) : qExpr f env r = .exn c p env r1 := by unfold qExpr ofM; rw [h]
theorem n_seqX (h : s env r = .exn c p e r1) : qSeq s s' env r = .exn c p e r1 := by unfold qSeq; rw [h]
theorem n_fnX {m : Nat} {ts : List T} (h : s (envOf m ts) r = .exn c p e r1) : fnS m s ts r = .exn c p r1 := by unfold fnS; rw [h]
theorem n_raise {i : Nat} (h : f env r = .ok t r1) : qRaise i f env r = .exn i t env r1 := by unfold qRaise ofM; rw [h]
theorem bind_exn {α β : Type} {m : M α} {k : α → M β} (h1 : m r = .exn c p r1) : (m >>= k) r = .exn c p r1 := by
  show M.bind m k r = _
  unfold M.bind
  rw [h1]
theorem e_makeX {C : Nat} {F : List T → M (List T)} {ds ts : List T} {fs : List (Ep.Env → M T)} (h1 : fAll fs env r = .ok ts r1) (h2 : F (ts ++ ds) r1 = .exn c p r2) : fMake C F ds fs env r = .exn c p r2 := bind_ok h1 (bind_exn h2)
end
theorem call3 {F : List T → M T} {f g k : Ep.Env → M T} {env : Ep.Env} {r r1 : RS} {t u v w : T} (h : f env r = .ok t r) (h' : g env r = .ok v r) (h'' : k env r = .ok w r) (hF : F [t, v, w] r = .ok u r1) : fCall F [] [f, g, k] env r = .ok u r1 := x_call (ts := [t, v, w]) (r1 := r) (e_cons (x := t) (r1 := r) h (e_cons (x := v) (r1 := r) h' (e_cons (x := w) (r1 := r) h'' rfl))) hF
def Pool (k : Nat) (r : RS) : Prop := ∃ a b : Int, r[k]? = some [.int a, .int b]
theorem Pool.app {k : Nat} {r : RS} (h : Pool k r) (x : RS) : Pool k (r ++ x) := by
  obtain ⟨a, b, h⟩ := h
  exact ⟨a, b, by rw [List.getElem?_append_left (List.getElem?_eq_some_iff.mp h).1]; exact h⟩
theorem Pool.at_ {k j : Nat} {r : RS} (h : Pool k r) (x : List T) (hj : j ≠ k) : Pool k (r.set j x) := by
  obtain ⟨a, b, h⟩ := h
  exact ⟨a, b, by rw [List.getElem?_set_ne hj]; exact h⟩
def gTake : Sm := (qSeq (qIf (fCmpB gtT (fIx (fVar 0) (fC (.int 0))) (fC (.int 0))) (qSeq (qSet 2 (fBin modT (fB1 intT (fIx (fVar 0) (fC (.int 0)))) (fVar 1)))
    (qSeq (qSetIx 0 (fBin divT (fIx (fVar 0) (fC (.int 0))) (fVar 1)) (fC (.int 0)))
    (qSeq (qRet (fVar 2))
    qNil))) qNil)
    (qSeq (qSetIx 0 (fBin modT (fB1 intT (fBin addT (fBin mulT (fIx (fVar 0) (fC (.int 1))) (fC (.int 39373))) (fC (.int 7)))) (fC (.int 2147483647))) (fC (.int 1)))
    (qSeq (qRet (fBin modT (fB1 intT (fBin divT (fBin modT (fB1 intT (fBin mulT (fIx (fVar 0) (fC (.int 1))) (fIx (fVar 0) (fC (.int 1))))) (fC (.int 2147483629))) (fC (.int 32)))) (fVar 1)))
    qNil)))
def FTake : List T → M T := fnS 1 gTake
def gPick : Sm := (qSeq (qRet (fIx (fVar 1) (fCall FTake [] [(fVar 0), (fB1 lenT (fVar 1))])))
    qNil)
def FPick : List T → M T := fnS 0 gPick
def gPool : Sm := (qSeq (qSet 2 (fC (.int 0)))
    (qSeq (qIf (fCmpB ltT (fVar 1) (fB1 lenT (fVar 0))) (qSeq (qSet 2 (fIx (fVar 0) (fVar 1)))
    qNil) qNil)
    (qSeq (qSet 3 (fBin max2T (fB1 intT (fVar 2)) (fB1 intT (fBin subT (fUn negT (fC (.int 1))) (fVar 2)))))
    (qSeq (qSet 4 (fBin modT (fB1 intT (fBin mulT (fBin addT (fBin addT (fBin addT (fBin modT (fB1 intT (fVar 3)) (fC (.int 2147483629))) (fBin mulT (fBin mulT (fC (.int 7919)) (fVar 1)) (fVar 1))) (fBin mulT (fC (.int 31)) (fVar 1))) (fC (.int 17))) (fC (.int 48271)))) (fC (.int 2147483647))))
    (qSeq (qRet (fRef (fAll [(fBin mulT (fVar 3) (fB1 intT (fCmp geT (fVar 3) (fBin powT (fC (.int 10)) (fC (.int 18)))))), (fVar 4)])))
    qNil)))))
def FPool : List T → M T := fnS 3 gPool
theorem mulR {i j : Int} (h1 : -(2 ^ 64) < j) (h2 : j < 2 ^ 64) : mulT (.int i) (.int j) = some (.int (i * j)) := by
  show (if mulOk i j = true then some (T.int (i * j)) else none) = _
  rw [if_pos]
  unfold mulOk
  rw [decide_eq_true h1, decide_eq_true h2]
  simp
theorem mulL {i j : Int} (h1 : -(2 ^ 64) < i) (h2 : i < 2 ^ 64) : mulT (.int i) (.int j) = some (.int (i * j)) := by
  show (if mulOk i j = true then some (T.int (i * j)) else none) = _
  rw [if_pos]
  unfold mulOk
  rw [decide_eq_true h1, decide_eq_true h2]
  simp
theorem modP {i j : Int} (h : 0 < j) : modT (.int i) (.int j) = some (.int (i % j)) := lf_mod h
theorem divB {i j : Int} (h : 0 < j) (h2 : j.natAbs < 2 ^ 1000) : divT (.int i) (.int j) = some (.int (i / j)) := lf_div h h2
theorem take {k : Nat} {n : Int} {r : RS} (h : Pool k r) (hn : 0 < n) (hn2 : n.natAbs < 2 ^ 1000) : ∃ v r', FTake [.ref k, .int n] r = .ok (.int v) r' ∧ Pool k r' ∧ 0 ≤ v ∧ v < n := by
  obtain ⟨a, b, hk⟩ := h
  have hl : k < r.length := (List.getElem?_eq_some_iff.mp hk).1
  by_cases h : 0 < a
  · refine ⟨a % n, r.set k [.int (a / n), .int b], ?_, ⟨_, _, List.getElem?_set_self hl⟩, Int.emod_nonneg _ (by omega), Int.emod_lt_of_pos _ hn⟩
    refine n_fn (n_seqR (n_ifT (r1 := r) (e_cmpB (x := .int a) (y := .int 0) (r1 := r) (r2 := r) (e_ix rfl rfl (fst_ref hk)) rfl ?_) (n_seq (n_set (t := .int (a % n)) (r1 := r) (e_bin (r1 := r) (r2 := r) (x := .int a) (y := .int n) (e_b1 (x := .int a) (e_ix rfl rfl (fst_ref hk)) rfl) rfl (modP hn)))
      (n_seq (n_setIx (k := k) (j := 0) (x := 0) (xs := [.int a, .int b]) (t := .int (a / n)) (r1 := r) (r2 := r) rfl (e_bin (r1 := r) (x := .int a) (y := .int n) (e_ix rfl rfl (fst_ref hk)) rfl (divB hn hn2)) rfl hk rfl) (n_seqR (n_ret (t := .int (a % n)) (r1 := r.set k [.int (a / n), .int b]) rfl))))))
    rw [gt_ii, decide_eq_true h]
  · have m1 : 0 ≤ (b * 39373 + 7) % 2147483647 := Int.emod_nonneg _ (by omega)
    have m2 : (b * 39373 + 7) % 2147483647 < 2147483647 := Int.emod_lt_of_pos _ (by omega)
    generalize e : (b * 39373 + 7) % 2147483647 = c at m1 m2
    have hk2 : (r.set k [.int a, .int c])[k]? = some [.int a, .int c] := List.getElem?_set_self hl
    refine ⟨(c * c) % 2147483629 / 32 % n, r.set k [.int a, .int c], ?_, ⟨_, _, hk2⟩, Int.emod_nonneg _ (by omega), Int.emod_lt_of_pos _ hn⟩
    refine n_fn (n_seq (env' := envOf 1 [.ref k, .int n]) (r1 := r) (n_ifF (r1 := r) (e_cmpB (x := .int a) (y := .int 0) (r1 := r) (r2 := r) (e_ix rfl rfl (fst_ref hk)) rfl ?_) rfl)
      (n_seq (n_setIx (k := k) (j := 1) (x := 1) (xs := [.int a, .int b]) (t := .int c) (r1 := r) (r2 := r) rfl
        (e_bin (x := .int (b * 39373 + 7)) (y := .int 2147483647) (r1 := r) (e_b1 (x := .int (b * 39373 + 7)) (e_bin (x := .int (b * 39373)) (y := .int 7) (r1 := r) (e_bin (x := .int b) (y := .int 39373) (r1 := r) (e_ix rfl rfl (snd_ref hk)) rfl (mulR (by decide) (by decide))) rfl rfl) rfl) rfl ?_) rfl hk rfl)
      (n_seqR (n_ret (t := .int ((c * c) % 2147483629 / 32 % n)) (r1 := r.set k [.int a, .int c])
        (e_bin (x := .int ((c * c) % 2147483629 / 32)) (y := .int n) (r1 := r.set k [.int a, .int c]) (e_b1 (x := .int ((c * c) % 2147483629 / 32)) (r1 := r.set k [.int a, .int c]) (e_bin (x := .int ((c * c) % 2147483629)) (y := .int 32) (r1 := r.set k [.int a, .int c]) (e_bin (x := .int (c * c)) (y := .int 2147483629) (r1 := r.set k [.int a, .int c])
          (e_b1 (x := .int (c * c)) (e_bin (x := .int c) (y := .int c) (r1 := r.set k [.int a, .int c]) (e_ix rfl rfl (snd_ref hk2)) (e_ix rfl rfl (snd_ref hk2)) (mulR (by omega) (by omega))) rfl) rfl (modP (by decide))) rfl (divB (by decide) (by decide))) rfl) rfl (modP hn))))))
    · rw [gt_ii, decide_eq_false h]
    · rw [modP (by decide), e]
theorem pick {k : Nat} {xs : List T} {r : RS} (h : Pool k r) (h0 : 0 < xs.length) (h1 : xs.length < 2 ^ 64) : ∃ t r', FPick [.ref k, .lst xs] r = .ok t r' ∧ Pool k r' ∧ t ∈ xs := by
  obtain ⟨v, r', e, hp, v0, v1⟩ := take (n := xs.length) h (by omega) (by omega)
  have hv : v.toNat < xs.length := by omega
  have ea : atI xs v = some xs[v.toNat] := by
    have := atI_nat (xs := xs) (j := v.toNat) (List.getElem?_eq_getElem hv)
    rw [show ((v.toNat : Nat) : Int) = v by omega] at this
    exact this
  refine ⟨xs[v.toNat], r', ?_, hp, List.getElem_mem _⟩
  exact n_fn (n_seqR (n_ret (e_ix (x := .lst xs) (y := .int v) (r1 := r) rfl (e_call (e_cons (x := .ref k) rfl (e_cons (x := .int xs.length) rfl e_nil)) e) ea)))
theorem pool (ns : List Int) (h : ns.length ≤ 63) (k : Nat) (k1 : k < 64) (r : RS) : ∃ a b, FPool [.kls (ns.map T.int), .int (k : Int)] r = .ok (.ref r.length) (r ++ [[.int a, .int b]]) := by
  obtain ⟨c, hc⟩ : ∃ c : Int, ∀ so, (∀ s3 s4 : Slot, (qSeq (qSet 3 (fBin max2T (fB1 intT (fVar 2)) (fB1 intT (fBin subT (fUn negT (fC (.int 1))) (fVar 2)))))
    (qSeq (qSet 4 (fBin modT (fB1 intT (fBin mulT (fBin addT (fBin addT (fBin addT (fBin modT (fB1 intT (fVar 3)) (fC (.int 2147483629))) (fBin mulT (fBin mulT (fC (.int 7919)) (fVar 1)) (fVar 1))) (fBin mulT (fC (.int 31)) (fVar 1))) (fC (.int 17))) (fC (.int 48271)))) (fC (.int 2147483647))))
    (qSeq (qRet (fRef (fAll [(fBin mulT (fVar 3) (fB1 intT (fCmp geT (fVar 3) (fBin powT (fC (.int 10)) (fC (.int 18)))))), (fVar 4)])))
    qNil))) [.val (.kls (ns.map T.int)), .val (.int (k : Int)), .val (.int c), s3, s4] r = so) → gPool (envOf 3 [.kls (ns.map T.int), .int (k : Int)]) r = so := by
    have ln : lenT r (.kls (ns.map T.int)) = some (.int (ns.length : Int)) := by
      show some (T.int ((ns.map T.int).length : Nat)) = _
      rw [List.length_map]
    by_cases q : k < ns.length
    · refine ⟨ns[k], fun so hso => n_seq (n_set (t := .int 0) (r1 := r) rfl) (n_seq (n_ifT (r1 := r) (e_cmpB (x := .int (k : Int)) (y := .int (ns.length : Int)) (r1 := r) (r2 := r) rfl (e_b1 (x := .kls (ns.map T.int)) (r1 := r) rfl ln) (by rw [ltI, decide_eq_true (by omega)])) (n_seq (n_set (t := .int ns[k]) (r1 := r) (e_ix (x := .kls (ns.map T.int)) (y := .int (k : Int)) (r1 := r) (r2 := r) rfl rfl ?_)) rfl)) (hso _ _))⟩
      exact atI_nat (by rw [List.getElem?_map, List.getElem?_eq_getElem q]; rfl)
    · exact ⟨0, fun so hso => n_seq (n_set (t := .int 0) (r1 := r) rfl) (n_seq (n_ifF (r1 := r) (e_cmpB (x := .int (k : Int)) (y := .int (ns.length : Int)) (r1 := r) (r2 := r) rfl (e_b1 (x := .kls (ns.map T.int)) (r1 := r) rfl ln) (by rw [ltI, decide_eq_false (by omega)])) rfl) (hso _ _))⟩
  obtain ⟨w, ew⟩ : ∃ w, w = (if -1 - c > c then -1 - c else c) := ⟨_, rfl⟩
  have e3 : max2T (.int c) (.int (-1 - c)) = some (.int w) := by rw [ew]; rfl
  obtain ⟨s, es⟩ : ∃ s, s = (w % 2147483629 + 7919 * (k : Int) * k + 31 * k + 17) * 48271 % 2147483647 := ⟨_, rfl⟩
  have m1 : mulT (.int 7919) (.int (k : Int)) = some (.int (7919 * (k : Int))) := mulL (by decide) (by decide)
  have m2 : mulT (.int (7919 * (k : Int))) (.int (k : Int)) = some (.int (7919 * (k : Int) * k)) := mulR (by omega) (by omega)
  have m3 : mulT (.int 31) (.int (k : Int)) = some (.int (31 * (k : Int))) := mulL (by decide) (by decide)
  have m4 : mulT (.int (w % 2147483629 + 7919 * (k : Int) * k + 31 * k + 17)) (.int 48271) = some (.int ((w % 2147483629 + 7919 * (k : Int) * k + 31 * k + 17) * 48271)) := mulR (by decide) (by decide)
  have d1 : modT (.int w) (.int 2147483629) = some (.int (w % 2147483629)) := modP (by decide)
  have d2 : modT (.int ((w % 2147483629 + 7919 * (k : Int) * k + 31 * k + 17) * 48271)) (.int 2147483647) = some (.int s) := by rw [es]; exact modP (by decide)
  have w1 : powT (.int 10) (.int 18) = some (.int (10 ^ 18)) := rfl
  have g1 : geT (.int w) (.int (10 ^ 18)) = some (decide (10 ^ 18 ≤ w)) := rfl
  have i1 : ∀ r, intT r (.bl (decide (10 ^ 18 ≤ w))) = some (.int (if decide (10 ^ 18 ≤ w) then 1 else 0)) := fun r => rfl
  have m5 : mulT (.int w) (.int (if decide (10 ^ 18 ≤ w) then 1 else 0)) = some (.int (w * (if decide (10 ^ 18 ≤ w) then 1 else 0))) := mulR (by split <;> decide) (by split <;> decide)
  refine ⟨w * (if decide (10 ^ 18 ≤ w) then 1 else 0), s, n_fn (hc _ fun s3 s4 => ?_)⟩
  refine n_seq (n_set (e_bin (x := .int c) (y := .int (-1 - c)) (r1 := r) (e_b1 (x := .int c) (r1 := r) rfl rfl) (e_b1 (x := .int (-1 - c)) (r1 := r) (e_bin (x := .int (-1)) (y := .int c) (r1 := r) rfl rfl rfl) rfl) e3)) ?_
  refine n_seq (n_set (e_bin (x := .int ((w % 2147483629 + 7919 * (k : Int) * k + 31 * k + 17) * 48271)) (y := .int 2147483647) (r1 := r) (e_b1 (x := .int ((w % 2147483629 + 7919 * (k : Int) * k + 31 * k + 17) * 48271)) (r1 := r) (e_bin (x := .int (w % 2147483629 + 7919 * (k : Int) * k + 31 * k + 17)) (y := .int 48271) (r1 := r) (e_bin (x := .int (w % 2147483629 + 7919 * (k : Int) * k + 31 * k)) (y := .int 17) (r1 := r) (e_bin (x := .int (w % 2147483629 + 7919 * (k : Int) * k)) (y := .int (31 * (k : Int))) (r1 := r) (e_bin (x := .int (w % 2147483629)) (y := .int (7919 * (k : Int) * k)) (r1 := r) (e_bin (x := .int w) (y := .int 2147483629) (r1 := r) (e_b1 (x := .int w) (r1 := r) rfl rfl) rfl d1) (e_bin (x := .int (7919 * (k : Int))) (y := .int (k : Int)) (r1 := r) (e_bin (x := .int 7919) (y := .int (k : Int)) (r1 := r) rfl rfl m1) rfl m2) rfl) (e_bin (x := .int 31) (y := .int (k : Int)) (r1 := r) rfl rfl m3) rfl) rfl rfl) rfl m4) rfl) rfl d2)) ?_
  obtain ⟨z, ez⟩ : ∃ z, z = w * (if decide (10 ^ 18 ≤ w) then 1 else 0) := ⟨_, rfl⟩
  rw [← ez] at m5 ⊢
  exact n_seqR (n_ret (e_ref (e_cons (x := .int z) (r1 := r) (e_bin (x := .int w) (y := .int (if decide (10 ^ 18 ≤ w) then 1 else 0)) (r1 := r) rfl (e_b1 (x := .bl (decide (10 ^ 18 ≤ w))) (r1 := r) (e_cmp (x := .int w) rfl (e_bin (x := .int 10) (y := .int 18) rfl rfl w1) g1) (i1 r)) m5) (e_cons (x := .int s) (r1 := r) rfl e_nil))))
theorem e_own2 {C : Nat} {F : List T → M T} {us : List T} {u : T} {r r' : RS} {z : T} (h : F [.obj C us, u] r = .ok z r') : own2 C F (.obj C us) u r = .ok z r' := by
  have e : own2 C F (.obj C us) u = noEx (F [.obj C us, u]) := by simp [own2]
  rw [e]
  unfold noEx
  rw [h]
theorem e_own2s {C : Nat} {F : List T → M T} {us vs : List T} {r r' : RS} {z : T} (h : F [.obj C us, .obj C vs] r = .ok z r') : own2s C F (.obj C us) (.obj C vs) r = .ok z r' := by
  have e : own2s C F (.obj C us) (.obj C vs) = own2 C F (.obj C us) (.obj C vs) := by simp [own2s, sameT]
  rw [e]
  exact e_own2 h
theorem e_own2n {C : Nat} {F : List T → M T} {us vs : List T} {r r' : RS} {b : Bool} (h : F [.obj C us, .obj C vs] r = .ok (.bl b) r') : own2n C F (.obj C us) (.obj C vs) r = .ok (.bl !b) r' := bind_ok (e_own2s h) rfl
theorem e_own2c {C : Nat} {F : List T → M T} {us : List T} {u : T} {r r' : RS} {b : Bool} (h : F [.obj C us, u] r = .ok (.bl b) r') : own2c C F u (.obj C us) r = .ok (.bl b) r' := bind_ok (e_own2 h) rfl
theorem e_own2nc {C : Nat} {F : List T → M T} {us : List T} {u : T} {r r' : RS} {b : Bool} (h : F [.obj C us, u] r = .ok (.bl b) r') : own2nc C F u (.obj C us) r = .ok (.bl !b) r' := bind_ok (e_own2 h) rfl
theorem e_own2x {C : Nat} {F : List T → M T} {us : List T} {u : T} {r r' : RS} {z : T} (hp : (plainT u).isSome = true) (h : F [.obj C us, u] r = .ok z r') : own2x C F (.obj C us) u r = .ok z r' := by
  unfold own2x
  rw [if_pos hp]
  exact e_own2 h
theorem two_ok {f g : Ep.Env → M T} {h : T → T → M T} {env : Ep.Env} {r r1 r2 : RS} {x y : T} {o : Out T} (h1 : f env r = .ok x r1) (h2 : g env r1 = .ok y r2) (h3 : h x y r2 = o) : (fun env => f env >>= fun x => g env >>= fun y => h x y) env r = o := bind_ok h1 (bind_ok h2 h3)
/-- a walk through a list that nothing changes -/
theorem loop_at {α : Type} {c : Option (Nat × List T)} {h : T → Ep.Env → Option Ep.Env} {s : Sm} {r : RS} (ck : chkR c r) (u : α → T) (P : Ep.Env → Prop) (rest : Nat → List T) (st : ∀ a n env, P env → ∃ e1 e2, h (.tup [.int (n : Nat), u a]) env = some e1 ∧ s e1 r = .nx e2 r ∧ P e2) : ∀ (L : List α) (n : Nat) (more : List T) (env : Ep.Env), P env → ∃ e2, loopG c h s (enumL n (L.map u ++ more)) env r = loopG c h s (enumL (n + L.length) more) e2 r ∧ P e2
  | [], n, more, env, p => ⟨env, rfl, p⟩
  | a :: L, n, more, env, p => by
    obtain ⟨e1, e2, h1, h2, p2⟩ := st a n env p
    obtain ⟨e3, k, p3⟩ := loop_at ck u P rest st L (n + 1) more e2 p2
    refine ⟨e3, ?_, p3⟩
    rw [List.map_cons, List.cons_append]
    show loopG c h s (.tup [.int (n : Nat), u a] :: enumL (n + 1) (L.map u ++ more)) env r = _
    rw [loopG_cons ck, h1]
    show (match s e1 r with
      | .nx e r' => loopG c h s (enumL (n + 1) (L.map u ++ more)) e r'
      | .ct e r' => loopG c h s (enumL (n + 1) (L.map u ++ more)) e r'
      | .bk e r' => .nx e r'
      | .rt t r' => .rt t r'
      | .exn c p e r' => .exn c p e r'
      | .bad => .bad) = _
    rw [h2]
    show loopG c h s (enumL (n + 1) (L.map u ++ more)) e2 r = _
    rw [k, List.length_cons, show n + 1 + L.length = n + (L.length + 1) by omega]
theorem loop_exn {c : Option (Nat × List T)} {h : T → Ep.Env → Option Ep.Env} {s : Sm} {r r' : RS} {env e1 e2 : Ep.Env} {x : T} {xs : List T} {i : Nat} {p : T} (ck : chkR c r) (h1 : h x env = some e1) (h2 : s e1 r = .exn i p e2 r') : loopG c h s (x :: xs) env r = .exn i p e2 r' := by
  rw [loopG_cons ck, h1]
  show (match s e1 r with
      | .nx e r' => loopG c h s xs e r'
      | .ct e r' => loopG c h s xs e r'
      | .bk e r' => .nx e r'
      | .rt t r' => .rt t r'
      | .exn c p e r' => .exn c p e r'
      | .bad => .bad) = _
  rw [h2]
theorem n_forG {fi : Ep.Env → M (List T × Option (Nat × List T))} {h : T → Ep.Env → Option Ep.Env} {s : Sm} {env : Ep.Env} {r r1 : RS} {c : Option (Nat × List T)} {xs : List T} {so : SO} (h1 : fi env r = .ok (xs, c) r1) (h2 : loopG c h s xs env r1 = so) : qForG fi h s env r = so := by
  unfold qForG ofM
  rw [h1]
  exact h2
theorem e_enumG {f : Ep.Env → M T} {env : Ep.Env} {r r1 : RS} {t : T} {xs : List T} {c : Option (Nat × List T)} (h1 : f env r = .ok t r1) (h2 : EnTltR r1 t = some (xs, c)) : fEnumG f env r = .ok (enumL 0 xs, c) r1 := bind_ok h1 (by show M.lift _ r1 = _; rw [h2]; rfl)
theorem n_ifT_x {p : Ep.Env → M Bool} {s s' : Sm} {env : Ep.Env} {r r1 : RS} {so : SO} (h : p env r = .ok true r1) (h2 : s env r1 = so) : qIf p s s' env r = so := n_ifT h h2
theorem cut_take (xs : List T) (k : Nat) : cutT xs none (some (k : Int)) = xs.take k := by
  unfold cutT
  rw [HT.sIx_nat, show HT.sIx xs.length 0 none = 0 from rfl, List.drop_zero, Nat.sub_zero]
  by_cases c : k ≤ xs.length
  · rw [Nat.min_eq_left c]
  · rw [Nat.min_eq_right (by omega), List.take_of_length_le (Nat.le_refl _), List.take_of_length_le (by omega)]
theorem cut_drop (xs : List T) (k : Nat) : cutT xs (some (k : Int)) none = xs.drop k := by
  unfold cutT
  rw [HT.sIx_nat, show HT.sIx xs.length xs.length none = xs.length from rfl, List.take_of_length_le (by rw [List.length_drop]; exact Nat.le_refl _)]
  by_cases c : k ≤ xs.length
  · rw [Nat.min_eq_left c]
  · rw [Nat.min_eq_right (by omega), List.drop_eq_nil_of_le (Nat.le_refl _), List.drop_eq_nil_of_le (by omega)]
theorem sl_take (xs : List T) (k : Nat) (r : RS) : slT r (.lst xs) none (some (k : Int)) = some (.lst (xs.take k)) := by
  show some (T.lst (cutT xs none (some (k : Int)))) = _
  rw [cut_take]
theorem sl_drop (xs : List T) (k : Nat) (r : RS) : slT r (.lst xs) (some (k : Int)) none = some (.lst (xs.drop k)) := by
  show some (T.lst (cutT xs (some (k : Int)) none)) = _
  rw [cut_drop]
theorem n_appR {i k : Nat} {f : Ep.Env → M T} {env : Ep.Env} {r r1 : RS} {xs : List T} {t : T} (he : env[i]? = some (.val (.ref k))) (h : f env r = .ok t r1) (hk : r1[k]? = some xs) (hl : xs.length < 100000) : qApp i f env r = .nx env (r1.set k (xs ++ [t])) := by
  have e1 : isMut env i = true := by unfold isMut; rw [he]
  have e2 : mutGet env i r1 = some xs := by unfold mutGet; rw [he]; exact hk
  have e3 : mutSet env i r1 (xs ++ [t]) = .nx env (r1.set k (xs ++ [t])) := by unfold mutSet; rw [he]
  unfold qApp
  rw [if_pos e1, h]
  show (match mutGet env i r1 with
    | some xs => if xs.length < 100000 then mutSet env i r1 (xs ++ [t]) else .bad
    | none => .bad) = _
  rw [e2]
  show (if xs.length < 100000 then mutSet env i r1 (xs ++ [t]) else .bad) = _
  rw [if_pos hl]
  exact e3
theorem add_lst {xs ys : List T} (h : xs.length + ys.length ≤ 100000) : addT (.lst xs) (.lst ys) = some (.lst (xs ++ ys)) := if_pos h
theorem rounds_n {r : RS} (ns : List Int) : ∃ n : Nat, n ≤ 3 ∧ ∀ (f : Ep.Env → M T) (env : Ep.Env), f env r = .ok (.kls (ns.map T.int)) r → fBin rgsT (fC (.int 0)) (fBin max2T (fC (.int 1)) (fBin min2T (fB1 lenT f) (fC (.int 3)))) env r = .ok (.lst (rngL 0 n)) r := by
  have ln : lenT r (.kls (ns.map T.int)) = some (.int (ns.length : Int)) := by
    show some (T.int ((ns.map T.int).length : Nat)) = _
    rw [List.length_map]
  obtain ⟨m, em, hm⟩ : ∃ m : Int, min2T (.int (ns.length : Int)) (.int 3) = some (.int m) ∧ m ≤ 3 := ⟨_, rfl, by split <;> omega⟩
  obtain ⟨q, eq, q1, q2⟩ : ∃ q : Int, max2T (.int 1) (.int m) = some (.int q) ∧ 1 ≤ q ∧ q ≤ 3 := ⟨_, rfl, by split <;> omega, by split <;> omega⟩
  refine ⟨q.toNat, by omega, fun f env h => ?_⟩
  refine e_bin (x := .int 0) (y := .int q) (r1 := r) (r2 := r) rfl (e_bin (x := .int 1) (y := .int m) (r1 := r) (r2 := r) rfl (e_bin (x := .int (ns.length : Int)) (y := .int 3) (r1 := r) (r2 := r) (e_b1 (x := .kls (ns.map T.int)) (r1 := r) h ln) rfl em) eq) ?_
  obtain ⟨k, rfl⟩ : ∃ k : Nat, q = (k : Int) := ⟨q.toNat, by omega⟩
  have : k = 1 ∨ k = 2 ∨ k = 3 := by omega
  rcases this with rfl | rfl | rfl <;> rfl
theorem rng0_mem {n : Nat} {t : T} (h : t ∈ rngL 0 n) : ∃ k : Nat, t = .int (k : Int) ∧ k < n := by
  obtain ⟨i, hi, rfl⟩ := List.mem_map.mp h
  exact ⟨i, by show T.int (0 + (i : Nat)) = _; rw [Int.zero_add], List.mem_range.mp hi⟩
end Dr
/-! rows of segments: what a place shows, and one row for each showing. -/
namespace Rg
/-- a segment: from, below, a value; none: no end -/
abbrev Sg (α : Type) := Option Int × Option Int × α
def loB (lo : Option Int) (i : Int) : Bool := match lo with | none => true | some l => decide (l ≤ i)
def hiB (hi : Option Int) (i : Int) : Bool := match hi with | none => true | some h => decide (i < h)
def inb (lo hi : Option Int) (i : Int) : Bool := loB lo i && hiB hi i
def fits (lo hi : Option Int) : Bool := match lo, hi with | some l, some h => decide (l < h) | _, _ => true
theorem inb_ss {l h i : Int} : inb (some l) (some h) i = true ↔ l ≤ i ∧ i < h := by simp [inb, loB, hiB]
theorem inb_sn {l i : Int} : inb (some l) none i = true ↔ l ≤ i := by simp [inb, loB, hiB]
theorem inb_ns {h i : Int} : inb none (some h) i = true ↔ i < h := by simp [inb, loB, hiB]
theorem inb_nn {i : Int} : inb none none i = true := rfl
theorem inb_lo {l : Int} {hi : Option Int} {i : Int} (h : inb (some l) hi i = true) : l ≤ i := by
  cases hi with
  | none => exact inb_sn.mp h
  | some k => exact (inb_ss.mp h).1
theorem inb_hi {lo : Option Int} {k i : Int} (h : inb lo (some k) i = true) : i < k := by
  cases lo with
  | none => exact inb_ns.mp h
  | some l => exact (inb_ss.mp h).2
/-- a segment has a place -/
theorem fits_ex {lo hi : Option Int} (f : fits lo hi = true) : ∃ i, inb lo hi i = true := by
  cases lo with
  | none =>
    cases hi with
    | none => exact ⟨0, rfl⟩
    | some k => exact ⟨k - 1, inb_ns.mpr (by omega)⟩
  | some l =>
    cases hi with
    | none => exact ⟨l, inb_sn.mpr (by omega)⟩
    | some k => exact ⟨l, inb_ss.mpr ⟨by omega, of_decide_eq_true f⟩⟩
section
variable {α : Type} [DecidableEq α]
/-- what a row shows at a place -/
def at_ (d : α) : List (Sg α) → Int → α
  | [], _ => d
  | (lo, hi, v) :: r, i => if inb lo hi i = true then v else at_ d r i
/-- s lies below t, and unlike where they touch -/
def sep (s t : Sg α) : Prop := ∃ h l, s.2.1 = some h ∧ t.1 = some l ∧ (h < l ∨ h = l ∧ s.2.2 ≠ t.2.2)
/-- the one row -/
structure Can (d : α) (xs : List (Sg α)) : Prop where
  ok : ∀ s ∈ xs, s.2.2 ≠ d ∧ fits s.1 s.2.1 = true
  sp : xs.Pairwise sep
theorem Can.nil (d : α) : Can d ([] : List (Sg α)) := ⟨fun _ h => (List.not_mem_nil h).elim, .nil⟩
theorem Can.tail {d : α} {s : Sg α} {xs : List (Sg α)} (c : Can d (s :: xs)) : Can d xs := ⟨fun t h => c.ok t (List.mem_cons_of_mem _ h), (List.pairwise_cons.mp c.sp).2⟩
/-- behind the first segment nothing shows below its end -/
theorem at_low {d : α} {lo hi : Option Int} {v : α} : ∀ {xs : List (Sg α)}, (∀ t ∈ xs, sep (lo, hi, v) t) → ∀ {k i : Int}, hi = some k → i < k → at_ d xs i = d
  | [], _, _, _, _, _ => rfl
  | (a, b, w) :: xs, h, k, i, e, lt => by
    obtain ⟨h1, l1, e1, e2, e3⟩ := h _ (List.mem_cons_self ..)
    have e1 : hi = some h1 := e1
    have e2 : a = some l1 := e2
    rw [e] at e1
    cases e1
    subst e2
    unfold at_
    rw [if_neg]
    · exact at_low (fun t m => h t (List.mem_cons_of_mem _ m)) e lt
    · intro q
      have := inb_lo q
      rcases e3 with e3 | e3 <;> omega
theorem none_last {d : α} {lo : Option Int} {v : α} {xs : List (Sg α)} (c : Can d ((lo, none, v) :: xs)) : xs = [] := by
  cases xs with
  | nil => rfl
  | cons t xs =>
    obtain ⟨h, l, e, _⟩ := (List.pairwise_cons.mp c.sp).1 t (List.mem_cons_self ..)
    cases e
theorem at_in {d : α} {lo hi : Option Int} {v : α} {xs : List (Sg α)} {i : Int} (h : inb lo hi i = true) : at_ d ((lo, hi, v) :: xs) i = v := by unfold at_; rw [if_pos h]
theorem at_off {d : α} {lo hi : Option Int} {v : α} {xs : List (Sg α)} {i : Int} (h : ¬ inb lo hi i = true) : at_ d ((lo, hi, v) :: xs) i = at_ d xs i := by conv => lhs; unfold at_; rw [if_neg h]
/-- the tail shows what the row shows, but in the first segment -/
theorem at_tail {d : α} {lo hi : Option Int} {v : α} {xs : List (Sg α)} (c : Can d ((lo, hi, v) :: xs)) (i : Int) : at_ d xs i = if inb lo hi i = true then d else at_ d ((lo, hi, v) :: xs) i := by
  by_cases h : inb lo hi i = true
  · rw [if_pos h]
    cases hi with
    | none => rw [none_last c]; rfl
    | some k => exact at_low (List.pairwise_cons.mp c.sp).1 rfl (inb_hi h)
  · rw [if_neg h, at_off h]
/-- below the first segment nothing shows -/
theorem at_below {d : α} {l : Int} {hi : Option Int} {v : α} {xs : List (Sg α)} (c : Can d ((some l, hi, v) :: xs)) {i : Int} (h : i < l) : at_ d ((some l, hi, v) :: xs) i = d := by
  rw [at_off (fun q => by have := inb_lo q; omega)]
  cases hi with
  | none => rw [none_last c]; rfl
  | some k =>
    have f := (c.ok _ (List.mem_cons_self ..)).2
    have : l < k := of_decide_eq_true f
    exact at_low (List.pairwise_cons.mp c.sp).1 rfl (by omega)
/-- at the first segment's end something else shows -/
theorem at_end {d : α} {lo : Option Int} {k : Int} {v : α} {xs : List (Sg α)} (c : Can d ((lo, some k, v) :: xs)) : at_ d ((lo, some k, v) :: xs) k ≠ v := by
  rw [at_off (fun q => by have := inb_hi q; omega)]
  have nv := (c.ok _ (List.mem_cons_self ..)).1
  cases xs with
  | nil => exact fun e => nv e.symm
  | cons t xs =>
    obtain ⟨a, b, w⟩ := t
    obtain ⟨h, l, e1, e2, e3⟩ := (List.pairwise_cons.mp c.sp).1 _ (List.mem_cons_self ..)
    cases e1
    have e2 : a = some l := e2
    subst e2
    rcases e3 with e3 | ⟨e3, e4⟩
    · rw [at_below c.tail e3]; exact fun e => nv e.symm
    · subst e3
      rw [at_in]
      · exact fun e => e4 e.symm
      · have f := (c.tail.ok _ (List.mem_cons_self ..)).2
        cases b with
        | none => exact inb_sn.mpr (by omega)
        | some b' => exact inb_ss.mpr ⟨by omega, of_decide_eq_true f⟩
theorem fits_at {l : Int} {hi : Option Int} (f : fits (some l) hi = true) : inb (some l) hi l = true := by
  cases hi with
  | none => exact inb_sn.mpr (by omega)
  | some k => exact inb_ss.mpr ⟨by omega, of_decide_eq_true f⟩
/-- rows that show the same begin the same -/
theorem can_lo {d : α} {lo hi lo' hi' : Option Int} {v v' : α} {xs ys : List (Sg α)} (c : Can d ((lo, hi, v) :: xs)) (c' : Can d ((lo', hi', v') :: ys)) (h : ∀ i, at_ d ((lo, hi, v) :: xs) i = at_ d ((lo', hi', v') :: ys) i) {l : Int} (e : lo = some l) : ∃ l', lo' = some l' ∧ l ≤ l' := by
  subst e
  cases lo' with
  | some l' =>
    refine ⟨l', rfl, ?_⟩
    rcases Int.lt_or_le l' l with q | q
    · have := at_below c q
      rw [h, at_in (fits_at (c'.ok _ (List.mem_cons_self ..)).2)] at this
      exact absurd this (c'.ok _ (List.mem_cons_self ..)).1
    · exact q
  | none =>
    obtain ⟨k, hk, hl⟩ : ∃ k : Int, inb none hi' k = true ∧ k < l := by
      cases hi' with
      | none => exact ⟨l - 1, rfl, by omega⟩
      | some m => exact ⟨min (l - 1) (m - 1), inb_ns.mpr (by omega), by omega⟩
    have := at_below c hl
    rw [h, at_in hk] at this
    exact absurd this (c'.ok _ (List.mem_cons_self ..)).1
theorem can_hi {d : α} {lo hi hi' : Option Int} {v : α} {xs ys : List (Sg α)} (c : Can d ((lo, hi, v) :: xs)) (c' : Can d ((lo, hi', v) :: ys)) (h : ∀ i, at_ d ((lo, hi, v) :: xs) i = at_ d ((lo, hi', v) :: ys) i) {k : Int} (e : hi = some k) : ∃ k', hi' = some k' ∧ k' ≤ k := by
  subst e
  have ne := at_end c
  rw [h] at ne
  have nin : ¬ inb lo hi' k = true := fun q => ne (at_in q)
  have lk : ∀ l, lo = some l → l < k := fun l e => by subst e; exact of_decide_eq_true (c.ok _ (List.mem_cons_self ..)).2
  cases hi' with
  | none =>
    cases lo with
    | none => exact absurd rfl nin
    | some l => exact absurd (inb_sn.mpr (Int.le_of_lt (lk l rfl))) nin
  | some k' =>
    refine ⟨k', rfl, ?_⟩
    rcases Int.lt_or_le k k' with q | q
    · cases lo with
      | none => exact absurd (inb_ns.mpr q) nin
      | some l => exact absurd (inb_ss.mpr ⟨Int.le_of_lt (lk l rfl), q⟩) nin
    · exact q
/-- one row for each showing -/
theorem can_one {d : α} : ∀ {xs ys : List (Sg α)}, Can d xs → Can d ys → (∀ i, at_ d xs i = at_ d ys i) → xs = ys
  | [], [], _, _, _ => rfl
  | [], (lo, hi, v) :: ys, _, c', h => by
    obtain ⟨i, hi⟩ := fits_ex (c'.ok _ (List.mem_cons_self ..)).2
    have := h i
    rw [at_in hi] at this
    exact absurd this.symm (c'.ok _ (List.mem_cons_self ..)).1
  | (lo, hi, v) :: xs, [], c, _, h => by
    obtain ⟨i, hi⟩ := fits_ex (c.ok _ (List.mem_cons_self ..)).2
    have := h i
    rw [at_in hi] at this
    exact absurd this (c.ok _ (List.mem_cons_self ..)).1
  | (lo, hi, v) :: xs, (lo', hi', v') :: ys, c, c', h => by
    have h' : ∀ i, at_ d ((lo', hi', v') :: ys) i = at_ d ((lo, hi, v) :: xs) i := fun i => (h i).symm
    have el : lo = lo' := by
      cases lo with
      | none =>
        cases lo' with
        | none => rfl
        | some l' => obtain ⟨_, e, _⟩ := can_lo c' c h' rfl; cases e
      | some l =>
        obtain ⟨l', e, q⟩ := can_lo c c' h rfl
        subst e
        obtain ⟨l2, e, q'⟩ := can_lo c' c h' rfl
        cases e
        rw [show l = l' by omega]
    subst el
    have ev : v = v' := by
      obtain ⟨i, h1, h2⟩ : ∃ i, inb lo hi i = true ∧ inb lo hi' i = true := by
        have f1 := (c.ok _ (List.mem_cons_self ..)).2
        have f2 := (c'.ok _ (List.mem_cons_self ..)).2
        cases lo with
        | some l => exact ⟨l, fits_at f1, fits_at f2⟩
        | none =>
          cases hi with
          | none => exact (fits_ex f2).elim fun i q => ⟨i, rfl, q⟩
          | some k =>
            cases hi' with
            | none => exact (fits_ex f1).elim fun i q => ⟨i, q, rfl⟩
            | some k' => exact ⟨min (k - 1) (k' - 1), inb_ns.mpr (by omega), inb_ns.mpr (by omega)⟩
      have := h i
      rw [at_in h1, at_in h2] at this
      exact this
    subst ev
    have eh : hi = hi' := by
      cases hi with
      | none =>
        cases hi' with
        | none => rfl
        | some k' => obtain ⟨_, e, _⟩ := can_hi c' c h' rfl; cases e
      | some k =>
        obtain ⟨k', e, q⟩ := can_hi c c' h rfl
        subst e
        obtain ⟨k2, e, q'⟩ := can_hi c' c h' rfl
        cases e
        rw [show k = k' by omega]
    subst eh
    rw [can_one c.tail c'.tail fun i => by rw [at_tail c, at_tail c', h i]]
end
end Rg
/-! rows joined; the lots between cuts. -/
namespace Rg
section
variable {α : Type} [DecidableEq α]
/-- a row goes behind the last one of a row that is told from its end on -/
def jn (d : α) (found : List (Sg α)) (s : Sg α) : List (Sg α) := if s.2.2 = d then found else match found with
  | [] => [s]
  | t :: r => if t.2.1 = s.1 ∧ t.2.2 = s.2.2 then (t.1, s.2.1, s.2.2) :: r else s :: t :: r
def joined (d : α) (rows : List (Sg α)) : List (Sg α) := (rows.foldl (jn d) []).reverse
theorem at_app (d : α) : ∀ (xs ys : List (Sg α)) (i : Int), at_ d (xs ++ ys) i = if xs.any (fun s => inb s.1 s.2.1 i) = true then at_ d xs i else at_ d ys i
  | [], ys, i => rfl
  | (lo, hi, v) :: xs, ys, i => by
    rw [List.cons_append, List.any_cons]
    by_cases h : inb lo hi i = true
    · rw [at_in h, at_in h, h]; rfl
    · rw [at_off h, at_off h, at_app d xs ys i, Bool.eq_false_iff.mpr h, Bool.false_or]
theorem sep_hi {s t u : Sg α} (h : sep s t) (e : u.1 = t.1) (ev : u.2.2 = t.2.2) : sep s u := by
  obtain ⟨h1, l1, e1, e2, e3⟩ := h
  exact ⟨h1, l1, e1, e.trans e2, by rw [ev]; exact e3⟩
theorem sep_lo {s t u : Sg α} (h : sep s t) (e : u.2.1 = s.2.1) (ev : u.2.2 = s.2.2) : sep u t := by
  obtain ⟨h1, l1, e1, e2, e3⟩ := h
  exact ⟨h1, l1, e.trans e1, e2, by rw [ev]; exact e3⟩
/-- s, then m, then t: s lies below t -/
theorem sep_trans {s m t : Sg α} (a : sep s m) (f : fits m.1 m.2.1 = true) (b : sep m t) : sep s t := by
  obtain ⟨h1, l1, e1, e2, e3⟩ := a
  obtain ⟨h2, l2, e4, e5, e6⟩ := b
  rw [e2, e4] at f
  have : l1 < h2 := of_decide_eq_true f
  refine ⟨h1, l2, e1, e5, .inl ?_⟩
  rcases e3 with e3 | e3 <;> rcases e6 with e6 | e6 <;> omega
/-- a segment behind a row -/
theorem Can.snoc {d : α} {xs : List (Sg α)} {t s : Sg α} (c : Can d (xs ++ [t])) (h : sep t s) (ok : s.2.2 ≠ d ∧ fits s.1 s.2.1 = true) : Can d (xs ++ [t] ++ [s]) := by
  refine ⟨fun u m => ?_, ?_⟩
  · rcases List.mem_append.mp m with m | m
    · exact c.ok u m
    · rw [List.mem_singleton.mp m]; exact ok
  · refine List.pairwise_append.mpr ⟨c.sp, List.pairwise_singleton .., fun u m u' m' => ?_⟩
    rw [List.mem_singleton.mp m']
    rcases List.mem_append.mp m with m | m
    · exact sep_trans ((List.pairwise_append.mp c.sp).2.2 u m t (List.mem_singleton.mpr rfl)) (c.ok t (List.mem_append_right _ (List.mem_singleton.mpr rfl))).2 h
    · rw [List.mem_singleton.mp m]; exact h
/-- the last segment goes on -/
theorem Can.longer {d : α} {xs : List (Sg α)} {t : Sg α} (c : Can d (xs ++ [t])) {hi : Option Int} (f : fits t.1 hi = true) : Can d (xs ++ [(t.1, hi, t.2.2)]) := by
  refine ⟨fun u m => ?_, ?_⟩
  · rcases List.mem_append.mp m with m | m
    · exact c.ok u (List.mem_append_left _ m)
    · rw [List.mem_singleton.mp m]; exact ⟨(c.ok t (List.mem_append_right _ (List.mem_singleton.mpr rfl))).1, f⟩
  · obtain ⟨h1, _, h3⟩ := List.pairwise_append.mp c.sp
    refine List.pairwise_append.mpr ⟨h1, List.pairwise_singleton .., fun u m u' m' => ?_⟩
    rw [List.mem_singleton.mp m']
    exact sep_hi (h3 u m t (List.mem_singleton.mpr rfl)) rfl rfl
theorem any_app (xs ys : List (Sg α)) (i : Int) : (xs ++ ys).any (fun s => inb s.1 s.2.1 i) = (xs.any (fun s => inb s.1 s.2.1 i) || ys.any (fun s => inb s.1 s.2.1 i)) := List.any_append
/-- where no segment lies, nothing shows -/
theorem at_none {d : α} : ∀ {xs : List (Sg α)} {i : Int}, xs.any (fun s => inb s.1 s.2.1 i) = false → at_ d xs i = d
  | [], _, _ => rfl
  | (lo, hi, v) :: xs, i, h => by
    rw [List.any_cons, Bool.or_eq_false_iff] at h
    rw [at_off (by rw [h.1]; exact Bool.false_ne_true)]
    exact at_none h.2
/-- all of the row's segments end at or below b -/
def below (xs : List (Sg α)) (b : Option Int) : Prop := ∀ s ∈ xs, ∃ h k, s.2.1 = some h ∧ b = some k ∧ h ≤ k
theorem below_not {xs : List (Sg α)} {lo hi : Option Int} {i : Int} (h : below xs lo) (q : inb lo hi i = true) : xs.any (fun s => inb s.1 s.2.1 i) = false := by
  rw [List.any_eq_false]
  intro s m e
  obtain ⟨a, k, e1, e2, e3⟩ := h s m
  rw [e1] at e
  subst e2
  have := inb_hi e
  have := inb_lo q
  omega
/-- a row joined to a told one: still told, and it shows this row where this row lies -/
theorem jn_ok {d : α} {found : List (Sg α)} {s : Sg α} (c : Can d found.reverse) (b : below found s.1) (f : fits s.1 s.2.1 = true) : Can d (jn d found s).reverse ∧ (∀ i, at_ d (jn d found s).reverse i = if inb s.1 s.2.1 i = true then s.2.2 else at_ d found.reverse i) ∧ (∀ k, s.2.1 = some k → below (jn d found s) (some k)) := by
  obtain ⟨lo, hi, v⟩ := s
  have bn : ∀ i, inb lo hi i = true → found.reverse.any (fun s => inb s.1 s.2.1 i) = false := fun i q => below_not (fun s m => b s (List.mem_reverse.mp m)) q
  have bl : ∀ k, hi = some k → ∀ u ∈ found, ∃ h k', u.2.1 = some h ∧ some k = some k' ∧ h ≤ k' := fun k e u m => by
    obtain ⟨h, k', e1, e2, e3⟩ := b u m
    have e2 : lo = some k' := e2
    subst e e2
    have : k' < k := of_decide_eq_true f
    exact ⟨h, k, e1, rfl, by omega⟩
  unfold jn
  by_cases hv : v = d
  · rw [if_pos hv]
    refine ⟨c, fun i => ?_, fun k e => bl k e⟩
    show at_ d found.reverse i = if inb lo hi i = true then v else at_ d found.reverse i
    by_cases q : inb lo hi i = true
    · rw [if_pos q, hv, at_none (bn i q)]
    · rw [if_neg q]
  · rw [if_neg hv]
    cases found with
    | nil =>
      refine ⟨⟨fun t m => by rw [List.mem_singleton.mp (List.mem_reverse.mp m)]; exact ⟨hv, f⟩, List.pairwise_singleton ..⟩, fun i => rfl, fun k e t m => by rw [List.mem_singleton.mp m]; exact ⟨k, k, e, rfl, Int.le_refl _⟩⟩
    | cons t r =>
      obtain ⟨a, e, w⟩ := t
      rw [List.reverse_cons] at c bn
      obtain ⟨h, k', e1, e2, e3⟩ := b _ (List.mem_cons_self ..)
      have e1 : e = some h := e1
      have e2 : lo = some k' := e2
      subst e1 e2
      have lk : ∀ k, hi = some k → k' < k := fun k e => by subst e; exact of_decide_eq_true f
      have fa : ∀ x, a = some x → x < h := fun x ea => by subst ea; exact of_decide_eq_true (c.ok _ (List.mem_append_right _ (List.mem_singleton.mpr rfl))).2
      by_cases q : some h = some k' ∧ w = v
      · dsimp only
        rw [if_pos q]
        obtain ⟨q1, q2⟩ := q
        cases q1
        subst q2
        have fl : fits a hi = true := by
          cases a with
          | none => cases hi <;> rfl
          | some x =>
            cases hi with
            | none => rfl
            | some k => exact decide_eq_true (Int.lt_trans (fa x rfl) (lk k rfl))
        refine ⟨by rw [List.reverse_cons]; exact c.longer fl, fun i => ?_, fun k ek t m => ?_⟩
        · rw [List.reverse_cons, List.reverse_cons, at_app, at_app]
          by_cases o : inb (some h) hi i = true
          · rw [if_pos o]
            have nb := bn i o
            rw [any_app, Bool.or_eq_false_iff] at nb
            rw [nb.1, if_neg Bool.false_ne_true]
            refine at_in ?_
            have := inb_lo o
            cases a with
            | none =>
              cases hi with
              | none => rfl
              | some k => exact inb_ns.mpr (inb_hi o)
            | some x =>
              have := fa x rfl
              cases hi with
              | none => exact inb_sn.mpr (by omega)
              | some k => exact inb_ss.mpr ⟨by omega, inb_hi o⟩
          · rw [if_neg o]
            by_cases z : r.reverse.any (fun s => inb s.1 s.2.1 i) = true
            · rw [if_pos z, if_pos z]
            · rw [if_neg z, if_neg z]
              have same : inb a hi i = inb a (some h) i := by
                rw [Bool.eq_iff_iff]
                have no : ¬ (h ≤ i ∧ ∀ k, hi = some k → i < k) := fun ⟨o1, o2⟩ => o (by
                  cases hi with
                  | none => exact inb_sn.mpr o1
                  | some k => exact inb_ss.mpr ⟨o1, o2 k rfl⟩)
                cases a with
                | none =>
                  cases hi with
                  | none => rw [inb_ns]; exact ⟨fun _ => by rcases Int.lt_or_le i h with g | g; exact g; exact absurd ⟨g, fun k e => by cases e⟩ no, fun _ => rfl⟩
                  | some k => rw [inb_ns, inb_ns]; have := lk k rfl; exact ⟨fun g => by rcases Int.lt_or_le i h with g' | g'; exact g'; exact absurd ⟨g', fun k e => by cases e; exact g⟩ no, fun g => by omega⟩
                | some x =>
                  cases hi with
                  | none => rw [inb_sn, inb_ss]; exact ⟨fun g => ⟨g, by rcases Int.lt_or_le i h with g' | g'; exact g'; exact absurd ⟨g', fun k e => by cases e⟩ no⟩, fun g => g.1⟩
                  | some k => rw [inb_ss, inb_ss]; have := lk k rfl; exact ⟨fun g => ⟨g.1, by rcases Int.lt_or_le i h with g' | g'; exact g'; exact absurd ⟨g', fun k e => by cases e; exact g.2⟩ no⟩, fun g => ⟨g.1, by omega⟩⟩
              unfold at_
              rw [same]
        · rcases List.mem_cons.mp m with m | m
          · subst m; exact ⟨k, k, ek, rfl, Int.le_refl _⟩
          · exact bl k ek t (List.mem_cons_of_mem _ m)
      · dsimp only
        rw [if_neg q]
        refine ⟨?_, fun i => ?_, fun k ek t m => ?_⟩
        · rw [List.reverse_cons, List.reverse_cons]
          refine c.snoc ⟨h, k', rfl, rfl, ?_⟩ ⟨hv, f⟩
          rcases Int.lt_or_le h k' with g | g
          · exact .inl g
          · have : h = k' := by omega
            subst this
            exact .inr ⟨rfl, fun e => q ⟨rfl, e⟩⟩
        · rw [List.reverse_cons, List.reverse_cons, at_app]
          by_cases o : inb (some k') hi i = true
          · rw [if_pos o, bn i o, if_neg Bool.false_ne_true]
            exact at_in o
          · rw [if_neg o]
            by_cases z : (r.reverse ++ [(a, some h, w)]).any (fun s => inb s.1 s.2.1 i) = true
            · rw [if_pos z]
            · rw [if_neg z, at_off o, at_none (Bool.eq_false_iff.mpr z)]; rfl
        · rcases List.mem_cons.mp m with m | m
          · subst m; exact ⟨k, k, ek, rfl, Int.le_refl _⟩
          · exact bl k ek t m
/-- rows one behind the other, each with places -/
def Chain : Option Int → List (Sg α) → Prop
  | _, [] => True
  | b, s :: r => s.1 = b ∧ fits s.1 s.2.1 = true ∧ (s.2.1 = none → r = []) ∧ Chain s.2.1 r
theorem Chain.after {b : Int} : ∀ {rows : List (Sg α)}, Chain (some b) rows → ∀ {d : α} {i : Int}, i < b → at_ d rows i = d ∧ rows.any (fun s => inb s.1 s.2.1 i) = false
  | [], _, _, _, _ => ⟨rfl, rfl⟩
  | (lo, hi, v) :: r, ⟨e, f, n, c⟩, d, i, lt => by
    have e : lo = some b := e
    subst e
    have no : ¬ inb (some b) hi i = true := fun q => by have := inb_lo q; omega
    rw [at_off no, List.any_cons, Bool.eq_false_iff.mpr no, Bool.false_or]
    cases hi with
    | none => rw [n rfl]; exact ⟨rfl, rfl⟩
    | some k =>
      have : b < k := of_decide_eq_true f
      exact Chain.after c (by omega)
theorem fold_jn {d : α} : ∀ {rows found : List (Sg α)} {b : Option Int}, Can d found.reverse → below found b → Chain b rows → Can d (rows.foldl (jn d) found).reverse ∧ ∀ i, at_ d (rows.foldl (jn d) found).reverse i = if rows.any (fun s => inb s.1 s.2.1 i) = true then at_ d rows i else at_ d found.reverse i
  | [], found, b, c, _, _ => ⟨c, fun i => rfl⟩
  | s :: rows, found, b, c, bl, ⟨e, f, n, ch⟩ => by
    subst e
    obtain ⟨c1, a1, b1⟩ := jn_ok c bl f
    obtain ⟨lo, hi, v⟩ := s
    cases hi with
    | none =>
      obtain rfl := n rfl
      refine ⟨c1, fun i => ?_⟩
      rw [List.foldl_cons, List.foldl_nil, a1]
      simp only [List.any_cons, List.any_nil, Bool.or_false]
      by_cases q : inb lo none i = true
      · rw [if_pos q, if_pos q, at_in q]
      · rw [if_neg q, if_neg q]
    | some k =>
      obtain ⟨c2, a2⟩ := fold_jn c1 (b1 k rfl) ch
      refine ⟨c2, fun i => ?_⟩
      rw [List.foldl_cons, a2, a1, List.any_cons]
      dsimp only
      by_cases q : inb lo (some k) i = true
      · have := Chain.after (d := d) ch (inb_hi q)
        rw [this.2, if_neg Bool.false_ne_true, if_pos q, q, at_in q]; rfl
      · rw [if_neg q, Bool.eq_false_iff.mpr q, Bool.false_or, at_off q]
theorem joined_ok {d : α} {rows : List (Sg α)} {b : Option Int} (ch : Chain b rows) : Can d (joined d rows) ∧ ∀ i, at_ d (joined d rows) i = at_ d rows i := by
  obtain ⟨c, a⟩ := fold_jn (found := []) (Can.nil d) (fun s m => absurd m List.not_mem_nil) ch
  refine ⟨c, fun i => ?_⟩
  show at_ d (rows.foldl (jn d) []).reverse i = _
  rw [a i]
  by_cases q : rows.any (fun s => inb s.1 s.2.1 i) = true
  · rw [if_pos q]
  · rw [if_neg q, at_none (Bool.eq_false_iff.mpr q)]; rfl
end
/-! lots between cuts -/
def lots (b : Option Int) : List Int → List (Option Int × Option Int)
  | [] => [(b, none)]
  | e :: es => (b, some e) :: lots (some e) es
theorem zip_lots : ∀ (es : List Int) (b : Option Int), (b :: es.map some).zip (es.map some ++ [none]) = lots b es
  | [], b => rfl
  | e :: es, b => by
    rw [List.map_cons, List.cons_append, List.zip_cons_cons, zip_lots es (some e)]; rfl
def lotRows {α : Type} (F : Option Int → Option Int → α) (b : Option Int) (es : List Int) : List (Sg α) := (lots b es).map fun p => (p.1, p.2, F p.1 p.2)
theorem lots_chain {α : Type} [DecidableEq α] {F : Option Int → Option Int → α} : ∀ {es : List Int} {b : Option Int}, es.Pairwise (· < ·) → (∀ k, b = some k → ∀ e ∈ es, k < e) → Chain b (lotRows F b es)
  | [], b, _, _ => ⟨rfl, by cases b <;> rfl, fun _ => rfl, trivial⟩
  | e :: es, b, p, h => by
    obtain ⟨p1, p2⟩ := List.pairwise_cons.mp p
    refine ⟨rfl, ?_, (fun q => by cases q), lots_chain p2 fun k ek x m => ?_⟩
    · cases b with
      | none => rfl
      | some k => exact decide_eq_true (h k rfl e (List.mem_cons_self ..))
    · cases ek; exact p1 x m
/-- the lot of a place: no cut parts it -/
theorem lot_of {α : Type} [DecidableEq α] {F : Option Int → Option Int → α} {d : α} : ∀ {es : List Int} {b : Option Int}, es.Pairwise (· < ·) → (∀ k, b = some k → ∀ e ∈ es, k < e) → ∀ i : Int, (∀ k, b = some k → k ≤ i) → ∃ lo hi, inb lo hi i = true ∧ at_ d (lotRows F b es) i = F lo hi ∧ (lo, hi) ∈ lots b es ∧ (∀ e ∈ es, (∃ l, lo = some l ∧ e ≤ l) ∨ ∃ k, hi = some k ∧ k ≤ e)
  | [], b, _, _, i, hb => by
    have q : inb b none i = true := by
      cases b with
      | none => rfl
      | some k => exact inb_sn.mpr (hb k rfl)
    exact ⟨b, none, q, at_in q, List.mem_singleton.mpr rfl, fun e m => (List.not_mem_nil m).elim⟩
  | e :: es, b, p, h, i, hb => by
    obtain ⟨p1, p2⟩ := List.pairwise_cons.mp p
    rcases Int.lt_or_le i e with g | g
    · have q : inb b (some e) i = true := by
        cases b with
        | none => exact inb_ns.mpr g
        | some k => exact inb_ss.mpr ⟨hb k rfl, g⟩
      refine ⟨b, some e, q, at_in q, List.mem_cons_self .., fun x m => .inr ⟨e, rfl, ?_⟩⟩
      rcases List.mem_cons.mp m with m | m
      · omega
      · have := p1 x m; omega
    · obtain ⟨lo, hi, h1, h2, h3, h4⟩ := lot_of (F := F) (d := d) (b := some e) p2 (fun k ek x m => by cases ek; exact p1 x m) i (fun k ek => by cases ek; exact g)
      have no : ¬ inb b (some e) i = true := fun q => by have := inb_hi q; omega
      refine ⟨lo, hi, h1, (at_off no).trans h2, List.mem_cons_of_mem _ h3, fun x m => ?_⟩
      rcases List.mem_cons.mp m with m | m
      · subst m
        -- the lot begins at e or behind
        cases lo with
        | some l =>
          refine .inl ⟨l, rfl, ?_⟩
          have : ∀ {es : List Int} {b : Int}, es.Pairwise (· < ·) → (∀ e ∈ es, b < e) → (some l, hi) ∈ lots (some b) es → b ≤ l := by
            intro es
            induction es with
            | nil => intro b _ _ m; cases List.mem_singleton.mp m; exact Int.le_refl _
            | cons y ys ih =>
              intro b p h m
              rcases List.mem_cons.mp m with m | m
              · cases m; exact Int.le_refl _
              · have := ih (List.pairwise_cons.mp p).2 (List.pairwise_cons.mp p).1 m
                have := h y (List.mem_cons_self ..)
                omega
          exact this p2 p1 h3
        | none =>
          have : ∀ {es : List Int} {b : Int}, (none, hi) ∈ lots (some b) es → False := by
            intro es
            induction es with
            | nil => intro b m; cases List.mem_singleton.mp m
            | cons y ys ih =>
              intro b m
              rcases List.mem_cons.mp m with m | m
              · cases m
              · exact ih m
          exact (this h3).elim
      · exact h4 x m
end Rg
/-! pairs of ends put together; slabs of boxes. -/
namespace Rg
open Ep (sortI sortI_perm sortI_le sort_one)
abbrev Pr := Option Int × Option Int
def pin (i : Int) (p : Pr) : Bool := inb p.1 p.2 i
def pfit (p : Pr) : Bool := fits p.1 p.2
def row (ps : List Pr) : List (Sg Bool) := ps.map fun p => (p.1, p.2, true)
theorem at_row : ∀ (ps : List Pr) (i : Int), at_ false (row ps) i = ps.any (pin i)
  | [], _ => rfl
  | p :: ps, i => by
    show at_ false ((p.1, p.2, true) :: row ps) i = (inb p.1 p.2 i || ps.any (pin i))
    by_cases h : inb p.1 p.2 i = true
    · rw [at_in h, h]; rfl
    · rw [at_off h, at_row ps i, Bool.eq_false_iff.mpr h]; rfl
theorem row_app (a b : List Pr) : row (a ++ b) = row a ++ row b := List.map_append
theorem row_inj {a b : List Pr} (h : row a = row b) : a = b := by
  have e : ∀ ps : List Pr, (row ps).map (fun s => ((s.1, s.2.1) : Pr)) = ps := fun ps => by
    unfold row; rw [List.map_map]; exact List.map_id' ps
  rw [← e a, h, e b]
/-- told rows that have the same integers are the same -/
theorem row_one {a b : List Pr} (ca : Can false (row a)) (cb : Can false (row b)) (h : ∀ i, a.any (pin i) = b.any (pin i)) : a = b := row_inj (can_one ca cb fun i => by rw [at_row, at_row, h i])
def touches (e lo : Option Int) : Bool := match e, lo with | some e, some l => decide (l ≤ e) | _, _ => true
def far (e hi : Option Int) : Option Int := match e, hi with | none, _ => none | some e, some h => if h ≤ e then some e else some h | some _, none => none
def olo (a b : Option Int) : Prop := match a, b with | none, _ => True | some a, some b => a ≤ b | some _, none => False
def uni (found : List Pr) (p : Pr) : List Pr := match found with
  | [] => [p]
  | t :: r => if touches t.2 p.1 = true then (t.1, far t.2 p.2) :: r else p :: t :: r
theorem far_le {e h : Int} (q : h ≤ e) : far (some e) (some h) = some e := if_pos q
theorem far_gt {e h : Int} (q : ¬ h ≤ e) : far (some e) (some h) = some h := if_neg q
theorem far_fit {f e lo hi : Option Int} (o : olo f lo) (h1 : fits f e = true) (h2 : fits lo hi = true) : fits f (far e hi) = true := by
  cases e with
  | none => exact h1
  | some e =>
    cases hi with
    | none => cases f <;> rfl
    | some k =>
      by_cases q : k ≤ e
      · rw [far_le q]; exact h1
      · rw [far_gt q]
        cases f with
        | none => rfl
        | some f => exact decide_eq_true (by have : f < e := of_decide_eq_true h1; omega)
theorem far_in {f e lo hi : Option Int} (o : olo f lo) (t : touches e lo = true) (i : Int) : inb f (far e hi) i = (inb f e i || inb lo hi i) := by
  have up : ∀ l, lo = some l → l ≤ i → ∀ x, f = some x → x ≤ i := fun l e1 h x e2 => by subst e1 e2; have : x ≤ l := o; omega
  have no : lo = none → f = none := fun e => by
    subst e
    cases f with
    | none => rfl
    | some x => exact o.elim
  rw [Bool.eq_iff_iff, Bool.or_eq_true]
  cases e with
  | none =>
    refine ⟨.inl, fun h => h.elim id fun g => ?_⟩
    cases f with
    | none => rfl
    | some x =>
      cases lo with
      | none => cases no rfl
      | some l => exact inb_sn.mpr (up l rfl (inb_lo g) x rfl)
  | some e =>
    have tl : ∀ l, lo = some l → l ≤ e := fun l q => by subst q; exact of_decide_eq_true t
    have mk : ∀ k : Int, i < k → (∀ x, f = some x → x ≤ i) → inb f (some k) i = true := fun k h g => by
      cases f with
      | none => exact inb_ns.mpr h
      | some x => exact inb_ss.mpr ⟨g x rfl, h⟩
    have fx : ∀ {k : Option Int}, inb f k i = true → ∀ x, f = some x → x ≤ i := fun h x q => by subst q; exact inb_lo h
    have lx : inb lo hi i = true → ∀ x, f = some x → x ≤ i := fun h x q => by
      cases lo with
      | none => rw [no rfl] at q; cases q
      | some l => exact up l rfl (inb_lo h) x q
    cases hi with
    | none =>
      show inb f none i = true ↔ _
      refine ⟨fun h => ?_, fun h => ?_⟩
      · rcases Int.lt_or_le i e with g | g
        · exact .inl (mk e g (fx h))
        · refine .inr ?_
          cases lo with
          | none => rfl
          | some l => exact inb_sn.mpr (Int.le_trans (tl l rfl) g)
      · have g : ∀ x, f = some x → x ≤ i := h.elim (fun h => fx h) lx
        cases f with
        | none => rfl
        | some x => exact inb_sn.mpr (g x rfl)
    | some k =>
      have sec : e ≤ i → i < k → inb lo (some k) i = true := fun g1 g2 => by
        cases lo with
        | none => exact inb_ns.mpr g2
        | some l => exact inb_ss.mpr ⟨Int.le_trans (tl l rfl) g1, g2⟩
      by_cases q : k ≤ e
      · rw [far_le q]
        exact ⟨.inl, fun h => h.elim id fun h => mk e (by have := inb_hi h; omega) (lx h)⟩
      · rw [far_gt q]
        refine ⟨fun h => ?_, fun h => h.elim (fun h => mk k (by have := inb_hi h; omega) (fx h)) fun h => mk k (inb_hi h) (lx h)⟩
        rcases Int.lt_or_le i e with g | g
        · exact .inl (mk e g (fx h))
        · exact .inr (sec g (inb_hi h))
theorem uni_ok {found : List Pr} {p : Pr} (c : Can false (row found.reverse)) (f : pfit p = true) (o : ∀ t r, found = t :: r → olo t.1 p.1) : Can false (row (uni found p).reverse) ∧ (∀ i, (uni found p).any (pin i) = (found.any (pin i) || pin i p)) ∧ ∀ t r, uni found p = t :: r → t.1 = p.1 ∨ ∃ t' r', found = t' :: r' ∧ t.1 = t'.1 := by
  cases found with
  | nil => exact ⟨⟨fun s m => by rw [List.mem_singleton.mp m]; exact ⟨Bool.noConfusion, f⟩, List.pairwise_singleton ..⟩, fun i => by simp [uni], fun t r e => by cases e; exact .inl rfl⟩
  | cons t r =>
    have o := o t r rfl
    rw [List.reverse_cons, row_app] at c
    have ft : fits t.1 t.2 = true := (c.ok _ (List.mem_append_right _ (List.mem_singleton.mpr rfl))).2
    unfold uni
    dsimp only
    by_cases q : touches t.2 p.1 = true
    · rw [if_pos q]
      refine ⟨?_, fun i => ?_, fun t' r' e => .inr ⟨t, r, rfl, by cases e; rfl⟩⟩
      · rw [List.reverse_cons, row_app]
        exact c.longer (far_fit o ft f)
      · rw [List.any_cons, List.any_cons]
        show (inb t.1 (far t.2 p.2) i || r.any (pin i)) = (inb t.1 t.2 i || r.any (pin i) || inb p.1 p.2 i)
        rw [far_in o q]
        cases inb t.1 t.2 i <;> cases inb p.1 p.2 i <;> cases r.any (pin i) <;> rfl
    · rw [if_neg q]
      refine ⟨?_, fun i => ?_, fun t' r' e => .inl (by cases e; rfl)⟩
      · rw [List.reverse_cons, List.reverse_cons, row_app, row_app]
        refine c.snoc ?_ ⟨Bool.noConfusion, f⟩
        unfold touches at q
        split at q
        · rename_i e l e1 e2
          exact ⟨e, l, e1, e2, .inl (by simp only [decide_eq_true_eq] at q; omega)⟩
        · exact absurd rfl q
      · rw [List.any_cons]
        cases pin i p <;> cases (t :: r).any (pin i) <;> rfl
theorem fold_uni : ∀ {rest found : List Pr}, Can false (row found.reverse) → rest.Pairwise (fun a b => olo a.1 b.1) → (∀ p ∈ rest, pfit p = true) → (∀ t r, found = t :: r → ∀ p ∈ rest, olo t.1 p.1) → Can false (row (rest.foldl uni found).reverse) ∧ ∀ i, (rest.foldl uni found).any (pin i) = (found.any (pin i) || rest.any (pin i))
  | [], found, c, _, _, _ => ⟨c, fun i => by simp⟩
  | p :: rest, found, c, pw, f, o => by
    obtain ⟨p1, p2⟩ := List.pairwise_cons.mp pw
    obtain ⟨c1, a1, h1⟩ := uni_ok c (f p (List.mem_cons_self ..)) (fun t r e => o t r e p (List.mem_cons_self ..))
    obtain ⟨c2, a2⟩ := fold_uni c1 p2 (fun q m => f q (List.mem_cons_of_mem _ m)) (fun t r e q m => by
      rcases h1 t r e with h | ⟨t', r', e', h⟩
      · rw [h]; exact p1 q m
      · rw [h]; exact o t' r' e' q (List.mem_cons_of_mem _ m))
    exact ⟨c2, fun i => by rw [List.foldl_cons, a2, a1, List.any_cons, Bool.or_assoc]⟩
/-! by their lows -/
def rank (os : List Pr) : List Int := os.zipIdx.map fun q => q.1.1.getD 0 * (os.length : Int) + (q.2 : Int)
def nthP (os : List Pr) (r : Int) : Pr := os.getD (r % (os.length : Int)).toNat (none, none)
def srt (os : List Pr) : List Pr := (sortI (rank os)).map (nthP os)
def byL (ps : List Pr) : List Pr := ps.filter (fun p => p.1.isNone) ++ srt (ps.filter fun p => p.1.isSome)
def united (ps : List Pr) : List Pr := ((byL ps).foldl uni []).reverse
theorem rank_mem {os : List Pr} {r : Int} (h : r ∈ rank os) : ∃ k : Nat, ∃ hk : k < os.length, nthP os r = os[k] ∧ r / (os.length : Int) = os[k].1.getD 0 ∧ r % (os.length : Int) = k := by
  obtain ⟨⟨p, k⟩, m, e⟩ := List.mem_map.mp h
  have m2 := List.mem_zipIdx_iff_getElem?.mp m
  obtain ⟨hk, ek⟩ := List.getElem?_eq_some_iff.mp m2
  dsimp only at e hk ek
  have pos : (0 : Int) < os.length := by omega
  have em : r % (os.length : Int) = k := by
    rw [← e, Int.add_comm, Int.add_mul_emod_self_right]
    exact Int.emod_eq_of_lt (by omega) (by omega)
  refine ⟨k, hk, ?_, ?_, em⟩
  · unfold nthP
    rw [em]
    simp [hk]
  · rw [← e, Int.add_comm, Int.add_mul_ediv_right _ _ (by omega), Int.ediv_eq_zero_of_lt (by omega) (by omega), ek]
    omega
theorem rank_nth (os : List Pr) : (rank os).map (nthP os) = os := by
  unfold rank
  rw [List.map_map]
  refine List.ext_getElem (by simp) fun k h1 h2 => ?_
  simp only [List.getElem_map, Function.comp, List.getElem_zipIdx, Nat.zero_add]
  have em : (os[k].1.getD 0 * (os.length : Int) + (k : Int)) % (os.length : Int) = k := by
    rw [Int.add_comm, Int.add_mul_emod_self_right]
    exact Int.emod_eq_of_lt (by omega) (by omega)
  unfold nthP
  rw [em]
  simp [h2]
theorem srt_perm (os : List Pr) : (srt os).Perm os := by
  have := (sortI_perm (rank os)).map (nthP os)
  rw [rank_nth] at this
  exact this
theorem srt_le (os : List Pr) : (srt os).Pairwise fun a b => a.1.getD 0 ≤ b.1.getD 0 := by
  unfold srt
  rw [List.pairwise_map]
  refine List.Pairwise.imp_of_mem (fun {a b} ha hb h => ?_) (sortI_le (rank os))
  obtain ⟨k, hk, e1, e2, _⟩ := rank_mem ((sortI_perm _).mem_iff.mp ha)
  obtain ⟨k', hk', e3, e4, _⟩ := rank_mem ((sortI_perm _).mem_iff.mp hb)
  rw [e1, e3, ← e2, ← e4]
  exact Int.ediv_le_ediv (by omega) h
theorem byL_perm (ps : List Pr) : (byL ps).Perm ps := by
  have h2 : (ps.filter (fun p => p.1.isNone) ++ ps.filter (fun p => !p.1.isNone)).Perm ps := List.filter_append_perm _ _
  have e : (ps.filter fun p => p.1.isSome) = ps.filter (fun p => !p.1.isNone) := List.filter_congr fun p _ => by cases p.1 <;> rfl
  unfold byL
  rw [e]
  exact ((srt_perm _).append_left _).trans h2
theorem byL_le (ps : List Pr) : (byL ps).Pairwise fun a b => olo a.1 b.1 := by
  refine List.pairwise_append.mpr ⟨?_, ?_, fun a ha b hb => ?_⟩
  · refine List.Pairwise.imp_of_mem (R := fun _ _ => True) (fun {a b} ha hb _ => ?_) (List.pairwise_of_forall (fun _ _ => trivial))
    rw [Option.isNone_iff_eq_none.mp (List.mem_filter.mp ha).2]; trivial
  · refine List.Pairwise.imp_of_mem (fun {a b} ha hb h => ?_) (srt_le _)
    have ha := (List.mem_filter.mp ((srt_perm _).mem_iff.mp ha)).2
    have hb := (List.mem_filter.mp ((srt_perm _).mem_iff.mp hb)).2
    obtain ⟨x, ex⟩ := Option.isSome_iff_exists.mp ha
    obtain ⟨y, ey⟩ := Option.isSome_iff_exists.mp hb
    rw [ex, ey] at h ⊢
    exact h
  · rw [Option.isNone_iff_eq_none.mp (List.mem_filter.mp ha).2]; trivial
theorem united_ok {ps : List Pr} (f : ∀ p ∈ ps, pfit p = true) : Can false (row (united ps)) ∧ ∀ i, (united ps).any (pin i) = ps.any (pin i) := by
  obtain ⟨c, a⟩ := fold_uni (found := []) (Can.nil false) (byL_le ps) (fun p m => f p ((byL_perm ps).mem_iff.mp m)) (fun t r e => nomatch e)
  refine ⟨c, fun i => ?_⟩
  unfold united
  rw [List.any_reverse, a i]
  show (false || (byL ps).any (pin i)) = _
  rw [Bool.false_or, Bool.eq_iff_iff, List.any_eq_true, List.any_eq_true]
  exact ⟨fun ⟨p, m, h⟩ => ⟨p, (byL_perm ps).mem_iff.mp m, h⟩, fun ⟨p, m, h⟩ => ⟨p, (byL_perm ps).mem_iff.mpr m, h⟩⟩
/-! cuts -/
def ddk (ks : List Int) (k : Int) : List Int := if k ∈ ks then ks else ks ++ [k]
def dd (xs : List Int) : List Int := xs.foldl ddk []
theorem ddk_nodup {ks : List Int} {k : Int} (h : ks.Nodup) : (ddk ks k).Nodup := by
  unfold ddk
  split
  · exact h
  · rename_i q
    exact List.nodup_append.mpr ⟨h, List.nodup_cons.mpr ⟨List.not_mem_nil, List.nodup_nil⟩, fun a ha b hb e => q (by rw [List.mem_singleton] at hb; rw [← hb, ← e]; exact ha)⟩
theorem ddk_mem {ks : List Int} {k x : Int} : x ∈ ddk ks k ↔ x ∈ ks ∨ x = k := by
  unfold ddk
  split
  · rename_i q
    exact ⟨.inl, fun h => h.elim id fun e => e ▸ q⟩
  · rw [List.mem_append, List.mem_singleton]
theorem dd_spec : ∀ (xs ks : List Int), ks.Nodup → (xs.foldl ddk ks).Nodup ∧ ∀ x, x ∈ xs.foldl ddk ks ↔ x ∈ ks ∨ x ∈ xs
  | [], ks, h => ⟨h, fun x => by simp⟩
  | k :: xs, ks, h => by
    obtain ⟨h1, h2⟩ := dd_spec xs (ddk ks k) (ddk_nodup h)
    exact ⟨h1, fun x => by rw [List.foldl_cons, h2, ddk_mem, List.mem_cons, or_assoc]⟩
def cuts (xs : List Int) : List Int := sortI (dd xs)
theorem cuts_mem {xs : List Int} {x : Int} : x ∈ cuts xs ↔ x ∈ xs := by
  unfold cuts
  rw [(sortI_perm _).mem_iff]
  unfold dd
  rw [(dd_spec xs [] List.nodup_nil).2]
  simp
theorem cuts_lt (xs : List Int) : (cuts xs).Pairwise (· < ·) := by
  have nd : (cuts xs).Nodup := (sortI_perm _).nodup_iff.mpr (dd_spec xs [] List.nodup_nil).1
  refine ((sortI_le (dd xs)).and nd).imp fun {a b} ⟨h, n⟩ => ?_
  have h : a ≤ b := h
  have n : a ≠ b := n
  omega
/-! slabs of boxes: a box as its sides in x and in y -/
abbrev Bx := Pr × Pr
def loIn (p w : Option Int) : Bool := match w, p with | none, _ => true | some _, none => false | some a, some b => decide (a ≤ b)
def hiIn (p w : Option Int) : Bool := match w, p with | none, _ => true | some _, none => false | some a, some b => decide (b ≤ a)
def isIn (p w : Pr) : Bool := loIn p.1 w.1 && hiIn p.2 w.2
theorem isIn_one (i : Int) (w : Pr) : isIn (some i, some (i + 1)) w = pin i w := by
  obtain ⟨a, b⟩ := w
  have e : ∀ x : Int, decide (i + 1 ≤ x) = decide (i < x) := fun x => rfl
  cases a <;> cases b <;> rfl
def ofP (p : Pr) : List Int := p.1.toList ++ p.2.toList
def apart (e : Int) (p : Pr) : Prop := (∃ l, p.1 = some l ∧ e ≤ l) ∨ ∃ k, p.2 = some k ∧ k ≤ e
theorem isIn_lot {p w : Pr} {i : Int} (hp : pin i p = true) (h : ∀ e ∈ ofP w, apart e p) : isIn p w = pin i w := by
  obtain ⟨lo, hi⟩ := p
  obtain ⟨a, b⟩ := w
  have e1 : loIn lo a = loB a i := by
    cases a with
    | none => rfl
    | some x =>
      rcases h x (by simp [ofP]) with ⟨l, e, q⟩ | ⟨k, e, q⟩
      · have e : lo = some l := e
        subst e
        have := inb_lo hp
        show decide (x ≤ l) = decide (x ≤ i)
        rw [decide_eq_true q, decide_eq_true (by omega)]
      · have e : hi = some k := e
        subst e
        have := inb_hi hp
        show loIn lo (some x) = decide (x ≤ i)
        rw [decide_eq_false (by omega : ¬ x ≤ i)]
        cases lo with
        | none => rfl
        | some l =>
          have := inb_lo hp
          exact decide_eq_false (by omega)
  have e2 : hiIn hi b = hiB b i := by
    cases b with
    | none => rfl
    | some x =>
      rcases h x (by simp [ofP]) with ⟨l, e, q⟩ | ⟨k, e, q⟩
      · have e : lo = some l := e
        subst e
        have := inb_lo hp
        show hiIn hi (some x) = decide (i < x)
        rw [decide_eq_false (by omega : ¬ i < x)]
        cases hi with
        | none => rfl
        | some k =>
          have := inb_hi hp
          exact decide_eq_false (by omega)
      · have e : hi = some k := e
        subst e
        have := inb_hi hp
        show decide (k ≤ x) = decide (i < x)
        rw [decide_eq_true q, decide_eq_true (by omega)]
  show (loIn lo a && hiIn hi b) = (loB a i && hiB b i)
  rw [e1, e2]
def hereOf (bs : List Bx) (p : Pr) : List Pr := (bs.filter fun b => isIn p b.2).map (·.1)
def ycuts (bs : List Bx) : List Int := cuts (bs.flatMap fun b => ofP b.2)
def slabsB (bs : List Bx) : List (Sg (List Pr)) := joined [] (lotRows (fun lo hi => united (hereOf bs (lo, hi))) none (ycuts bs))
theorem slabs_ok (bs : List Bx) : Can [] (slabsB bs) ∧ ∀ y, at_ [] (slabsB bs) y = united ((bs.filter fun b => pin y b.2).map (·.1)) := by
  obtain ⟨c, a⟩ := joined_ok (d := ([] : List Pr)) (lots_chain (F := fun lo hi => united (hereOf bs (lo, hi))) (b := none) (cuts_lt _) (fun k e => nomatch e) : Chain none (lotRows _ none (ycuts bs)))
  refine ⟨c, fun y => (a y).trans ?_⟩
  obtain ⟨lo, hi, h1, h2, _, h4⟩ := lot_of (F := fun lo hi => united (hereOf bs (lo, hi))) (d := ([] : List Pr)) (b := none) (cuts_lt (bs.flatMap fun b => ofP b.2)) (fun k e => nomatch e) y (fun k e => nomatch e)
  rw [show ycuts bs = cuts (bs.flatMap fun b => ofP b.2) from rfl, h2]
  unfold hereOf
  rw [List.filter_congr fun b m => isIn_lot (w := b.2) (i := y) (p := (lo, hi)) h1 fun e me => h4 e (cuts_mem.mpr (List.mem_flatMap.mpr ⟨b, m, me⟩))]
def bfit (b : Bx) : Bool := pfit b.1 && pfit b.2
theorem slabs_in {bs : List Bx} (f : ∀ b ∈ bs, bfit b = true) (x y : Int) : Can false (row (at_ [] (slabsB bs) y)) ∧ (at_ [] (slabsB bs) y).any (pin x) = bs.any fun b => pin x b.1 && pin y b.2 := by
  rw [(slabs_ok bs).2 y]
  obtain ⟨c, a⟩ := united_ok (ps := (bs.filter fun b => pin y b.2).map (·.1)) fun p m => by
    obtain ⟨b, mb, rfl⟩ := List.mem_map.mp m
    have := f b (List.mem_filter.mp mb).1
    unfold bfit at this
    exact (Bool.and_eq_true_iff.mp this).1
  refine ⟨c, (a x).trans ?_⟩
  rw [List.any_map, List.any_filter]
  refine List.any_congr rfl fun b => ?_
  exact Bool.and_comm ..
end Rg
/-! pairs, rows, slabs, boxes as trees. -/
namespace Rg
open PySem Ep
def oT : Option Int → T
  | none => .non
  | some i => .int i
def prT (p : Pr) : T := .tup [oT p.1, oT p.2]
def rowT (ps : List Pr) : T := .tup (ps.map prT)
def sgT (s : Sg (List Pr)) : T := .tup [oT s.1, oT s.2.1, rowT s.2.2]
def slabsT (ss : List (Sg (List Pr))) : T := .tup (ss.map sgT)
def bxT (b : Bx) : T := .tup [oT b.1.1, oT b.1.2, oT b.2.1, oT b.2.2]
theorem is_oT (o : Option Int) : isT (oT o) .non = some o.isNone := by cases o <;> rfl
theorem nis_oT (o : Option Int) : nisT (oT o) .non = some o.isSome := by cases o <;> rfl
theorem oT_inj {a b : Option Int} (h : oT a = oT b) : a = b := by
  cases a <;> cases b <;> first | rfl | (cases h; rfl) | cases h
theorem prT_inj {a b : Pr} (h : prT a = prT b) : a = b := by
  obtain ⟨a1, a2⟩ := a
  obtain ⟨b1, b2⟩ := b
  injection h with h
  injection h with h1 h
  injection h with h2 h
  exact Prod.ext (oT_inj h1) (oT_inj h2)
theorem map_inj {α β : Type} {f : α → β} (h : ∀ a b, f a = f b → a = b) : ∀ {xs ys : List α}, xs.map f = ys.map f → xs = ys
  | [], [], _ => rfl
  | [], _ :: _, e => nomatch e
  | _ :: _, [], e => nomatch e
  | x :: xs, y :: ys, e => by
    rw [List.map_cons, List.map_cons] at e
    injection e with e1 e2
    rw [h _ _ e1, map_inj h e2]
theorem rowT_inj {a b : List Pr} (h : rowT a = rowT b) : a = b := by
  injection h with h
  exact map_inj (fun _ _ => prT_inj) h
theorem sgT_inj {a b : Sg (List Pr)} (h : sgT a = sgT b) : a = b := by
  obtain ⟨a1, a2, a3⟩ := a
  obtain ⟨b1, b2, b3⟩ := b
  injection h with h
  injection h with h1 h
  injection h with h2 h
  injection h with h3 h
  exact Prod.ext (oT_inj h1) (Prod.ext (oT_inj h2) (rowT_inj h3))
theorem slabsT_inj {a b : List (Sg (List Pr))} (h : slabsT a = slabsT b) : a = b := by
  injection h with h
  exact map_inj (fun _ _ => sgT_inj) h
theorem pt_o (o : Option Int) : Pt LfI 0 (oT o) := by
  cases o with
  | none => exact .inl rfl
  | some i => exact .inr (.inl ⟨i, rfl⟩)
theorem pt_leaf2 {t : T} (h : Pt LfI 0 t) (n : Nat) : Pt LfI n t := Pt.leaf h n
theorem pt_pr (p : Pr) : Pt LfI 1 (prT p) := Pt.tup fun x m => by
  simp only [List.mem_cons, List.not_mem_nil, or_false] at m
  rcases m with rfl | rfl <;> exact pt_o _
theorem pt_row (ps : List Pr) : Pt LfI 2 (rowT ps) := Pt.tup fun x m => by
  obtain ⟨p, _, rfl⟩ := List.mem_map.mp m
  exact pt_pr p
theorem pt_sg (s : Sg (List Pr)) : Pt LfI 3 (sgT s) := Pt.tup fun x m => by
  simp only [List.mem_cons, List.not_mem_nil, or_false] at m
  rcases m with rfl | rfl | rfl
  · exact Pt.leaf (pt_o _) 2
  · exact Pt.leaf (pt_o _) 2
  · exact pt_row _
theorem pt_slabs (ss : List (Sg (List Pr))) : Pt LfI 4 (slabsT ss) := Pt.tup fun x m => by
  obtain ⟨p, _, rfl⟩ := List.mem_map.mp m
  exact pt_sg p
theorem eq_o (a b : Option Int) : eqT (oT a) (oT b) = some (decide (a = b)) := eq_pt lfI (n := 0) (pt_o a) (pt_o b) (by decide) (by rw [decide_eq_true_iff]; exact ⟨fun h => by rw [h], oT_inj⟩)
theorem eq_row (a b : List Pr) : eqT (rowT a) (rowT b) = some (decide (a = b)) := eq_pt lfI (pt_row a) (pt_row b) (by decide) (by rw [decide_eq_true_iff]; exact ⟨fun h => by rw [h], rowT_inj⟩)
theorem ne_row (a b : List Pr) : neT (rowT a) (rowT b) = some (!decide (a = b)) := ne_pt lfI (pt_row a) (pt_row b) (by decide) (by rw [decide_eq_true_iff]; exact ⟨fun h => by rw [h], rowT_inj⟩)
theorem eq_slabs (a b : List (Sg (List Pr))) : eqT (slabsT a) (slabsT b) = some (decide (a = b)) := eq_pt lfI (pt_slabs a) (pt_slabs b) (by decide) (by rw [decide_eq_true_iff]; exact ⟨fun h => by rw [h], slabsT_inj⟩)
theorem ne_slabs (a b : List (Sg (List Pr))) : neT (slabsT a) (slabsT b) = some (!decide (a = b)) := ne_pt lfI (pt_slabs a) (pt_slabs b) (by decide) (by rw [decide_eq_true_iff]; exact ⟨fun h => by rw [h], slabsT_inj⟩)
theorem pr0 (r : RS) (p : Pr) : ixT r (prT p) (.int 0) = some (oT p.1) := rfl
theorem pr1 (r : RS) (p : Pr) : ixT r (prT p) (.int 1) = some (oT p.2) := rfl
theorem sg0 (r : RS) (s : Sg (List Pr)) : ixT r (sgT s) (.int 0) = some (oT s.1) := rfl
theorem sg1 (r : RS) (s : Sg (List Pr)) : ixT r (sgT s) (.int 1) = some (oT s.2.1) := rfl
theorem sg2 (r : RS) (s : Sg (List Pr)) : ixT r (sgT s) (.int 2) = some (rowT s.2.2) := rfl
end Rg
namespace K21
open PySem PySem.Spec L2 He Ep
noncomputable section
/-! ### the text by places -/
def top (i : Nat) : Stmt := PySem.Challenge.pw_endlessplane_k21_regions_made_and_refuse.main.body.getD i (.Pass ⟨0, 0, 0, 0⟩)
def cn : Nat → Str
  | 0 => "BadPart"
  | 1 => "BadNumber"
  | 2 => "BadIndex"
  | 3 => "NotSo"
  | 4 => "TooMany"
  | 5 => "SlabRows"
  | 6 => "Region"
  | _ => "BadPart"
def fl : Nat → List Str
  | 0 => ["part"]
  | 1 => ["number"]
  | 2 => ["index"]
  | 3 => ["word"]
  | 4 => ["limit"]
  | 5 => ["rows"]
  | 6 => ["own_slabs"]
  | _ => []
abbrev PW : Program := PySem.Challenge.pw_endlessplane_k21_regions_made_and_refuse
def tb (K : PySem.W.Frag) : List (Addr × Str) := [((tabW K "_law_refused").2, (("_law_refused" : Str) ++ ".<locals>.") ++ ("<lambda>" : Str))]
abbrev GG (K : PySem.W.Frag) (mg : Str → Option Value) : Gm := ⟨K, mg, cn, fl, tb K⟩
theorem tb_mem__law_refused (K : PySem.W.Frag) : ((tabW K "_law_refused").2, (("_law_refused" : Str) ++ ".<locals>.") ++ ("<lambda>" : Str)) ∈ tb K := by simp [tb]
abbrev s__law_caught : Stmt := (top 44)
abbrev s_BadIndex_init : Stmt := inClass (top 10) 0
theorem supt_BadIndex : SupT "index" s_BadIndex_init := ⟨⟨_, _, rfl⟩, rfl, ⟨_, _, _, _, _, _, _, _, _, _, rfl, fun _ _ _ _ _ => ⟨_, rfl⟩⟩⟩
theorem fok_BadIndex : SupX.FOk PW "index" := ⟨by kernel_rfl, by decide, by decide, by decide, rfl, rfl, rfl, rfl, by decide, by intros; rfl⟩
abbrev s_BadPart_init : Stmt := inClass (top 8) 0
theorem supt_BadPart : SupT "part" s_BadPart_init := ⟨⟨_, _, rfl⟩, rfl, ⟨_, _, _, _, _, _, _, _, _, _, rfl, fun _ _ _ _ _ => ⟨_, rfl⟩⟩⟩
theorem fok_BadPart : SupX.FOk PW "part" := ⟨by kernel_rfl, by decide, by decide, by decide, rfl, rfl, rfl, rfl, by decide, by intros; rfl⟩
abbrev s_TooMany_init : Stmt := inClass (top 12) 0
theorem supt_TooMany : SupT "limit" s_TooMany_init := ⟨⟨_, _, rfl⟩, rfl, ⟨_, _, _, _, _, _, _, _, _, _, rfl, fun _ _ _ _ _ => ⟨_, rfl⟩⟩⟩
theorem fok_TooMany : SupX.FOk PW "limit" := ⟨by kernel_rfl, by decide, by decide, by decide, rfl, rfl, rfl, rfl, by decide, by intros; rfl⟩
def xf_index (c : Nat) : Bool := c == 2
def xf_limit (c : Nat) : Bool := c == 4
def xf_number (c : Nat) : Bool := c == 1
def xf_part (c : Nat) : Bool := c == 0
def xf_word (c : Nat) : Bool := c == 3
def xr_BadIndex : List (Nat × Bool) := [(0, false), (1, false), (2, true), (3, false), (4, false)]
def xr_BadNumber : List (Nat × Bool) := [(0, false), (1, true), (2, false), (3, false), (4, false)]
def xr_BadPart : List (Nat × Bool) := [(0, true), (1, false), (2, false), (3, false), (4, false)]
def xr_NotSo : List (Nat × Bool) := [(0, false), (1, false), (2, false), (3, true), (4, false)]
def xr_TooMany : List (Nat × Bool) := [(0, false), (1, false), (2, false), (3, false), (4, true)]
def m_own_slabs : Nat → Option Nat
  | 6 => some 0
  | _ => none
def m_rows : Nat → Option Nat
  | 5 => some 0
  | _ => none
def tabR : List (Kd × Cl × Bool) := [(.b "int", .ty "int", true), (.b "int", .ty "bool", false), (.b "bool", .ty "int", true), (.b "bool", .ty "bool", true), (.b "NoneType", .ty "int", false), (.b "str", .ty "int", false), (.b "tuple", .ty "int", false), (.b "tuple", .ty "tuple", true), (.b "NoneType", .ty "tuple", false), (.b "list", .ty "tuple", false), (.b "str", .ty "tuple", false), (.b "int", .ty "tuple", false), (.b "dict", .ty "tuple", false), (.b "list", .ty "list", true), (.b "tuple", .ty "list", false), (.b "NoneType", .ty "list", false), (.b "int", .ty "list", false), (.b "str", .ty "list", false), (.b "dict", .ty "list", false), (.o 5, .cl 5, true), (.b "NoneType", .cl 5, false), (.b "int", .cl 5, false), (.b "str", .cl 5, false), (.b "dict", .cl 5, false), (.b "list", .cl 5, false), (.b "tuple", .cl 5, false), (.o 6, .cl 6, true), (.b "int", .cl 6, false), (.b "list", .cl 6, false)]
def tab : Kd → Cl → Option Bool := tabF tabR
abbrev s__law_take : Stmt := (top 34)
abbrev s__law_side : Stmt := (top 37)
abbrev s__law_box : Stmt := (top 38)
abbrev s__law_ended : Stmt := (top 39)
abbrev s__law_boxes : Stmt := (top 40)
abbrev s__law_lies : Stmt := (top 41)
abbrev s__law_has : Stmt := (top 42)
abbrev s__law_square : Stmt := (top 43)
abbrev s_is_integer : Stmt := (top 1)
abbrev s_is_cell : Stmt := (top 3)
abbrev s_is_inside : Stmt := (top 22)
abbrev s_stretches_of_rows : Stmt := (top 26)
abbrev s_Region_contains : Stmt := (inClass (top 31) 2)
abbrev s__law_cells_right : Stmt := (top 45)
abbrev s__law_pool : Stmt := (top 33)
abbrev s__law_one : Stmt := (top 35)
abbrev s_Region_eq : Stmt := (inClass (top 31) 8)
abbrev s_is_side : Stmt := (top 4)
abbrev s_is_box : Stmt := (top 5)
abbrev s_is_list : Stmt := (top 2)
abbrev s_ends_of : Stmt := (top 23)
abbrev s_joined_slabs : Stmt := (top 24)
abbrev s_rows_between : Stmt := (top 21)
abbrev s_by_lows : Stmt := (top 15)
abbrev s_united : Stmt := (top 16)
abbrev s_slabs_of_boxes : Stmt := (top 25)
abbrev s_slabs_told : Stmt := (top 30)
abbrev s_Region_init : Stmt := (inClass (top 31) 0)
abbrev s__law_refused : Stmt := (top 46)
abbrev s__law_rounds : Stmt := (top 36)
abbrev s_law : Stmt := (top 47)
/-! ### what the head has told -/
structure Tx (base : Heap) (wd : World) (K : PySem.W.Frag) (mg : Str → Option Value) : Prop where
  m_all : mg "all" = none
  m_any : mg "any" = none
  m_bool : mg "bool" = none
  m_enumerate : mg "enumerate" = none
  m_int : mg "int" = none
  m_isinstance : mg "isinstance" = none
  m_len : mg "len" = none
  m_list : mg "list" = none
  m_max : mg "max" = none
  m_min : mg "min" = none
  m_range : mg "range" = none
  m_repr : mg "repr" = none
  m_sorted : mg "sorted" = none
  m_tuple : mg "tuple" = none
  m_zip : mg "zip" = none
  c_BadIndex : mg "BadIndex" = some (.ref (ga K "BadIndex"))
  c_BadNumber : mg "BadNumber" = some (.ref (ga K "BadNumber"))
  c_BadPart : mg "BadPart" = some (.ref (ga K "BadPart"))
  c_NotSo : mg "NotSo" = some (.ref (ga K "NotSo"))
  c_Region : mg "Region" = some (.ref (ga K "Region"))
  c_SlabRows : mg "SlabRows" = some (.ref (ga K "SlabRows"))
  c_TooMany : mg "TooMany" = some (.ref (ga K "TooMany"))
  hc : ∀ C cA, mg (cn C) = some (.ref cA) → cA = ga K (cn C)
  tab : TabOk (GG K mg) tab
  i_MOST_BOXES : ∃ t, mg "MOST_BOXES" = some (.int 40 t)
  f_own_slabs : ∀ C j, m_own_slabs C = some j → FldOk (GG K mg) "own_slabs" C j
  f_rows : ∀ C j, m_rows C = some j → FldOk (GG K mg) "rows" C j
  n_Region_own_slabs : NthFld (GG K mg) 6 0 "own_slabs"
  k_Region : Cls K (ga K "Region")
  k_SlabRows : Cls K (ga K "SlabRows")
  mk_Region : Mk K (ga K "Region") (ma K (ga K "Region") "__init__")
  ne_Region : NeOk (GG K mg) 6
  sf_Region : ∀ cA, mg (cn 6) = some (.ref cA) → PySem.W.selfFirst K cA = true
  px_Region : PxOk (GG K mg) 6
  x_BadIndex : XcOk PW (GG K mg) 2 "index"
  x_BadPart : XcOk PW (GG K mg) 0 "part"
  x_TooMany : XcOk PW (GG K mg) 4 "limit"
  xm_BadIndex : XmOk K (GG K mg) (.ref (ga K "BadIndex")) (xmF xr_BadIndex)
  xm_BadNumber : XmOk K (GG K mg) (.ref (ga K "BadNumber")) (xmF xr_BadNumber)
  xm_BadPart : XmOk K (GG K mg) (.ref (ga K "BadPart")) (xmF xr_BadPart)
  xm_NotSo : XmOk K (GG K mg) (.ref (ga K "NotSo")) (xmF xr_NotSo)
  xm_TooMany : XmOk K (GG K mg) (.ref (ga K "TooMany")) (xmF xr_TooMany)
  xg_index : ∀ c, xf_index c = true → XgOk (GG K mg) c "index"
  xg_limit : ∀ c, xf_limit c = true → XgOk (GG K mg) c "limit"
  xg_number : ∀ c, xf_number c = true → XgOk (GG K mg) c "number"
  xg_part : ∀ c, xf_part c = true → XgOk (GG K mg) c "part"
  xg_word : ∀ c, xf_word c = true → XgOk (GG K mg) c "word"
  tb__law_refused : LamX.TabB base mg (tabW K "_law_refused").1 (tabW K "_law_refused").2
  cd__law_refused : cdOf K (ga K "_law_refused") = .ref (tabW K "_law_refused").1
  tb_nd : ((tb K).map (·.1)).Nodup
  c__law_caught : mg "_law_caught" = some (.ref (ga K "_law_caught"))
  D__law_caught : ∃ fd, FunD K "_law_caught" "_law_caught" (defArgs s__law_caught) (defBody s__law_caught) (defScope s__law_caught) [] [] (fAd K ("_law_caught", none)) fd
  c__law_take : mg "_law_take" = some (.ref (ga K "_law_take"))
  D__law_take : ∃ fd, FunD K "_law_take" "_law_take" (defArgs s__law_take) (defBody s__law_take) (defScope s__law_take) ([].map (Dv.v K)) [] (fAd K ("_law_take", none)) fd
  c__law_side : mg "_law_side" = some (.ref (ga K "_law_side"))
  D__law_side : ∃ fd, FunD K "_law_side" "_law_side" (defArgs s__law_side) (defBody s__law_side) (defScope s__law_side) ([].map (Dv.v K)) [] (fAd K ("_law_side", none)) fd
  c__law_box : mg "_law_box" = some (.ref (ga K "_law_box"))
  D__law_box : ∃ fd, FunD K "_law_box" "_law_box" (defArgs s__law_box) (defBody s__law_box) (defScope s__law_box) ([].map (Dv.v K)) [] (fAd K ("_law_box", none)) fd
  c__law_ended : mg "_law_ended" = some (.ref (ga K "_law_ended"))
  D__law_ended : ∃ fd, FunD K "_law_ended" "_law_ended" (defArgs s__law_ended) (defBody s__law_ended) (defScope s__law_ended) ([].map (Dv.v K)) [] (fAd K ("_law_ended", none)) fd
  c__law_boxes : mg "_law_boxes" = some (.ref (ga K "_law_boxes"))
  D__law_boxes : ∃ fd, FunD K "_law_boxes" "_law_boxes" (defArgs s__law_boxes) (defBody s__law_boxes) (defScope s__law_boxes) ([].map (Dv.v K)) [] (fAd K ("_law_boxes", none)) fd
  c__law_lies : mg "_law_lies" = some (.ref (ga K "_law_lies"))
  D__law_lies : ∃ fd, FunD K "_law_lies" "_law_lies" (defArgs s__law_lies) (defBody s__law_lies) (defScope s__law_lies) ([].map (Dv.v K)) [] (fAd K ("_law_lies", none)) fd
  c__law_has : mg "_law_has" = some (.ref (ga K "_law_has"))
  D__law_has : ∃ fd, FunD K "_law_has" "_law_has" (defArgs s__law_has) (defBody s__law_has) (defScope s__law_has) ([].map (Dv.v K)) [] (fAd K ("_law_has", none)) fd
  c__law_square : mg "_law_square" = some (.ref (ga K "_law_square"))
  D__law_square : ∃ fd, FunD K "_law_square" "_law_square" (defArgs s__law_square) (defBody s__law_square) (defScope s__law_square) ([].map (Dv.v K)) [] (fAd K ("_law_square", none)) fd
  c_is_integer : mg "is_integer" = some (.ref (ga K "is_integer"))
  D_is_integer : ∃ fd, FunD K "is_integer" "is_integer" (defArgs s_is_integer) (defBody s_is_integer) (defScope s_is_integer) ([].map (Dv.v K)) [] (fAd K ("is_integer", none)) fd
  c_is_cell : mg "is_cell" = some (.ref (ga K "is_cell"))
  D_is_cell : ∃ fd, FunD K "is_cell" "is_cell" (defArgs s_is_cell) (defBody s_is_cell) (defScope s_is_cell) ([].map (Dv.v K)) [] (fAd K ("is_cell", none)) fd
  c_is_inside : mg "is_inside" = some (.ref (ga K "is_inside"))
  D_is_inside : ∃ fd, FunD K "is_inside" "is_inside" (defArgs s_is_inside) (defBody s_is_inside) (defScope s_is_inside) ([].map (Dv.v K)) [] (fAd K ("is_inside", none)) fd
  c_stretches_of_rows : mg "stretches_of_rows" = some (.ref (ga K "stretches_of_rows"))
  D_stretches_of_rows : ∃ fd, FunD K "stretches_of_rows" "stretches_of_rows" (defArgs s_stretches_of_rows) (defBody s_stretches_of_rows) (defScope s_stretches_of_rows) ([].map (Dv.v K)) [] (fAd K ("stretches_of_rows", none)) fd
  h_Region_contains : Meth K (ga K "Region") "__contains__" (ma K (ga K "Region") "__contains__")
  D_Region_contains : ∃ fd, FunD K "__contains__" "Region.__contains__" (defArgs s_Region_contains) (defBody s_Region_contains) (defScope s_Region_contains) ([].map (Dv.v K)) [] (fAd K ("Region", some "__contains__")) fd
  c__law_cells_right : mg "_law_cells_right" = some (.ref (ga K "_law_cells_right"))
  D__law_cells_right : ∃ fd, FunD K "_law_cells_right" "_law_cells_right" (defArgs s__law_cells_right) (defBody s__law_cells_right) (defScope s__law_cells_right) ([].map (Dv.v K)) [] (fAd K ("_law_cells_right", none)) fd
  c__law_pool : mg "_law_pool" = some (.ref (ga K "_law_pool"))
  D__law_pool : ∃ fd, FunD K "_law_pool" "_law_pool" (defArgs s__law_pool) (defBody s__law_pool) (defScope s__law_pool) ([].map (Dv.v K)) [] (fAd K ("_law_pool", none)) fd
  c__law_one : mg "_law_one" = some (.ref (ga K "_law_one"))
  D__law_one : ∃ fd, FunD K "_law_one" "_law_one" (defArgs s__law_one) (defBody s__law_one) (defScope s__law_one) ([].map (Dv.v K)) [] (fAd K ("_law_one", none)) fd
  h_Region_eq : Meth K (ga K "Region") "__eq__" (ma K (ga K "Region") "__eq__")
  D_Region_eq : ∃ fd, FunD K "__eq__" "Region.__eq__" (defArgs s_Region_eq) (defBody s_Region_eq) (defScope s_Region_eq) ([].map (Dv.v K)) [] (fAd K ("Region", some "__eq__")) fd
  c_is_side : mg "is_side" = some (.ref (ga K "is_side"))
  D_is_side : ∃ fd, FunD K "is_side" "is_side" (defArgs s_is_side) (defBody s_is_side) (defScope s_is_side) ([].map (Dv.v K)) [] (fAd K ("is_side", none)) fd
  c_is_box : mg "is_box" = some (.ref (ga K "is_box"))
  D_is_box : ∃ fd, FunD K "is_box" "is_box" (defArgs s_is_box) (defBody s_is_box) (defScope s_is_box) ([].map (Dv.v K)) [] (fAd K ("is_box", none)) fd
  c_is_list : mg "is_list" = some (.ref (ga K "is_list"))
  D_is_list : ∃ fd, FunD K "is_list" "is_list" (defArgs s_is_list) (defBody s_is_list) (defScope s_is_list) ([].map (Dv.v K)) [] (fAd K ("is_list", none)) fd
  c_ends_of : mg "ends_of" = some (.ref (ga K "ends_of"))
  D_ends_of : ∃ fd, FunD K "ends_of" "ends_of" (defArgs s_ends_of) (defBody s_ends_of) (defScope s_ends_of) ([].map (Dv.v K)) [] (fAd K ("ends_of", none)) fd
  c_joined_slabs : mg "joined_slabs" = some (.ref (ga K "joined_slabs"))
  D_joined_slabs : ∃ fd, FunD K "joined_slabs" "joined_slabs" (defArgs s_joined_slabs) (defBody s_joined_slabs) (defScope s_joined_slabs) ([].map (Dv.v K)) [] (fAd K ("joined_slabs", none)) fd
  c_rows_between : mg "rows_between" = some (.ref (ga K "rows_between"))
  D_rows_between : ∃ fd, FunD K "rows_between" "rows_between" (defArgs s_rows_between) (defBody s_rows_between) (defScope s_rows_between) ([].map (Dv.v K)) [] (fAd K ("rows_between", none)) fd
  c_by_lows : mg "by_lows" = some (.ref (ga K "by_lows"))
  D_by_lows : ∃ fd, FunD K "by_lows" "by_lows" (defArgs s_by_lows) (defBody s_by_lows) (defScope s_by_lows) ([].map (Dv.v K)) [] (fAd K ("by_lows", none)) fd
  c_united : mg "united" = some (.ref (ga K "united"))
  D_united : ∃ fd, FunD K "united" "united" (defArgs s_united) (defBody s_united) (defScope s_united) ([].map (Dv.v K)) [] (fAd K ("united", none)) fd
  c_slabs_of_boxes : mg "slabs_of_boxes" = some (.ref (ga K "slabs_of_boxes"))
  D_slabs_of_boxes : ∃ fd, FunD K "slabs_of_boxes" "slabs_of_boxes" (defArgs s_slabs_of_boxes) (defBody s_slabs_of_boxes) (defScope s_slabs_of_boxes) ([].map (Dv.v K)) [] (fAd K ("slabs_of_boxes", none)) fd
  c_slabs_told : mg "slabs_told" = some (.ref (ga K "slabs_told"))
  D_slabs_told : ∃ fd, FunD K "slabs_told" "slabs_told" (defArgs s_slabs_told) (defBody s_slabs_told) (defScope s_slabs_told) ([].map (Dv.v K)) [] (fAd K ("slabs_told", none)) fd
  D_Region_init : ∃ fd, FunD K "__init__" "Region.__init__" (defArgs s_Region_init) (defBody s_Region_init) (defScope s_Region_init) ([.adr (dflAt ("Region", some "__init__") 0)].map (Dv.v K)) [] (fAd K ("Region", some "__init__")) fd
  v_Region_init_0 : taB K (dflAt ("Region", some "__init__") 0 K) [] = true
  c__law_refused : mg "_law_refused" = some (.ref (ga K "_law_refused"))
  D__law_refused : ∃ fd, FunD K "_law_refused" "_law_refused" (defArgs s__law_refused) (defBody s__law_refused) (defScope s__law_refused) ([].map (Dv.v K)) [] (fAd K ("_law_refused", none)) fd
  c__law_rounds : mg "_law_rounds" = some (.ref (ga K "_law_rounds"))
  D__law_rounds : ∃ fd, FunD K "_law_rounds" "_law_rounds" (defArgs s__law_rounds) (defBody s__law_rounds) (defScope s__law_rounds) ([].map (Dv.v K)) [] (fAd K ("_law_rounds", none)) fd
  c_law : mg "law" = some (.ref (ga K "law"))
  D_law : ∃ fd, FunD K "law" "law" (defArgs s_law) (defBody s_law) (defScope s_law) ([].map (Dv.v K)) [] (fAd K ("law", none)) fd
section
variable {wd : World} {base : Heap} {K : PySem.W.Frag} {mg : Str → Option Value}
theorem sc__law_caught : FnScope ["_law_call", "e"] ["_law_call"] (defScope s__law_caught) := ⟨rfl, rfl, rfl, by decide +kernel, rfl, by decide +kernel, by decide +kernel⟩
def hs__law_caught : List HdS := [(xmF xr_BadPart, 1, (hRet (fun c p => fLst (List.map (fun f : HM T => f c p) [(fun _ _ => (fC (.str "part"))), (hFld xf_part)])))), (xmF xr_BadIndex, 1, (hRet (fun c p => fLst (List.map (fun f : HM T => f c p) [(fun _ _ => (fC (.str "index"))), (hFld xf_index)])))), (xmF xr_BadNumber, 1, (hRet (fun c p => fLst (List.map (fun f : HM T => f c p) [(fun _ _ => (fC (.str "number"))), (fun c q => fB1 reprT ((hFld xf_number) c q))])))), (xmF xr_NotSo, 1, (hRet (fun c p => fLst (List.map (fun f : HM T => f c p) [(fun _ _ => (fC (.str "so"))), (hFld xf_word)])))), (xmF xr_TooMany, 1, (hRet (fun c p => fLst (List.map (fun f : HM T => f c p) [(fun _ _ => (fC (.str "many"))), (hFld xf_limit)]))))]
def rest__law_caught : Sm := (qSeq (qRet (fC .non))
    qNil)
theorem hg__law_caught (T : Tx base wd K mg) {g : Addr} {cdg : Value} {A : Around} {outer : List PySem.Env} {s : Shared} {H : Hp} : HG (cxOf C8.CX0 PW wd K mg base ["_law_call", "e"] "_law_caught" (defScope s__law_caught) g cdg A outer s H C8.E0).nox (GG K mg) W0 (hdsOf (defBody s__law_caught)) hs__law_caught :=
  (hg_cons ⟨rfl, by decide, .inl T.c_BadPart⟩ rfl rfl T.xm_BadPart (fun _ _ _ _ _ hz hf => (hs_ret (he_lst (fs := [(fun _ _ => (fC (.str "part"))), (hFld xf_part)]) (ha_cons (he_of s_str) (ha_cons (he_fld rfl hz hf xf_part T.xg_part rfl (Or.inl rfl)) ha_nil)))))
    (hg_cons ⟨rfl, by decide, .inl T.c_BadIndex⟩ rfl rfl T.xm_BadIndex (fun _ _ _ _ _ hz hf => (hs_ret (he_lst (fs := [(fun _ _ => (fC (.str "index"))), (hFld xf_index)]) (ha_cons (he_of s_str) (ha_cons (he_fld rfl hz hf xf_index T.xg_index rfl (Or.inl rfl)) ha_nil)))))
    (hg_cons ⟨rfl, by decide, .inl T.c_BadNumber⟩ rfl rfl T.xm_BadNumber (fun _ _ _ _ _ hz hf => (hs_ret (he_lst (fs := [(fun _ _ => (fC (.str "number"))), (fun c q => fB1 reprT ((hFld xf_number) c q))]) (ha_cons (he_of s_str) (ha_cons (he_repr (he_fld rfl hz hf xf_number T.xg_number rfl (Or.inl rfl)) T.m_repr) ha_nil)))))
    (hg_cons ⟨rfl, by decide, .inl T.c_NotSo⟩ rfl rfl T.xm_NotSo (fun _ _ _ _ _ hz hf => (hs_ret (he_lst (fs := [(fun _ _ => (fC (.str "so"))), (hFld xf_word)]) (ha_cons (he_of s_str) (ha_cons (he_fld rfl hz hf xf_word T.xg_word rfl (Or.inl rfl)) ha_nil)))))
    (hg_cons ⟨rfl, by decide, .inl T.c_TooMany⟩ rfl rfl T.xm_TooMany (fun _ _ _ _ _ hz hf => (hs_ret (he_lst (fs := [(fun _ _ => (fC (.str "many"))), (hFld xf_limit)]) (ha_cons (he_of s_str) (ha_cons (he_fld rfl hz hf xf_limit T.xg_limit rfl (Or.inl rfl)) ha_nil)))))
    hg_nil)))))
theorem hr__law_caught (T : Tx base wd K mg) {g : Addr} {cdg : Value} {A : Around} {outer : List PySem.Env} {s : Shared} {H : Hp} : SSs (cxOf C8.CX0 PW wd K mg base ["_law_call", "e"] "_law_caught" (defScope s__law_caught) g cdg A outer s H C8.E0).nox (GG K mg) W0 (restOf (defBody s__law_caught)) rest__law_caught :=
  (ss_cons (ss_ret s_non)
    ss_nil)
/-! _law_take -/
def g__law_take : Sm := (qSeq (qIf (fCmpB gtT (fIx (fVar 0) (fC (.int 0))) (fC (.int 0))) (qSeq (qSet 2 (fBin modT (fB1 intT (fIx (fVar 0) (fC (.int 0)))) (fVar 1)))
    (qSeq (qSetIx 0 (fBin divT (fIx (fVar 0) (fC (.int 0))) (fVar 1)) (fC (.int 0)))
    (qSeq (qRet (fVar 2))
    qNil))) qNil)
    (qSeq (qSetIx 0 (fBin modT (fB1 intT (fBin addT (fBin mulT (fIx (fVar 0) (fC (.int 1))) (fC (.int 39373))) (fC (.int 7)))) (fC (.int 2147483647))) (fC (.int 1)))
    (qSeq (qRet (fBin modT (fB1 intT (fBin divT (fBin modT (fB1 intT (fBin mulT (fIx (fVar 0) (fC (.int 1))) (fIx (fVar 0) (fC (.int 1))))) (fC (.int 2147483629))) (fC (.int 32)))) (fVar 1)))
    qNil)))
def F__law_take : List T → M T := fnS 1 g__law_take
theorem sc__law_take : FnScope ["_law_source", "_law_top", "_law_told"] ["_law_source", "_law_top"] (defScope s__law_take) := ⟨rfl, rfl, rfl, by decide +kernel, rfl, by decide +kernel, by decide +kernel⟩
theorem run__law_take (T : Tx base wd K mg) {f : Addr} {fd : FuncData} {dv : List V} {kw : List (Str × V)} (F : FunD K "_law_take" "_law_take" (defArgs s__law_take) (defBody s__law_take) (defScope s__law_take) dv kw f fd) : FnOk PW wd K mg base (L2.CX PW wd) 1 f fd ["_law_source", "_law_top"] (spF (GG K mg) 2 (fnS 1 g__law_take)) :=
  fn_run (G := GG K mg) (k := 0) F sc__law_take rfl rfl fun cdv A outer s H E hr => by
    have B := bd_of (P := PW) (wd := wd) (G := GG K mg) (base := base) (cdv := cdv) (outer := outer) (H := H) (E := E) sc__law_take hr
    exact (ss_cons (ss_if (B.gtB (k_of (B.ix (k_of (vr 0)) s_int)) (k_of s_int)) (ss_cons (B.set 2 (B.mod (B.int T.m_int (k_of (B.ix (k_of (vr 0)) s_int))) (vr 1)))
    (ss_cons (B.put 0 (B.div (B.ix (k_of (vr 0)) s_int) (vr 1)) s_int)
    (ss_cons (ss_ret (vr 2))
    ss_nil))) ss_nil)
    (ss_cons (B.put 0 (B.mod (B.int T.m_int (k_of (B.add (B.mul (B.ix (k_of (vr 0)) s_int) s_int) s_int))) s_int) s_int)
    (ss_cons (ss_ret (B.mod (B.int T.m_int (k_of (B.div (B.mod (B.int T.m_int (k_of (B.mul (B.ix (k_of (vr 0)) s_int) (B.ix (k_of (vr 0)) s_int)))) s_int) s_int))) (vr 1)))
    ss_nil)))
theorem d__law_take (T : Tx base wd K mg) : DefOk PW wd base (GG K mg) 1 "_law_take" 2 [] F__law_take := by
  obtain ⟨fd, F⟩ := T.D__law_take
  exact ⟨_, fd, ["_law_source", "_law_top"], [], [], run__law_take T F, T.c__law_take, F.kp, (F.bindsN fun _ _ _ _ _ _ us hl => match us, hl with | [_, _], _ => rfl), .nil, fun _ => .nil⟩
/-! _law_side -/
def g__law_side : Sm := (qSeq (qSet 1 (fBin subT (fCall F__law_take [] [(fVar 0), (fC (.int 9))]) (fC (.int 5))))
    (qSeq (qSet 2 (fBin addT (fBin addT (fVar 1) (fC (.int 1))) (fCall F__law_take [] [(fVar 0), (fC (.int 5))])))
    (qSeq (qSet 3 (fCall F__law_take [] [(fVar 0), (fC (.int 12))]))
    (qSeq (qRet (fTup [(fIf (fCmpB inT (fVar 3) (fLst [(fC (.int 0)), (fC (.int 2))])) (fC .non) (fVar 1)), (fIf (fCmpB inT (fVar 3) (fLst [(fC (.int 1)), (fC (.int 2))])) (fC .non) (fVar 2))]))
    qNil))))
def F__law_side : List T → M T := fnS 3 g__law_side
theorem sc__law_side : FnScope ["_law_source", "_law_low", "_law_high", "_law_way"] ["_law_source"] (defScope s__law_side) := ⟨rfl, rfl, rfl, by decide +kernel, rfl, by decide +kernel, by decide +kernel⟩
theorem run__law_side (T : Tx base wd K mg) {f : Addr} {fd : FuncData} {dv : List V} {kw : List (Str × V)} (F : FunD K "_law_side" "_law_side" (defArgs s__law_side) (defBody s__law_side) (defScope s__law_side) dv kw f fd) : FnOk PW wd K mg base (L2.CX PW wd) 2 f fd ["_law_source"] (spF (GG K mg) 1 (fnS 3 g__law_side)) :=
  fn_run (G := GG K mg) (k := 1) F sc__law_side rfl rfl fun cdv A outer s H E hr => by
    have B := bd_of (P := PW) (wd := wd) (G := GG K mg) (base := base) (cdv := cdv) (outer := outer) (H := H) (E := E) sc__law_side hr
    exact (ss_cons (B.set 1 (B.sub (B.call (d__law_take T) (a_cons (vr 0) (a_cons s_int a_nil))) s_int))
    (ss_cons (B.set 2 (B.add (B.add (vr 1) s_int) (B.call (d__law_take T) (a_cons (vr 0) (a_cons s_int a_nil)))))
    (ss_cons (B.set 3 (B.call (d__law_take T) (a_cons (vr 0) (a_cons s_int a_nil))))
    (ss_cons (ss_ret (s_tup (a_cons (s_if (B.inB (k_of (vr 3)) (k_of (s_lst (a_cons s_int (a_cons s_int a_nil))))) s_non (vr 1)) (a_cons (s_if (B.inB (k_of (vr 3)) (k_of (s_lst (a_cons s_int (a_cons s_int a_nil))))) s_non (vr 2)) a_nil))))
    ss_nil))))
theorem d__law_side (T : Tx base wd K mg) : DefOk PW wd base (GG K mg) 2 "_law_side" 1 [] F__law_side := by
  obtain ⟨fd, F⟩ := T.D__law_side
  exact ⟨_, fd, ["_law_source"], [], [], run__law_side T F, T.c__law_side, F.kp, (F.bindsN fun _ _ _ _ _ _ us hl => match us, hl with | [_], _ => rfl), .nil, fun _ => .nil⟩
/-! _law_box -/
def g__law_box : Sm := (qSeq (qRet (fBin addT (fCall F__law_side [] [(fVar 0)]) (fCall F__law_side [] [(fVar 0)])))
    qNil)
def F__law_box : List T → M T := fnS 0 g__law_box
theorem sc__law_box : FnScope ["_law_source"] ["_law_source"] (defScope s__law_box) := ⟨rfl, rfl, rfl, by decide +kernel, rfl, by decide +kernel, by decide +kernel⟩
theorem run__law_box (T : Tx base wd K mg) {f : Addr} {fd : FuncData} {dv : List V} {kw : List (Str × V)} (F : FunD K "_law_box" "_law_box" (defArgs s__law_box) (defBody s__law_box) (defScope s__law_box) dv kw f fd) : FnOk PW wd K mg base (L2.CX PW wd) 3 f fd ["_law_source"] (spF (GG K mg) 1 (fnS 0 g__law_box)) :=
  fn_run (G := GG K mg) (k := 2) F sc__law_box rfl rfl fun cdv A outer s H E hr => by
    have B := bd_of (P := PW) (wd := wd) (G := GG K mg) (base := base) (cdv := cdv) (outer := outer) (H := H) (E := E) sc__law_box hr
    exact (ss_cons (ss_ret (B.add (B.call (d__law_side T) (a_cons (vr 0) a_nil)) (B.call (d__law_side T) (a_cons (vr 0) a_nil))))
    ss_nil)
theorem d__law_box (T : Tx base wd K mg) : DefOk PW wd base (GG K mg) 3 "_law_box" 1 [] F__law_box := by
  obtain ⟨fd, F⟩ := T.D__law_box
  exact ⟨_, fd, ["_law_source"], [], [], run__law_box T F, T.c__law_box, F.kp, (F.bindsN fun _ _ _ _ _ _ us hl => match us, hl with | [_], _ => rfl), .nil, fun _ => .nil⟩
/-! _law_ended -/
def g__law_ended : Sm := (qSeq (qPar2 1 2 (fBin subT (fCall F__law_take [] [(fVar 0), (fC (.int 9))]) (fC (.int 5))) (fBin subT (fCall F__law_take [] [(fVar 0), (fC (.int 9))]) (fC (.int 5))))
    (qSeq (qRet (fTup [(fVar 1), (fBin addT (fBin addT (fVar 1) (fC (.int 1))) (fCall F__law_take [] [(fVar 0), (fC (.int 5))])), (fVar 2), (fBin addT (fBin addT (fVar 2) (fC (.int 1))) (fCall F__law_take [] [(fVar 0), (fC (.int 5))]))]))
    qNil))
def F__law_ended : List T → M T := fnS 2 g__law_ended
theorem sc__law_ended : FnScope ["_law_source", "_law_left", "_law_low"] ["_law_source"] (defScope s__law_ended) := ⟨rfl, rfl, rfl, by decide +kernel, rfl, by decide +kernel, by decide +kernel⟩
theorem run__law_ended (T : Tx base wd K mg) {f : Addr} {fd : FuncData} {dv : List V} {kw : List (Str × V)} (F : FunD K "_law_ended" "_law_ended" (defArgs s__law_ended) (defBody s__law_ended) (defScope s__law_ended) dv kw f fd) : FnOk PW wd K mg base (L2.CX PW wd) 2 f fd ["_law_source"] (spF (GG K mg) 1 (fnS 2 g__law_ended)) :=
  fn_run (G := GG K mg) (k := 1) F sc__law_ended rfl rfl fun cdv A outer s H E hr => by
    have B := bd_of (P := PW) (wd := wd) (G := GG K mg) (base := base) (cdv := cdv) (outer := outer) (H := H) (E := E) sc__law_ended hr
    exact (ss_cons (B.par2 1 2 (a_cons (B.sub (B.call (d__law_take T) (a_cons (vr 0) (a_cons s_int a_nil))) s_int) (a_cons (B.sub (B.call (d__law_take T) (a_cons (vr 0) (a_cons s_int a_nil))) s_int) a_nil)))
    (ss_cons (ss_ret (s_tup (a_cons (vr 1) (a_cons (B.add (B.add (vr 1) s_int) (B.call (d__law_take T) (a_cons (vr 0) (a_cons s_int a_nil)))) (a_cons (vr 2) (a_cons (B.add (B.add (vr 2) s_int) (B.call (d__law_take T) (a_cons (vr 0) (a_cons s_int a_nil)))) a_nil))))))
    ss_nil))
theorem d__law_ended (T : Tx base wd K mg) : DefOk PW wd base (GG K mg) 2 "_law_ended" 1 [] F__law_ended := by
  obtain ⟨fd, F⟩ := T.D__law_ended
  exact ⟨_, fd, ["_law_source"], [], [], run__law_ended T F, T.c__law_ended, F.kp, (F.bindsN fun _ _ _ _ _ _ us hl => match us, hl with | [_], _ => rfl), .nil, fun _ => .nil⟩
/-! _law_boxes -/
def g__law_boxes : Sm := (qSeq (qRet (fOwn (fComp [3] (hName 3) fYes (fIf (fTru (fVar 2)) (fCall F__law_ended [] [(fVar 0)]) (fCall F__law_box [] [(fVar 0)])) (fRng1 (fCall F__law_take [] [(fVar 0), (fBin addT (fVar 1) (fC (.int 1)))])))))
    qNil)
def F__law_boxes : List T → M T := fnS 1 g__law_boxes
theorem sc__law_boxes : FnScope ["_law_source", "_law_most", "_law_ended_here", "_law_turn"] ["_law_source", "_law_most", "_law_ended_here"] (defScope s__law_boxes) := ⟨rfl, rfl, rfl, by decide +kernel, rfl, by decide +kernel, by decide +kernel⟩
theorem run__law_boxes (T : Tx base wd K mg) {f : Addr} {fd : FuncData} {dv : List V} {kw : List (Str × V)} (F : FunD K "_law_boxes" "_law_boxes" (defArgs s__law_boxes) (defBody s__law_boxes) (defScope s__law_boxes) dv kw f fd) : FnOk PW wd K mg base (L2.CX PW wd) 4 f fd ["_law_source", "_law_most", "_law_ended_here"] (spF (GG K mg) 3 (fnS 1 g__law_boxes)) :=
  fn_run (G := GG K mg) (k := 3) F sc__law_boxes rfl rfl fun cdv A outer s H E hr => by
    have B := bd_of (P := PW) (wd := wd) (G := GG K mg) (base := base) (cdv := cdv) (outer := outer) (H := H) (E := E) sc__law_boxes hr
    exact (ss_cons (ss_ret (s_own (B.comp [("_law_turn", 3)] (i_range1 rfl (by rw [B.eM]; exact T.m_range) (B.call (d__law_take T) (a_cons (vr 0) (a_cons (B.add (vr 1) s_int) a_nil)))) (fun _ _ _ _ _ => ((B.blk _ _ _ _ _).nm 3)) (fun _ _ _ _ _ => ts_nil) (fun _ _ _ _ _ => (s_if ((B.blk _ _ _ _ _).tru (vr 2)) ((B.blk _ _ _ _ _).call (d__law_ended T) (a_cons (vr 0) a_nil)) ((B.blk _ _ _ _ _).call (d__law_box T) (a_cons (vr 0) a_nil)))))))
    ss_nil)
theorem d__law_boxes (T : Tx base wd K mg) : DefOk PW wd base (GG K mg) 4 "_law_boxes" 3 [] F__law_boxes := by
  obtain ⟨fd, F⟩ := T.D__law_boxes
  exact ⟨_, fd, ["_law_source", "_law_most", "_law_ended_here"], [], [], run__law_boxes T F, T.c__law_boxes, F.kp, (F.bindsN fun _ _ _ _ _ _ us hl => match us, hl with | [_, _, _], _ => rfl), .nil, fun _ => .nil⟩
/-! _law_lies -/
def g__law_lies : Sm := (qSeq (qRet (fAnd (fOr (fCmp isT (fVar 0) (fC .non)) (fCmp leT (fVar 0) (fVar 2))) (fOr (fCmp isT (fVar 1) (fC .non)) (fCmp ltT (fVar 2) (fVar 1)))))
    qNil)
def F__law_lies : List T → M T := fnS 0 g__law_lies
theorem sc__law_lies : FnScope ["_law_low", "_law_high", "_law_i"] ["_law_low", "_law_high", "_law_i"] (defScope s__law_lies) := ⟨rfl, rfl, rfl, by decide +kernel, rfl, by decide +kernel, by decide +kernel⟩
theorem run__law_lies (T : Tx base wd K mg) {f : Addr} {fd : FuncData} {dv : List V} {kw : List (Str × V)} (F : FunD K "_law_lies" "_law_lies" (defArgs s__law_lies) (defBody s__law_lies) (defScope s__law_lies) dv kw f fd) : FnOk PW wd K mg base (L2.CX PW wd) 1 f fd ["_law_low", "_law_high", "_law_i"] (spF (GG K mg) 3 (fnS 0 g__law_lies)) :=
  fn_run (G := GG K mg) (k := 0) F sc__law_lies rfl rfl fun cdv A outer s H E hr => by
    have B := bd_of (P := PW) (wd := wd) (G := GG K mg) (base := base) (cdv := cdv) (outer := outer) (H := H) (E := E) sc__law_lies hr
    exact (ss_cons (ss_ret (s_and (s_or (B.is_ (k_of (vr 0)) (k_of s_non)) (s_one (B.le (k_of (vr 0)) (k_of (vr 2))))) (s_one (s_or (B.is_ (k_of (vr 1)) (k_of s_non)) (s_one (B.lt (k_of (vr 2)) (k_of (vr 1))))))))
    ss_nil)
theorem d__law_lies (T : Tx base wd K mg) : DefOk PW wd base (GG K mg) 1 "_law_lies" 3 [] F__law_lies := by
  obtain ⟨fd, F⟩ := T.D__law_lies
  exact ⟨_, fd, ["_law_low", "_law_high", "_law_i"], [], [], run__law_lies T F, T.c__law_lies, F.kp, (F.bindsN fun _ _ _ _ _ _ us hl => match us, hl with | [_, _, _], _ => rfl), .nil, fun _ => .nil⟩
/-! _law_has -/
def g__law_has : Sm := (qSeq (qRet (fCmp neT (fOwn (fComp [3] (hName 3) (fAndB (fTru (fCall F__law_lies [] [(fIx (fVar 3) (fC (.int 0))), (fIx (fVar 3) (fC (.int 1))), (fVar 1)])) (fTru (fCall F__law_lies [] [(fIx (fVar 3) (fC (.int 2))), (fIx (fVar 3) (fC (.int 3))), (fVar 2)]))) (fVar 3) (fIter (fVar 0)))) (fLst [])))
    qNil)
def F__law_has : List T → M T := fnS 1 g__law_has
theorem sc__law_has : FnScope ["_law_boxes_here", "_law_x", "_law_y", "_law_box_here"] ["_law_boxes_here", "_law_x", "_law_y"] (defScope s__law_has) := ⟨rfl, rfl, rfl, by decide +kernel, rfl, by decide +kernel, by decide +kernel⟩
theorem run__law_has (T : Tx base wd K mg) {f : Addr} {fd : FuncData} {dv : List V} {kw : List (Str × V)} (F : FunD K "_law_has" "_law_has" (defArgs s__law_has) (defBody s__law_has) (defScope s__law_has) dv kw f fd) : FnOk PW wd K mg base (L2.CX PW wd) 2 f fd ["_law_boxes_here", "_law_x", "_law_y"] (spF (GG K mg) 3 (fnS 1 g__law_has)) :=
  fn_run (G := GG K mg) (k := 1) F sc__law_has rfl rfl fun cdv A outer s H E hr => by
    have B := bd_of (P := PW) (wd := wd) (G := GG K mg) (base := base) (cdv := cdv) (outer := outer) (H := H) (E := E) sc__law_has hr
    exact (ss_cons (ss_ret (B.ne (k_of (s_own (B.comp [("_law_box_here", 3)] (i_seq B.eK (vr 0)) (fun _ _ _ _ _ => ((B.blk _ _ _ _ _).nm 3)) (fun _ _ _ _ _ => (ts_one (w_t (w_and ((B.blk _ _ _ _ _).tru ((B.blk _ _ _ _ _).call (d__law_lies T) (a_cons ((B.blk _ _ _ _ _).ix (k_of (vr 3)) s_int) (a_cons ((B.blk _ _ _ _ _).ix (k_of (vr 3)) s_int) (a_cons (vr 1) a_nil))))) (w_and1 ((B.blk _ _ _ _ _).tru ((B.blk _ _ _ _ _).call (d__law_lies T) (a_cons ((B.blk _ _ _ _ _).ix (k_of (vr 3)) s_int) (a_cons ((B.blk _ _ _ _ _).ix (k_of (vr 3)) s_int) (a_cons (vr 2) a_nil)))))))))) (fun _ _ _ _ _ => (vr 3))))) (k_of (s_lst a_nil))))
    ss_nil)
theorem d__law_has (T : Tx base wd K mg) : DefOk PW wd base (GG K mg) 2 "_law_has" 3 [] F__law_has := by
  obtain ⟨fd, F⟩ := T.D__law_has
  exact ⟨_, fd, ["_law_boxes_here", "_law_x", "_law_y"], [], [], run__law_has T F, T.c__law_has, F.kp, (F.bindsN fun _ _ _ _ _ _ us hl => match us, hl with | [_, _, _], _ => rfl), .nil, fun _ => .nil⟩
/-! _law_square -/
def g__law_square : Sm := (qSeq (qRet (fBin rgsT (fBin subT (fC (.int 0)) (fC (.int 9))) (fC (.int 9))))
    qNil)
def F__law_square : List T → M T := fnS 0 g__law_square
theorem sc__law_square : FnScope [] [] (defScope s__law_square) := ⟨rfl, rfl, rfl, by decide +kernel, rfl, by decide +kernel, by decide +kernel⟩
theorem run__law_square (T : Tx base wd K mg) {f : Addr} {fd : FuncData} {dv : List V} {kw : List (Str × V)} (F : FunD K "_law_square" "_law_square" (defArgs s__law_square) (defBody s__law_square) (defScope s__law_square) dv kw f fd) : FnOk PW wd K mg base (L2.CX PW wd) 1 f fd [] (spF (GG K mg) 0 (fnS 0 g__law_square)) :=
  fn_run (G := GG K mg) (k := 0) F sc__law_square rfl rfl fun cdv A outer s H E hr => by
    have B := bd_of (P := PW) (wd := wd) (G := GG K mg) (base := base) (cdv := cdv) (outer := outer) (H := H) (E := E) sc__law_square hr
    exact (ss_cons (ss_ret (B.lrg2 T.m_list T.m_range (B.sub s_int s_int) s_int))
    ss_nil)
theorem d__law_square (T : Tx base wd K mg) : DefOk PW wd base (GG K mg) 1 "_law_square" 0 [] F__law_square := by
  obtain ⟨fd, F⟩ := T.D__law_square
  exact ⟨_, fd, [], [], [], run__law_square T F, T.c__law_square, F.kp, (F.bindsN fun _ _ _ _ _ _ us hl => match us, hl with | [], _ => rfl), .nil, fun _ => .nil⟩
/-! is_integer -/
def g_is_integer : Sm := (qSeq (qRet (fAnd (fBin (isiT tab) (fVar 0) (fC (.ty "int"))) (fNot (fBin (isiT tab) (fVar 0) (fC (.ty "bool"))))))
    qNil)
def F_is_integer : List T → M T := fnS 0 g_is_integer
theorem sc_is_integer : FnScope ["value"] ["value"] (defScope s_is_integer) := ⟨rfl, rfl, rfl, by decide +kernel, rfl, by decide +kernel, by decide +kernel⟩
theorem run_is_integer (T : Tx base wd K mg) {f : Addr} {fd : FuncData} {dv : List V} {kw : List (Str × V)} (F : FunD K "is_integer" "is_integer" (defArgs s_is_integer) (defBody s_is_integer) (defScope s_is_integer) dv kw f fd) : FnOk PW wd K mg base (L2.CX PW wd) 1 f fd ["value"] (spF (GG K mg) 1 (fnS 0 g_is_integer)) :=
  fn_run (G := GG K mg) (k := 0) F sc_is_integer rfl rfl fun cdv A outer s H E hr => by
    have B := bd_of (P := PW) (wd := wd) (G := GG K mg) (base := base) (cdv := cdv) (outer := outer) (H := H) (E := E) sc_is_integer hr
    exact (ss_cons (ss_ret (s_and (B.isi T.tab T.m_isinstance (vr 0) (B.ty "int" T.m_int)) (s_one (s_not (B.isi T.tab T.m_isinstance (vr 0) (B.ty "bool" T.m_bool))))))
    ss_nil)
theorem d_is_integer (T : Tx base wd K mg) : DefOk PW wd base (GG K mg) 1 "is_integer" 1 [] F_is_integer := by
  obtain ⟨fd, F⟩ := T.D_is_integer
  exact ⟨_, fd, ["value"], [], [], run_is_integer T F, T.c_is_integer, F.kp, (F.bindsN fun _ _ _ _ _ _ us hl => match us, hl with | [_], _ => rfl), .nil, fun _ => .nil⟩
/-! is_cell -/
def g_is_cell : Sm := (qSeq (qRet (fAnd (fBin (isiT tab) (fVar 0) (fC (.ty "tuple"))) (fAnd (fCmp eqT (fB1 lenT (fVar 0)) (fC (.int 2))) (fB1 allT (fOwn (fComp [1] (hName 1) fYes (fCall F_is_integer [] [(fVar 1)]) (fIter (fVar 0))))))))
    qNil)
def F_is_cell : List T → M T := fnS 1 g_is_cell
theorem sc_is_cell : FnScope ["value", "part"] ["value"] (defScope s_is_cell) := ⟨rfl, rfl, rfl, by decide +kernel, rfl, by decide +kernel, by decide +kernel⟩
theorem run_is_cell (T : Tx base wd K mg) {f : Addr} {fd : FuncData} {dv : List V} {kw : List (Str × V)} (F : FunD K "is_cell" "is_cell" (defArgs s_is_cell) (defBody s_is_cell) (defScope s_is_cell) dv kw f fd) : FnOk PW wd K mg base (L2.CX PW wd) 2 f fd ["value"] (spF (GG K mg) 1 (fnS 1 g_is_cell)) :=
  fn_run (G := GG K mg) (k := 1) F sc_is_cell rfl rfl fun cdv A outer s H E hr => by
    have B := bd_of (P := PW) (wd := wd) (G := GG K mg) (base := base) (cdv := cdv) (outer := outer) (H := H) (E := E) sc_is_cell hr
    exact (ss_cons (ss_ret (s_and (B.isi T.tab T.m_isinstance (vr 0) (B.ty "tuple" T.m_tuple)) (s_and (B.eq (k_of (B.len T.m_len (k_of (vr 0)))) (k_of s_int)) (s_one (B.all T.m_all (k_of (s_own (B.comp [("part", 1)] (i_seq B.eK (vr 0)) (fun _ _ _ _ _ => ((B.blk _ _ _ _ _).nm 1)) (fun _ _ _ _ _ => ts_nil) (fun _ _ _ _ _ => ((B.blk _ _ _ _ _).call (d_is_integer T) (a_cons (vr 1) a_nil)))))))))))
    ss_nil)
theorem d_is_cell (T : Tx base wd K mg) : DefOk PW wd base (GG K mg) 2 "is_cell" 1 [] F_is_cell := by
  obtain ⟨fd, F⟩ := T.D_is_cell
  exact ⟨_, fd, ["value"], [], [], run_is_cell T F, T.c_is_cell, F.kp, (F.bindsN fun _ _ _ _ _ _ us hl => match us, hl with | [_], _ => rfl), .nil, fun _ => .nil⟩
/-! is_inside -/
def g_is_inside : Sm := (qSeq (qIf (fAndB (fCmpB nisT (fIx (fVar 1) (fC (.int 0))) (fC .non)) (fOrB (fCmpB isT (fIx (fVar 0) (fC (.int 0))) (fC .non)) (fCmpB ltT (fIx (fVar 0) (fC (.int 0))) (fIx (fVar 1) (fC (.int 0)))))) (qSeq (qRet (fC (.bl false)))
    qNil) qNil)
    (qSeq (qRet (fOr (fCmp isT (fIx (fVar 1) (fC (.int 1))) (fC .non)) (fAnd (fCmp nisT (fIx (fVar 0) (fC (.int 1))) (fC .non)) (fCmp leT (fIx (fVar 0) (fC (.int 1))) (fIx (fVar 1) (fC (.int 1)))))))
    qNil))
def F_is_inside : List T → M T := fnS 0 g_is_inside
theorem sc_is_inside : FnScope ["part", "whole"] ["part", "whole"] (defScope s_is_inside) := ⟨rfl, rfl, rfl, by decide +kernel, rfl, by decide +kernel, by decide +kernel⟩
theorem run_is_inside (T : Tx base wd K mg) {f : Addr} {fd : FuncData} {dv : List V} {kw : List (Str × V)} (F : FunD K "is_inside" "is_inside" (defArgs s_is_inside) (defBody s_is_inside) (defScope s_is_inside) dv kw f fd) : FnOk PW wd K mg base (L2.CX PW wd) 1 f fd ["part", "whole"] (spF (GG K mg) 2 (fnS 0 g_is_inside)) :=
  fn_run (G := GG K mg) (k := 0) F sc_is_inside rfl rfl fun cdv A outer s H E hr => by
    have B := bd_of (P := PW) (wd := wd) (G := GG K mg) (base := base) (cdv := cdv) (outer := outer) (H := H) (E := E) sc_is_inside hr
    exact (ss_cons (ss_if (w_t (w_and (B.nisB (k_of (B.ix (k_of (vr 1)) s_int)) (k_of s_non)) (w_and1 (w_t (w_or (B.isB (k_of (B.ix (k_of (vr 0)) s_int)) (k_of s_non)) (w_or1 (B.ltB (k_of (B.ix (k_of (vr 0)) s_int)) (k_of (B.ix (k_of (vr 1)) s_int))))))))) (ss_cons (ss_ret s_bl)
    ss_nil) ss_nil)
    (ss_cons (ss_ret (s_or (B.is_ (k_of (B.ix (k_of (vr 1)) s_int)) (k_of s_non)) (s_one (s_and (B.nis (k_of (B.ix (k_of (vr 0)) s_int)) (k_of s_non)) (s_one (B.le (k_of (B.ix (k_of (vr 0)) s_int)) (k_of (B.ix (k_of (vr 1)) s_int))))))))
    ss_nil))
theorem d_is_inside (T : Tx base wd K mg) : DefOk PW wd base (GG K mg) 1 "is_inside" 2 [] F_is_inside := by
  obtain ⟨fd, F⟩ := T.D_is_inside
  exact ⟨_, fd, ["part", "whole"], [], [], run_is_inside T F, T.c_is_inside, F.kp, (F.bindsN fun _ _ _ _ _ _ us hl => match us, hl with | [_, _], _ => rfl), .nil, fun _ => .nil⟩
/-! stretches_of_rows -/
def g_stretches_of_rows : Sm := (qSeq (qFor (fIter (fVar 0)) (hName 2) (qSeq (qIf (fTru (fCall F_is_inside [] [(fVar 1), (fSl (fVar 2) none (some (fC (.int 2))))])) (qSeq (qRet (fIx (fVar 2) (fC (.int 2))))
    qNil) qNil)
    qNil))
    (qSeq (qRet (fTup []))
    qNil))
def F_stretches_of_rows : List T → M T := fnS 1 g_stretches_of_rows
theorem sc_stretches_of_rows : FnScope ["slabs", "rows", "slab"] ["slabs", "rows"] (defScope s_stretches_of_rows) := ⟨rfl, rfl, rfl, by decide +kernel, rfl, by decide +kernel, by decide +kernel⟩
theorem run_stretches_of_rows (T : Tx base wd K mg) {f : Addr} {fd : FuncData} {dv : List V} {kw : List (Str × V)} (F : FunD K "stretches_of_rows" "stretches_of_rows" (defArgs s_stretches_of_rows) (defBody s_stretches_of_rows) (defScope s_stretches_of_rows) dv kw f fd) : FnOk PW wd K mg base (L2.CX PW wd) 2 f fd ["slabs", "rows"] (spF (GG K mg) 2 (fnS 1 g_stretches_of_rows)) :=
  fn_run (G := GG K mg) (k := 1) F sc_stretches_of_rows rfl rfl fun cdv A outer s H E hr => by
    have B := bd_of (P := PW) (wd := wd) (G := GG K mg) (base := base) (cdv := cdv) (outer := outer) (H := H) (E := E) sc_stretches_of_rows hr
    exact (ss_cons (ss_for po_of B.calm (i_seq B.eK (vr 0)) (B.nm 2) (ss_cons (ss_if (B.tru (B.call (d_is_inside T) (a_cons (vr 1) (a_cons (B.sl (k_of (vr 2)) o_none (o_some s_int)) a_nil)))) (ss_cons (ss_ret (B.ix (k_of (vr 2)) s_int))
    ss_nil) ss_nil)
    ss_nil))
    (ss_cons (ss_ret (s_tup a_nil))
    ss_nil))
theorem d_stretches_of_rows (T : Tx base wd K mg) : DefOk PW wd base (GG K mg) 2 "stretches_of_rows" 2 [] F_stretches_of_rows := by
  obtain ⟨fd, F⟩ := T.D_stretches_of_rows
  exact ⟨_, fd, ["slabs", "rows"], [], [], run_stretches_of_rows T F, T.c_stretches_of_rows, F.kp, (F.bindsN fun _ _ _ _ _ _ us hl => match us, hl with | [_, _], _ => rfl), .nil, fun _ => .nil⟩
/-! Region_contains -/
def g_Region_contains : Sm := (qSeq (qIf (fNotB (fTru (fCall F_is_cell [] [(fVar 1)]))) (qSeq (qRet (fC (.bl false)))
    qNil) qNil)
    (qSeq (qSet 2 (fCall F_stretches_of_rows [] [(fFld m_own_slabs (fVar 0)), (fTup [(fIx (fVar 1) (fC (.int 1))), (fBin addT (fIx (fVar 1) (fC (.int 1))) (fC (.int 1)))])]))
    (qSeq (qRet (fB1 anyT (fOwn (fComp [3] (hName 3) fYes (fCall F_is_inside [] [(fTup [(fIx (fVar 1) (fC (.int 0))), (fBin addT (fIx (fVar 1) (fC (.int 0))) (fC (.int 1)))]), (fVar 3)]) (fIter (fVar 2))))))
    qNil)))
def F_Region_contains : List T → M T := fnS 2 g_Region_contains
theorem sc_Region_contains : FnScope ["self", "cell", "row", "pair"] ["self", "cell"] (defScope s_Region_contains) := ⟨rfl, rfl, rfl, by decide +kernel, rfl, by decide +kernel, by decide +kernel⟩
theorem run_Region_contains (T : Tx base wd K mg) {f : Addr} {fd : FuncData} {dv : List V} {kw : List (Str × V)} (F : FunD K "__contains__" "Region.__contains__" (defArgs s_Region_contains) (defBody s_Region_contains) (defScope s_Region_contains) dv kw f fd) : FnOk PW wd K mg base (L2.CX PW wd) 3 f fd ["self", "cell"] (spF (GG K mg) 2 (fnS 2 g_Region_contains)) :=
  fn_run (G := GG K mg) (k := 2) F sc_Region_contains rfl rfl fun cdv A outer s H E hr => by
    have B := bd_of (P := PW) (wd := wd) (G := GG K mg) (base := base) (cdv := cdv) (outer := outer) (H := H) (E := E) sc_Region_contains hr
    exact (ss_cons (ss_if (w_not (B.tru (B.call (d_is_cell T) (a_cons (vr 1) a_nil)))) (ss_cons (ss_ret s_bl)
    ss_nil) ss_nil)
    (ss_cons (B.set 2 (B.call (d_stretches_of_rows T) (a_cons (B.fld m_own_slabs T.f_own_slabs (vr 0)) (a_cons (s_tup (a_cons (B.ix (k_of (vr 1)) s_int) (a_cons (B.add (B.ix (k_of (vr 1)) s_int) s_int) a_nil))) a_nil))))
    (ss_cons (ss_ret (B.any T.m_any (k_of (s_own (B.comp [("pair", 3)] (i_seq B.eK (vr 2)) (fun _ _ _ _ _ => ((B.blk _ _ _ _ _).nm 3)) (fun _ _ _ _ _ => ts_nil) (fun _ _ _ _ _ => ((B.blk _ _ _ _ _).call (d_is_inside T) (a_cons (s_tup (a_cons ((B.blk _ _ _ _ _).ix (k_of (vr 1)) s_int) (a_cons ((B.blk _ _ _ _ _).add ((B.blk _ _ _ _ _).ix (k_of (vr 1)) s_int) s_int) a_nil))) (a_cons (vr 3) a_nil)))))))))
    ss_nil)))
theorem d_Region_contains (T : Tx base wd K mg) : MethOk PW wd base (GG K mg) 3 6 "__contains__" 2 [] F_Region_contains := by
  obtain ⟨fd, F⟩ := T.D_Region_contains
  exact ⟨⟨_, _, fd, ["self", "cell"], [], [], T.c_Region, T.k_Region, T.h_Region_contains, run_Region_contains T F, (F.bindsN fun _ _ _ _ _ _ us hl => match us, hl with | [_, _], _ => rfl), .nil, fun _ => .nil⟩, show ("__contains__" : Str) ∉ fl 6 by decide⟩
/-! _law_cells_right -/
def g__law_cells_right : Sm := (qSeq (qFor (fIter (fBin addT (fCall F__law_square [] []) (fLst [(fBin powT (fC (.int 10)) (fC (.int 40))), (fBin subT (fC (.int 0)) (fBin powT (fC (.int 10)) (fC (.int 40))))]))) (hName 2) (qSeq (qFor (fIter (fCall F__law_square [] [])) (hName 3) (qSeq (qIf (fCmpB neT (fun env => (fTup [(fVar 3), (fVar 2)]) env >>= fun x => (fVar 1) env >>= fun y => own2c 6 F_Region_contains x y) (fCall F__law_has [] [(fVar 0), (fVar 3), (fVar 2)])) (qSeq (qRet (fC (.bl false)))
    qNil) qNil)
    (qSeq (qIf (fCmpB neT (fun env => (fTup [(fBin powT (fC (.int 10)) (fC (.int 40))), (fVar 3)]) env >>= fun x => (fVar 1) env >>= fun y => own2c 6 F_Region_contains x y) (fCall F__law_has [] [(fVar 0), (fBin powT (fC (.int 10)) (fC (.int 40))), (fVar 3)])) (qSeq (qRet (fC (.bl false)))
    qNil) qNil)
    qNil)))
    qNil))
    (qSeq (qRet (fCmp eqT (fOwn (fComp [4] (hName 4) (fToB (fun env => (fVar 4) env >>= fun x => (fVar 1) env >>= fun y => own2c 6 F_Region_contains x y)) (fVar 4) (fIter (fLst [(fC .non), (fC (.int 5)), (fTup [(fC (.int 0))]), (fTup [(fC (.int 0)), (fC (.int 0)), (fC (.int 0))]), (fLst [(fC (.int 0)), (fC (.int 0))]), (fTup [(fC (.int 0)), (fC (.bl true))]), (fTup [(fC (.str "0")), (fC (.int 0))]), (fTup [(fC (.int 0)), (fC .non)])])))) (fLst [])))
    qNil))
def F__law_cells_right : List T → M T := fnS 3 g__law_cells_right
theorem sc__law_cells_right : FnScope ["_law_boxes_here", "_law_made", "_law_y", "_law_x", "_law_odd"] ["_law_boxes_here", "_law_made"] (defScope s__law_cells_right) := ⟨rfl, rfl, rfl, by decide +kernel, rfl, by decide +kernel, by decide +kernel⟩
theorem run__law_cells_right (T : Tx base wd K mg) {f : Addr} {fd : FuncData} {dv : List V} {kw : List (Str × V)} (F : FunD K "_law_cells_right" "_law_cells_right" (defArgs s__law_cells_right) (defBody s__law_cells_right) (defScope s__law_cells_right) dv kw f fd) : FnOk PW wd K mg base (L2.CX PW wd) 4 f fd ["_law_boxes_here", "_law_made"] (spF (GG K mg) 2 (fnS 3 g__law_cells_right)) :=
  fn_run (G := GG K mg) (k := 3) F sc__law_cells_right rfl rfl fun cdv A outer s H E hr => by
    have B := bd_of (P := PW) (wd := wd) (G := GG K mg) (base := base) (cdv := cdv) (outer := outer) (H := H) (E := E) sc__law_cells_right hr
    exact (ss_cons (ss_for po_of B.calm (i_seq B.eK (B.add (B.call0 (d__law_square T)) (s_lst (a_cons (B.pow s_int s_int) (a_cons (B.sub s_int (B.pow s_int s_int)) a_nil))))) (B.nm 2) (ss_cons (ss_for po_of B.calm (i_seq B.eK (B.call0 (d__law_square T))) (B.nm 3) (ss_cons (ss_if (B.neB (k_of (s_ownIn (d_Region_contains T) B.eK B.eM B.rm (by decide) (s_tup (a_cons (vr 3) (a_cons (vr 2) a_nil))) (vr 1) rfl)) (k_of (B.call (d__law_has T) (a_cons (vr 0) (a_cons (vr 3) (a_cons (vr 2) a_nil)))))) (ss_cons (ss_ret s_bl)
    ss_nil) ss_nil)
    (ss_cons (ss_if (B.neB (k_of (s_ownIn (d_Region_contains T) B.eK B.eM B.rm (by decide) (s_tup (a_cons (B.pow s_int s_int) (a_cons (vr 3) a_nil))) (vr 1) rfl)) (k_of (B.call (d__law_has T) (a_cons (vr 0) (a_cons (B.pow s_int s_int) (a_cons (vr 3) a_nil)))))) (ss_cons (ss_ret s_bl)
    ss_nil) ss_nil)
    ss_nil)))
    ss_nil))
    (ss_cons (ss_ret (B.eq (k_of (s_own (B.comp [("_law_odd", 4)] (i_seq B.eK (s_lst (a_cons s_non (a_cons s_int (a_cons (s_tup (a_cons s_int a_nil)) (a_cons (s_tup (a_cons s_int (a_cons s_int (a_cons s_int a_nil)))) (a_cons (s_lst (a_cons s_int (a_cons s_int a_nil))) (a_cons (s_tup (a_cons s_int (a_cons s_bl a_nil))) (a_cons (s_tup (a_cons s_str (a_cons s_int a_nil))) (a_cons (s_tup (a_cons s_int (a_cons s_non a_nil))) a_nil)))))))))) (fun _ _ _ _ _ => ((B.blk _ _ _ _ _).nm 4)) (fun _ _ _ _ _ => (ts_one (b_ownIn (d_Region_contains T) (B.blk _ _ _ _ _).eK (B.blk _ _ _ _ _).eM (B.blk _ _ _ _ _).rm (by decide) (vr 4) (vr 1) rfl))) (fun _ _ _ _ _ => (vr 4))))) (k_of (s_lst a_nil))))
    ss_nil))
theorem d__law_cells_right (T : Tx base wd K mg) : DefOk PW wd base (GG K mg) 4 "_law_cells_right" 2 [] F__law_cells_right := by
  obtain ⟨fd, F⟩ := T.D__law_cells_right
  exact ⟨_, fd, ["_law_boxes_here", "_law_made"], [], [], run__law_cells_right T F, T.c__law_cells_right, F.kp, (F.bindsN fun _ _ _ _ _ _ us hl => match us, hl with | [_, _], _ => rfl), .nil, fun _ => .nil⟩
/-! _law_pool -/
def g__law_pool : Sm := (qSeq (qSet 2 (fC (.int 0)))
    (qSeq (qIf (fCmpB ltT (fVar 1) (fB1 lenT (fVar 0))) (qSeq (qSet 2 (fIx (fVar 0) (fVar 1)))
    qNil) qNil)
    (qSeq (qSet 3 (fBin max2T (fB1 intT (fVar 2)) (fB1 intT (fBin subT (fUn negT (fC (.int 1))) (fVar 2)))))
    (qSeq (qSet 4 (fBin modT (fB1 intT (fBin mulT (fBin addT (fBin addT (fBin addT (fBin modT (fB1 intT (fVar 3)) (fC (.int 2147483629))) (fBin mulT (fBin mulT (fC (.int 7919)) (fVar 1)) (fVar 1))) (fBin mulT (fC (.int 31)) (fVar 1))) (fC (.int 17))) (fC (.int 48271)))) (fC (.int 2147483647))))
    (qSeq (qRet (fRef (fAll [(fBin mulT (fVar 3) (fB1 intT (fCmp geT (fVar 3) (fBin powT (fC (.int 10)) (fC (.int 18)))))), (fVar 4)])))
    qNil)))))
def F__law_pool : List T → M T := fnS 3 g__law_pool
theorem sc__law_pool : FnScope ["_law_script", "_law_k", "_law_cell", "_law_big", "_law_mixed"] ["_law_script", "_law_k"] (defScope s__law_pool) := ⟨rfl, rfl, rfl, by decide +kernel, rfl, by decide +kernel, by decide +kernel⟩
theorem run__law_pool (T : Tx base wd K mg) {f : Addr} {fd : FuncData} {dv : List V} {kw : List (Str × V)} (F : FunD K "_law_pool" "_law_pool" (defArgs s__law_pool) (defBody s__law_pool) (defScope s__law_pool) dv kw f fd) : FnOk PW wd K mg base (L2.CX PW wd) 1 f fd ["_law_script", "_law_k"] (spF (GG K mg) 2 (fnS 3 g__law_pool)) :=
  fn_run (G := GG K mg) (k := 0) F sc__law_pool rfl rfl fun cdv A outer s H E hr => by
    have B := bd_of (P := PW) (wd := wd) (G := GG K mg) (base := base) (cdv := cdv) (outer := outer) (H := H) (E := E) sc__law_pool hr
    exact (ss_cons (B.set 2 s_int)
    (ss_cons (ss_if (B.ltB (k_of (vr 1)) (k_of (B.len T.m_len (k_of (vr 0))))) (ss_cons (B.set 2 (B.ix (k_of (vr 0)) (vr 1)))
    ss_nil) ss_nil)
    (ss_cons (B.set 3 (B.max2 T.m_max (B.int T.m_int (k_of (vr 2))) (B.int T.m_int (k_of (B.sub (B.neg s_int) (vr 2))))))
    (ss_cons (B.set 4 (B.mod (B.int T.m_int (k_of (B.mul (B.add (B.add (B.add (B.mod (B.int T.m_int (k_of (vr 3))) s_int) (B.mul (B.mul s_int (vr 1)) (vr 1))) (B.mul s_int (vr 1))) s_int) s_int))) s_int))
    (ss_cons (ss_ret (s_ref (l_lst (a_cons (B.mul (vr 3) (B.int T.m_int (k_of (B.ge (k_of (vr 3)) (k_of (B.pow s_int s_int)))))) (a_cons (vr 4) a_nil)))))
    ss_nil)))))
theorem d__law_pool (T : Tx base wd K mg) : DefOk PW wd base (GG K mg) 1 "_law_pool" 2 [] F__law_pool := by
  obtain ⟨fd, F⟩ := T.D__law_pool
  exact ⟨_, fd, ["_law_script", "_law_k"], [], [], run__law_pool T F, T.c__law_pool, F.kp, (F.bindsN fun _ _ _ _ _ _ us hl => match us, hl with | [_, _], _ => rfl), .nil, fun _ => .nil⟩
/-! _law_one -/
def g__law_one : Sm := (qSeq (qRet (fIx (fVar 1) (fCall F__law_take [] [(fVar 0), (fB1 lenT (fVar 1))])))
    qNil)
def F__law_one : List T → M T := fnS 0 g__law_one
theorem sc__law_one : FnScope ["_law_source", "_law_things"] ["_law_source", "_law_things"] (defScope s__law_one) := ⟨rfl, rfl, rfl, by decide +kernel, rfl, by decide +kernel, by decide +kernel⟩
theorem run__law_one (T : Tx base wd K mg) {f : Addr} {fd : FuncData} {dv : List V} {kw : List (Str × V)} (F : FunD K "_law_one" "_law_one" (defArgs s__law_one) (defBody s__law_one) (defScope s__law_one) dv kw f fd) : FnOk PW wd K mg base (L2.CX PW wd) 2 f fd ["_law_source", "_law_things"] (spF (GG K mg) 2 (fnS 0 g__law_one)) :=
  fn_run (G := GG K mg) (k := 1) F sc__law_one rfl rfl fun cdv A outer s H E hr => by
    have B := bd_of (P := PW) (wd := wd) (G := GG K mg) (base := base) (cdv := cdv) (outer := outer) (H := H) (E := E) sc__law_one hr
    exact (ss_cons (ss_ret (B.ix (k_of (vr 1)) (B.call (d__law_take T) (a_cons (vr 0) (a_cons (B.len T.m_len (k_of (vr 1))) a_nil)))))
    ss_nil)
theorem d__law_one (T : Tx base wd K mg) : DefOk PW wd base (GG K mg) 2 "_law_one" 2 [] F__law_one := by
  obtain ⟨fd, F⟩ := T.D__law_one
  exact ⟨_, fd, ["_law_source", "_law_things"], [], [], run__law_one T F, T.c__law_one, F.kp, (F.bindsN fun _ _ _ _ _ _ us hl => match us, hl with | [_, _], _ => rfl), .nil, fun _ => .nil⟩
/-! Region_eq -/
def g_Region_eq : Sm := (qSeq (qRet (fAnd (fBin (isiT tab) (fVar 1) (fC (.cl 6))) (fCmp eqT (fFld m_own_slabs (fVar 0)) (fFld m_own_slabs (fVar 1)))))
    qNil)
def F_Region_eq : List T → M T := fnS 0 g_Region_eq
theorem sc_Region_eq : FnScope ["self", "other"] ["self", "other"] (defScope s_Region_eq) := ⟨rfl, rfl, rfl, by decide +kernel, rfl, by decide +kernel, by decide +kernel⟩
theorem run_Region_eq (T : Tx base wd K mg) {f : Addr} {fd : FuncData} {dv : List V} {kw : List (Str × V)} (F : FunD K "__eq__" "Region.__eq__" (defArgs s_Region_eq) (defBody s_Region_eq) (defScope s_Region_eq) dv kw f fd) : FnOk PW wd K mg base (L2.CX PW wd) 1 f fd ["self", "other"] (spF (GG K mg) 2 (fnS 0 g_Region_eq)) :=
  fn_run (G := GG K mg) (k := 0) F sc_Region_eq rfl rfl fun cdv A outer s H E hr => by
    have B := bd_of (P := PW) (wd := wd) (G := GG K mg) (base := base) (cdv := cdv) (outer := outer) (H := H) (E := E) sc_Region_eq hr
    exact (ss_cons (ss_ret (s_and (B.isi T.tab T.m_isinstance (vr 1) (B.cls 6 T.c_Region)) (s_one (B.eq (k_of (B.fld m_own_slabs T.f_own_slabs (vr 0))) (k_of (B.fld m_own_slabs T.f_own_slabs (vr 1)))))))
    ss_nil)
theorem d_Region_eq (T : Tx base wd K mg) : MethOk PW wd base (GG K mg) 1 6 "__eq__" 2 [] F_Region_eq := by
  obtain ⟨fd, F⟩ := T.D_Region_eq
  exact ⟨⟨_, _, fd, ["self", "other"], [], [], T.c_Region, T.k_Region, T.h_Region_eq, run_Region_eq T F, (F.bindsN fun _ _ _ _ _ _ us hl => match us, hl with | [_, _], _ => rfl), .nil, fun _ => .nil⟩, show ("__eq__" : Str) ∉ fl 6 by decide⟩
/-! is_side -/
def g_is_side : Sm := (qSeq (qIf (fOrB (fAndB (fCmpB nisT (fVar 0) (fC .non)) (fNotB (fTru (fCall F_is_integer [] [(fVar 0)])))) (fAndB (fCmpB nisT (fVar 1) (fC .non)) (fNotB (fTru (fCall F_is_integer [] [(fVar 1)]))))) (qSeq (qRet (fC (.bl false)))
    qNil) qNil)
    (qSeq (qRet (fOr (fCmp isT (fVar 0) (fC .non)) (fOr (fCmp isT (fVar 1) (fC .non)) (fCmp ltT (fVar 0) (fVar 1)))))
    qNil))
def F_is_side : List T → M T := fnS 0 g_is_side
theorem sc_is_side : FnScope ["low", "high"] ["low", "high"] (defScope s_is_side) := ⟨rfl, rfl, rfl, by decide +kernel, rfl, by decide +kernel, by decide +kernel⟩
theorem run_is_side (T : Tx base wd K mg) {f : Addr} {fd : FuncData} {dv : List V} {kw : List (Str × V)} (F : FunD K "is_side" "is_side" (defArgs s_is_side) (defBody s_is_side) (defScope s_is_side) dv kw f fd) : FnOk PW wd K mg base (L2.CX PW wd) 2 f fd ["low", "high"] (spF (GG K mg) 2 (fnS 0 g_is_side)) :=
  fn_run (G := GG K mg) (k := 1) F sc_is_side rfl rfl fun cdv A outer s H E hr => by
    have B := bd_of (P := PW) (wd := wd) (G := GG K mg) (base := base) (cdv := cdv) (outer := outer) (H := H) (E := E) sc_is_side hr
    exact (ss_cons (ss_if (w_t (w_or (w_t (w_and (B.nisB (k_of (vr 0)) (k_of s_non)) (w_and1 (w_not (B.tru (B.call (d_is_integer T) (a_cons (vr 0) a_nil))))))) (w_or1 (w_t (w_and (B.nisB (k_of (vr 1)) (k_of s_non)) (w_and1 (w_not (B.tru (B.call (d_is_integer T) (a_cons (vr 1) a_nil)))))))))) (ss_cons (ss_ret s_bl)
    ss_nil) ss_nil)
    (ss_cons (ss_ret (s_or (B.is_ (k_of (vr 0)) (k_of s_non)) (s_or (B.is_ (k_of (vr 1)) (k_of s_non)) (s_one (B.lt (k_of (vr 0)) (k_of (vr 1)))))))
    ss_nil))
theorem d_is_side (T : Tx base wd K mg) : DefOk PW wd base (GG K mg) 2 "is_side" 2 [] F_is_side := by
  obtain ⟨fd, F⟩ := T.D_is_side
  exact ⟨_, fd, ["low", "high"], [], [], run_is_side T F, T.c_is_side, F.kp, (F.bindsN fun _ _ _ _ _ _ us hl => match us, hl with | [_, _], _ => rfl), .nil, fun _ => .nil⟩
/-! is_box -/
def g_is_box : Sm := (qSeq (qIf (fOrB (fNotB (fTru (fBin (isiT tab) (fVar 0) (fC (.ty "tuple"))))) (fCmpB neT (fB1 lenT (fVar 0)) (fC (.int 4)))) (qSeq (qRet (fC (.bl false)))
    qNil) qNil)
    (qSeq (qRet (fAnd (fCall F_is_side [] [(fIx (fVar 0) (fC (.int 0))), (fIx (fVar 0) (fC (.int 1)))]) (fCall F_is_side [] [(fIx (fVar 0) (fC (.int 2))), (fIx (fVar 0) (fC (.int 3)))])))
    qNil))
def F_is_box : List T → M T := fnS 0 g_is_box
theorem sc_is_box : FnScope ["value"] ["value"] (defScope s_is_box) := ⟨rfl, rfl, rfl, by decide +kernel, rfl, by decide +kernel, by decide +kernel⟩
theorem run_is_box (T : Tx base wd K mg) {f : Addr} {fd : FuncData} {dv : List V} {kw : List (Str × V)} (F : FunD K "is_box" "is_box" (defArgs s_is_box) (defBody s_is_box) (defScope s_is_box) dv kw f fd) : FnOk PW wd K mg base (L2.CX PW wd) 3 f fd ["value"] (spF (GG K mg) 1 (fnS 0 g_is_box)) :=
  fn_run (G := GG K mg) (k := 2) F sc_is_box rfl rfl fun cdv A outer s H E hr => by
    have B := bd_of (P := PW) (wd := wd) (G := GG K mg) (base := base) (cdv := cdv) (outer := outer) (H := H) (E := E) sc_is_box hr
    exact (ss_cons (ss_if (w_t (w_or (w_not (B.tru (B.isi T.tab T.m_isinstance (vr 0) (B.ty "tuple" T.m_tuple)))) (w_or1 (B.neB (k_of (B.len T.m_len (k_of (vr 0)))) (k_of s_int))))) (ss_cons (ss_ret s_bl)
    ss_nil) ss_nil)
    (ss_cons (ss_ret (s_and (B.call (d_is_side T) (a_cons (B.ix (k_of (vr 0)) s_int) (a_cons (B.ix (k_of (vr 0)) s_int) a_nil))) (s_one (B.call (d_is_side T) (a_cons (B.ix (k_of (vr 0)) s_int) (a_cons (B.ix (k_of (vr 0)) s_int) a_nil))))))
    ss_nil))
theorem d_is_box (T : Tx base wd K mg) : DefOk PW wd base (GG K mg) 3 "is_box" 1 [] F_is_box := by
  obtain ⟨fd, F⟩ := T.D_is_box
  exact ⟨_, fd, ["value"], [], [], run_is_box T F, T.c_is_box, F.kp, (F.bindsN fun _ _ _ _ _ _ us hl => match us, hl with | [_], _ => rfl), .nil, fun _ => .nil⟩
/-! is_list -/
def g_is_list : Sm := (qSeq (qRet (fBin (isiT tab) (fVar 0) (fTup [(fC (.ty "list")), (fC (.ty "tuple"))])))
    qNil)
def F_is_list : List T → M T := fnS 0 g_is_list
theorem sc_is_list : FnScope ["value"] ["value"] (defScope s_is_list) := ⟨rfl, rfl, rfl, by decide +kernel, rfl, by decide +kernel, by decide +kernel⟩
theorem run_is_list (T : Tx base wd K mg) {f : Addr} {fd : FuncData} {dv : List V} {kw : List (Str × V)} (F : FunD K "is_list" "is_list" (defArgs s_is_list) (defBody s_is_list) (defScope s_is_list) dv kw f fd) : FnOk PW wd K mg base (L2.CX PW wd) 1 f fd ["value"] (spF (GG K mg) 1 (fnS 0 g_is_list)) :=
  fn_run (G := GG K mg) (k := 0) F sc_is_list rfl rfl fun cdv A outer s H E hr => by
    have B := bd_of (P := PW) (wd := wd) (G := GG K mg) (base := base) (cdv := cdv) (outer := outer) (H := H) (E := E) sc_is_list hr
    exact (ss_cons (ss_ret (B.isi T.tab T.m_isinstance (vr 0) (s_tup (a_cons (B.ty "list" T.m_list) (a_cons (B.ty "tuple" T.m_tuple) a_nil)))))
    ss_nil)
theorem d_is_list (T : Tx base wd K mg) : DefOk PW wd base (GG K mg) 1 "is_list" 1 [] F_is_list := by
  obtain ⟨fd, F⟩ := T.D_is_list
  exact ⟨_, fd, ["value"], [], [], run_is_list T F, T.c_is_list, F.kp, (F.bindsN fun _ _ _ _ _ _ us hl => match us, hl with | [_], _ => rfl), .nil, fun _ => .nil⟩
/-! ends_of -/
def g_ends_of : Sm := (qSeq (qRet (fOwn (fComp2 [1, 2] [2] (hName 1) fYes (fIter (fVar 1)) (hName 2) (fCmpB nisT (fVar 2) (fC .non)) (fVar 2) (fIter (fVar 0)))))
    qNil)
def F_ends_of : List T → M T := fnS 2 g_ends_of
theorem sc_ends_of : FnScope ["pairs", "pair", "end"] ["pairs"] (defScope s_ends_of) := ⟨rfl, rfl, rfl, by decide +kernel, rfl, by decide +kernel, by decide +kernel⟩
theorem run_ends_of (T : Tx base wd K mg) {f : Addr} {fd : FuncData} {dv : List V} {kw : List (Str × V)} (F : FunD K "ends_of" "ends_of" (defArgs s_ends_of) (defBody s_ends_of) (defScope s_ends_of) dv kw f fd) : FnOk PW wd K mg base (L2.CX PW wd) 1 f fd ["pairs"] (spF (GG K mg) 1 (fnS 2 g_ends_of)) :=
  fn_run (G := GG K mg) (k := 0) F sc_ends_of rfl rfl fun cdv A outer s H E hr => by
    have B := bd_of (P := PW) (wd := wd) (G := GG K mg) (base := base) (cdv := cdv) (outer := outer) (H := H) (E := E) sc_ends_of hr
    exact (ss_cons (ss_ret (s_own (B.comp2 [("pair", 1), ("end", 2)] [("end", 2)] (i_seq B.eK (vr 0)) (fun _ _ _ _ _ => ((B.blk _ _ _ _ _).nm 1)) (fun _ _ _ _ _ => ts_nil) (fun _ _ _ _ _ => (i_seq (B.blk _ _ _ _ _).eK (vr 1))) (fun _ _ _ _ _ => ((B.blk _ _ _ _ _).nm 2)) (fun _ _ _ _ _ => (ts_one ((B.blk _ _ _ _ _).nisB (k_of (vr 2)) (k_of s_non)))) (fun _ _ _ _ _ => (vr 2)))))
    ss_nil)
theorem d_ends_of (T : Tx base wd K mg) : DefOk PW wd base (GG K mg) 1 "ends_of" 1 [] F_ends_of := by
  obtain ⟨fd, F⟩ := T.D_ends_of
  exact ⟨_, fd, ["pairs"], [], [], run_ends_of T F, T.c_ends_of, F.kp, (F.bindsN fun _ _ _ _ _ _ us hl => match us, hl with | [_], _ => rfl), .nil, fun _ => .nil⟩
/-! joined_slabs -/
def g_joined_slabs : Sm := (qSeq (qOwn 1 (fAll []))
    (qSeq (qFor (fIter (fVar 0)) (hTupL 3 (hCons (hName 2) (hCons (hName 3) (hCons (hName 4) hNil)))) (qSeq (qIf (fCmpB neT (fVar 4) (fTup [])) (qSeq (qIf (fAndB (fCmpB neT (fBor 1) (fLst [])) (fAndB (fCmpB eqT (fIx (fIx (fBor 1) (fUn negT (fC (.int 1)))) (fC (.int 1))) (fVar 2)) (fCmpB eqT (fIx (fIx (fBor 1) (fUn negT (fC (.int 1)))) (fC (.int 2))) (fVar 4)))) (qSeq (qSetIx 1 (fTup [(fIx (fIx (fBor 1) (fUn negT (fC (.int 1)))) (fC (.int 0))), (fVar 3), (fVar 4)]) (fUn negT (fC (.int 1))))
    qNil) (qSeq (qApp 1 (fTup [(fVar 2), (fVar 3), (fVar 4)]))
    qNil))
    qNil) qNil)
    qNil))
    (qSeq (qFrz [1] (qRet (fB1 tupT (fBor 1))))
    qNil)))
def F_joined_slabs : List T → M T := fnS 4 g_joined_slabs
theorem sc_joined_slabs : FnScope ["rows", "found", "low", "high", "xs"] ["rows"] (defScope s_joined_slabs) := ⟨rfl, rfl, rfl, by decide +kernel, rfl, by decide +kernel, by decide +kernel⟩
theorem run_joined_slabs (T : Tx base wd K mg) {f : Addr} {fd : FuncData} {dv : List V} {kw : List (Str × V)} (F : FunD K "joined_slabs" "joined_slabs" (defArgs s_joined_slabs) (defBody s_joined_slabs) (defScope s_joined_slabs) dv kw f fd) : FnOk PW wd K mg base (L2.CX PW wd) 1 f fd ["rows"] (spF (GG K mg) 1 (fnS 4 g_joined_slabs)) :=
  fn_run (G := GG K mg) (k := 0) F sc_joined_slabs rfl rfl fun cdv A outer s H E hr => by
    have B := bd_of (P := PW) (wd := wd) (G := GG K mg) (base := base) (cdv := cdv) (outer := outer) (H := H) (E := E) sc_joined_slabs hr
    exact (ss_cons (B.own 1 (l_lst a_nil))
    (ss_cons (ss_for po_of B.calm (i_seq B.eK (vr 0)) (B.tl 3 (gs_cons (B.nm 2) (gs_cons (B.nm 3) (gs_cons (B.nm 4) gs_nil)))) (ss_cons (ss_if (B.neB (k_of (vr 4)) (k_of (s_tup a_nil))) (ss_cons (ss_if (w_t (w_and (B.neB (kv 1) (k_of (s_lst a_nil))) (w_and (B.eqB (k_of (B.ix (k_of (B.ix (kv 1) (B.neg s_int))) s_int)) (k_of (vr 2))) (w_and1 (B.eqB (k_of (B.ix (k_of (B.ix (kv 1) (B.neg s_int))) s_int)) (k_of (vr 4))))))) (ss_cons (B.put 1 (s_tup (a_cons (B.ix (k_of (B.ix (kv 1) (B.neg s_int))) s_int) (a_cons (vr 3) (a_cons (vr 4) a_nil)))) (B.neg s_int))
    ss_nil) (ss_cons (ss_app B.eK 1 rfl (by first | exact Or.inl rfl | exact Or.inr (Or.inl rfl) | exact Or.inr (Or.inr rfl)) (s_tup (a_cons (vr 2) (a_cons (vr 3) (a_cons (vr 4) a_nil)))))
    ss_nil))
    ss_nil) ss_nil)
    ss_nil))
    (ss_cons (ss_frzq [1] (ss_ret (B.tuple T.m_tuple (kv 1))))
    ss_nil)))
theorem d_joined_slabs (T : Tx base wd K mg) : DefOk PW wd base (GG K mg) 1 "joined_slabs" 1 [] F_joined_slabs := by
  obtain ⟨fd, F⟩ := T.D_joined_slabs
  exact ⟨_, fd, ["rows"], [], [], run_joined_slabs T F, T.c_joined_slabs, F.kp, (F.bindsN fun _ _ _ _ _ _ us hl => match us, hl with | [_], _ => rfl), .nil, fun _ => .nil⟩
/-! rows_between -/
def g_rows_between : Sm := (qSeq (qSet 1 (fB1 sortT (fOwn (fComp [2] (hName 2) fYes (fB1 intT (fVar 2)) (fKeys (fCompD [3] (hName 3) fYes (fB1 intT (fVar 3)) (fC (.bl true)) (fIter (fVar 0))))))))
    (qSeq (qRet (fZipL (fLstX (fCons (fC .non) (fStar (fVar 1) (fAll [])))) (fLstX (fStar (fVar 1) (fCons (fC .non) (fAll []))))))
    qNil))
def F_rows_between : List T → M T := fnS 3 g_rows_between
theorem sc_rows_between : FnScope ["cuts", "ends", "one", "cut"] ["cuts"] (defScope s_rows_between) := ⟨rfl, rfl, rfl, by decide +kernel, rfl, by decide +kernel, by decide +kernel⟩
theorem run_rows_between (T : Tx base wd K mg) {f : Addr} {fd : FuncData} {dv : List V} {kw : List (Str × V)} (F : FunD K "rows_between" "rows_between" (defArgs s_rows_between) (defBody s_rows_between) (defScope s_rows_between) dv kw f fd) : FnOk PW wd K mg base (L2.CX PW wd) 1 f fd ["cuts"] (spF (GG K mg) 1 (fnS 3 g_rows_between)) :=
  fn_run (G := GG K mg) (k := 0) F sc_rows_between rfl rfl fun cdv A outer s H E hr => by
    have B := bd_of (P := PW) (wd := wd) (G := GG K mg) (base := base) (cdv := cdv) (outer := outer) (H := H) (E := E) sc_rows_between hr
    exact (ss_cons (B.set 1 (B.sorted T.m_sorted (k_of (s_own (B.comp [("one", 2)] (i_keysF (B.dcomp [("cut", 3)] (i_seq B.eK (vr 0)) (fun _ _ _ _ _ => ((B.blk _ _ _ _ _).nm 3)) (fun _ _ _ _ _ => ts_nil) (fun _ _ _ _ _ => ((B.blk _ _ _ _ _).int T.m_int (k_of (vr 3)))) (fun _ _ _ _ _ => s_bl))) (fun _ _ _ _ _ => ((B.blk _ _ _ _ _).nm 2)) (fun _ _ _ _ _ => ts_nil) (fun _ _ _ _ _ => ((B.blk _ _ _ _ _).int T.m_int (k_of (vr 2)))))))))
    (ss_cons (ss_ret (B.zipl T.m_list T.m_zip (s_lstX (ax_cons s_non (ax_star B.eK (k_of (vr 1)) (ax_of a_nil)))) (s_lstX (ax_star B.eK (k_of (vr 1)) (ax_cons s_non (ax_of a_nil))))))
    ss_nil))
theorem d_rows_between (T : Tx base wd K mg) : DefOk PW wd base (GG K mg) 1 "rows_between" 1 [] F_rows_between := by
  obtain ⟨fd, F⟩ := T.D_rows_between
  exact ⟨_, fd, ["cuts"], [], [], run_rows_between T F, T.c_rows_between, F.kp, (F.bindsN fun _ _ _ _ _ _ us hl => match us, hl with | [_], _ => rfl), .nil, fun _ => .nil⟩
/-! by_lows -/
def g_by_lows : Sm := (qSeq (qSet 1 (fOwn (fComp [5] (hName 5) (fCmpB nisT (fIx (fVar 5) (fC (.int 0))) (fC .non)) (fIx (fVar 5) (fC (.int 0))) (fIter (fVar 0)))))
    (qSeq (qSet 2 (fB1 lenT (fVar 1)))
    (qSeq (qSet 3 (fB1 sortT (fOwn (fComp [6, 7] (hTupL 2 (hCons (hName 6) (hCons (hName 7) hNil))) fYes (fB1 intT (fBin addT (fBin mulT (fVar 7) (fVar 2)) (fVar 6))) (fEnumA (fVar 1))))))
    (qSeq (qSet 4 (fOwn (fComp [5] (hName 5) (fCmpB nisT (fIx (fVar 5) (fC (.int 0))) (fC .non)) (fVar 5) (fIter (fVar 0)))))
    (qSeq (qRet (fBin addT (fOwn (fComp [5] (hName 5) (fCmpB isT (fIx (fVar 5) (fC (.int 0))) (fC .non)) (fVar 5) (fIter (fVar 0)))) (fOwn (fComp [8] (hName 8) fYes (fIx (fVar 4) (fBin modT (fB1 intT (fVar 8)) (fVar 2))) (fIter (fVar 3))))))
    qNil)))))
def F_by_lows : List T → M T := fnS 8 g_by_lows
theorem sc_by_lows : FnScope ["pairs", "lows", "many", "ranked", "others", "pair", "place", "low", "rank"] ["pairs"] (defScope s_by_lows) := ⟨rfl, rfl, rfl, by decide +kernel, rfl, by decide +kernel, by decide +kernel⟩
theorem run_by_lows (T : Tx base wd K mg) {f : Addr} {fd : FuncData} {dv : List V} {kw : List (Str × V)} (F : FunD K "by_lows" "by_lows" (defArgs s_by_lows) (defBody s_by_lows) (defScope s_by_lows) dv kw f fd) : FnOk PW wd K mg base (L2.CX PW wd) 1 f fd ["pairs"] (spF (GG K mg) 1 (fnS 8 g_by_lows)) :=
  fn_run (G := GG K mg) (k := 0) F sc_by_lows rfl rfl fun cdv A outer s H E hr => by
    have B := bd_of (P := PW) (wd := wd) (G := GG K mg) (base := base) (cdv := cdv) (outer := outer) (H := H) (E := E) sc_by_lows hr
    exact (ss_cons (B.setC 1 [("pair", 5)] (i_seq B.eK (vr 0)) (fun _ _ _ _ _ => ((B.blk _ _ _ _ _).nm 5)) (fun _ _ _ _ _ => (ts_one ((B.blk _ _ _ _ _).nisB (k_of ((B.blk _ _ _ _ _).ix (k_of (vr 5)) s_int)) (k_of s_non)))) (fun _ _ _ _ _ => ((B.blk _ _ _ _ _).ix (k_of (vr 5)) s_int)))
    (ss_cons (B.set 2 (B.len T.m_len (k_of (vr 1))))
    (ss_cons (B.set 3 (B.sorted T.m_sorted (k_of (s_own (B.comp [("place", 6), ("low", 7)] (i_enumA B.eK rfl (by rw [B.eM]; exact T.m_enumerate) (vr 1)) (fun _ _ _ _ _ => ((B.blk _ _ _ _ _).tl 2 (gs_cons ((B.blk _ _ _ _ _).nm 6) (gs_cons ((B.blk _ _ _ _ _).nm 7) gs_nil)))) (fun _ _ _ _ _ => ts_nil) (fun _ _ _ _ _ => ((B.blk _ _ _ _ _).int T.m_int (k_of ((B.blk _ _ _ _ _).add ((B.blk _ _ _ _ _).mul (vr 7) (vr 2)) (vr 6))))))))))
    (ss_cons (B.set 4 (s_own (B.comp [("pair", 5)] (i_seq B.eK (vr 0)) (fun _ _ _ _ _ => ((B.blk _ _ _ _ _).nm 5)) (fun _ _ _ _ _ => (ts_one ((B.blk _ _ _ _ _).nisB (k_of ((B.blk _ _ _ _ _).ix (k_of (vr 5)) s_int)) (k_of s_non)))) (fun _ _ _ _ _ => (vr 5)))))
    (ss_cons (ss_ret (B.add (s_own (B.comp [("pair", 5)] (i_seq B.eK (vr 0)) (fun _ _ _ _ _ => ((B.blk _ _ _ _ _).nm 5)) (fun _ _ _ _ _ => (ts_one ((B.blk _ _ _ _ _).isB (k_of ((B.blk _ _ _ _ _).ix (k_of (vr 5)) s_int)) (k_of s_non)))) (fun _ _ _ _ _ => (vr 5)))) (s_own (B.comp [("rank", 8)] (i_seq B.eK (vr 3)) (fun _ _ _ _ _ => ((B.blk _ _ _ _ _).nm 8)) (fun _ _ _ _ _ => ts_nil) (fun _ _ _ _ _ => ((B.blk _ _ _ _ _).ix (k_of (vr 4)) ((B.blk _ _ _ _ _).mod ((B.blk _ _ _ _ _).int T.m_int (k_of (vr 8))) (vr 2))))))))
    ss_nil)))))
theorem d_by_lows (T : Tx base wd K mg) : DefOk PW wd base (GG K mg) 1 "by_lows" 1 [] F_by_lows := by
  obtain ⟨fd, F⟩ := T.D_by_lows
  exact ⟨_, fd, ["pairs"], [], [], run_by_lows T F, T.c_by_lows, F.kp, (F.bindsN fun _ _ _ _ _ _ us hl => match us, hl with | [_], _ => rfl), .nil, fun _ => .nil⟩
/-! united -/
def g_united : Sm := (qSeq (qOwn 1 (fAll []))
    (qSeq (qFor (fIter (fCall F_by_lows [] [(fVar 0)])) (hTupL 2 (hCons (hName 2) (hCons (hName 3) hNil))) (qSeq (qIf (fAndB (fCmpB neT (fBor 1) (fLst [])) (fOrB (fCmpB isT (fIx (fIx (fBor 1) (fUn negT (fC (.int 1)))) (fC (.int 1))) (fC .non)) (fOrB (fCmpB isT (fVar 2) (fC .non)) (fCmpB leT (fVar 2) (fIx (fIx (fBor 1) (fUn negT (fC (.int 1)))) (fC (.int 1))))))) (qSeq (qAsg (fIx (fBor 1) (fUn negT (fC (.int 1)))) (hTupL 2 (hCons (hName 4) (hCons (hName 5) hNil))))
    (qSeq (qSetIx 1 (fTup [(fVar 4), (fIf (fOrB (fCmpB isT (fVar 5) (fC .non)) (fAndB (fCmpB nisT (fVar 3) (fC .non)) (fCmpB leT (fVar 3) (fVar 5)))) (fVar 5) (fVar 3))]) (fUn negT (fC (.int 1))))
    qNil)) (qSeq (qApp 1 (fTup [(fVar 2), (fVar 3)]))
    qNil))
    qNil))
    (qSeq (qFrz [1] (qRet (fVar 1)))
    qNil)))
def F_united : List T → M T := fnS 5 g_united
theorem sc_united : FnScope ["pairs", "found", "low", "high", "first", "end"] ["pairs"] (defScope s_united) := ⟨rfl, rfl, rfl, by decide +kernel, rfl, by decide +kernel, by decide +kernel⟩
theorem run_united (T : Tx base wd K mg) {f : Addr} {fd : FuncData} {dv : List V} {kw : List (Str × V)} (F : FunD K "united" "united" (defArgs s_united) (defBody s_united) (defScope s_united) dv kw f fd) : FnOk PW wd K mg base (L2.CX PW wd) 2 f fd ["pairs"] (spF (GG K mg) 1 (fnS 5 g_united)) :=
  fn_run (G := GG K mg) (k := 1) F sc_united rfl rfl fun cdv A outer s H E hr => by
    have B := bd_of (P := PW) (wd := wd) (G := GG K mg) (base := base) (cdv := cdv) (outer := outer) (H := H) (E := E) sc_united hr
    exact (ss_cons (B.own 1 (l_lst a_nil))
    (ss_cons (ss_for po_of B.calm (i_seq B.eK (B.call (d_by_lows T) (a_cons (vr 0) a_nil))) (B.tl 2 (gs_cons (B.nm 2) (gs_cons (B.nm 3) gs_nil))) (ss_cons (ss_if (w_t (w_and (B.neB (kv 1) (k_of (s_lst a_nil))) (w_and1 (w_t (w_or (B.isB (k_of (B.ix (k_of (B.ix (kv 1) (B.neg s_int))) s_int)) (k_of s_non)) (w_or (B.isB (k_of (vr 2)) (k_of s_non)) (w_or1 (B.leB (k_of (vr 2)) (k_of (B.ix (k_of (B.ix (kv 1) (B.neg s_int))) s_int)))))))))) (ss_cons (ss_asg (B.ix (kv 1) (B.neg s_int)) (B.tl 2 (gs_cons (B.nm 4) (gs_cons (B.nm 5) gs_nil))))
    (ss_cons (B.put 1 (s_tup (a_cons (vr 4) (a_cons (s_if (w_t (w_or (B.isB (k_of (vr 5)) (k_of s_non)) (w_or1 (w_t (w_and (B.nisB (k_of (vr 3)) (k_of s_non)) (w_and1 (B.leB (k_of (vr 3)) (k_of (vr 5))))))))) (vr 5) (vr 3)) a_nil))) (B.neg s_int))
    ss_nil)) (ss_cons (ss_app B.eK 1 rfl (by first | exact Or.inl rfl | exact Or.inr (Or.inl rfl) | exact Or.inr (Or.inr rfl)) (s_tup (a_cons (vr 2) (a_cons (vr 3) a_nil))))
    ss_nil))
    ss_nil))
    (ss_cons (ss_frzq [1] (ss_ret (vr 1)))
    ss_nil)))
theorem d_united (T : Tx base wd K mg) : DefOk PW wd base (GG K mg) 2 "united" 1 [] F_united := by
  obtain ⟨fd, F⟩ := T.D_united
  exact ⟨_, fd, ["pairs"], [], [], run_united T F, T.c_united, F.kp, (F.bindsN fun _ _ _ _ _ _ us hl => match us, hl with | [_], _ => rfl), .nil, fun _ => .nil⟩
/-! slabs_of_boxes -/
def g_slabs_of_boxes : Sm := (qSeq (qOwn 1 (fAll []))
    (qSeq (qFor (fIter (fCall F_rows_between [] [(fCall F_ends_of [] [(fOwn (fCompG [5] (hName 5) fYes (fSl (fVar 5) (some (fC (.int 2))) none) (fIterG (fVar 0))))])])) (hTupL 2 (hCons (hName 2) (hCons (hName 3) hNil))) (qSeq (qSet 4 (fOwn (fCompG [5] (hName 5) (fTru (fCall F_is_inside [] [(fTup [(fVar 2), (fVar 3)]), (fSl (fVar 5) (some (fC (.int 2))) none)])) (fSl (fVar 5) none (some (fC (.int 2)))) (fIterG (fVar 0)))))
    (qSeq (qApp 1 (fTup [(fVar 2), (fVar 3), (fB1 tupT (fCall F_united [] [(fVar 4)]))]))
    qNil)))
    (qSeq (qFrz [1] (qRet (fCall F_joined_slabs [] [(fVar 1)])))
    qNil)))
def F_slabs_of_boxes : List T → M T := fnS 5 g_slabs_of_boxes
theorem sc_slabs_of_boxes : FnScope ["boxes", "rows", "low", "high", "here", "box"] ["boxes"] (defScope s_slabs_of_boxes) := ⟨rfl, rfl, rfl, by decide +kernel, rfl, by decide +kernel, by decide +kernel⟩
theorem run_slabs_of_boxes (T : Tx base wd K mg) {f : Addr} {fd : FuncData} {dv : List V} {kw : List (Str × V)} (F : FunD K "slabs_of_boxes" "slabs_of_boxes" (defArgs s_slabs_of_boxes) (defBody s_slabs_of_boxes) (defScope s_slabs_of_boxes) dv kw f fd) : FnOk PW wd K mg base (L2.CX PW wd) 3 f fd ["boxes"] (spF (GG K mg) 1 (fnS 5 g_slabs_of_boxes)) :=
  fn_run (G := GG K mg) (k := 2) F sc_slabs_of_boxes rfl rfl fun cdv A outer s H E hr => by
    have B := bd_of (P := PW) (wd := wd) (G := GG K mg) (base := base) (cdv := cdv) (outer := outer) (H := H) (E := E) sc_slabs_of_boxes hr
    exact (ss_cons (B.own 1 (l_lst a_nil))
    (ss_cons (ss_for po_of B.calm (i_seq B.eK (B.call (d_rows_between T) (a_cons (B.call (d_ends_of T) (a_cons (s_own (B.compR [("box", 5)] (i_seqG B.eK (vr 0)) (fun _ _ _ _ _ => ((B.blk _ _ _ _ _).nm 5)) (fun _ _ _ _ _ => ts_nil) (fun _ _ _ _ _ => ((B.blk _ _ _ _ _).sl (k_of (vr 5)) (o_some s_int) o_none)))) a_nil)) a_nil))) (B.tl 2 (gs_cons (B.nm 2) (gs_cons (B.nm 3) gs_nil))) (ss_cons (B.setCR 4 [("box", 5)] (i_seqG B.eK (vr 0)) (fun _ _ _ _ _ => ((B.blk _ _ _ _ _).nm 5)) (fun _ _ _ _ _ => (ts_one ((B.blk _ _ _ _ _).tru ((B.blk _ _ _ _ _).call (d_is_inside T) (a_cons (s_tup (a_cons (vr 2) (a_cons (vr 3) a_nil))) (a_cons ((B.blk _ _ _ _ _).sl (k_of (vr 5)) (o_some s_int) o_none) a_nil)))))) (fun _ _ _ _ _ => ((B.blk _ _ _ _ _).sl (k_of (vr 5)) o_none (o_some s_int))))
    (ss_cons (ss_app B.eK 1 rfl (by first | exact Or.inl rfl | exact Or.inr (Or.inl rfl) | exact Or.inr (Or.inr rfl)) (s_tup (a_cons (vr 2) (a_cons (vr 3) (a_cons (B.tuple T.m_tuple (k_of (B.call (d_united T) (a_cons (vr 4) a_nil)))) a_nil)))))
    ss_nil)))
    (ss_cons (ss_frzq [1] (ss_ret (B.call (d_joined_slabs T) (a_cons (vr 1) a_nil))))
    ss_nil)))
theorem d_slabs_of_boxes (T : Tx base wd K mg) : DefOk PW wd base (GG K mg) 3 "slabs_of_boxes" 1 [] F_slabs_of_boxes := by
  obtain ⟨fd, F⟩ := T.D_slabs_of_boxes
  exact ⟨_, fd, ["boxes"], [], [], run_slabs_of_boxes T F, T.c_slabs_of_boxes, F.kp, (F.bindsN fun _ _ _ _ _ _ us hl => match us, hl with | [_], _ => rfl), .nil, fun _ => .nil⟩
/-! slabs_told -/
def g_slabs_told : Sm := (qSeq (qIf (fTru (fBin (isiT tab) (fVar 0) (fC (.cl 5)))) (qSeq (qRet (fFld m_rows (fVar 0)))
    qNil) qNil)
    (qSeq (qIf (fNotB (fTru (fCall F_is_list [] [(fVar 0)]))) (qSeq (qRaise 0 (fC (.str "boxes")))
    qNil) qNil)
    (qSeq (qForG (fEnumG (fVar 0)) (hTupL 2 (hCons (hName 1) (hCons (hName 2) hNil))) (qSeq (qIf (fNotB (fTru (fCall F_is_box [] [(fVar 2)]))) (qSeq (qRaise 2 (fVar 1))
    qNil) qNil)
    qNil))
    (qSeq (qIf (fCmpB gtT (fB1 lenT (fVar 0)) (fC (.int 40))) (qSeq (qRaise 4 (fC (.int 40)))
    qNil) qNil)
    (qSeq (qRet (fCall F_slabs_of_boxes [] [(fVar 0)]))
    qNil)))))
def F_slabs_told : List T → M T := fnS 2 g_slabs_told
theorem sc_slabs_told : FnScope ["boxes", "index", "box"] ["boxes"] (defScope s_slabs_told) := ⟨rfl, rfl, rfl, by decide +kernel, rfl, by decide +kernel, by decide +kernel⟩
theorem run_slabs_told (T : Tx base wd K mg) {f : Addr} {fd : FuncData} {dv : List V} {kw : List (Str × V)} (F : FunD K "slabs_told" "slabs_told" (defArgs s_slabs_told) (defBody s_slabs_told) (defScope s_slabs_told) dv kw f fd) : FnOk PW wd K mg base (L2.CX PW wd) 4 f fd ["boxes"] (spF (GG K mg) 1 (fnS 2 g_slabs_told)) :=
  fn_run (G := GG K mg) (k := 3) F sc_slabs_told rfl rfl fun cdv A outer s H E hr => by
    have B := bd_of (P := PW) (wd := wd) (G := GG K mg) (base := base) (cdv := cdv) (outer := outer) (H := H) (E := E) sc_slabs_told hr
    exact (ss_cons (ss_if (B.tru (B.isi T.tab T.m_isinstance (vr 0) (B.cls 5 T.c_SlabRows))) (ss_cons (ss_ret (B.fld m_rows T.f_rows (vr 0)))
    ss_nil) ss_nil)
    (ss_cons (ss_if (w_not (B.tru (B.call (d_is_list T) (a_cons (vr 0) a_nil)))) (ss_cons (ss_raise B.calm B.eK B.eM B.tk B.rm (by decide) T.x_BadPart rfl s_str rfl)
    ss_nil) ss_nil)
    (ss_cons (ss_forG po_of B.calm (i_enumG B.eK rfl (by rw [B.eM]; exact T.m_enumerate) (vr 0)) (B.tl 2 (gs_cons (B.nm 1) (gs_cons (B.nm 2) gs_nil))) (ss_cons (ss_if (w_not (B.tru (B.call (d_is_box T) (a_cons (vr 2) a_nil)))) (ss_cons (ss_raise B.calm B.eK B.eM B.tk B.rm (by decide) T.x_BadIndex rfl (vr 1) rfl)
    ss_nil) ss_nil)
    ss_nil))
    (ss_cons (ss_if (B.gtB (k_of (B.len T.m_len (k_of (vr 0)))) (k_of (B.gint 40 T.i_MOST_BOXES))) (ss_cons (ss_raise B.calm B.eK B.eM B.tk B.rm (by decide) T.x_TooMany rfl (B.gint 40 T.i_MOST_BOXES) rfl)
    ss_nil) ss_nil)
    (ss_cons (ss_ret (B.call (d_slabs_of_boxes T) (a_cons (vr 0) a_nil)))
    ss_nil)))))
theorem d_slabs_told (T : Tx base wd K mg) : DefOk PW wd base (GG K mg) 4 "slabs_told" 1 [] F_slabs_told := by
  obtain ⟨fd, F⟩ := T.D_slabs_told
  exact ⟨_, fd, ["boxes"], [], [], run_slabs_told T F, T.c_slabs_told, F.kp, (F.bindsN fun _ _ _ _ _ _ us hl => match us, hl with | [_], _ => rfl), .nil, fun _ => .nil⟩
/-! Region_init -/
def g_Region_init : Sm := (qSeq (qFld 0 6 0 (fCall F_slabs_told [] [(fVar 1)]))
    qNil)
def F_Region_init : List T → M (List T) := fnI (GG [] (fun _ => none)) 6 0 g_Region_init
theorem sc_Region_init : FnScope ["self", "boxes"] ["self", "boxes"] (defScope s_Region_init) := ⟨rfl, rfl, rfl, by decide +kernel, rfl, by decide +kernel, by decide +kernel⟩
theorem run_Region_init (T : Tx base wd K mg) {f : Addr} {fd : FuncData} {dv : List V} {kw : List (Str × V)} (F : FunD K "__init__" "Region.__init__" (defArgs s_Region_init) (defBody s_Region_init) (defScope s_Region_init) dv kw f fd) : FnOk PW wd K mg base (L2.CX PW wd) 5 f fd ["self", "boxes"] (spI (GG K mg) 6 1 (fnI (GG K mg) 6 0 g_Region_init)) :=
  make_run (G := GG K mg) (k := 4) F sc_Region_init rfl rfl fun cdv A outer s H E hr => by
    have B := bd_of (P := PW) (wd := wd) (G := GG K mg) (base := base) (cdv := cdv) (outer := outer) (H := H) (E := E) sc_Region_init hr
    exact (ss_cons (ss_fld B.eK 0 rfl (Or.inl rfl) T.n_Region_own_slabs (B.call (d_slabs_told T) (a_cons (vr 1) a_nil)))
    ss_nil)
theorem d_Region_init (T : Tx base wd K mg) : MakeOk PW wd base (GG K mg) 5 6 1 [] F_Region_init := by
  obtain ⟨fd, F⟩ := T.D_Region_init
  obtain ⟨ds, hv, hb⟩ := F.binds1 (ps := ["self", "boxes"]) 2 1 (by simp) (by simp) (fun _ _ _ _ _ _ _ us its h1 h2 => match us, its, h1, h2 with | [_, _], [_], _, _ => ⟨_, rfl, rfl⟩)
  exact ⟨_, _, fd, ["self", "boxes"], _, ds, T.c_Region, T.mk_Region, run_Region_init T F, hb, hv, fun w => .nil⟩
theorem d_Region_init_1 (T : Tx base wd K mg) : MakeOk PW wd base (GG K mg) 5 6 1 [.tup []] F_Region_init := by
  obtain ⟨fd, F⟩ := T.D_Region_init
  obtain ⟨ds, hv, hb⟩ := F.binds1 (ps := ["self", "boxes"]) 1 0 (by simp) (by simp) (fun _ _ _ _ _ _ _ us its h1 h2 => match us, its, h1, h2 with | [_], [_], _, _ => ⟨_, rfl, rfl⟩)
  exact ⟨_, _, fd, ["self", "boxes"], _, ds, T.c_Region, T.mk_Region, run_Region_init T F, hb, hv, fun w => (.cons (taB_ok rfl T.v_Region_init_0 w) .nil)⟩
/-! _law_refused -/
def g__law_refused : Sm := (qSeq (qSet 2 (fLst [(fC .non), (fC (.int 5)), (fTup [(fC (.int 0)), (fC (.int 1)), (fC (.int 0))]), (fLst [(fC (.int 0)), (fC (.int 1)), (fC (.int 0)), (fC (.int 1))]), (fTup [(fC (.int 0)), (fC (.int 0)), (fC (.int 0)), (fC (.int 1))]), (fTup [(fC (.int 1)), (fC (.int 0)), (fC (.int 0)), (fC (.int 1))]), (fTup [(fC (.int 0)), (fC (.int 1)), (fC (.int 3)), (fC (.int 3))]), (fTup [(fC (.int 0)), (fC (.int 1)), (fC (.int 0)), (fC (.str "1"))]), (fTup [(fC (.int 0)), (fC (.bl true)), (fC (.int 0)), (fC (.int 1))])]))
    (qSeq (qAsg (fTup [(fCall F__law_one [] [(fVar 0), (fVar 2)]), (fCall F__law_take [] [(fVar 0), (fBin addT (fB1 lenT (fVar 1)) (fC (.int 1)))])]) (hTupL 2 (hCons (hName 3) (hCons (hName 4) hNil))))
    (qSeq (qIf (fCmpB neT (fun env => heardS 2 hs__law_caught rest__law_caught ((fMake 6 F_Region_init [] [(fBin addT (fBin addT (fSl (fVar 1) none (some (fVar 4))) (fLst [(fVar 3), (fC .non)])) (fSl (fVar 1) (some (fVar 4)) none))]) env)) (fLst [(fC (.str "index")), (fVar 4)])) (qSeq (qRet (fC (.bl false)))
    qNil) qNil)
    (qSeq (qFor (fIter (fLst [(fC .non), (fC (.int 5)), (fC (.str "boxes")), (fNewD fDisp0)])) (hName 5) (qSeq (qIf (fCmpB neT (fun env => heardS 2 hs__law_caught rest__law_caught ((fMake 6 F_Region_init [] [(fVar 5)]) env)) (fLst [(fC (.str "part")), (fC (.str "boxes"))])) (qSeq (qRet (fC (.bl false)))
    qNil) qNil)
    qNil))
    (qSeq (qSet 6 (fOwn (fComp [7] (hName 7) fYes (fTup [(fVar 7), (fBin addT (fVar 7) (fC (.int 1))), (fC (.int 0)), (fC (.int 1))]) (fRng1 (fC (.int 41))))))
    (qSeq (qIf (fCmpB neT (fun env => heardS 2 hs__law_caught rest__law_caught ((fMake 6 F_Region_init [] [(fVar 6)]) env)) (fLst [(fC (.str "many")), (fC (.int 40))])) (qSeq (qRet (fC (.bl false)))
    qNil) qNil)
    (qSeq (qIf (fCmpB neT (fun env => heardS 2 hs__law_caught rest__law_caught ((fMake 6 F_Region_init [] [(fBin addT (fVar 6) (fLst [(fVar 3)]))]) env)) (fLst [(fC (.str "index")), (fC (.int 41))])) (qSeq (qRet (fC (.bl false)))
    qNil) qNil)
    (qSeq (qRet (fun env => (fMake 6 F_Region_init [] [(fSl (fVar 6) none (some (fC (.int 40))))]) env >>= fun x => (fMake 6 F_Region_init [] [(fLst [(fTup [(fC (.int 0)), (fC (.int 40)), (fC (.int 0)), (fC (.int 1))])])]) env >>= fun y => own2s 6 F_Region_eq x y))
    qNil))))))))
def F__law_refused : List T → M T := fnS 6 g__law_refused
theorem sc__law_refused : FnScope ["_law_source", "_law_boxes_here", "_law_some", "_law_odd", "_law_at", "_law_thing", "_law_many", "_law_k"] ["_law_source", "_law_boxes_here"] (defScope s__law_refused) := ⟨rfl, rfl, rfl, by decide +kernel, rfl, by decide +kernel, by decide +kernel⟩
theorem run__law_refused (T : Tx base wd K mg) {fd : FuncData} {dv : List V} {kw : List (Str × V)} (F : FunD K "_law_refused" "_law_refused" (defArgs s__law_refused) (defBody s__law_refused) (defScope s__law_refused) dv kw (ga K "_law_refused") fd) : FnOk PW wd K mg base (L2.CX PW wd) 9 (ga K "_law_refused") fd ["_law_source", "_law_boxes_here"] (spF (GG K mg) 2 (fnS 6 g__law_refused)) :=
  T.D__law_caught.elim fun fd__law_caught F_heard__law_caught =>
  fn_runC (G := GG K mg) (k := 8) F sc__law_refused rfl rfl fun cdv A outer s H E ecd hr => by
    have B := bd_of (P := PW) (wd := wd) (G := GG K mg) (base := base) (cdv := cdv) (outer := outer) (H := H) (E := E) sc__law_refused hr
    have hq : (cxB PW wd (GG K mg) base ["_law_source", "_law_boxes_here", "_law_some", "_law_odd", "_law_at", "_law_thing", "_law_many", "_law_k"] "_law_refused" s__law_refused (ga K "_law_refused") cdv A outer s H E).env.qual = "_law_refused" ++ ".<locals>." := rfl
    exact (ss_cons (B.set 2 (s_lst (a_cons s_non (a_cons s_int (a_cons (s_tup (a_cons s_int (a_cons s_int (a_cons s_int a_nil)))) (a_cons (s_lst (a_cons s_int (a_cons s_int (a_cons s_int (a_cons s_int a_nil))))) (a_cons (s_tup (a_cons s_int (a_cons s_int (a_cons s_int (a_cons s_int a_nil))))) (a_cons (s_tup (a_cons s_int (a_cons s_int (a_cons s_int (a_cons s_int a_nil))))) (a_cons (s_tup (a_cons s_int (a_cons s_int (a_cons s_int (a_cons s_int a_nil))))) (a_cons (s_tup (a_cons s_int (a_cons s_int (a_cons s_int (a_cons s_str a_nil))))) (a_cons (s_tup (a_cons s_int (a_cons s_bl (a_cons s_int (a_cons s_int a_nil))))) a_nil)))))))))))
    (ss_cons (ss_asg (s_tup (a_cons (B.call (d__law_one T) (a_cons (vr 0) (a_cons (vr 2) a_nil))) (a_cons (B.call (d__law_take T) (a_cons (vr 0) (a_cons (B.add (B.len T.m_len (k_of (vr 1))) s_int) a_nil))) a_nil))) (B.tl 2 (gs_cons (B.nm 3) (gs_cons (B.nm 4) gs_nil))))
    (ss_cons (ss_if (B.neB (k_of (s_lamQ (k := 6) ("_law_refused" ++ ".<locals>.") B.eK B.eM rfl T.c__law_caught F_heard__law_caught (F_heard__law_caught.bindsN fun _ _ _ _ _ _ us hl => match us, hl with | [_], _ => rfl) sc__law_caught rfl (Or.inl rfl) rfl rfl (by decide) (fun _ _ _ => hg__law_caught T) (fun _ _ _ => hr__law_caught T) T.tb__law_refused (ecd.trans T.cd__law_refused) hq (tb_mem__law_refused K) T.tb_nd (B.rm.mono (by decide)) (by kernel_rfl) B.tk (fun A2 outer2 s2 H2 E2 f2 c2 hr2 => by
      have B2 := bd_lam (j := 6) (E := E2) (outer := outer2) (s := s2) (H := H2) B.nd B.eK B.eM hr2
      exact (B2.make (d_Region_init T) (a_cons (B2.add (B2.add (B2.sl (k_of (vr 1)) o_none (o_some (vr 4))) (s_lst (a_cons (vr 3) (a_cons s_non a_nil)))) (B2.sl (k_of (vr 1)) (o_some (vr 4)) o_none)) a_nil))))) (k_of (s_lst (a_cons s_str (a_cons (vr 4) a_nil))))) (ss_cons (ss_ret s_bl)
    ss_nil) ss_nil)
    (ss_cons (ss_for po_of B.calm (i_seq B.eK (s_lst (a_cons s_non (a_cons s_int (a_cons s_str (a_cons (s_newD n_disp0) a_nil)))))) (B.nm 5) (ss_cons (ss_if (B.neB (k_of (s_lamQ (k := 6) ("_law_refused" ++ ".<locals>.") B.eK B.eM rfl T.c__law_caught F_heard__law_caught (F_heard__law_caught.bindsN fun _ _ _ _ _ _ us hl => match us, hl with | [_], _ => rfl) sc__law_caught rfl (Or.inl rfl) rfl rfl (by decide) (fun _ _ _ => hg__law_caught T) (fun _ _ _ => hr__law_caught T) T.tb__law_refused (ecd.trans T.cd__law_refused) hq (tb_mem__law_refused K) T.tb_nd (B.rm.mono (by decide)) (by kernel_rfl) B.tk (fun A2 outer2 s2 H2 E2 f2 c2 hr2 => by
      have B2 := bd_lam (j := 6) (E := E2) (outer := outer2) (s := s2) (H := H2) B.nd B.eK B.eM hr2
      exact (B2.make (d_Region_init T) (a_cons (vr 5) a_nil))))) (k_of (s_lst (a_cons s_str (a_cons s_str a_nil))))) (ss_cons (ss_ret s_bl)
    ss_nil) ss_nil)
    ss_nil))
    (ss_cons (B.set 6 (s_own (B.comp [("_law_k", 7)] (i_range1 rfl (by rw [B.eM]; exact T.m_range) s_int) (fun _ _ _ _ _ => ((B.blk _ _ _ _ _).nm 7)) (fun _ _ _ _ _ => ts_nil) (fun _ _ _ _ _ => (s_tup (a_cons (vr 7) (a_cons ((B.blk _ _ _ _ _).add (vr 7) s_int) (a_cons s_int (a_cons s_int a_nil)))))))))
    (ss_cons (ss_if (B.neB (k_of (s_lamQ (k := 6) ("_law_refused" ++ ".<locals>.") B.eK B.eM rfl T.c__law_caught F_heard__law_caught (F_heard__law_caught.bindsN fun _ _ _ _ _ _ us hl => match us, hl with | [_], _ => rfl) sc__law_caught rfl (Or.inl rfl) rfl rfl (by decide) (fun _ _ _ => hg__law_caught T) (fun _ _ _ => hr__law_caught T) T.tb__law_refused (ecd.trans T.cd__law_refused) hq (tb_mem__law_refused K) T.tb_nd (B.rm.mono (by decide)) (by kernel_rfl) B.tk (fun A2 outer2 s2 H2 E2 f2 c2 hr2 => by
      have B2 := bd_lam (j := 6) (E := E2) (outer := outer2) (s := s2) (H := H2) B.nd B.eK B.eM hr2
      exact (B2.make (d_Region_init T) (a_cons (vr 6) a_nil))))) (k_of (s_lst (a_cons s_str (a_cons s_int a_nil))))) (ss_cons (ss_ret s_bl)
    ss_nil) ss_nil)
    (ss_cons (ss_if (B.neB (k_of (s_lamQ (k := 6) ("_law_refused" ++ ".<locals>.") B.eK B.eM rfl T.c__law_caught F_heard__law_caught (F_heard__law_caught.bindsN fun _ _ _ _ _ _ us hl => match us, hl with | [_], _ => rfl) sc__law_caught rfl (Or.inl rfl) rfl rfl (by decide) (fun _ _ _ => hg__law_caught T) (fun _ _ _ => hr__law_caught T) T.tb__law_refused (ecd.trans T.cd__law_refused) hq (tb_mem__law_refused K) T.tb_nd (B.rm.mono (by decide)) (by kernel_rfl) B.tk (fun A2 outer2 s2 H2 E2 f2 c2 hr2 => by
      have B2 := bd_lam (j := 6) (E := E2) (outer := outer2) (s := s2) (H := H2) B.nd B.eK B.eM hr2
      exact (B2.make (d_Region_init T) (a_cons (B2.add (vr 6) (s_lst (a_cons (vr 3) a_nil))) a_nil))))) (k_of (s_lst (a_cons s_str (a_cons s_int a_nil))))) (ss_cons (ss_ret s_bl)
    ss_nil) ss_nil)
    (ss_cons (ss_ret (s_ownC (fun _ _ => rfl) (d_Region_eq T) B.eK B.eM B.rm (by decide) (B.make (d_Region_init T) (a_cons (B.sl (k_of (vr 6)) o_none (o_some s_int)) a_nil)) (B.make (d_Region_init T) (a_cons (s_lst (a_cons (s_tup (a_cons s_int (a_cons s_int (a_cons s_int (a_cons s_int a_nil))))) a_nil)) a_nil)) rfl))
    ss_nil))))))))
theorem d__law_refused (T : Tx base wd K mg) : DefOk PW wd base (GG K mg) 9 "_law_refused" 2 [] F__law_refused := by
  obtain ⟨fd, F⟩ := T.D__law_refused
  exact ⟨_, fd, ["_law_source", "_law_boxes_here"], [], [], run__law_refused T F, T.c__law_refused, F.kp, (F.bindsN fun _ _ _ _ _ _ us hl => match us, hl with | [_, _], _ => rfl), .nil, fun _ => .nil⟩
/-! _law_rounds -/
def g__law_rounds : Sm := (qSeq (qRet (fBin rgsT (fC (.int 0)) (fBin max2T (fC (.int 1)) (fBin min2T (fB1 lenT (fVar 0)) (fC (.int 3))))))
    qNil)
def F__law_rounds : List T → M T := fnS 0 g__law_rounds
theorem sc__law_rounds : FnScope ["_law_script"] ["_law_script"] (defScope s__law_rounds) := ⟨rfl, rfl, rfl, by decide +kernel, rfl, by decide +kernel, by decide +kernel⟩
theorem run__law_rounds (T : Tx base wd K mg) {f : Addr} {fd : FuncData} {dv : List V} {kw : List (Str × V)} (F : FunD K "_law_rounds" "_law_rounds" (defArgs s__law_rounds) (defBody s__law_rounds) (defScope s__law_rounds) dv kw f fd) : FnOk PW wd K mg base (L2.CX PW wd) 1 f fd ["_law_script"] (spF (GG K mg) 1 (fnS 0 g__law_rounds)) :=
  fn_run (G := GG K mg) (k := 0) F sc__law_rounds rfl rfl fun cdv A outer s H E hr => by
    have B := bd_of (P := PW) (wd := wd) (G := GG K mg) (base := base) (cdv := cdv) (outer := outer) (H := H) (E := E) sc__law_rounds hr
    exact (ss_cons (ss_ret (B.lrg1 T.m_list T.m_range (B.max2 T.m_max s_int (B.min2 T.m_min (B.len T.m_len (k_of (vr 0))) s_int))))
    ss_nil)
theorem d__law_rounds (T : Tx base wd K mg) : DefOk PW wd base (GG K mg) 1 "_law_rounds" 1 [] F__law_rounds := by
  obtain ⟨fd, F⟩ := T.D__law_rounds
  exact ⟨_, fd, ["_law_script"], [], [], run__law_rounds T F, T.c__law_rounds, F.kp, (F.bindsN fun _ _ _ _ _ _ us hl => match us, hl with | [_], _ => rfl), .nil, fun _ => .nil⟩
/-! law -/
def g_law : Sm := (qSeq (qFor (fIter (fCall F__law_rounds [] [(fVar 0)])) (hName 1) (qSeq (qSet 2 (fCall F__law_pool [] [(fVar 0), (fVar 1)]))
    (qSeq (qSet 3 (fCall F__law_boxes [] [(fVar 2), (fC (.int 6)), (fC (.bl false))]))
    (qSeq (qSet 4 (fRef (fSeqL (fVar 3))))
    (qSeq (qSet 5 (fMake 6 F_Region_init [] [(fVar 4)]))
    (qSeq (qApp 4 (fTup [(fC (.int 0)), (fC (.int 1)), (fC (.int 0)), (fC (.int 1))]))
    (qSeq (qIf (fOrB (fNotB (fTru (fCall F__law_cells_right [] [(fVar 3), (fVar 5)]))) (fToB (fun env => (fVar 5) env >>= fun x => (fMake 6 F_Region_init [] [(fB1 tupT (fVar 3))]) env >>= fun y => own2n 6 F_Region_eq x y))) (qSeq (qRet (fC (.bl false)))
    qNil) qNil)
    (qSeq (qIf (fOrB (fToB (fun env => (fVar 5) env >>= fun x => (fVar 3) env >>= fun y => own2x 6 F_Region_eq x y)) (fOrB (fToB (fun env => (fVar 5) env >>= fun x => (fC (.int 5)) env >>= fun y => own2x 6 F_Region_eq x y)) (fNotB (fTru (fCall F__law_refused [] [(fVar 2), (fVar 3)]))))) (qSeq (qRet (fC (.bl false)))
    qNil) qNil)
    qNil))))))))
    (qSeq (qRet (fAnd (fun env => (fMake 6 F_Region_init [.tup []] []) env >>= fun x => (fMake 6 F_Region_init [] [(fLst [])]) env >>= fun y => own2s 6 F_Region_eq x y) (fAnd (fun env => (fMake 6 F_Region_init [.tup []] []) env >>= fun x => (fMake 6 F_Region_init [] [(fLst [(fTup [(fC (.int 0)), (fC (.int 1)), (fC (.int 0)), (fC (.int 1))])])]) env >>= fun y => own2n 6 F_Region_eq x y) (fun env => (fTup [(fC (.int 0)), (fC (.int 0))]) env >>= fun x => (fMake 6 F_Region_init [.tup []] []) env >>= fun y => own2nc 6 F_Region_contains x y))))
    qNil))
def F_law : List T → M T := fnS 5 g_law
theorem sc_law : FnScope ["_law_script", "_law_k", "_law_source", "_law_boxes_here", "_law_handed", "_law_made"] ["_law_script"] (defScope s_law) := ⟨rfl, rfl, rfl, by decide +kernel, rfl, by decide +kernel, by decide +kernel⟩
theorem run_law (T : Tx base wd K mg) {f : Addr} {fd : FuncData} {dv : List V} {kw : List (Str × V)} (F : FunD K "law" "law" (defArgs s_law) (defBody s_law) (defScope s_law) dv kw f fd) : FnOk PW wd K mg base (L2.CX PW wd) 10 f fd ["_law_script"] (spF (GG K mg) 1 (fnS 5 g_law)) :=
  fn_run (G := GG K mg) (k := 9) F sc_law rfl rfl fun cdv A outer s H E hr => by
    have B := bd_of (P := PW) (wd := wd) (G := GG K mg) (base := base) (cdv := cdv) (outer := outer) (H := H) (E := E) sc_law hr
    exact (ss_cons (ss_for po_of B.calm (i_seq B.eK (B.call (d__law_rounds T) (a_cons (vr 0) a_nil))) (B.nm 1) (ss_cons (B.set 2 (B.call (d__law_pool T) (a_cons (vr 0) (a_cons (vr 1) a_nil))))
    (ss_cons (B.set 3 (B.call (d__law_boxes T) (a_cons (vr 2) (a_cons s_int (a_cons s_bl a_nil)))))
    (ss_cons (B.set 4 (s_ref (l_list B.eK (by rw [B.eM]; exact T.m_list) (k_of (vr 3)))))
    (ss_cons (B.set 5 (B.make (d_Region_init T) (a_cons (vr 4) a_nil)))
    (ss_cons (ss_app B.eK 4 rfl (by first | exact Or.inl rfl | exact Or.inr (Or.inl rfl) | exact Or.inr (Or.inr rfl)) (s_tup (a_cons s_int (a_cons s_int (a_cons s_int (a_cons s_int a_nil))))))
    (ss_cons (ss_if (w_t (w_or (w_not (B.tru (B.call (d__law_cells_right T) (a_cons (vr 3) (a_cons (vr 5) a_nil))))) (w_or1 (b_ownN (d_Region_eq T) T.ne_Region B.eK B.eM B.rm (by decide) (vr 5) (B.make (d_Region_init T) (a_cons (B.tuple T.m_tuple (k_of (vr 3))) a_nil)) rfl)))) (ss_cons (ss_ret s_bl)
    ss_nil) ss_nil)
    (ss_cons (ss_if (w_t (w_or (b_ownX (fun _ _ => rfl) T.px_Region (d_Region_eq T) B.eK B.eM B.rm (by decide) (vr 5) (vr 3) rfl) (w_or (b_ownX (fun _ _ => rfl) T.px_Region (d_Region_eq T) B.eK B.eM B.rm (by decide) (vr 5) s_int rfl) (w_or1 (w_not (B.tru (B.call (d__law_refused T) (a_cons (vr 2) (a_cons (vr 3) a_nil))))))))) (ss_cons (ss_ret s_bl)
    ss_nil) ss_nil)
    ss_nil))))))))
    (ss_cons (ss_ret (s_and (s_ownC (fun _ _ => rfl) (d_Region_eq T) B.eK B.eM B.rm (by decide) (s_make0 (d_Region_init_1 T) rfl B.eK B.eM B.tk B.rm (by decide) rfl) (B.make (d_Region_init T) (a_cons (s_lst a_nil) a_nil)) rfl) (s_and (s_ownN (d_Region_eq T) T.ne_Region B.eK B.eM B.rm (by decide) (s_make0 (d_Region_init_1 T) rfl B.eK B.eM B.tk B.rm (by decide) rfl) (B.make (d_Region_init T) (a_cons (s_lst (a_cons (s_tup (a_cons s_int (a_cons s_int (a_cons s_int (a_cons s_int a_nil))))) a_nil)) a_nil)) rfl) (s_one (s_ownNin (d_Region_contains T) B.eK B.eM B.rm (by decide) (s_tup (a_cons s_int (a_cons s_int a_nil))) (s_make0 (d_Region_init_1 T) rfl B.eK B.eM B.tk B.rm (by decide) rfl) rfl)))))
    ss_nil))
theorem d_law (T : Tx base wd K mg) : DefOk PW wd base (GG K mg) 10 "law" 1 [] F_law := by
  obtain ⟨fd, F⟩ := T.D_law
  exact ⟨_, fd, ["_law_script"], [], [], run_law T F, T.c_law, F.kp, (F.bindsN fun _ _ _ _ _ _ us hl => match us, hl with | [_], _ => rfl), .nil, fun _ => .nil⟩
end
def fa : List Fa := [
  .free "all",
  .free "any",
  .free "bool",
  .free "enumerate",
  .free "int",
  .free "isinstance",
  .free "len",
  .free "list",
  .free "max",
  .free "min",
  .free "range",
  .free "repr",
  .free "sorted",
  .free "tuple",
  .free "zip",
  .glo "BadIndex",
  .glo "BadNumber",
  .glo "BadPart",
  .glo "NotSo",
  .glo "Region",
  .glo "SlabRows",
  .glo "TooMany",
  .glo "_law_caught",
  .int "MOST_BOXES" 40,
  .cls "Region",
  .noat "Region" "own_slabs",
  .cls "SlabRows",
  .noat "SlabRows" "rows",
  .mkr "Region",
  .glo "_law_take",
  .glo "_law_side",
  .glo "_law_box",
  .glo "_law_ended",
  .glo "_law_boxes",
  .glo "_law_lies",
  .glo "_law_has",
  .glo "_law_square",
  .glo "is_integer",
  .glo "is_cell",
  .glo "is_inside",
  .glo "stretches_of_rows",
  .meth "Region" "__contains__",
  .glo "_law_cells_right",
  .glo "_law_pool",
  .glo "_law_one",
  .meth "Region" "__eq__",
  .glo "is_side",
  .glo "is_box",
  .glo "is_list",
  .glo "ends_of",
  .glo "joined_slabs",
  .glo "rows_between",
  .glo "by_lows",
  .glo "united",
  .glo "slabs_of_boxes",
  .glo "slabs_told",
  .glo "_law_refused",
  .glo "_law_rounds",
  .glo "law"]
def fns : List DefD := [
  { at_ := ("_law_take", none), name := "_law_take", qual := "_law_take", params := defArgs s__law_take, body := defBody s__law_take, scope := defScope s__law_take, dfl := [] },
  { at_ := ("_law_side", none), name := "_law_side", qual := "_law_side", params := defArgs s__law_side, body := defBody s__law_side, scope := defScope s__law_side, dfl := [] },
  { at_ := ("_law_box", none), name := "_law_box", qual := "_law_box", params := defArgs s__law_box, body := defBody s__law_box, scope := defScope s__law_box, dfl := [] },
  { at_ := ("_law_ended", none), name := "_law_ended", qual := "_law_ended", params := defArgs s__law_ended, body := defBody s__law_ended, scope := defScope s__law_ended, dfl := [] },
  { at_ := ("_law_boxes", none), name := "_law_boxes", qual := "_law_boxes", params := defArgs s__law_boxes, body := defBody s__law_boxes, scope := defScope s__law_boxes, dfl := [] },
  { at_ := ("_law_lies", none), name := "_law_lies", qual := "_law_lies", params := defArgs s__law_lies, body := defBody s__law_lies, scope := defScope s__law_lies, dfl := [] },
  { at_ := ("_law_has", none), name := "_law_has", qual := "_law_has", params := defArgs s__law_has, body := defBody s__law_has, scope := defScope s__law_has, dfl := [] },
  { at_ := ("_law_square", none), name := "_law_square", qual := "_law_square", params := defArgs s__law_square, body := defBody s__law_square, scope := defScope s__law_square, dfl := [] },
  { at_ := ("is_integer", none), name := "is_integer", qual := "is_integer", params := defArgs s_is_integer, body := defBody s_is_integer, scope := defScope s_is_integer, dfl := [] },
  { at_ := ("is_cell", none), name := "is_cell", qual := "is_cell", params := defArgs s_is_cell, body := defBody s_is_cell, scope := defScope s_is_cell, dfl := [] },
  { at_ := ("is_inside", none), name := "is_inside", qual := "is_inside", params := defArgs s_is_inside, body := defBody s_is_inside, scope := defScope s_is_inside, dfl := [] },
  { at_ := ("stretches_of_rows", none), name := "stretches_of_rows", qual := "stretches_of_rows", params := defArgs s_stretches_of_rows, body := defBody s_stretches_of_rows, scope := defScope s_stretches_of_rows, dfl := [] },
  { at_ := ("Region", some "__contains__"), name := "__contains__", qual := "Region.__contains__", params := defArgs s_Region_contains, body := defBody s_Region_contains, scope := defScope s_Region_contains, dfl := [] },
  { at_ := ("_law_cells_right", none), name := "_law_cells_right", qual := "_law_cells_right", params := defArgs s__law_cells_right, body := defBody s__law_cells_right, scope := defScope s__law_cells_right, dfl := [] },
  { at_ := ("_law_pool", none), name := "_law_pool", qual := "_law_pool", params := defArgs s__law_pool, body := defBody s__law_pool, scope := defScope s__law_pool, dfl := [] },
  { at_ := ("_law_one", none), name := "_law_one", qual := "_law_one", params := defArgs s__law_one, body := defBody s__law_one, scope := defScope s__law_one, dfl := [] },
  { at_ := ("Region", some "__eq__"), name := "__eq__", qual := "Region.__eq__", params := defArgs s_Region_eq, body := defBody s_Region_eq, scope := defScope s_Region_eq, dfl := [] },
  { at_ := ("is_side", none), name := "is_side", qual := "is_side", params := defArgs s_is_side, body := defBody s_is_side, scope := defScope s_is_side, dfl := [] },
  { at_ := ("is_box", none), name := "is_box", qual := "is_box", params := defArgs s_is_box, body := defBody s_is_box, scope := defScope s_is_box, dfl := [] },
  { at_ := ("is_list", none), name := "is_list", qual := "is_list", params := defArgs s_is_list, body := defBody s_is_list, scope := defScope s_is_list, dfl := [] },
  { at_ := ("ends_of", none), name := "ends_of", qual := "ends_of", params := defArgs s_ends_of, body := defBody s_ends_of, scope := defScope s_ends_of, dfl := [] },
  { at_ := ("joined_slabs", none), name := "joined_slabs", qual := "joined_slabs", params := defArgs s_joined_slabs, body := defBody s_joined_slabs, scope := defScope s_joined_slabs, dfl := [] },
  { at_ := ("rows_between", none), name := "rows_between", qual := "rows_between", params := defArgs s_rows_between, body := defBody s_rows_between, scope := defScope s_rows_between, dfl := [] },
  { at_ := ("by_lows", none), name := "by_lows", qual := "by_lows", params := defArgs s_by_lows, body := defBody s_by_lows, scope := defScope s_by_lows, dfl := [] },
  { at_ := ("united", none), name := "united", qual := "united", params := defArgs s_united, body := defBody s_united, scope := defScope s_united, dfl := [] },
  { at_ := ("slabs_of_boxes", none), name := "slabs_of_boxes", qual := "slabs_of_boxes", params := defArgs s_slabs_of_boxes, body := defBody s_slabs_of_boxes, scope := defScope s_slabs_of_boxes, dfl := [] },
  { at_ := ("slabs_told", none), name := "slabs_told", qual := "slabs_told", params := defArgs s_slabs_told, body := defBody s_slabs_told, scope := defScope s_slabs_told, dfl := [] },
  { at_ := ("Region", some "__init__"), name := "__init__", qual := "Region.__init__", params := defArgs s_Region_init, body := defBody s_Region_init, scope := defScope s_Region_init, dfl := [.adr (dflAt ("Region", some "__init__") 0)] },
  { at_ := ("_law_refused", none), name := "_law_refused", qual := "_law_refused", params := defArgs s__law_refused, body := defBody s__law_refused, scope := defScope s__law_refused, dfl := [] },
  { at_ := ("_law_rounds", none), name := "_law_rounds", qual := "_law_rounds", params := defArgs s__law_rounds, body := defBody s__law_rounds, scope := defScope s__law_rounds, dfl := [] },
  { at_ := ("law", none), name := "law", qual := "law", params := defArgs s_law, body := defBody s_law, scope := defScope s_law, dfl := [] },
  { at_ := ("_law_caught", none), name := "_law_caught", qual := "_law_caught", params := defArgs s__law_caught, body := defBody s__law_caught, scope := defScope s__law_caught, dfl := [] }]
def chk (K : PySem.W.Frag) : List Bool := [
  tabB K cn tabR,
  decide (PySem.W.findIn K (.ref (ga K "Region")) "__ne__" = some (some (.builtin "object.__ne__"))),
  decide (PySem.W.mroIn K (ga K "Region") (.type "object") = some true),
  PySem.W.selfFirst K (ga K "Region"),
  taB K (dflAt ("Region", some "__init__") 0 K) [],
  PySem.W.notFirst K (ga K "Region") (.type "str"),
  PySem.W.notFirst K (ga K "Region") (.type "int"),
  PySem.W.notFirst K (ga K "Region") (.type "bool"),
  PySem.W.notFirst K (ga K "Region") (.type "NoneType"),
  PySem.W.notFirst K (ga K "Region") (.type "list"),
  PySem.W.notFirst K (ga K "Region") (.type "tuple"),
  (supL SupX.xVE PW K (ga K "BadIndex") "BadIndex.__init__" "index").all id,
  (supL SupX.xVE PW K (ga K "BadPart") "BadPart.__init__" "part").all id,
  (supL SupX.xOE PW K (ga K "TooMany") "TooMany.__init__" "limit").all id,
  xmB K cn "BadIndex" xr_BadIndex,
  xmB K cn "BadNumber" xr_BadNumber,
  xmB K cn "BadPart" xr_BadPart,
  xmB K cn "NotSo" xr_NotSo,
  xmB K cn "TooMany" xr_TooMany,
  (xgL K (ga K (cn 2)) "index").all id,
  (xgL K (ga K (cn 4)) "limit").all id,
  (xgL K (ga K (cn 1)) "number").all id,
  (xgL K (ga K (cn 0)) "part").all id,
  (xgL K (ga K (cn 3)) "word").all id,
  tabC K "_law_refused",
  decide ((tb K).map (·.1)).Nodup]
theorem chk_at {K : PySem.W.Frag} (h : (chk K).all id = true) (i : Nat) {b : Bool} (e : (chk K)[i]? = some b := by rfl) : b = true := List.all_eq_true.mp h b (List.mem_of_getElem? e)
def cs (K : PySem.W.Frag) : List (Addr × Addr) := [tabW K "_law_refused"]
theorem tx_of {base : Heap} {wd : World} {K : PySem.W.Frag} {h : Heap} {mg : Str → Option Value} (KX : K.In h) (Ns : h.Ns mainGlobals mg) (c : SaysD fa fns K) (ck : (chk K).all id = true)  (e_BadIndex : supW K (ma K (ga K "BadIndex") "__init__") = supV "BadIndex.__init__" s_BadIndex_init) (e_BadPart : supW K (ma K (ga K "BadPart") "__init__") = supV "BadPart.__init__" s_BadPart_init) (e_TooMany : supW K (ma K (ga K "TooMany") "__init__") = supV "TooMany.__init__" s_TooMany_init) (TB : ∀ p ∈ cs K, LamX.TabB base mg p.1 p.2) : Tx base wd K mg := by
  have c_BadIndex : mg "BadIndex" = some (.ref (ga K "BadIndex")) := glo_ok KX Ns (c.fact 15)
  have c_BadNumber : mg "BadNumber" = some (.ref (ga K "BadNumber")) := glo_ok KX Ns (c.fact 16)
  have c_BadPart : mg "BadPart" = some (.ref (ga K "BadPart")) := glo_ok KX Ns (c.fact 17)
  have c_NotSo : mg "NotSo" = some (.ref (ga K "NotSo")) := glo_ok KX Ns (c.fact 18)
  have c_Region : mg "Region" = some (.ref (ga K "Region")) := glo_ok KX Ns (c.fact 19)
  have c_SlabRows : mg "SlabRows" = some (.ref (ga K "SlabRows")) := glo_ok KX Ns (c.fact 20)
  have c_TooMany : mg "TooMany" = some (.ref (ga K "TooMany")) := glo_ok KX Ns (c.fact 21)
  have hc : ∀ C cA, mg (cn C) = some (.ref cA) → cA = ga K (cn C) := fun C cA h => match C, h with
    | 0, h => (Value.ref.inj (Option.some.inj (h.symm.trans c_BadPart)))
    | 1, h => (Value.ref.inj (Option.some.inj (h.symm.trans c_BadNumber)))
    | 2, h => (Value.ref.inj (Option.some.inj (h.symm.trans c_BadIndex)))
    | 3, h => (Value.ref.inj (Option.some.inj (h.symm.trans c_NotSo)))
    | 4, h => (Value.ref.inj (Option.some.inj (h.symm.trans c_TooMany)))
    | 5, h => (Value.ref.inj (Option.some.inj (h.symm.trans c_SlabRows)))
    | 6, h => (Value.ref.inj (Option.some.inj (h.symm.trans c_Region)))
    | _ + 7, h => (Value.ref.inj (Option.some.inj (h.symm.trans c_BadPart)))
  exact {
    m_all := free_ok KX Ns (c.fact 0)
    m_any := free_ok KX Ns (c.fact 1)
    m_bool := free_ok KX Ns (c.fact 2)
    m_enumerate := free_ok KX Ns (c.fact 3)
    m_int := free_ok KX Ns (c.fact 4)
    m_isinstance := free_ok KX Ns (c.fact 5)
    m_len := free_ok KX Ns (c.fact 6)
    m_list := free_ok KX Ns (c.fact 7)
    m_max := free_ok KX Ns (c.fact 8)
    m_min := free_ok KX Ns (c.fact 9)
    m_range := free_ok KX Ns (c.fact 10)
    m_repr := free_ok KX Ns (c.fact 11)
    m_sorted := free_ok KX Ns (c.fact 12)
    m_tuple := free_ok KX Ns (c.fact 13)
    m_zip := free_ok KX Ns (c.fact 14)
    c_BadIndex := c_BadIndex
    c_BadNumber := c_BadNumber
    c_BadPart := c_BadPart
    c_NotSo := c_NotSo
    c_Region := c_Region
    c_SlabRows := c_SlabRows
    c_TooMany := c_TooMany
    hc := hc
    tab := tabB_ok (G := GG K mg) rfl hc (chk_at ck 0)
    i_MOST_BOXES := int_ok KX Ns (c.fact 23)
    f_own_slabs := by
      intro C j h
      unfold m_own_slabs at h
      split at h
      · cases h; exact ⟨(show List.findIdx? (fun y => y == ("own_slabs" : Str)) (fl 6) = some 0 by decide), fun cA hA => by have e := hc 6 _ hA; subst e; exact ⟨cls_ok (c.fact 24), noat_ok (c.fact 25)⟩⟩
      · cases h
    f_rows := by
      intro C j h
      unfold m_rows at h
      split at h
      · cases h; exact ⟨(show List.findIdx? (fun y => y == ("rows" : Str)) (fl 5) = some 0 by decide), fun cA hA => by have e := hc 5 _ hA; subst e; exact ⟨cls_ok (c.fact 26), noat_ok (c.fact 27)⟩⟩
      · cases h
    n_Region_own_slabs := ⟨by rfl, (show ("own_slabs" : Str) ∉ (fl 6).take 0 by decide), (show (fl 6).length < 1000 by decide), fun cA hA => by have e := hc 6 _ hA; subst e; exact ⟨cls_ok (c.fact 24), noat_ok (c.fact 25)⟩⟩
    k_Region := cls_ok (c.fact 24)
    k_SlabRows := cls_ok (c.fact 26)
    mk_Region := mkr_ok (c.fact 28)
    ne_Region := ⟨fun cA hA => by have e := hc 6 _ hA; subst e; exact ⟨of_decide_eq_true (chk_at ck 1), of_decide_eq_true (chk_at ck 2)⟩⟩
    sf_Region := fun cA hA => by have e := hc 6 _ hA; subst e; exact chk_at ck 3
    px_Region := px_of (c := ga K "Region") (fun cA hA => hc 6 _ hA) (chk_at ck 5) (chk_at ck 6) (chk_at ck 7) (chk_at ck 8) (chk_at ck 9) (chk_at ck 10)
    x_BadIndex := xc_of (G := GG K mg) rfl c_BadIndex e_BadIndex SupX.xVE_ok (chk_at ck 11) supt_BadIndex fok_BadIndex
    x_BadPart := xc_of (G := GG K mg) rfl c_BadPart e_BadPart SupX.xVE_ok (chk_at ck 12) supt_BadPart fok_BadPart
    x_TooMany := xc_of (G := GG K mg) rfl c_TooMany e_TooMany SupX.xOE_ok (chk_at ck 13) supt_TooMany fok_TooMany
    xm_BadIndex := xm_of hc (chk_at ck 14)
    xm_BadNumber := xm_of hc (chk_at ck 15)
    xm_BadPart := xm_of hc (chk_at ck 16)
    xm_NotSo := xm_of hc (chk_at ck 17)
    xm_TooMany := xm_of hc (chk_at ck 18)
    xg_index := fun c h => (by have e : c = 2 := (by simpa [xf_index] using h); subst e; exact xg_of (G := GG K mg) rfl (fun cA hA => hc 2 _ hA) (chk_at ck 19))
    xg_limit := fun c h => (by have e : c = 4 := (by simpa [xf_limit] using h); subst e; exact xg_of (G := GG K mg) rfl (fun cA hA => hc 4 _ hA) (chk_at ck 20))
    xg_number := fun c h => (by have e : c = 1 := (by simpa [xf_number] using h); subst e; exact xg_of (G := GG K mg) rfl (fun cA hA => hc 1 _ hA) (chk_at ck 21))
    xg_part := fun c h => (by have e : c = 0 := (by simpa [xf_part] using h); subst e; exact xg_of (G := GG K mg) rfl (fun cA hA => hc 0 _ hA) (chk_at ck 22))
    xg_word := fun c h => (by have e : c = 3 := (by simpa [xf_word] using h); subst e; exact xg_of (G := GG K mg) rfl (fun cA hA => hc 3 _ hA) (chk_at ck 23))
    tb__law_refused := TB _ (by simp [cs])
    cd__law_refused := (tab_ok (chk_at ck 24)).2.2
    tb_nd := of_decide_eq_true (chk_at ck 25)
    c__law_caught := glo_ok KX Ns (c.fact 22)
    D__law_caught := c.def_ 31
    c__law_take := glo_ok KX Ns (c.fact 29)
    D__law_take := c.def_ 0
    c__law_side := glo_ok KX Ns (c.fact 30)
    D__law_side := c.def_ 1
    c__law_box := glo_ok KX Ns (c.fact 31)
    D__law_box := c.def_ 2
    c__law_ended := glo_ok KX Ns (c.fact 32)
    D__law_ended := c.def_ 3
    c__law_boxes := glo_ok KX Ns (c.fact 33)
    D__law_boxes := c.def_ 4
    c__law_lies := glo_ok KX Ns (c.fact 34)
    D__law_lies := c.def_ 5
    c__law_has := glo_ok KX Ns (c.fact 35)
    D__law_has := c.def_ 6
    c__law_square := glo_ok KX Ns (c.fact 36)
    D__law_square := c.def_ 7
    c_is_integer := glo_ok KX Ns (c.fact 37)
    D_is_integer := c.def_ 8
    c_is_cell := glo_ok KX Ns (c.fact 38)
    D_is_cell := c.def_ 9
    c_is_inside := glo_ok KX Ns (c.fact 39)
    D_is_inside := c.def_ 10
    c_stretches_of_rows := glo_ok KX Ns (c.fact 40)
    D_stretches_of_rows := c.def_ 11
    h_Region_contains := meth_ok (c.fact 41)
    D_Region_contains := c.def_ 12
    c__law_cells_right := glo_ok KX Ns (c.fact 42)
    D__law_cells_right := c.def_ 13
    c__law_pool := glo_ok KX Ns (c.fact 43)
    D__law_pool := c.def_ 14
    c__law_one := glo_ok KX Ns (c.fact 44)
    D__law_one := c.def_ 15
    h_Region_eq := meth_ok (c.fact 45)
    D_Region_eq := c.def_ 16
    c_is_side := glo_ok KX Ns (c.fact 46)
    D_is_side := c.def_ 17
    c_is_box := glo_ok KX Ns (c.fact 47)
    D_is_box := c.def_ 18
    c_is_list := glo_ok KX Ns (c.fact 48)
    D_is_list := c.def_ 19
    c_ends_of := glo_ok KX Ns (c.fact 49)
    D_ends_of := c.def_ 20
    c_joined_slabs := glo_ok KX Ns (c.fact 50)
    D_joined_slabs := c.def_ 21
    c_rows_between := glo_ok KX Ns (c.fact 51)
    D_rows_between := c.def_ 22
    c_by_lows := glo_ok KX Ns (c.fact 52)
    D_by_lows := c.def_ 23
    c_united := glo_ok KX Ns (c.fact 53)
    D_united := c.def_ 24
    c_slabs_of_boxes := glo_ok KX Ns (c.fact 54)
    D_slabs_of_boxes := c.def_ 25
    c_slabs_told := glo_ok KX Ns (c.fact 55)
    D_slabs_told := c.def_ 26
    D_Region_init := c.def_ 27
    v_Region_init_0 := chk_at ck 4
    c__law_refused := glo_ok KX Ns (c.fact 56)
    D__law_refused := c.def_ 28
    c__law_rounds := glo_ok KX Ns (c.fact 57)
    D__law_rounds := c.def_ 29
    c_law := glo_ok KX Ns (c.fact 58)
    D_law := c.def_ 30
  }
end
end K21
namespace K21
open PySem Ep L2 Rg
/-! defs of the stretches -/
theorem enum_zip {α : Type} (g : α → T) : ∀ (xs : List α) (n : Nat), enumL n (xs.map g) = (xs.zipIdx n).map fun q => .tup [.int (q.2 : Nat), g q.1]
  | [], _ => rfl
  | x :: xs, n => by
    rw [List.map_cons, List.zipIdx_cons, List.map_cons, ← enum_zip g xs (n + 1)]; rfl
theorem int_all (ns : List Int) : intsT (ns.map T.int) = some ns := by
  induction ns with
  | nil => rfl
  | cons n ns ih =>
    show (intsT (ns.map T.int)).map (n :: ·) = _
    rw [ih]; rfl
theorem sort_int (r : RS) (ns : List Int) : sortT r (.lst (ns.map T.int)) = some (.lst ((sortI ns).map T.int)) := by
  show (intsT (ns.map T.int)).map _ = _
  rw [int_all]; rfl
abbrev osOf (ps : List Pr) : List Pr := ps.filter fun p => p.1.isSome
theorem by_lows {t : T} {ps : List Pr} (ht : iterT t = some (ps.map prT)) (hl : ps.length ≤ 40000) (r : RS) : F_by_lows [t] r = .ok (.lst ((byL ps).map prT)) r := by
  have lo : (osOf ps).length ≤ 40000 := Nat.le_trans (List.length_filter_le _ _) hl
  have it : ∀ {env : Ep.Env}, env[0]? = some (.val t) → fIter (fVar 0) env r = .ok (ps.map prT) r := fun {env} h => x_it (t := t) (by unfold fVar; rw [h]; rfl) ht
  refine n_fn (n_seq (n_set (t := .lst ((osOf ps).map fun p => .int (p.1.getD 0))) (r1 := r) (e_own (comp_ok prT (fun p => .int (p.1.getD 0)) (fun p => p.1.isSome) ps (it rfl) (fun p _ => ⟨_, rfl, e_cmpB (x := oT p.1) (y := .non) (r1 := r) (r2 := r) rfl rfl (nis_oT _), fun q => ?_⟩) (by omega)))) ?_)
  · obtain ⟨x, e⟩ := Option.isSome_iff_exists.mp q
    show Out.ok (oT p.1) r = _
    rw [e]; rfl
  refine n_seq (n_set (t := .int ((osOf ps).length : Int)) (r1 := r) (e_b1 (x := .lst ((osOf ps).map fun p => .int (p.1.getD 0))) (r1 := r) rfl (by show some (T.int (((osOf ps).map fun p => T.int (p.1.getD 0)).length : Nat)) = _; rw [List.length_map]))) ?_
  refine n_seq (n_set (t := .lst ((sortI (rank (osOf ps))).map T.int)) (r1 := r) (e_b1 (x := .lst ((rank (osOf ps)).map T.int)) (r1 := r) (e_own ?_) (sort_int r _))) ?_
  · have e0 := comp_all (vs := [6, 7]) (h := hTupL 2 (hCons (hName 6) (hCons (hName 7) hNil))) (f := fB1 intT (fBin addT (fBin mulT (fVar 7) (fVar 2)) (fVar 6))) (fi := fEnumA (fVar 1)) (r := r) (env := (((envOf 8 [t]).set 1 (.val (.lst ((osOf ps).map fun p => .int (p.1.getD 0))))).set 2 (.val (.int ((osOf ps).length : Int)))))
      (fun q : Pr × Nat => .tup [.int (q.2 : Nat), .int (q.1.1.getD 0)]) (fun q => .int (q.1.1.getD 0 * ((osOf ps).length : Int) + (q.2 : Int))) (osOf ps).zipIdx ?_ (fun q _ => ⟨_, rfl, ?_⟩) (by rw [List.length_zipIdx]; omega)
    · rw [e0]
      unfold rank
      rw [List.map_map]; rfl
    · show Out.ok (enumL 0 ((osOf ps).map fun p => T.int (p.1.getD 0))) r = _
      rw [enum_zip]
    · exact e_b1 (x := .int (q.1.1.getD 0 * ((osOf ps).length : Int) + (q.2 : Int))) (r1 := r) (e_bin (x := .int (q.1.1.getD 0 * ((osOf ps).length : Int))) (y := .int (q.2 : Int)) (r1 := r) (r2 := r) (e_bin (x := .int (q.1.1.getD 0)) (y := .int ((osOf ps).length : Int)) (r1 := r) (r2 := r) rfl rfl (lf_mulR (by omega))) rfl rfl) rfl
  refine n_seq (n_set (t := .lst ((osOf ps).map prT)) (r1 := r) (e_own (comp_ok prT prT (fun p => p.1.isSome) ps (it rfl) (fun p _ => ⟨_, rfl, e_cmpB (x := oT p.1) (y := .non) (r1 := r) (r2 := r) rfl rfl (nis_oT _), fun _ => rfl⟩) (by omega)))) ?_
  refine n_seqR (n_ret (t := .lst ((byL ps).map prT)) (r1 := r) (e_bin (x := .lst ((ps.filter fun p => p.1.isNone).map prT)) (y := .lst ((srt (osOf ps)).map prT)) (r1 := r) (r2 := r)
    (e_own (comp_ok prT prT (fun p => p.1.isNone) ps (it rfl) (fun p _ => ⟨_, rfl, e_cmpB (x := oT p.1) (y := .non) (r1 := r) (r2 := r) rfl rfl (is_oT _), fun _ => rfl⟩) (by omega))) (e_own ?_) ?_))
  · have e0 := comp_all (vs := [8]) (h := hName 8) (f := fIx (fVar 4) (fBin modT (fB1 intT (fVar 8)) (fVar 2))) (fi := fIter (fVar 3)) (r := r) (env := (((((envOf 8 [t]).set 1 (.val (.lst ((osOf ps).map fun p => .int (p.1.getD 0))))).set 2 (.val (.int ((osOf ps).length : Int)))).set 3 (.val (.lst ((sortI (rank (osOf ps))).map T.int)))).set 4 (.val (.lst ((osOf ps).map prT)))))
      T.int (fun z => prT (nthP (osOf ps) z)) (sortI (rank (osOf ps))) rfl (fun z m => ⟨_, rfl, ?_⟩) (by rw [(sortI_perm _).length_eq]; unfold rank; rw [List.length_map, List.length_zipIdx]; omega)
    · rw [e0]
      unfold srt
      rw [List.map_map]; rfl
    · obtain ⟨k, hk, e1, _, e3⟩ := rank_mem ((sortI_perm _).mem_iff.mp m)
      refine e_ix (x := .lst ((osOf ps).map prT)) (y := .int (z % ((osOf ps).length : Int))) (r1 := r) (r2 := r) rfl (e_bin (x := .int z) (y := .int ((osOf ps).length : Int)) (r1 := r) (r2 := r) rfl rfl (lf_mod (by omega))) ?_
      rw [e3, e1]
      exact atI_nat (xs := (osOf ps).map prT) (by rw [List.getElem?_map, List.getElem?_eq_getElem hk]; rfl)
  · show (if _ then _ else _) = _
    rw [if_pos]
    · unfold byL
      rw [List.map_append]
    · rw [List.length_map, List.length_map, (srt_perm _).length_eq]
      have := List.length_filter_le (fun p : Pr => p.1.isNone) ps
      omega
/-! united -/
section
variable {f g : Ep.Env → M T} {env : Ep.Env} {r : RS} {a b : Option Int}
theorem touch_ok (hf : f env r = .ok (oT a) r) (hg : g env r = .ok (oT b) r) : fOrB (fCmpB isT f (fC .non)) (fOrB (fCmpB isT g (fC .non)) (fCmpB leT g f)) env r = .ok (touches a b) r := by
  have k1 : fCmpB isT f (fC .non) env r = .ok a.isNone r := e_cmpB hf (y := .non) (r2 := r) rfl (is_oT a)
  have k2 : fCmpB isT g (fC .non) env r = .ok b.isNone r := e_cmpB hg (y := .non) (r2 := r) rfl (is_oT b)
  cases a with
  | none => exact e_orBT k1
  | some x =>
    refine e_orBF k1 ?_
    cases b with
    | none => exact e_orBT k2
    | some y => exact e_orBF k2 (e_cmpB hg hf rfl)
theorem far_ok (hf : f env r = .ok (oT a) r) (hg : g env r = .ok (oT b) r) : fIf (fOrB (fCmpB isT f (fC .non)) (fAndB (fCmpB nisT g (fC .non)) (fCmpB leT g f))) f g env r = .ok (oT (far a b)) r := by
  have k1 : fCmpB isT f (fC .non) env r = .ok a.isNone r := e_cmpB hf (y := .non) (r2 := r) rfl (is_oT a)
  have k2 : fCmpB nisT g (fC .non) env r = .ok b.isSome r := e_cmpB hg (y := .non) (r2 := r) rfl (nis_oT b)
  cases a with
  | none => exact e_ifT (e_orBT k1) hf
  | some x =>
    cases b with
    | none => exact e_ifF (e_orBF k1 (e_andBF k2)) hg
    | some y =>
      by_cases q : y ≤ x
      · rw [far_le q]
        exact e_ifT (e_orBF k1 (e_andBT k2 (e_cmpB hg hf (lf_le q)))) hf
      · rw [far_gt q]
        exact e_ifF (e_orBF k1 (e_andBT k2 (e_cmpB hg hf (lf_leF q)))) hg
end
abbrev prs (F : List Pr) : List T := F.reverse.map prT
theorem prs_cons (t : Pr) (F : List Pr) : prs (t :: F) = prs F ++ [prT t] := by unfold prs; rw [List.reverse_cons, List.map_append]; rfl
theorem ne_prs (F : List Pr) : neT (.lst (prs F)) (.lst []) = some (!F.isEmpty) := ne_pt lfI (n := 2) (b := F.isEmpty) (Pt.lst fun x m => by obtain ⟨p, _, rfl⟩ := List.mem_map.mp m; exact pt_pr p) (Pt.lst fun x m => absurd m List.not_mem_nil) (by decide) (by
  rw [List.isEmpty_iff]
  exact ⟨fun h => by rw [h]; rfl, fun h => by injection h with h; cases F with | nil => rfl | cons t F => rw [prs_cons] at h; simp at h⟩)
theorem uni_len (F : List Pr) (p : Pr) : (uni F p).length ≤ F.length + 1 := by
  unfold uni
  split
  · exact Nat.le_refl _
  · split <;> simp
theorem united_ok' {t : T} {ps : List Pr} (ht : iterT t = some (ps.map prT)) (hl : ps.length ≤ 40000) (r : RS) : F_united [t] r = .ok (.lst ((united ps).map prT)) r := by
  have ll : (byL ps).length ≤ 40000 := by rw [(byL_perm ps).length_eq]; exact hl
  refine n_fn (n_seq (x_own (xs := []) (r1 := r) rfl) ?_)
  have key := y_loop (r := r) (h := hTupL 2 (hCons (hName 2) (hCons (hName 3) hNil)))
    (s := qSeq (qIf (fAndB (fCmpB neT (fBor 1) (fLst [])) (fOrB (fCmpB isT (fIx (fIx (fBor 1) (fUn negT (fC (.int 1)))) (fC (.int 1))) (fC .non)) (fOrB (fCmpB isT (fVar 2) (fC .non)) (fCmpB leT (fVar 2) (fIx (fIx (fBor 1) (fUn negT (fC (.int 1)))) (fC (.int 1))))))) (qSeq (qAsg (fIx (fBor 1) (fUn negT (fC (.int 1)))) (hTupL 2 (hCons (hName 4) (hCons (hName 5) hNil))))
    (qSeq (qSetIx 1 (fTup [(fVar 4), (fIf (fOrB (fCmpB isT (fVar 5) (fC .non)) (fAndB (fCmpB nisT (fVar 3) (fC .non)) (fCmpB leT (fVar 3) (fVar 5)))) (fVar 5) (fVar 3))]) (fUn negT (fC (.int 1)))) qNil)) (qSeq (qApp 1 (fTup [(fVar 2), (fVar 3)])) qNil)) qNil)
    prT (fun L env => ∃ F s2 s3 s4 s5, env = [.val t, .own (prs F), s2, s3, s4, s5] ∧ L.foldl uni F = (byL ps).foldl uni [] ∧ F.length + L.length ≤ 40000) ?_ (byL ps) [.val t, .own [], .un, .un, .un, .un] ⟨[], _, _, _, _, rfl, rfl, by simpa using ll⟩
  · obtain ⟨e2, k, ⟨F, s2, s3, s4, s5, ee, hF, _⟩⟩ := key
    have fin := n_seq (s' := qSeq (qFrz [1] (qRet (fVar 1))) qNil) (n_for (fi := fIter (fCall F_by_lows [] [(fVar 0)])) (x_it (t := .lst ((byL ps).map prT)) (x_call (ts := [t]) (r1 := r) rfl (by_lows ht hl r)) rfl) k) rfl
    refine fin.trans ?_
    subst ee
    have hF : F = (byL ps).foldl uni [] := hF
    refine n_seqR (n_frz (n_ret (r1 := r) ?_))
    show Out.ok (T.lst (prs F)) r = _
    rw [hF]; rfl
  · intro p L env ⟨F, s2, s3, s4, s5, ee, hF, hn⟩
    subst ee
    rw [List.length_cons] at hn
    have ul := uni_len F p
    cases F with
    | nil =>
      refine ⟨_, _, rfl, n_seq (n_ifF (r1 := r) (e_andBF (e_cmpB (x := .lst []) (y := .lst []) (r1 := r) (r2 := r) rfl rfl rfl)) (n_seq (x_app (xs := []) (t := prT p) (r1 := r) rfl rfl (by decide)) rfl)) rfl, ⟨[p], .val (oT p.1), .val (oT p.2), s4, s5, rfl, hF, by simp at hn ⊢; omega⟩⟩
    | cons q F =>
      have lst : ∀ {s2 s3 s4 s5 : Slot}, fIx (fBor 1) (fUn negT (fC (.int 1))) [.val t, .own (prs (q :: F)), s2, s3, s4, s5] r = .ok (prT q) r := fun {s2 s3 s4 s5} => y_lastIx (xs := prs F) (by show some (Slot.own (prs (q :: F))) = _; rw [prs_cons])
      have k0 := e_cmpB (h := neT) (f := fBor 1) (g := fLst []) (env := [.val t, .own (prs (q :: F)), .val (oT p.1), .val (oT p.2), s4, s5]) (r := r) (x := .lst (prs (q :: F))) (y := .lst []) (r1 := r) (r2 := r) rfl rfl (ne_prs _)
      have kt := touch_ok (f := fIx (fIx (fBor 1) (fUn negT (fC (.int 1)))) (fC (.int 1))) (g := fVar 2) (env := [.val t, .own (prs (q :: F)), .val (oT p.1), .val (oT p.2), s4, s5]) (r := r) (a := q.2) (b := p.1) (e_ix lst (y := .int 1) (r2 := r) rfl rfl) rfl
      by_cases tc : touches q.2 p.1 = true
      · rw [tc] at kt
        have ku : uni (q :: F) p = (q.1, far q.2 p.2) :: F := if_pos tc
        refine ⟨_, _, rfl, n_seq (n_ifT (r1 := r) (e_andBT k0 kt) (n_seq (n_asg (x := prT q) (r1 := r) lst rfl) (n_seq (y_setLast (xs := prs F) (t := prT q) (u := prT (q.1, far q.2 p.2)) (by show some (Slot.own (prs (q :: F))) = _; rw [prs_cons]) (e_tup (e_cons (x := oT q.1) (r1 := r) rfl (e_cons (far_ok (a := q.2) (b := p.2) rfl rfl) e_nil)))) rfl))) rfl, ⟨(q.1, far q.2 p.2) :: F, .val (oT p.1), .val (oT p.2), .val (oT q.1), .val (oT q.2), ?_, ?_, ?_⟩⟩
        · rw [prs_cons (q.1, far q.2 p.2)]; rfl
        · rw [List.foldl_cons, ku] at hF; exact hF
        · simp at hn ⊢; omega
      · rw [Bool.eq_false_iff.mpr tc] at kt
        have ku : uni (q :: F) p = p :: q :: F := if_neg tc
        refine ⟨_, _, rfl, n_seq (n_ifF (r1 := r) (e_andBT k0 kt) (n_seq (x_app (xs := prs (q :: F)) (t := prT p) (r1 := r) rfl rfl (by unfold prs; rw [List.length_map, List.length_reverse]; simp at hn ⊢; omega)) rfl)) rfl, ⟨p :: q :: F, .val (oT p.1), .val (oT p.2), s4, s5, ?_, ?_, ?_⟩⟩
        · rw [prs_cons p]; rfl
        · rw [List.foldl_cons, ku] at hF; exact hF
        · simp at hn ⊢; omega
end K21
namespace K21
open PySem Ep L2 Rg
/-! lots, ends, rows joined -/
theorem ofP_int (p : Pr) : ([p.1, p.2].filter (·.isSome)).map oT = (ofP p).map T.int := by
  obtain ⟨a, b⟩ := p
  cases a <;> cases b <;> rfl
theorem ends {t : T} {ps : List Pr} (ht : iterT t = some (ps.map prT)) (hl : ps.length ≤ 20000) (r : RS) : F_ends_of [t] r = .ok (.lst ((ps.flatMap ofP).map T.int)) r := by
  have e : (ps.flatMap ofP).map T.int = ps.flatMap fun p => (ofP p).map T.int := by rw [List.map_flatMap]
  have l2 : ∀ p : Pr, ((ofP p).map T.int).length ≤ 2 := fun p => by
    obtain ⟨a, b⟩ := p
    cases a <;> cases b <;> simp [ofP]
  have ln : ∀ ps : List Pr, (ps.flatMap fun p => (ofP p).map T.int).length ≤ 2 * ps.length := fun ps => by
    induction ps with
    | nil => exact Nat.le_refl _
    | cons p ps ih =>
      rw [List.flatMap_cons, List.length_append, List.length_cons]
      have := l2 p
      omega
  rw [e]
  refine n_fn (n_seqR (n_ret (e_own (comp2_ok prT (fun p => (ofP p).map T.int) ps (x_it (t := t) rfl ht) (fun p _ => ⟨[.val t, .val (prT p), .un], [oT p.1, oT p.2], rfl, rfl, fun acc hacc => ?_⟩) (by have := ln ps; omega)))))
  have := compF_ok (vs := [2]) (h := hName 2) (p := fCmpB nisT (fVar 2) (fC .non)) (f := fVar 2) (env := [.val t, .val (prT p), .un]) (r := r) oT oT (fun o => o.isSome) [p.1, p.2] acc (fun o _ => ⟨[.val t, .val (prT p), .val (oT o)], rfl, e_cmpB (x := oT o) (y := .non) (r1 := r) (r2 := r) rfl rfl (nis_oT o), fun _ => rfl⟩) (by show acc.length + 2 ≤ 100000; omega)
  rw [ofP_int] at this
  exact this
theorem zip_o : ∀ (xs ys : List (Option Int)), zipL (xs.map oT) (ys.map oT) = (xs.zip ys).map prT
  | [], _ => rfl
  | _ :: _, [] => rfl
  | x :: xs, y :: ys => by
    show T.tup [oT x, oT y] :: zipL (xs.map oT) (ys.map oT) = _
    rw [zip_o xs ys]; rfl
theorem dd_len (ns : List Int) : (dd ns).length ≤ ns.length := by
  have := ddi_all ns []
  rw [List.length_nil, Nat.zero_add] at this
  exact this
theorem cuts_len (ns : List Int) : (cuts ns).length ≤ ns.length := by
  unfold cuts
  rw [(sortI_perm _).length_eq]
  exact dd_len ns
theorem rows_between {t : T} {ns : List Int} (ht : iterT t = some (ns.map T.int)) (hl : ns.length ≤ 40000) (r : RS) : F_rows_between [t] r = .ok (.lst ((lots none (cuts ns)).map prT)) r := by
  have dl := dd_len ns
  have cl := cuts_len ns
  refine n_fn (n_seq (n_set (t := .lst ((cuts ns).map T.int)) (r1 := r) (e_b1 (x := .lst ((dd ns).map T.int)) (r1 := r) (e_own ?_) (sort_int r _))) ?_)
  · refine comp_all T.int T.int (dd ns) (keys_ints T.int id ns (x_it (t := t) rfl ht) (fun n _ => ⟨_, .bl true, rfl, rfl, rfl⟩) (by omega) |>.trans (by rw [List.map_id]; rfl)) (fun n _ => ⟨_, rfl, rfl⟩) (by omega)
  · refine n_seqR (n_ret ?_)
    have ei : ∀ es : List Int, (es.map some).map oT = es.map T.int := fun es => by rw [List.map_map]; rfl
    have e1 : T.non :: (cuts ns).map T.int = (none :: (cuts ns).map some).map oT := by rw [List.map_cons, ei]; rfl
    have e2 : (cuts ns).map T.int ++ [T.non] = ((cuts ns).map some ++ [none]).map oT := by rw [List.map_append, ei]; rfl
    refine y_zipl (u := .lst (T.non :: (cuts ns).map T.int)) (v := .lst ((cuts ns).map T.int ++ [T.non])) (r1 := r) (r2 := r) (y_lstX (y_cons (t := .non) (r1 := r) rfl ((y_star (t := .lst ((cuts ns).map T.int)) (xs := (cuts ns).map T.int) (ys := []) (r1 := r) rfl rfl rfl).trans (by rw [List.append_nil]))) ?_) (y_lstX (y_star (t := .lst ((cuts ns).map T.int)) (xs := (cuts ns).map T.int) (ys := [.non]) (r1 := r) rfl rfl rfl) ?_) ?_
    · rw [List.length_cons, List.length_map, sizeLine_eq]; omega
    · rw [List.length_append, List.length_map, List.length_singleton, sizeLine_eq]; omega
    · show (if (zipL (T.non :: (cuts ns).map T.int) ((cuts ns).map T.int ++ [T.non])).length ≤ sizeLine then some (T.lst (zipL (T.non :: (cuts ns).map T.int) ((cuts ns).map T.int ++ [T.non]))) else none) = _
      rw [e1, e2, zip_o, zip_lots, if_pos]
      rw [List.length_map]
      have : ∀ (es : List Int) (b : Option Int), (lots b es).length = es.length + 1 := fun es => by
        induction es with
        | nil => intro b; rfl
        | cons e es ih => intro b; show (lots (some e) es).length + 1 = _; rw [ih]; rfl
      rw [this, sizeLine_eq]; omega
theorem inside (p w : Pr) (r : RS) : F_is_inside [prT p, prT w] r = .ok (.bl (isIn p w)) r := by
  obtain ⟨a, b⟩ := p
  obtain ⟨c, d⟩ := w
  have k1 : ∀ env : Ep.Env, env = [.val (prT (a, b)), .val (prT (c, d))] → (fAndB (fCmpB nisT (fIx (fVar 1) (fC (.int 0))) (fC .non)) (fOrB (fCmpB isT (fIx (fVar 0) (fC (.int 0))) (fC .non)) (fCmpB ltT (fIx (fVar 0) (fC (.int 0))) (fIx (fVar 1) (fC (.int 0)))))) env r = .ok (!loIn a c) r := fun env e => by
    subst e
    cases c with
    | none => rfl
    | some c =>
      cases a with
      | none => rfl
      | some a =>
        show Out.ok (decide (a < c)) r = Out.ok (!decide (c ≤ a)) r
        by_cases q : c ≤ a
        · rw [decide_eq_true q, decide_eq_false (by omega)]; rfl
        · rw [decide_eq_false q, decide_eq_true (by omega)]; rfl
  have k2 : ∀ env : Ep.Env, env = [.val (prT (a, b)), .val (prT (c, d))] → (fOr (fCmp isT (fIx (fVar 1) (fC (.int 1))) (fC .non)) (fAnd (fCmp nisT (fIx (fVar 0) (fC (.int 1))) (fC .non)) (fCmp leT (fIx (fVar 0) (fC (.int 1))) (fIx (fVar 1) (fC (.int 1)))))) env r = .ok (.bl (hiIn b d)) r := fun env e => by
    subst e
    cases d with
    | none => rfl
    | some d =>
      cases b with
      | none => rfl
      | some b => rfl
  show _ = Out.ok (T.bl (loIn a c && hiIn b d)) r
  cases q : loIn a c with
  | false =>
    exact n_fn (n_seqR (n_ifT (r1 := r) ((k1 _ rfl).trans (by rw [q]; rfl)) (n_seqR (n_ret rfl))))
  | true =>
    exact n_fn (n_seq (n_ifF (r1 := r) ((k1 _ rfl).trans (by rw [q]; rfl)) rfl) (n_seqR (n_ret ((k2 _ rfl).trans (by rfl)))))
abbrev sgs (F : List (Sg (List Pr))) : List T := F.reverse.map sgT
theorem sgs_cons (t : Sg (List Pr)) (F : List (Sg (List Pr))) : sgs (t :: F) = sgs F ++ [sgT t] := by unfold sgs; rw [List.reverse_cons, List.map_append]; rfl
theorem ne_sgs (F : List (Sg (List Pr))) : neT (.lst (sgs F)) (.lst []) = some (!F.isEmpty) := ne_pt lfI (n := 4) (b := F.isEmpty) (Pt.lst fun x m => by obtain ⟨p, _, rfl⟩ := List.mem_map.mp m; exact pt_sg p) (Pt.lst fun x m => absurd m List.not_mem_nil) (by decide) (by
  rw [List.isEmpty_iff]
  exact ⟨fun h => by rw [h]; rfl, fun h => by injection h with h; cases F with | nil => rfl | cons t F => rw [sgs_cons] at h; simp at h⟩)
theorem jn_len (F : List (Sg (List Pr))) (s : Sg (List Pr)) : (jn [] F s).length ≤ F.length + 1 := by
  unfold jn
  split
  · omega
  · split
    · exact Nat.le_refl _
    · split <;> simp
theorem joined_s (rows : List (Sg (List Pr))) (hl : rows.length ≤ 90000) (r : RS) : F_joined_slabs [.lst (rows.map sgT)] r = .ok (slabsT (joined [] rows)) r := by
  refine n_fn (n_seq (x_own (xs := []) (r1 := r) rfl) ?_)
  have key := y_loop (r := r) (h := hTupL 3 (hCons (hName 2) (hCons (hName 3) (hCons (hName 4) hNil))))
    (s := qSeq (qIf (fCmpB neT (fVar 4) (fTup [])) (qSeq (qIf (fAndB (fCmpB neT (fBor 1) (fLst [])) (fAndB (fCmpB eqT (fIx (fIx (fBor 1) (fUn negT (fC (.int 1)))) (fC (.int 1))) (fVar 2)) (fCmpB eqT (fIx (fIx (fBor 1) (fUn negT (fC (.int 1)))) (fC (.int 2))) (fVar 4)))) (qSeq (qSetIx 1 (fTup [(fIx (fIx (fBor 1) (fUn negT (fC (.int 1)))) (fC (.int 0))), (fVar 3), (fVar 4)]) (fUn negT (fC (.int 1))))
    qNil) (qSeq (qApp 1 (fTup [(fVar 2), (fVar 3), (fVar 4)])) qNil)) qNil) qNil) qNil)
    sgT (fun L env => ∃ F s2 s3 s4, env = [.val (.lst (rows.map sgT)), .own (sgs F), s2, s3, s4] ∧ L.foldl (jn []) F = rows.foldl (jn []) [] ∧ F.length + L.length ≤ 90000) ?_ rows [.val (.lst (rows.map sgT)), .own [], .un, .un, .un] ⟨[], _, _, _, rfl, rfl, by simpa using hl⟩
  · obtain ⟨e2, k, ⟨F, s2, s3, s4, ee, hF, hn⟩⟩ := key
    refine (n_seq (s' := qSeq (qFrz [1] (qRet (fB1 tupT (fBor 1)))) qNil) (n_for (fi := fIter (fVar 0)) (x_it (t := .lst (rows.map sgT)) rfl rfl) k) rfl).trans ?_
    subst ee
    have hF : F = rows.foldl (jn []) [] := hF
    refine n_seqR (n_frz (n_ret (r1 := r) ?_))
    show Out.ok (T.tup (sgs F)) r = _
    rw [hF]; rfl
  · intro s L env ⟨F, s2, s3, s4, ee, hF, hn⟩
    subst ee
    rw [List.length_cons] at hn
    have jl := jn_len F s
    rw [List.foldl_cons] at hF
    have nr := ne_row s.2.2 []
    by_cases hv : s.2.2 = []
    · have nr : neT (rowT s.2.2) (.tup []) = some false := by rw [decide_eq_true hv] at nr; exact nr
      refine ⟨_, _, rfl, n_seq (n_ifF (r1 := r) (e_cmpB (x := rowT s.2.2) (y := .tup []) (r1 := r) (r2 := r) rfl rfl nr) rfl) rfl, ⟨F, .val (oT s.1), .val (oT s.2.1), .val (rowT s.2.2), rfl, ?_, by omega⟩⟩
      rw [show jn [] F s = F from if_pos hv] at hF
      exact hF
    · have nr : neT (rowT s.2.2) (.tup []) = some true := by rw [decide_eq_false hv] at nr; exact nr
      have c0 : fCmpB neT (fVar 4) (fTup []) [.val (.lst (rows.map sgT)), .own (sgs F), .val (oT s.1), .val (oT s.2.1), .val (rowT s.2.2)] r = .ok true r := e_cmpB (x := rowT s.2.2) (y := .tup []) (r1 := r) (r2 := r) rfl rfl nr
      cases F with
      | nil =>
        refine ⟨_, _, rfl, n_seq (n_ifT (r1 := r) c0 (n_seq (n_ifF (r1 := r) (e_andBF (e_cmpB (x := .lst []) (y := .lst []) (r1 := r) (r2 := r) rfl rfl rfl)) (n_seq (x_app (xs := []) (t := sgT s) (r1 := r) rfl rfl (by decide)) rfl)) rfl)) rfl, ⟨[s], .val (oT s.1), .val (oT s.2.1), .val (rowT s.2.2), rfl, ?_, by simp at hn ⊢; omega⟩⟩
        rw [show jn [] [] s = [s] from if_neg hv] at hF
        exact hF
      | cons q F =>
        have lst : fIx (fBor 1) (fUn negT (fC (.int 1))) [.val (.lst (rows.map sgT)), .own (sgs (q :: F)), .val (oT s.1), .val (oT s.2.1), .val (rowT s.2.2)] r = .ok (sgT q) r := y_lastIx (xs := sgs F) (by show some (Slot.own (sgs (q :: F))) = _; rw [sgs_cons])
        have k0 := e_cmpB (h := neT) (f := fBor 1) (g := fLst []) (env := [.val (.lst (rows.map sgT)), .own (sgs (q :: F)), .val (oT s.1), .val (oT s.2.1), .val (rowT s.2.2)]) (r := r) (x := .lst (sgs (q :: F))) (y := .lst []) (r1 := r) (r2 := r) rfl rfl (ne_sgs _)
        have k1 := e_cmpB (h := eqT) (g := fVar 2) (e_ix lst (y := .int 1) (r2 := r) (g := fC (.int 1)) rfl (sg1 r q)) (y := oT s.1) (r2 := r) rfl (eq_o q.2.1 s.1)
        have k2 := e_cmpB (h := eqT) (g := fVar 4) (e_ix lst (y := .int 2) (r2 := r) (g := fC (.int 2)) rfl (sg2 r q)) (y := rowT s.2.2) (r2 := r) rfl (eq_row q.2.2 s.2.2)
        have ju : jn [] (q :: F) s = if q.2.1 = s.1 ∧ q.2.2 = s.2.2 then (q.1, s.2.1, s.2.2) :: F else s :: q :: F := if_neg hv
        have app : ∀ {b1 : Bool}, fAndB (fCmpB neT (fBor 1) (fLst [])) (fAndB (fCmpB eqT (fIx (fIx (fBor 1) (fUn negT (fC (.int 1)))) (fC (.int 1))) (fVar 2)) (fCmpB eqT (fIx (fIx (fBor 1) (fUn negT (fC (.int 1)))) (fC (.int 2))) (fVar 4))) [.val (.lst (rows.map sgT)), .own (sgs (q :: F)), .val (oT s.1), .val (oT s.2.1), .val (rowT s.2.2)] r = .ok false r → jn [] (q :: F) s = s :: q :: F → ∃ e1 e2, hTupL 3 (hCons (hName 2) (hCons (hName 3) (hCons (hName 4) hNil))) (sgT s) [.val (.lst (rows.map sgT)), .own (sgs (q :: F)), s2, s3, s4] = some e1 ∧ (qSeq (qIf (fCmpB neT (fVar 4) (fTup [])) (qSeq (qIf (fAndB (fCmpB neT (fBor 1) (fLst [])) (fAndB (fCmpB eqT (fIx (fIx (fBor 1) (fUn negT (fC (.int 1)))) (fC (.int 1))) (fVar 2)) (fCmpB eqT (fIx (fIx (fBor 1) (fUn negT (fC (.int 1)))) (fC (.int 2))) (fVar 4)))) (qSeq (qSetIx 1 (fTup [(fIx (fIx (fBor 1) (fUn negT (fC (.int 1)))) (fC (.int 0))), (fVar 3), (fVar 4)]) (fUn negT (fC (.int 1))))
    qNil) (qSeq (qApp 1 (fTup [(fVar 2), (fVar 3), (fVar 4)])) qNil)) qNil) qNil) qNil) e1 r = .nx e2 r ∧ ∃ F s2 s3 s4, e2 = [.val (.lst (rows.map sgT)), .own (sgs F), s2, s3, s4] ∧ L.foldl (jn []) F = rows.foldl (jn []) [] ∧ F.length + L.length ≤ 90000 := fun {_} kf e => by
          refine ⟨_, _, rfl, n_seq (n_ifT (r1 := r) c0 (n_seq (n_ifF (r1 := r) kf (n_seq (x_app (xs := sgs (q :: F)) (t := sgT s) (r1 := r) rfl rfl (by unfold sgs; rw [List.length_map, List.length_reverse]; simp at hn ⊢; omega)) rfl)) rfl)) rfl, ⟨s :: q :: F, .val (oT s.1), .val (oT s.2.1), .val (rowT s.2.2), ?_, ?_, by simp at hn ⊢; omega⟩⟩
          · rw [sgs_cons s]; rfl
          · rw [e] at hF; exact hF
        by_cases q1 : q.2.1 = s.1
        · by_cases q2 : q.2.2 = s.2.2
          · rw [decide_eq_true q1] at k1
            rw [decide_eq_true q2] at k2
            rw [if_pos ⟨q1, q2⟩] at ju
            refine ⟨_, _, rfl, n_seq (n_ifT (r1 := r) c0 (n_seq (n_ifT (r1 := r) (e_andBT k0 (e_andBT k1 k2)) (n_seq (y_setLast (xs := sgs F) (t := sgT q) (u := sgT (q.1, s.2.1, s.2.2)) (by show some (Slot.own (sgs (q :: F))) = _; rw [sgs_cons]) (e_tup (e_cons (x := oT q.1) (r1 := r) (e_ix lst (y := .int 0) (r2 := r) rfl (sg0 r q)) (e_cons (x := oT s.2.1) (r1 := r) rfl (e_cons (x := rowT s.2.2) (r1 := r) rfl e_nil))))) rfl)) rfl)) rfl, ⟨(q.1, s.2.1, s.2.2) :: F, .val (oT s.1), .val (oT s.2.1), .val (rowT s.2.2), ?_, ?_, by simp at hn ⊢; omega⟩⟩
            · rw [sgs_cons (q.1, s.2.1, s.2.2)]; rfl
            · rw [ju] at hF; exact hF
          · rw [decide_eq_true q1] at k1
            rw [decide_eq_false q2] at k2
            exact app (b1 := true) (e_andBT k0 (e_andBT k1 k2)) (by rw [ju, if_neg fun h => q2 h.2])
        · rw [decide_eq_false q1] at k1
          exact app (b1 := true) (e_andBT k0 (e_andBF k1)) (by rw [ju, if_neg fun h => q1 h.1])
end K21
namespace K21
open PySem Ep L2 Rg Dr
/-! slabs of boxes -/
theorem lots_len : ∀ (es : List Int) (b : Option Int), (lots b es).length = es.length + 1
  | [], _ => rfl
  | e :: es, b => by show (lots (some e) es).length + 1 = _; rw [lots_len es]; rfl
theorem itG {t : T} {bs : List Bx} {c : Option (Nat × List T)} {r : RS} {env : Ep.Env} (h0 : env[0]? = some (.val t)) (ht : EnTltR r t = some (bs.map bxT, c)) : fIterG (fVar 0) env r = .ok (bs.map bxT, c) r := bind_ok (a := t) (r1 := r) (by unfold fVar; rw [h0]; rfl) (by show M.lift (EnTltR r t) r = _; rw [ht]; rfl)
theorem ofP_len (p : Pr) : (ofP p).length ≤ 2 := by
  obtain ⟨a, b⟩ := p
  cases a <;> cases b <;> simp [ofP]
theorem ofPs_len : ∀ (ps : List Pr), (ps.flatMap ofP).length ≤ 2 * ps.length
  | [] => Nat.le_refl _
  | p :: ps => by
    rw [List.flatMap_cons, List.length_append, List.length_cons]
    have := ofP_len p
    have := ofPs_len ps
    omega
theorem flt_all {α : Type} (xs : List α) : xs.filter (fun _ => true) = xs := List.filter_eq_self.mpr fun _ _ => rfl
noncomputable abbrev sbBody : Sm := (qSeq (qSet 4 (fOwn (fCompG [5] (hName 5) (fTru (fCall F_is_inside [] [(fTup [(fVar 2), (fVar 3)]), (fSl (fVar 5) (some (fC (.int 2))) none)])) (fSl (fVar 5) none (some (fC (.int 2)))) (fIterG (fVar 0)))))
    (qSeq (qApp 1 (fTup [(fVar 2), (fVar 3), (fB1 tupT (fCall F_united [] [(fVar 4)]))]))
    qNil))
theorem slabs_of {t : T} {bs : List Bx} {c : Option (Nat × List T)} {r : RS} (ht : EnTltR r t = some (bs.map bxT, c)) (ck : chkR c r) (hl : bs.length ≤ 100) : F_slabs_of_boxes [t] r = .ok (slabsT (slabsB bs)) r := by
  refine n_fn (n_seq (x_own (xs := []) (r1 := r) rfl) ?_)
  have k1 : fOwn (fCompG [5] (hName 5) fYes (fSl (fVar 5) (some (fC (.int 2))) none) (fIterG (fVar 0))) [.val t, .own [], .un, .un, .un, .un] r = .ok (.lst ((bs.map (·.2)).map prT)) r := e_own (by
    have := compR_ok (vs := [5]) (h := hName 5) (p := fYes) (f := fSl (fVar 5) (some (fC (.int 2))) none) (env := [.val t, .own [], .un, .un, .un, .un]) bxT (fun b => prT b.2) (fun _ => true) bs (itG rfl ht) ck (fun b _ => ⟨_, rfl, rfl, fun _ => x_sl1 (x := bxT b) (j := 2) (r1 := r) (r2 := r) rfl rfl rfl⟩) (by omega)
    rw [flt_all] at this
    rw [List.map_map]
    exact this)
  have k2 := ends (t := .lst ((bs.map (·.2)).map prT)) rfl (by rw [List.length_map]; omega) r
  have ce : (bs.map (·.2)).flatMap ofP = bs.flatMap fun b => ofP b.2 := by rw [List.flatMap_map]
  have fl := ofPs_len (bs.map (·.2))
  rw [List.length_map] at fl
  have k3 := rows_between (t := .lst (((bs.map (·.2)).flatMap ofP).map T.int)) rfl (by omega) r
  have cl := cuts_len ((bs.map (·.2)).flatMap ofP)
  have ll := lots_len (cuts ((bs.map (·.2)).flatMap ofP)) none
  have key := y_loop (r := r) (h := hTupL 2 (hCons (hName 2) (hCons (hName 3) hNil))) (s := sbBody) prT
    (fun L env => ∃ rows s2 s3 s4 s5, env = [.val t, .own (rows.map sgT), s2, s3, s4, s5] ∧ rows ++ (L.map fun p => (p.1, p.2, united (hereOf bs p))) = lotRows (fun lo hi => united (hereOf bs (lo, hi))) none (cuts ((bs.map (·.2)).flatMap ofP)) ∧ rows.length + L.length ≤ 1000) ?_ (lots none (cuts ((bs.map (·.2)).flatMap ofP))) [.val t, .own [], .un, .un, .un, .un] ⟨[], _, _, _, _, rfl, rfl, by rw [ll, List.length_nil]; omega⟩
  · obtain ⟨e2, k, ⟨rows, s2, s3, s4, s5, ee, hF, hn⟩⟩ := key
    refine (n_seq (s' := qSeq (qFrz [1] (qRet (fCall F_joined_slabs [] [(fVar 1)]))) qNil) (n_for (fi := fIter (fCall F_rows_between [] [(fCall F_ends_of [] [(fOwn (fCompG [5] (hName 5) fYes (fSl (fVar 5) (some (fC (.int 2))) none) (fIterG (fVar 0))))])])) (x_it (t := .lst ((lots none (cuts ((bs.map (·.2)).flatMap ofP))).map prT)) (call1 (call1 k1 k2) k3) rfl) k) rfl).trans ?_
    subst ee
    rw [List.map_nil, List.append_nil] at hF
    refine n_seqR (n_frz (n_ret (r1 := r) (call1 (t := .lst (rows.map sgT)) rfl ?_)))
    rw [joined_s rows (by omega) r, hF, ce]
    rfl
  · intro p L env ⟨rows, s2, s3, s4, s5, ee, hF, hn⟩
    subst ee
    rw [List.length_cons] at hn
    have hh : (hereOf bs p).length ≤ 100 := by
      unfold hereOf
      rw [List.length_map]
      have := List.length_filter_le (fun b : Bx => isIn p b.2) bs
      omega
    have c1 := compR_ok (vs := [5]) (h := hName 5) (p := fTru (fCall F_is_inside [] [(fTup [(fVar 2), (fVar 3)]), (fSl (fVar 5) (some (fC (.int 2))) none)])) (f := fSl (fVar 5) none (some (fC (.int 2)))) (env := [.val t, .own (rows.map sgT), .val (oT p.1), .val (oT p.2), s4, s5]) bxT (fun b => prT b.1) (fun b => isIn p b.2) bs (itG rfl ht) ck (fun b _ => ⟨_, rfl, e_tru (x := .bl (isIn p b.2)) (r1 := r) (call2 (t := prT p) (v := prT b.2) rfl (x_sl1 (x := bxT b) (j := 2) (r1 := r) (r2 := r) rfl rfl rfl) (inside p b.2 r)) rfl, fun _ => x_sl0 (x := bxT b) (j := 2) (r1 := r) (r2 := r) rfl rfl rfl⟩) (by omega)
    have c2 : (bs.filter fun b => isIn p b.2).map (fun b => prT b.1) = (hereOf bs p).map prT := by unfold hereOf; rw [List.map_map]; rfl
    rw [c2] at c1
    have c3 := united_ok' (t := .lst ((hereOf bs p).map prT)) rfl (by omega) r
    refine ⟨_, _, rfl, n_seq (n_set (t := .lst ((hereOf bs p).map prT)) (r1 := r) (e_own c1)) (n_seq (x_app (xs := rows.map sgT) (t := sgT (p.1, p.2, united (hereOf bs p))) (r1 := r) (e_tup (e_cons (x := oT p.1) (r1 := r) rfl (e_cons (x := oT p.2) (r1 := r) rfl (e_cons (x := rowT (united (hereOf bs p))) (r1 := r) (e_b1 (x := .lst ((united (hereOf bs p)).map prT)) (r1 := r) (call1 (t := .lst ((hereOf bs p).map prT)) rfl c3) rfl) e_nil)))) rfl (by rw [List.length_map]; omega)) rfl), ⟨rows ++ [(p.1, p.2, united (hereOf bs p))], .val (oT p.1), .val (oT p.2), .val (.lst ((hereOf bs p).map prT)), s5, ?_, ?_, ?_⟩⟩
    · rw [List.map_append]; rfl
    · rw [List.append_assoc]; exact hF
    · rw [List.length_append, List.length_singleton]; omega
end K21
namespace K21
open PySem Ep L2 Rg Dr
/-! boxes told -/
theorem side (a b : Option Int) (r : RS) : F_is_side [oT a, oT b] r = .ok (.bl (fits a b)) r := by
  cases a <;> cases b <;> rfl
theorem box (b : Bx) (r : RS) : F_is_box [bxT b] r = .ok (.bl (bfit b)) r := by
  have k1 := side b.1.1 b.1.2 r
  have k2 := side b.2.1 b.2.2 r
  have k : (fAnd (fCall F_is_side [] [(fIx (fVar 0) (fC (.int 0))), (fIx (fVar 0) (fC (.int 1)))]) (fCall F_is_side [] [(fIx (fVar 0) (fC (.int 2))), (fIx (fVar 0) (fC (.int 3)))])) [.val (bxT b)] r = .ok (.bl (bfit b)) r := by
    unfold bfit pfit
    have c1 := call2 (F := F_is_side) (f := fIx (fVar 0) (fC (.int 0))) (g := fIx (fVar 0) (fC (.int 1))) (env := [.val (bxT b)]) (t := oT b.1.1) (v := oT b.1.2) rfl rfl k1
    have c2 := call2 (F := F_is_side) (f := fIx (fVar 0) (fC (.int 2))) (g := fIx (fVar 0) (fC (.int 3))) (env := [.val (bxT b)]) (t := oT b.2.1) (v := oT b.2.2) rfl rfl k2
    cases q : fits b.1.1 b.1.2 with
    | true => rw [q] at c1; exact e_andT c1 c2
    | false => rw [q] at c1; exact e_andF c1
  exact n_fn (n_seq (n_ifF (r1 := r) rfl rfl) (n_seqR (n_ret k)))
def odds : List T := [.non, .int 5, .tup [.int 0, .int 1, .int 0], .lst [.int 0, .int 1, .int 0, .int 1], .tup [.int 0, .int 0, .int 0, .int 1], .tup [.int 1, .int 0, .int 0, .int 1], .tup [.int 0, .int 1, .int 3, .int 3], .tup [.int 0, .int 1, .int 0, .str "1"], .tup [.int 0, .bl true, .int 0, .int 1]]
theorem odd_no {o : T} (h : o ∈ odds) (r : RS) : F_is_box [o] r = .ok (.bl false) r := by
  simp only [odds, List.mem_cons, List.not_mem_nil, or_false] at h
  rcases h with rfl | rfl | rfl | rfl | rfl | rfl | rfl | rfl | rfl <;> rfl
structure To (t : T) (xs : List T) (r : RS) : Prop where
  at_ : ∃ c, EnTltR r t = some (xs, c) ∧ chkR c r
  no : isiT tab t (.cl 5) = some (.bl false)
  list : F_is_list [t] r = .ok (.bl true) r
  len : lenT r t = some (.int (xs.length : Int))
theorem to_lst (xs : List T) (r : RS) : To (.lst xs) xs r := ⟨⟨none, rfl, trivial⟩, rfl, rfl, rfl⟩
theorem to_tup (xs : List T) (r : RS) : To (.tup xs) xs r := ⟨⟨none, rfl, trivial⟩, rfl, rfl, rfl⟩
theorem to_ref {k : Nat} {xs : List T} {r : RS} (h : r[k]? = some xs) : To (.ref k) xs r := by
  refine ⟨⟨some (k, xs), ?_, h⟩, rfl, rfl, ?_⟩
  · show (r[k]?).map _ = _; rw [h]; rfl
  · show (r[k]?).map _ = _; rw [h]; rfl
abbrev tBody : Sm := (qSeq (qIf (fNotB (fTru (fCall F_is_box [] [(fVar 2)]))) (qSeq (qRaise 2 (fVar 1)) qNil) qNil) qNil)
abbrev tEnv (t : T) (env : Ep.Env) : Prop := ∃ s1 s2, env = [.val t, s1, s2]
theorem t_step (t : T) (r : RS) (b : Bx) (hb : bfit b = true) (n : Nat) (env : Ep.Env) (h : tEnv t env) : ∃ e1 e2, hTupL 2 (hCons (hName 1) (hCons (hName 2) hNil)) (.tup [.int (n : Nat), bxT b]) env = some e1 ∧ tBody e1 r = .nx e2 r ∧ tEnv t e2 := by
  obtain ⟨s1, s2, rfl⟩ := h
  refine ⟨_, _, rfl, n_seq (n_ifF (r1 := r) (e_notB (b := true) (e_tru (x := .bl true) (r1 := r) (call1 (t := bxT b) rfl ((box b r).trans (by rw [hb]))) rfl)) rfl) rfl, ⟨_, _, rfl⟩⟩
theorem bx_map : ∀ {bs : List Bx}, (∀ b ∈ bs, bfit b = true) → ∃ L : List {b : Bx // bfit b = true}, bs.map bxT = L.map fun b => bxT b.1
  | [], _ => ⟨[], rfl⟩
  | b :: bs, f => by
    obtain ⟨L, e⟩ := bx_map fun c hc => f c (List.mem_cons_of_mem _ hc)
    exact ⟨⟨b, f b List.mem_cons_self⟩ :: L, by rw [List.map_cons, e]; rfl⟩
theorem told_pre {t : T} {xs : List T} {r : RS} (T0 : To t xs r) {s : Sm} {so : SO} (h : s [.val t, .un, .un] r = so) : qSeq (qIf (fTru (fBin (isiT tab) (fVar 0) (fC (.cl 5)))) (qSeq (qRet (fFld m_rows (fVar 0))) qNil) qNil) (qSeq (qIf (fNotB (fTru (fCall F_is_list [] [(fVar 0)]))) (qSeq (qRaise 0 (fC (.str "boxes"))) qNil) qNil) s) (envOf 2 [t]) r = so :=
  n_seq (n_ifF (r1 := r) (e_tru (x := .bl false) (r1 := r) (e_bin (x := t) (y := .cl 5) (r1 := r) (r2 := r) rfl rfl T0.no) rfl) rfl) (n_seq (n_ifF (r1 := r) (e_notB (b := true) (e_tru (x := .bl true) (r1 := r) (call1 (t := t) rfl T0.list) rfl)) rfl) h)
theorem told {t : T} {bs : List Bx} {r : RS} (T0 : To t (bs.map bxT) r) (f : ∀ b ∈ bs, bfit b = true) (hl : bs.length ≤ 40) : F_slabs_told [t] r = .ok (slabsT (slabsB bs)) r := by
  obtain ⟨c, hc, ck⟩ := T0.at_
  refine n_fn (told_pre T0 ?_)
  obtain ⟨L, eL⟩ := bx_map f
  obtain ⟨e2, k, ⟨s1, s2, ee⟩⟩ := loop_at (h := hTupL 2 (hCons (hName 1) (hCons (hName 2) hNil))) (s := tBody) ck (fun b : {b : Bx // bfit b = true} => bxT b.1) (tEnv t) (fun _ => []) (fun b n env => t_step t r b.1 b.2 n env) L 0 [] [.val t, .un, .un] ⟨_, _, rfl⟩
  rw [← eL, List.append_nil] at k
  have k' : loopG c (hTupL 2 (hCons (hName 1) (hCons (hName 2) hNil))) tBody (enumL 0 (bs.map bxT)) [.val t, .un, .un] r = .nx e2 r := k.trans (loopG_nil ck)
  refine n_seq (n_forG (r1 := r) (e_enumG (t := t) (r1 := r) rfl hc) k') ?_
  subst ee
  have l0 := T0.len
  rw [List.length_map] at l0
  refine n_seq (n_ifF (r1 := r) (e_cmpB (x := .int (bs.length : Int)) (y := .int 40) (r1 := r) (r2 := r) (e_b1 (x := t) (r1 := r) rfl l0) rfl (lf_gtF (by omega))) rfl) ?_
  exact n_seqR (n_ret (call1 (t := t) rfl (slabs_of hc ck (by omega))))
theorem told_odd {t : T} {bs : List Bx} {o : T} {more : List T} {r : RS} (T0 : To t (bs.map bxT ++ o :: more) r) (f : ∀ b ∈ bs, bfit b = true) (ho : o ∈ odds) : F_slabs_told [t] r = .exn 2 (.int (bs.length : Int)) r := by
  obtain ⟨c, hc, ck⟩ := T0.at_
  obtain ⟨L, eL⟩ := bx_map f
  obtain ⟨e2, k, ⟨s1, s2, ee⟩⟩ := loop_at (h := hTupL 2 (hCons (hName 1) (hCons (hName 2) hNil))) (s := tBody) ck (fun b : {b : Bx // bfit b = true} => bxT b.1) (tEnv t) (fun _ => []) (fun b n env => t_step t r b.1 b.2 n env) L 0 (o :: more) [.val t, .un, .un] ⟨_, _, rfl⟩
  rw [← eL] at k
  have ll : L.length = bs.length := by rw [← List.length_map (as := L) (f := fun b => bxT b.1), ← eL, List.length_map]
  rw [ll, Nat.zero_add] at k
  subst ee
  have k' : loopG c (hTupL 2 (hCons (hName 1) (hCons (hName 2) hNil))) tBody (enumL 0 (bs.map bxT ++ o :: more)) [.val t, .un, .un] r = .exn 2 (.int (bs.length : Int)) [.val t, .val (.int (bs.length : Nat)), .val o] r :=
    k.trans (loop_exn (e1 := [.val t, .val (.int (bs.length : Nat)), .val o]) ck rfl (n_seqX (n_ifT (r1 := r) (e_notB (b := false) (e_tru (x := .bl false) (r1 := r) (call1 (t := o) rfl (odd_no ho r)) rfl)) (n_seqX (n_raise rfl)))))
  exact n_fnX (told_pre T0 (n_seqX (n_forG (r1 := r) (e_enumG (t := t) (r1 := r) rfl hc) k')))
theorem told_many {t : T} {bs : List Bx} {r : RS} (T0 : To t (bs.map bxT) r) (f : ∀ b ∈ bs, bfit b = true) (hl : 40 < bs.length) : F_slabs_told [t] r = .exn 4 (.int 40) r := by
  obtain ⟨c, hc, ck⟩ := T0.at_
  obtain ⟨L, eL⟩ := bx_map f
  obtain ⟨e2, k, ⟨s1, s2, ee⟩⟩ := loop_at (h := hTupL 2 (hCons (hName 1) (hCons (hName 2) hNil))) (s := tBody) ck (fun b : {b : Bx // bfit b = true} => bxT b.1) (tEnv t) (fun _ => []) (fun b n env => t_step t r b.1 b.2 n env) L 0 [] [.val t, .un, .un] ⟨_, _, rfl⟩
  rw [← eL, List.append_nil] at k
  have k' : loopG c (hTupL 2 (hCons (hName 1) (hCons (hName 2) hNil))) tBody (enumL 0 (bs.map bxT)) [.val t, .un, .un] r = .nx e2 r := k.trans (loopG_nil ck)
  subst ee
  have l0 := T0.len
  rw [List.length_map] at l0
  exact n_fnX (told_pre T0 (n_seq (n_forG (r1 := r) (e_enumG (t := t) (r1 := r) rfl hc) k') (n_seqX (n_ifT (r1 := r) (e_cmpB (x := .int (bs.length : Int)) (y := .int 40) (r1 := r) (r2 := r) (e_b1 (x := t) (r1 := r) rfl l0) rfl (lf_gt (by omega))) (n_seqX (n_raise rfl))))))
/-! regions -/
abbrev rg (bs : List Bx) : T := .obj 6 [slabsT (slabsB bs)]
theorem init {t : T} {bs : List Bx} {r : RS} (T0 : To t (bs.map bxT) r) (f : ∀ b ∈ bs, bfit b = true) (hl : bs.length ≤ 40) : F_Region_init [t] r = .ok [slabsT (slabsB bs)] r := by
  unfold F_Region_init fnI
  rw [show g_Region_init (.ins 6 [] :: envOf 0 [t]) r = .nx [.ins 6 [slabsT (slabsB bs)], .val t] r from n_seq (n_fld (n := 0) (ts := []) (r1 := r) rfl rfl (call1 (t := t) rfl (told T0 f hl))) rfl]
  rfl
theorem initX {t p : T} {i : Nat} {r : RS} (h : F_slabs_told [t] r = .exn i p r) : F_Region_init [t] r = .exn i p r := by
  have c : qFld 0 6 0 (fCall F_slabs_told [] [(fVar 1)]) (.ins 6 [] :: envOf 0 [t]) r = .exn i p (.ins 6 [] :: envOf 0 [t]) r := by
    have e : fCall F_slabs_told [] [(fVar 1)] (.ins 6 [] :: envOf 0 [t]) r = .exn i p r := x_call (ts := [t]) (r1 := r) (e_cons (x := t) (r1 := r) rfl e_nil) h
    unfold qFld
    show (if 6 = 6 ∧ ([] : List T).length = 0 then ofM (.ins 6 [] :: envOf 0 [t]) _ _ else SO.bad) = _
    rw [if_pos ⟨rfl, rfl⟩, e]; rfl
  unfold F_Region_init fnI
  rw [show g_Region_init (.ins 6 [] :: envOf 0 [t]) r = .exn i p (.ins 6 [] :: envOf 0 [t]) r from n_seqX c]
theorem made {t : T} {bs : List Bx} {r r1 : RS} {g : Ep.Env → M T} {env : Ep.Env} (h : g env r = .ok t r1) (T0 : To t (bs.map bxT) r1) (f : ∀ b ∈ bs, bfit b = true) (hl : bs.length ≤ 40) : fMake 6 F_Region_init [] [g] env r = .ok (rg bs) r1 := x_make (ts := [t]) (r1 := r1) (e_cons h e_nil) (init T0 f hl)
theorem madeX {t p : T} {i : Nat} {r r1 : RS} {g : Ep.Env → M T} {env : Ep.Env} (h : g env r = .ok t r1) (hx : F_slabs_told [t] r1 = .exn i p r1) : fMake 6 F_Region_init [] [g] env r = .exn i p r1 := e_makeX (ts := [t]) (r1 := r1) (e_cons h e_nil) (by rw [List.append_nil]; exact initX hx)
theorem eqR (bs cs : List Bx) (r : RS) : F_Region_eq [rg bs, rg cs] r = .ok (.bl (decide (slabsB bs = slabsB cs))) r :=
  n_fn (n_seqR (n_ret (e_andT (r1 := r) rfl (e_cmp (x := slabsT (slabsB bs)) (y := slabsT (slabsB cs)) (r1 := r) (r2 := r) rfl rfl (eq_slabs _ _)))))
end K21
namespace K21
open PySem Ep L2 Rg Dr
/-! cells of regions -/
theorem uni_fold_len : ∀ (ps F : List Pr), (ps.foldl uni F).length ≤ F.length + ps.length
  | [], F => Nat.le_refl _
  | p :: ps, F => by
    rw [List.foldl_cons, List.length_cons]
    have := uni_fold_len ps (uni F p)
    have := uni_len F p
    omega
theorem united_len (ps : List Pr) : (united ps).length ≤ ps.length := by
  unfold united
  rw [List.length_reverse]
  have := uni_fold_len (byL ps) []
  rw [(byL_perm ps).length_eq, List.length_nil] at this
  omega
theorem at_len (bs : List Bx) (y : Int) : (at_ [] (slabsB bs) y).length ≤ bs.length := by
  rw [(slabs_ok bs).2 y]
  have h1 := united_len ((bs.filter fun b => pin y b.2).map (·.1))
  rw [List.length_map] at h1
  have h2 := List.length_filter_le (fun b : Bx => pin y b.2) bs
  omega
abbrev stBody : Sm := (qSeq (qIf (fTru (fCall F_is_inside [] [(fVar 1), (fSl (fVar 2) none (some (fC (.int 2))))])) (qSeq (qRet (fIx (fVar 2) (fC (.int 2)))) qNil) qNil) qNil)
theorem st_loop (A : T) (y : Int) (r : RS) : ∀ (ss : List (Sg (List Pr))) (s2 : Slot), (∃ e2, loopF (hName 2) stBody (ss.map sgT) [.val A, .val (prT (some y, some (y + 1))), s2] r = .nx e2 r ∧ at_ [] ss y = []) ∨ loopF (hName 2) stBody (ss.map sgT) [.val A, .val (prT (some y, some (y + 1))), s2] r = .rt (rowT (at_ [] ss y)) r
  | [], s2 => .inl ⟨_, rfl, rfl⟩
  | s :: ss, s2 => by
    have c := inside (some y, some (y + 1)) (s.1, s.2.1) r
    rw [isIn_one] at c
    have c : fTru (fCall F_is_inside [] [(fVar 1), (fSl (fVar 2) none (some (fC (.int 2))))]) [.val A, .val (prT (some y, some (y + 1))), .val (sgT s)] r = .ok (inb s.1 s.2.1 y) r := e_tru (call2 (t := prT (some y, some (y + 1))) (v := prT (s.1, s.2.1)) rfl (x_sl0 (x := sgT s) (j := 2) (r1 := r) (r2 := r) rfl rfl rfl) c) rfl
    have ea : at_ [] (s :: ss) y = if inb s.1 s.2.1 y = true then s.2.2 else at_ [] ss y := rfl
    cases q : inb s.1 s.2.1 y with
    | true =>
      rw [q] at c ea
      rw [ea, if_pos rfl]
      exact .inr (n_loopR (x := sgT s) rfl (n_seqR (n_ifT (r1 := r) c (n_seqR (n_ret (e_ix (x := sgT s) (y := .int 2) (r1 := r) (r2 := r) rfl rfl (sg2 r s)))))))
    | false =>
      rw [q] at c ea
      rw [ea, if_neg (by decide)]
      have st : stBody [.val A, .val (prT (some y, some (y + 1))), .val (sgT s)] r = .nx [.val A, .val (prT (some y, some (y + 1))), .val (sgT s)] r := n_seq (n_ifF (r1 := r) c rfl) rfl
      rcases st_loop A y r ss (.val (sgT s)) with ⟨e2, k, z⟩ | k
      · exact .inl ⟨e2, n_loop (x := sgT s) rfl st k, z⟩
      · exact .inr (n_loop (x := sgT s) rfl st k)
theorem stretches (ss : List (Sg (List Pr))) (y : Int) (r : RS) : F_stretches_of_rows [slabsT ss, prT (some y, some (y + 1))] r = .ok (rowT (at_ [] ss y)) r := by
  refine n_fn ?_
  rcases st_loop (slabsT ss) y r ss .un with ⟨e2, k, z⟩ | k
  · rw [z]
    exact n_seq (n_for (fi := fIter (fVar 0)) (x_it (t := slabsT ss) rfl rfl) k) (n_seqR (n_ret rfl))
  · exact n_seqR (n_for (fi := fIter (fVar 0)) (x_it (t := slabsT ss) rfl rfl) k)
theorem bls_map {α : Type} (f : α → Bool) : ∀ xs : List α, blsT (xs.map fun a => T.bl (f a)) = some (xs.map f)
  | [] => rfl
  | a :: xs => by
    show (blsT (xs.map fun a => T.bl (f a))).map (f a :: ·) = _
    rw [bls_map f xs]; rfl
theorem any_map {α : Type} (f : α → Bool) (xs : List α) (r : RS) : anyT r (.lst (xs.map fun a => T.bl (f a))) = some (.bl (xs.any f)) := by
  show (blsT (xs.map fun a => T.bl (f a))).map _ = _
  rw [bls_map]
  show some (T.bl ((xs.map f).any _root_.id)) = _
  rw [List.any_map]; rfl
def has (bs : List Bx) (x y : Int) : Bool := bs.any fun b => pin x b.1 && pin y b.2
theorem has_cell {bs : List Bx} (f : ∀ b ∈ bs, bfit b = true) (hl : bs.length ≤ 100) (x y : Int) (r : RS) : F_Region_contains [rg bs, .tup [.int x, .int y]] r = .ok (.bl (has bs x y)) r := by
  have al := at_len bs y
  refine n_fn (n_seq (n_ifF (r1 := r) (e_notB (b := true) (e_tru (x := .bl true) (r1 := r) (call1 (t := .tup [.int x, .int y]) rfl rfl) rfl)) rfl) (n_seq (n_set (t := rowT (at_ [] (slabsB bs) y)) (r1 := r) (call2 (t := slabsT (slabsB bs)) (v := prT (some y, some (y + 1))) rfl rfl (stretches _ y r))) (n_seqR (n_ret (e_b1 (x := .lst ((at_ [] (slabsB bs) y).map fun p => .bl (pin x p))) (r1 := r) (e_own ?_) ?_)))))
  · refine comp_all prT (fun p => .bl (pin x p)) _ (x_it (t := rowT (at_ [] (slabsB bs) y)) rfl rfl) (fun p _ => ⟨_, rfl, ?_⟩) (by omega)
    have c := inside (some x, some (x + 1)) p r
    rw [isIn_one] at c
    exact call2 (t := prT (some x, some (x + 1))) (v := prT p) rfl rfl c
  · rw [any_map, (slabs_in f x y).2]; rfl
def noCells : List T := [.non, .int 5, .tup [.int 0], .tup [.int 0, .int 0, .int 0], .lst [.int 0, .int 0], .tup [.int 0, .bl true], .tup [.str "0", .int 0], .tup [.int 0, .non]]
theorem no_cell (bs : List Bx) {o : T} (h : o ∈ noCells) (r : RS) : F_Region_contains [rg bs, o] r = .ok (.bl false) r := by
  have k : F_is_cell [o] r = .ok (.bl false) r := by
    simp only [noCells, List.mem_cons, List.not_mem_nil, or_false] at h
    rcases h with rfl | rfl | rfl | rfl | rfl | rfl | rfl | rfl <;> rfl
  exact n_fn (n_seqR (n_ifT (r1 := r) (e_notB (b := false) (e_tru (x := .bl false) (r1 := r) (call1 (t := o) rfl k) rfl)) (n_seqR (n_ret rfl))))
theorem lies (lo hi : Option Int) (i : Int) (r : RS) : F__law_lies [oT lo, oT hi, .int i] r = .ok (.bl (inb lo hi i)) r := by
  cases lo with
  | none => cases hi <;> rfl
  | some l =>
    show _ = Out.ok (T.bl (decide (l ≤ i) && hiB hi i)) r
    by_cases q : l ≤ i
    · rw [decide_eq_true q]
      refine n_fn (n_seqR (n_ret (e_andT (r1 := r) (e_orF (r1 := r) rfl (e_cmp (x := .int l) (y := .int i) (r1 := r) (r2 := r) rfl rfl (lf_le q))) ?_)))
      cases hi <;> rfl
    · rw [decide_eq_false q]
      exact n_fn (n_seqR (n_ret (e_andF (r1 := r) (e_orF (r1 := r) rfl (e_cmp (x := .int l) (y := .int i) (r1 := r) (r2 := r) rfl rfl (lf_leF q))))))
theorem pt_bx (b : Bx) : Pt LfI 1 (bxT b) := Pt.tup fun x m => by
  simp only [List.mem_cons, List.not_mem_nil, or_false] at m
  rcases m with rfl | rfl | rfl | rfl <;> exact pt_o _
theorem ne_bxs (bs : List Bx) : neT (.lst (bs.map bxT)) (.lst []) = some (!bs.isEmpty) := ne_pt lfI (n := 2) (b := bs.isEmpty) (Pt.lst fun x m => by obtain ⟨p, _, rfl⟩ := List.mem_map.mp m; exact pt_bx p) (Pt.lst fun x m => absurd m List.not_mem_nil) (by decide) (by
  rw [List.isEmpty_iff]
  exact ⟨fun h => by rw [h]; rfl, fun h => by cases bs with | nil => rfl | cons b bs => injection h with h; cases h⟩)
theorem any_filter {α : Type} (p : α → Bool) : ∀ xs : List α, (!(xs.filter p).isEmpty) = xs.any p
  | [] => rfl
  | a :: xs => by
    rw [List.filter_cons, List.any_cons]
    cases p a with
    | true => rfl
    | false => rw [if_neg (by decide), any_filter p xs]; rfl
theorem law_has (bs : List Bx) (hl : bs.length ≤ 100) (x y : Int) (r : RS) : F__law_has [.lst (bs.map bxT), .int x, .int y] r = .ok (.bl (has bs x y)) r := by
  refine n_fn (n_seqR (n_ret (e_cmp (x := .lst ((bs.filter fun b => pin x b.1 && pin y b.2).map bxT)) (y := .lst []) (r1 := r) (r2 := r) (e_own ?_) rfl ?_)))
  · refine comp_ok bxT bxT _ bs (x_it (t := .lst (bs.map bxT)) rfl rfl) (fun b _ => ⟨_, rfl, ?_, fun _ => rfl⟩) (by omega)
    have c1 : fTru (fCall F__law_lies [] [(fIx (fVar 3) (fC (.int 0))), (fIx (fVar 3) (fC (.int 1))), (fVar 1)]) [.val (.lst (bs.map bxT)), .val (.int x), .val (.int y), .val (bxT b)] r = .ok (pin x b.1) r := e_tru (call3 (t := oT b.1.1) (v := oT b.1.2) (w := .int x) rfl rfl rfl (lies _ _ _ r)) rfl
    have c2 : fTru (fCall F__law_lies [] [(fIx (fVar 3) (fC (.int 2))), (fIx (fVar 3) (fC (.int 3))), (fVar 2)]) [.val (.lst (bs.map bxT)), .val (.int x), .val (.int y), .val (bxT b)] r = .ok (pin y b.2) r := e_tru (call3 (t := oT b.2.1) (v := oT b.2.2) (w := .int y) rfl rfl rfl (lies _ _ _ r)) rfl
    cases q : pin x b.1 with
    | true => rw [q] at c1; exact e_andBT c1 c2
    | false => rw [q] at c1; exact e_andBF c1
  · rw [ne_bxs, any_filter]; rfl
theorem ne_b (b : Bool) : neT (.bl b) (.bl b) = some false := by cases b <;> rfl
def sq : List Int := [-9, -8, -7, -6, -5, -4, -3, -2, -1, 0, 1, 2, 3, 4, 5, 6, 7, 8]
theorem square (r : RS) : F__law_square [] r = .ok (.lst (sq.map T.int)) r := rfl
abbrev cIn : Sm := (qSeq (qIf (fCmpB neT (fun env => (fTup [(fVar 3), (fVar 2)]) env >>= fun x => (fVar 1) env >>= fun y => own2c 6 F_Region_contains x y) (fCall F__law_has [] [(fVar 0), (fVar 3), (fVar 2)])) (qSeq (qRet (fC (.bl false)))
    qNil) qNil)
    (qSeq (qIf (fCmpB neT (fun env => (fTup [(fBin powT (fC (.int 10)) (fC (.int 40))), (fVar 3)]) env >>= fun x => (fVar 1) env >>= fun y => own2c 6 F_Region_contains x y) (fCall F__law_has [] [(fVar 0), (fBin powT (fC (.int 10)) (fC (.int 40))), (fVar 3)])) (qSeq (qRet (fC (.bl false)))
    qNil) qNil)
    qNil))
theorem pow40 {env : Ep.Env} {r : RS} : fBin powT (fC (.int 10)) (fC (.int 40)) env r = .ok (.int (10 ^ 40)) r := rfl
theorem cells_right {bs : List Bx} (f : ∀ b ∈ bs, bfit b = true) (hl : bs.length ≤ 100) (r : RS) : F__law_cells_right [.lst (bs.map bxT), rg bs] r = .ok (.bl true) r := by
  have e1 : (fIter (fBin addT (fCall F__law_square [] []) (fLst [(fBin powT (fC (.int 10)) (fC (.int 40))), (fBin subT (fC (.int 0)) (fBin powT (fC (.int 10)) (fC (.int 40))))]))) (envOf 3 [.lst (bs.map bxT), rg bs]) r = .ok ((sq ++ [10 ^ 40, -10 ^ 40]).map T.int) r := by
    refine x_it (t := .lst ((sq ++ [10 ^ 40, -10 ^ 40]).map T.int)) (e_bin (x := .lst (sq.map T.int)) (y := .lst [.int (10 ^ 40), .int (-10 ^ 40)]) (r1 := r) (r2 := r) (x_call (ts := []) (r1 := r) rfl (square r)) (e_lst (e_cons (x := .int (10 ^ 40)) (r1 := r) pow40 (e_cons (x := .int (-10 ^ 40)) (r1 := r) (e_bin (h := subT) (x := .int 0) (y := .int (10 ^ 40)) (r1 := r) (r2 := r) rfl pow40 rfl) e_nil))) rfl) rfl
  have inn : ∀ (y : Int) (s3 s4 : Slot), ∃ e2, loopF (hName 3) cIn (sq.map T.int) [.val (.lst (bs.map bxT)), .val (rg bs), .val (.int y), s3, s4] r = .nx e2 r ∧ ∃ s3 s4, e2 = [.val (.lst (bs.map bxT)), .val (rg bs), .val (.int y), s3, s4] := fun y s3 s4 =>
    y_loop (r := r) (h := hName 3) (s := cIn) T.int (fun _ env => ∃ s3 s4, env = [.val (.lst (bs.map bxT)), .val (rg bs), .val (.int y), s3, s4]) (fun x L env ⟨s3, s4, ee⟩ => by
      subst ee
      refine ⟨_, _, rfl, n_seq (n_ifF (r1 := r) (e_cmpB (x := .bl (has bs x y)) (y := .bl (has bs x y)) (r1 := r) (r2 := r) (two_ok (x := .tup [.int x, .int y]) (y := rg bs) (r1 := r) (r2 := r) rfl rfl (e_own2c (has_cell f hl x y r))) (call3 (t := .lst (bs.map bxT)) (v := .int x) (w := .int y) rfl rfl rfl (law_has bs hl x y r)) (ne_b _)) rfl) (n_seq (n_ifF (r1 := r) (e_cmpB (x := .bl (has bs (10 ^ 40) x)) (y := .bl (has bs (10 ^ 40) x)) (r1 := r) (r2 := r) (two_ok (x := .tup [.int (10 ^ 40), .int x]) (y := rg bs) (r1 := r) (r2 := r) (e_tup (e_cons (x := .int (10 ^ 40)) (r1 := r) pow40 (e_cons (x := .int x) (r1 := r) rfl e_nil))) rfl (e_own2c (has_cell f hl (10 ^ 40) x r))) (call3 (t := .lst (bs.map bxT)) (v := .int (10 ^ 40)) (w := .int x) rfl pow40 rfl (law_has bs hl (10 ^ 40) x r)) (ne_b _)) rfl) rfl), ⟨_, _, rfl⟩⟩) sq _ ⟨_, _, rfl⟩
  obtain ⟨e2, k, ⟨s2, s3, s4, ee⟩⟩ := y_loop (r := r) (h := hName 2) (s := qSeq (qFor (fIter (fCall F__law_square [] [])) (hName 3) cIn) qNil) T.int (fun _ env => ∃ s2 s3 s4, env = [.val (.lst (bs.map bxT)), .val (rg bs), s2, s3, s4]) (fun y L env ⟨s2, s3, s4, ee⟩ => by
    subst ee
    obtain ⟨e2, k, ⟨s3', s4', ee⟩⟩ := inn y s3 s4
    subst ee
    exact ⟨_, _, rfl, n_seq (n_for (x_it (t := .lst (sq.map T.int)) (x_call (ts := []) (r1 := r) rfl (square r)) rfl) k) rfl, ⟨_, _, _, rfl⟩⟩) (sq ++ [10 ^ 40, -10 ^ 40]) (envOf 3 [.lst (bs.map bxT), rg bs]) ⟨_, _, _, rfl⟩
  subst ee
  refine n_fn (n_seq (n_for e1 k) (n_seqR (n_ret (e_cmp (x := .lst []) (y := .lst []) (r1 := r) (r2 := r) (e_own ?_) rfl rfl))))
  have := comp_ok (vs := [4]) (h := hName 4) (p := fToB (fun env => (fVar 4) env >>= fun x => (fVar 1) env >>= fun y => own2c 6 F_Region_contains x y)) (f := fVar 4) (env := [.val (.lst (bs.map bxT)), .val (rg bs), s2, s3, s4]) (r := r) (fi := fIter (fLst [(fC .non), (fC (.int 5)), (fTup [(fC (.int 0))]), (fTup [(fC (.int 0)), (fC (.int 0)), (fC (.int 0))]), (fLst [(fC (.int 0)), (fC (.int 0))]), (fTup [(fC (.int 0)), (fC (.bl true))]), (fTup [(fC (.str "0")), (fC (.int 0))]), (fTup [(fC (.int 0)), (fC .non)])])) (fun t : T => t) (fun t => t) (fun _ => false) noCells (by rw [List.map_id']; rfl) (fun o ho => ⟨_, rfl, e_toB (two_ok (x := o) (y := rg bs) (r1 := r) (r2 := r) rfl rfl (e_own2c (no_cell bs ho r))), fun q => by cases q⟩) (by decide)
  exact this
end K21
namespace K21
open PySem Ep L2 Rg Dr
/-! drawn boxes -/
theorem take {k : Nat} {n : Int} {r : RS} (h : Pool k r) (hn : 0 < n) (hn2 : n.natAbs < 2 ^ 1000) : ∃ v r', F__law_take [.ref k, .int n] r = .ok (.int v) r' ∧ Pool k r' ∧ 0 ≤ v ∧ v < n := Dr.take h hn hn2
theorem pick {k : Nat} {xs : List T} {r : RS} (h : Pool k r) (h0 : 0 < xs.length) (h1 : xs.length < 2 ^ 64) : ∃ t r', F__law_one [.ref k, .lst xs] r = .ok t r' ∧ Pool k r' ∧ t ∈ xs := Dr.pick h h0 h1
theorem pool (ns : List Int) (h : ns.length ≤ 63) (k : Nat) (k1 : k < 64) (r : RS) : ∃ a b, F__law_pool [.kls (ns.map T.int), .int (k : Int)] r = .ok (.ref r.length) (r ++ [[.int a, .int b]]) := Dr.pool ns h k k1 r
theorem draw_side {k : Nat} {r : RS} (h : Pool k r) : ∃ p r', F__law_side [.ref k] r = .ok (prT p) r' ∧ Pool k r' ∧ pfit p = true := by
  obtain ⟨v1, r1, e1, p1, a1, b1⟩ := take (n := 9) h (by decide) (by decide)
  obtain ⟨v2, r2, e2, p2, a2, b2⟩ := take (n := 5) p1 (by decide) (by decide)
  obtain ⟨v3, r3, e3, p3, a3, b3⟩ := take (n := 12) p2 (by decide) (by decide)
  obtain ⟨c1, k1⟩ : ∃ c, inT (.int v3) (.lst [.int 0, .int 2]) = some c := ⟨_, rfl⟩
  obtain ⟨c2, k2⟩ : ∃ c, inT (.int v3) (.lst [.int 1, .int 2]) = some c := ⟨_, rfl⟩
  refine ⟨(if c1 = true then none else some (v1 - 5), if c2 = true then none else some (v1 - 5 + 1 + v2)), r3, ?_, p3, ?_⟩
  · refine n_fn (n_seq (n_set (t := .int (v1 - 5)) (r1 := r1) (e_bin (x := .int v1) (y := .int 5) (r1 := r1) (r2 := r1) (call2 (t := .ref k) (v := .int 9) rfl rfl e1) rfl rfl)) (n_seq (n_set (t := .int (v1 - 5 + 1 + v2)) (r1 := r2) (e_bin (x := .int (v1 - 5 + 1)) (y := .int v2) (r1 := r1) (r2 := r2) (e_bin (x := .int (v1 - 5)) (y := .int 1) (r1 := r1) (r2 := r1) rfl rfl rfl) (call2 (t := .ref k) (v := .int 5) rfl rfl e2) rfl)) (n_seq (n_set (t := .int v3) (r1 := r3) (call2 (t := .ref k) (v := .int 12) rfl rfl e3)) (n_seqR (n_ret (e_tup (e_cons (x := oT (if c1 = true then none else some (v1 - 5))) (r1 := r3) ?_ (e_cons (x := oT (if c2 = true then none else some (v1 - 5 + 1 + v2))) (r1 := r3) ?_ e_nil))))))))
    · cases c1 with
      | true => exact e_ifT (e_cmpB (x := .int v3) (y := .lst [.int 0, .int 2]) (r1 := r3) (r2 := r3) rfl rfl k1) rfl
      | false => exact e_ifF (e_cmpB (x := .int v3) (y := .lst [.int 0, .int 2]) (r1 := r3) (r2 := r3) rfl rfl k1) rfl
    · cases c2 with
      | true => exact e_ifT (e_cmpB (x := .int v3) (y := .lst [.int 1, .int 2]) (r1 := r3) (r2 := r3) rfl rfl k2) rfl
      | false => exact e_ifF (e_cmpB (x := .int v3) (y := .lst [.int 1, .int 2]) (r1 := r3) (r2 := r3) rfl rfl k2) rfl
  · cases c1 <;> cases c2 <;> first | rfl | exact decide_eq_true (by omega)
theorem draw_box {k : Nat} {r : RS} (h : Pool k r) : ∃ b r', F__law_box [.ref k] r = .ok (bxT b) r' ∧ Pool k r' ∧ bfit b = true := by
  obtain ⟨p, r1, e1, p1, f1⟩ := draw_side h
  obtain ⟨q, r2, e2, p2, f2⟩ := draw_side p1
  refine ⟨(p, q), r2, n_fn (n_seqR (n_ret (e_bin (x := prT p) (y := prT q) (r1 := r1) (r2 := r2) (call1 (t := .ref k) rfl e1) (call1 (t := .ref k) rfl e2) rfl))), p2, ?_⟩
  unfold bfit
  rw [f1, f2]; rfl
theorem bxs_of : ∀ {ys : List T}, (∀ y ∈ ys, ∃ b, y = bxT b ∧ bfit b = true) → ∃ bs : List Bx, ys = bs.map bxT ∧ ∀ b ∈ bs, bfit b = true
  | [], _ => ⟨[], rfl, fun _ h => absurd h List.not_mem_nil⟩
  | y :: ys, h => by
    obtain ⟨b, rfl, hb⟩ := h y List.mem_cons_self
    obtain ⟨bs, e, hs⟩ := bxs_of fun z hz => h z (List.mem_cons_of_mem _ hz)
    refine ⟨b :: bs, by rw [e]; rfl, fun c hc => ?_⟩
    rcases List.mem_cons.mp hc with rfl | hc
    · exact hb
    · exact hs c hc
theorem draw_boxes {k : Nat} {r : RS} (h : Pool k r) : ∃ (bs : List Bx) (r' : RS), F__law_boxes [.ref k, .int 6, .bl false] r = .ok (.lst (bs.map bxT)) r' ∧ Pool k r' ∧ (∀ b ∈ bs, bfit b = true) ∧ bs.length ≤ 6 := by
  obtain ⟨v, r1, e1, p1, a1, b1⟩ := take (n := 7) h (by decide) (by decide)
  obtain ⟨ys, r2, c2, h2, q2, l2⟩ := comp_st (vs := [3]) (h := hName 3) (p := fYes) (f := fIf (fTru (fVar 2)) (fCall F__law_ended [] [(fVar 0)]) (fCall F__law_box [] [(fVar 0)])) (env := [.val (.ref k), .val (.int 6), .val (.bl false), .un]) (I := Pool k) (Q := fun y => ∃ b, y = bxT b ∧ bfit b = true) (rngL 0 v.toNat) [] r1 p1 (fun x hx r hr => by
    obtain ⟨b, r', e, h', hb⟩ := draw_box hr
    exact ⟨[.val (.ref k), .val (.int 6), .val (.bl false), .val x], bxT b, r', rfl, rfl, e_ifF (r1 := r) rfl (call1 (t := .ref k) rfl e), h', b, rfl, hb⟩) (fun y hy => absurd hy List.not_mem_nil) (by simp [rngL]; omega)
  obtain ⟨bs, rfl, hb⟩ := bxs_of q2
  have ll : bs.length = v.toNat := by
    rw [List.length_map] at l2
    rw [l2]; simp [rngL]
  refine ⟨bs, r2, n_fn (n_seqR (n_ret (e_own (bind_ok (a := rngL 0 v.toNat) (r1 := r1) (rng1s (call2 (t := .ref k) (v := .int 7) rfl rfl e1) (by omega)) c2)))), h2, hb, by omega⟩
/-! the refused -/
theorem heardP {act : M T} {r r' : RS} {p : T} (h : act r = .exn 0 p r') : heardS 2 hs__law_caught rest__law_caught act r = .ok (.lst [.str "part", p]) r' :=
  heard_rt ((qTry_x (ofM_x h)).trans rfl)
theorem heardI {act : M T} {r r' : RS} {p : T} (h : act r = .exn 2 p r') : heardS 2 hs__law_caught rest__law_caught act r = .ok (.lst [.str "index", p]) r' :=
  heard_rt ((qTry_x (ofM_x h)).trans rfl)
theorem heardM {act : M T} {r r' : RS} {p : T} (h : act r = .exn 4 p r') : heardS 2 hs__law_caught rest__law_caught act r = .ok (.lst [.str "many", p]) r' :=
  heard_rt ((qTry_x (ofM_x h)).trans rfl)
theorem ne_told (s : Str) (hs : PyData.strOk s = true) (n : Int) : neT (.lst [.str s, .int n]) (.lst [.str s, .int n]) = some false := by
  have p : Pt LfI 1 (.lst [.str s, .int n]) := Pt.lst fun x m => by
    simp only [List.mem_cons, List.not_mem_nil, or_false] at m
    rcases m with rfl | rfl
    · exact .inr (.inr ⟨s, rfl, hs⟩)
    · exact .inr (.inl ⟨n, rfl⟩)
  exact ne_pt lfI (n := 1) (b := true) p p (by decide) ⟨fun _ => rfl, fun _ => rfl⟩
def unit (k : Nat) : Bx := ((some (k : Int), some ((k : Int) + 1)), (some 0, some 1))
def units (n : Nat) : List Bx := (List.range n).map unit
theorem unit_fit (k : Nat) : bfit (unit k) = true := by
  show (decide ((k : Int) < (k : Int) + 1) && decide ((0 : Int) < 1)) = true
  rw [decide_eq_true (by omega)]; rfl
theorem units_fit (n : Nat) : ∀ b ∈ units n, bfit b = true := fun b m => by
  obtain ⟨k, _, rfl⟩ := List.mem_map.mp m
  exact unit_fit k
theorem units_len (n : Nat) : (units n).length = n := by unfold units; rw [List.length_map, List.length_range]
theorem units_take : (units 41).take 40 = units 40 := by decide +kernel
theorem forty : slabsB (units 40) = slabsB [((some 0, some 40), (some 0, some 1))] := by
  have f1 := units_fit 40
  have f2 : ∀ b ∈ [(((some 0, some 40), (some 0, some 1)) : Bx)], bfit b = true := fun b m => by rw [List.mem_singleton.mp m]; rfl
  refine can_one (slabs_ok _).1 (slabs_ok _).1 fun y => row_one (slabs_in f1 0 y).1 (slabs_in f2 0 y).1 fun x => ?_
  rw [(slabs_in f1 x y).2, (slabs_in f2 x y).2, List.any_cons, List.any_nil, Bool.or_false]
  cases q : pin y (some 0, some 1) with
  | false =>
    rw [Bool.and_false, List.any_eq_false]
    intro b m
    obtain ⟨k, _, rfl⟩ := List.mem_map.mp m
    show ¬ (pin x (some (k : Int), some ((k : Int) + 1)) && pin y (some 0, some 1)) = true
    rw [q, Bool.and_false]; decide
  | true =>
    rw [Bool.and_true, Bool.eq_iff_iff, List.any_eq_true]
    constructor
    · rintro ⟨b, m, h⟩
      obtain ⟨k, hk, rfl⟩ := List.mem_map.mp m
      rw [List.mem_range] at hk
      have h : (pin x (some (k : Int), some ((k : Int) + 1)) && pin y (some 0, some 1)) = true := h
      rw [q, Bool.and_true] at h
      have h := inb_ss.mp h
      exact inb_ss.mpr (by omega)
    · intro h
      have h := inb_ss.mp h
      refine ⟨unit x.toNat, List.mem_map.mpr ⟨x.toNat, List.mem_range.mpr (by omega), rfl⟩, ?_⟩
      show (pin x (some (x.toNat : Int), some ((x.toNat : Int) + 1)) && pin y (some 0, some 1)) = true
      rw [q, Bool.and_true]
      exact inb_ss.mpr (by omega)
end K21
namespace K21
open PySem Ep L2 Rg Dr
theorem told_part {o : T} (h : o ∈ [T.non, .int 5, .str "boxes", .dct [] []]) (r : RS) : F_slabs_told [o] r = .exn 0 (.str "boxes") r := by
  simp only [List.mem_cons, List.not_mem_nil, or_false] at h
  rcases h with rfl | rfl | rfl | rfl <;> rfl
theorem ne_part : neT (.lst [.str "part", .str "boxes"]) (.lst [.str "part", .str "boxes"]) = some false := by
  have p : Pt LfI 1 (.lst [.str "part", .str "boxes"]) := Pt.lst fun x m => by
    simp only [List.mem_cons, List.not_mem_nil, or_false] at m
    rcases m with rfl | rfl
    · exact .inr (.inr ⟨_, rfl, by decide +kernel⟩)
    · exact .inr (.inr ⟨_, rfl, by decide +kernel⟩)
  exact ne_pt lfI (n := 1) (b := true) p p (by decide) ⟨fun _ => rfl, fun _ => rfl⟩
theorem refused {k : Nat} {r : RS} (h : Pool k r) {bs : List Bx} (f : ∀ b ∈ bs, bfit b = true) (hl : bs.length ≤ 6) : ∃ r', F__law_refused [.ref k, .lst (bs.map bxT)] r = .ok (.bl true) r' ∧ Pool k r' := by
  obtain ⟨o, r1, e1, p1, ho⟩ := pick (xs := odds) h (by decide) (by decide)
  obtain ⟨v, r2, e2, p2, a2, b2⟩ := take (n := (bs.length : Int) + 1) p1 (by omega) (by omega)
  obtain ⟨j, rfl⟩ : ∃ j : Nat, v = (j : Int) := ⟨v.toNat, by omega⟩
  have jl : j ≤ bs.length := by omega
  refine ⟨r2, ?_, p2⟩
  have il : ∀ {env : Ep.Env}, env[1]? = some (.val (.lst (bs.map bxT))) → fVar 1 env r2 = .ok (.lst (bs.map bxT)) r2 := fun {env} h => by unfold fVar; rw [h]; rfl
  have tl : ((bs.take j).map bxT).length = j := by rw [List.length_map, List.length_take]; omega
  have ls : (bs.map bxT).length = bs.length := List.length_map _
  have fT : ∀ b ∈ bs.take j, bfit b = true := fun b m => f b (List.mem_of_mem_take m)
  have tj : (bs.take j).length = j := by rw [List.length_take]; omega
  have wh : (bs.map bxT).take j ++ [o, .non] ++ (bs.map bxT).drop j = (bs.take j).map bxT ++ o :: (.non :: (bs.map bxT).drop j) := by
    rw [← List.map_take]; simp
  have c3 : ∀ (s5 s6 s7 : Slot), fCmpB neT (fun env => heardS 2 hs__law_caught rest__law_caught ((fMake 6 F_Region_init [] [(fBin addT (fBin addT (fSl (fVar 1) none (some (fVar 4))) (fLst [(fVar 3), (fC .non)])) (fSl (fVar 1) (some (fVar 4)) none))]) env)) (fLst [(fC (.str "index")), (fVar 4)]) [.val (.ref k), .val (.lst (bs.map bxT)), .val (.lst odds), .val o, .val (.int (j : Int)), s5, s6, s7] r2 = .ok false r2 := fun s5 s6 s7 => by
    refine e_cmpB (x := .lst [.str "index", .int (j : Int)]) (y := .lst [.str "index", .int (j : Int)]) (r1 := r2) (r2 := r2) (heardI (madeX (t := .lst ((bs.map bxT).take j ++ [o, .non] ++ (bs.map bxT).drop j)) ?_ ?_)) rfl (ne_told "index" (by decide +kernel) _)
    · refine e_bin (x := .lst ((bs.map bxT).take j ++ [o, .non])) (y := .lst ((bs.map bxT).drop j)) (r1 := r2) (r2 := r2) (e_bin (x := .lst ((bs.map bxT).take j)) (y := .lst [o, .non]) (r1 := r2) (r2 := r2) (x_sl0 (x := .lst (bs.map bxT)) (j := (j : Int)) (r1 := r2) (r2 := r2) rfl rfl (sl_take _ _ _)) rfl (add_lst ?_)) (x_sl1 (x := .lst (bs.map bxT)) (j := (j : Int)) (r1 := r2) (r2 := r2) rfl rfl (sl_drop _ _ _)) (add_lst ?_)
      · rw [List.length_take]; simp; omega
      · rw [List.length_append, List.length_take, List.length_drop]; simp; omega
    · have := told_odd (r := r2) (bs := bs.take j) (o := o) (more := .non :: (bs.map bxT).drop j) (to_lst _ r2) fT ho
      rw [tj] at this
      rw [wh]
      exact this
  have c4 : ∀ (o' : T) (s6 s7 : Slot), o' ∈ [T.non, .int 5, .str "boxes", .dct [] []] → (qSeq (qIf (fCmpB neT (fun env => heardS 2 hs__law_caught rest__law_caught ((fMake 6 F_Region_init [] [(fVar 5)]) env)) (fLst [(fC (.str "part")), (fC (.str "boxes"))])) (qSeq (qRet (fC (.bl false)))
    qNil) qNil)
    qNil) [.val (.ref k), .val (.lst (bs.map bxT)), .val (.lst odds), .val o, .val (.int (j : Int)), .val o', s6, s7] r2 = .nx [.val (.ref k), .val (.lst (bs.map bxT)), .val (.lst odds), .val o, .val (.int (j : Int)), .val o', s6, s7] r2 := fun o' s6 s7 m =>
    n_seq (n_ifF (r1 := r2) (e_cmpB (x := .lst [.str "part", .str "boxes"]) (y := .lst [.str "part", .str "boxes"]) (r1 := r2) (r2 := r2) (heardP (madeX (t := o') rfl (told_part m r2))) rfl ne_part) rfl) rfl
  have c6 : ∀ (s5 s7 : Slot), fOwn (fComp [7] (hName 7) fYes (fTup [(fVar 7), (fBin addT (fVar 7) (fC (.int 1))), (fC (.int 0)), (fC (.int 1))]) (fRng1 (fC (.int 41)))) [.val (.ref k), .val (.lst (bs.map bxT)), .val (.lst odds), .val o, .val (.int (j : Int)), s5, .un, s7] r2 = .ok (.lst ((units 41).map bxT)) r2 := fun s5 s7 => e_own (by
    have := comp_all (vs := [7]) (h := hName 7) (f := fTup [(fVar 7), (fBin addT (fVar 7) (fC (.int 1))), (fC (.int 0)), (fC (.int 1))]) (fi := fRng1 (fC (.int 41))) (r := r2) (env := [.val (.ref k), .val (.lst (bs.map bxT)), .val (.lst odds), .val o, .val (.int (j : Int)), s5, .un, s7]) (fun n : Nat => T.int (n : Int)) (fun n => bxT (unit n)) (List.range 41) rfl (fun n _ => ⟨_, rfl, rfl⟩) (by decide)
    unfold units
    rw [List.map_map]
    exact this)
  have u41 := units_fit 41
  have n41 := units_len 41
  have c7 : ∀ (s5 s7 : Slot), fCmpB neT (fun env => heardS 2 hs__law_caught rest__law_caught ((fMake 6 F_Region_init [] [(fVar 6)]) env)) (fLst [(fC (.str "many")), (fC (.int 40))]) [.val (.ref k), .val (.lst (bs.map bxT)), .val (.lst odds), .val o, .val (.int (j : Int)), s5, .val (.lst ((units 41).map bxT)), s7] r2 = .ok false r2 := fun s5 s7 =>
    e_cmpB (x := .lst [.str "many", .int 40]) (y := .lst [.str "many", .int 40]) (r1 := r2) (r2 := r2) (heardM (madeX (t := .lst ((units 41).map bxT)) rfl (told_many (to_lst _ r2) u41 (by omega)))) rfl (ne_told "many" (by decide +kernel) _)
  have c8 : ∀ (s5 s7 : Slot), fCmpB neT (fun env => heardS 2 hs__law_caught rest__law_caught ((fMake 6 F_Region_init [] [(fBin addT (fVar 6) (fLst [(fVar 3)]))]) env)) (fLst [(fC (.str "index")), (fC (.int 41))]) [.val (.ref k), .val (.lst (bs.map bxT)), .val (.lst odds), .val o, .val (.int (j : Int)), s5, .val (.lst ((units 41).map bxT)), s7] r2 = .ok false r2 := fun s5 s7 => by
    have := told_odd (r := r2) (bs := units 41) (o := o) (more := []) (to_lst _ r2) u41 ho
    rw [n41] at this
    refine e_cmpB (x := .lst [.str "index", .int 41]) (y := .lst [.str "index", .int 41]) (r1 := r2) (r2 := r2) (heardI (madeX (t := .lst ((units 41).map bxT ++ [o])) (e_bin (x := .lst ((units 41).map bxT)) (y := .lst [o]) (r1 := r2) (r2 := r2) rfl rfl (add_lst ?_)) this)) rfl (ne_told "index" (by decide +kernel) _)
    rw [List.length_map, n41]; show 41 + 1 ≤ 100000; decide
  have c9 : ∀ (s5 s7 : Slot), (fun env => (fMake 6 F_Region_init [] [(fSl (fVar 6) none (some (fC (.int 40))))]) env >>= fun x => (fMake 6 F_Region_init [] [(fLst [(fTup [(fC (.int 0)), (fC (.int 40)), (fC (.int 0)), (fC (.int 1))])])]) env >>= fun y => own2s 6 F_Region_eq x y) [.val (.ref k), .val (.lst (bs.map bxT)), .val (.lst odds), .val o, .val (.int (j : Int)), s5, .val (.lst ((units 41).map bxT)), s7] r2 = .ok (.bl true) r2 := fun s5 s7 => by
    have e := eqR (units 40) [((some 0, some 40), (some 0, some 1))] r2
    rw [decide_eq_true forty] at e
    refine two_ok (x := rg (units 40)) (y := rg [((some 0, some 40), (some 0, some 1))]) (r1 := r2) (r2 := r2) (made (t := .lst ((units 40).map bxT)) (x_sl0 (x := .lst ((units 41).map bxT)) (j := 40) (r1 := r2) (r2 := r2) rfl rfl ?_) (to_lst _ r2) (units_fit 40) (by rw [units_len]; exact Nat.le_refl _)) (made (t := .lst [bxT ((some 0, some 40), (some 0, some 1))]) rfl (to_lst _ r2) (fun b m => by rw [List.mem_singleton.mp m]; rfl) (by decide)) (e_own2s e)
    have := sl_take ((units 41).map bxT) 40 r2
    rw [← List.map_take, units_take] at this
    exact this
  refine n_fn (n_seq (n_set (t := .lst odds) (r1 := r) rfl) (n_seq (n_asg (x := .tup [o, .int (j : Int)]) (r1 := r2) (e_tup (e_cons (x := o) (r1 := r1) (call2 (t := .ref k) (v := .lst odds) rfl rfl e1) (e_cons (x := .int (j : Int)) (r1 := r2) (call2 (t := .ref k) (v := .int ((bs.length : Int) + 1)) rfl (e_bin (x := .int (bs.length : Int)) (y := .int 1) (r1 := r1) (r2 := r1) (e_b1 (x := .lst (bs.map bxT)) (r1 := r1) rfl (by show some (T.int ((bs.map bxT).length : Nat)) = _; rw [ls])) rfl rfl) e2) e_nil))) rfl) (n_seq (n_ifF (r1 := r2) (c3 _ _ _) rfl) ?_)))
  refine n_seq (n_for (xs := [T.non, .int 5, .str "boxes", .dct [] []]) (r1 := r2) rfl (n_loop rfl (c4 .non _ _ (by simp)) (n_loop rfl (c4 (.int 5) _ _ (by simp)) (n_loop rfl (c4 (.str "boxes") _ _ (by simp)) (n_loop rfl (c4 (.dct [] []) _ _ (by simp)) n_loopN))))) ?_
  exact n_seq (n_set (t := .lst ((units 41).map bxT)) (r1 := r2) (c6 _ _)) (n_seq (n_ifF (r1 := r2) (c7 _ _) rfl) (n_seq (n_ifF (r1 := r2) (c8 _ _) rfl) (n_seqR (n_ret (c9 _ _)))))
end K21
namespace K21
open PySem Ep L2 Rg Dr
/-! the law -/
def Lv (ns : List Int) (env : Ep.Env) (r : RS) : Prop := ∃ s1 s2 s3 s4 s5, env = [.val (.kls (ns.map T.int)), s1, s2, s3, s4, s5]
theorem fin (ns : List Int) (s1 s2 s3 s4 s5 : Slot) (r : RS) : (fAnd (fun env => (fMake 6 F_Region_init [.tup []] []) env >>= fun x => (fMake 6 F_Region_init [] [(fLst [])]) env >>= fun y => own2s 6 F_Region_eq x y) (fAnd (fun env => (fMake 6 F_Region_init [.tup []] []) env >>= fun x => (fMake 6 F_Region_init [] [(fLst [(fTup [(fC (.int 0)), (fC (.int 1)), (fC (.int 0)), (fC (.int 1))])])]) env >>= fun y => own2n 6 F_Region_eq x y) (fun env => (fTup [(fC (.int 0)), (fC (.int 0))]) env >>= fun x => (fMake 6 F_Region_init [.tup []] []) env >>= fun y => own2nc 6 F_Region_contains x y))) [.val (.kls (ns.map T.int)), s1, s2, s3, s4, s5] r = .ok (.bl true) r := by
  have f0 : ∀ b ∈ ([] : List Bx), bfit b = true := fun b m => absurd m List.not_mem_nil
  have f1 : ∀ b ∈ [(((some 0, some 1), (some 0, some 1)) : Bx)], bfit b = true := fun b m => by rw [List.mem_singleton.mp m]; rfl
  have m0 : ∀ env : Ep.Env, fMake 6 F_Region_init [.tup []] [] env r = .ok (rg []) r := fun env => e_make (ts := []) (r1 := r) e_nil (init (t := .tup []) (bs := []) (to_tup [] r) f0 (by decide))
  have m1 : ∀ env : Ep.Env, fMake 6 F_Region_init [] [(fLst [])] env r = .ok (rg []) r := fun env => made (t := .lst []) (bs := []) rfl (to_lst [] r) f0 (by decide)
  have m2 : ∀ env : Ep.Env, fMake 6 F_Region_init [] [(fLst [(fTup [(fC (.int 0)), (fC (.int 1)), (fC (.int 0)), (fC (.int 1))])])] env r = .ok (rg [((some 0, some 1), (some 0, some 1))]) r := fun env => made (t := .lst [bxT ((some 0, some 1), (some 0, some 1))]) rfl (to_lst _ r) f1 (by decide)
  have e1 := eqR [] [] r
  rw [decide_eq_true rfl] at e1
  have ne : slabsB [] ≠ slabsB [((some 0, some 1), (some 0, some 1))] := fun e => by
    have h0 := (slabs_in f0 0 0).2
    have h1 := (slabs_in f1 0 0).2
    rw [e, h1] at h0
    exact absurd h0 (by decide)
  have e2 := eqR [] [((some 0, some 1), (some 0, some 1))] r
  rw [decide_eq_false ne] at e2
  have e3 := has_cell f0 (by decide) 0 0 r
  exact e_andT (r1 := r) (two_ok (m0 _) (m1 _) (e_own2s e1)) (e_andT (r1 := r) (two_ok (m0 _) (m2 _) (e_own2n e2)) (two_ok (x := .tup [.int 0, .int 0]) (r1 := r) rfl (m0 _) (e_own2nc e3)))
theorem law_holds (ns : List Int) (hl : ns.length ≤ 63) : ∃ r, F_law [.kls (ns.map T.int)] [] = .ok (.bl true) r := by
  obtain ⟨n, n3, hn⟩ := rounds_n (r := []) ns
  have H : ∃ r', F_law [.kls (ns.map T.int)] [] = .ok (.bl true) r' ∧ True := ho_fnB ?_
  · obtain ⟨r', h, _⟩ := H
    exact ⟨r', h⟩
  refine ho_for (xs := rngL 0 n) (r1 := []) (Lv ns) (x_it (t := .lst (rngL 0 n)) (r1 := []) (call1 (t := .kls (ns.map T.int)) rfl (n_fn (n_seqR (n_ret (hn _ _ rfl))))) rfl) ⟨_, _, _, _, _, rfl⟩ (fun z hz env r ⟨s1, s2, s3, s4, s5, ee⟩ => ?_) fun env r ⟨s1, s2, s3, s4, s5, ee⟩ => ho_ret (n_ret (t := .bl true) (r1 := r) (by subst ee; exact fin ns s1 s2 s3 s4 s5 r)) ⟨r, rfl, trivial⟩
  subst ee
  obtain ⟨i, rfl, hi⟩ := rng0_mem hz
  obtain ⟨w1, w2, q0⟩ := pool ns hl i (by omega) r
  have p0 : Pool r.length (r ++ [[.int w1, .int w2]]) := ⟨w1, w2, by simp⟩
  generalize hk : r.length = k at q0 p0
  generalize r ++ [[T.int w1, T.int w2]] = r0 at q0 p0
  obtain ⟨bs, r1, e1, p1, f, lb⟩ := draw_boxes p0
  have kl : k < r1.length := by
    obtain ⟨a, b, h⟩ := p1
    exact (List.getElem?_eq_some_iff.mp h).1
  have p2 : Pool k (r1 ++ [bs.map bxT]) := p1.app _
  have at2 : (r1 ++ [bs.map bxT])[r1.length]? = some (bs.map bxT) := by simp
  have p3 : Pool k ((r1 ++ [bs.map bxT]).set r1.length (bs.map bxT ++ [bxT ((some 0, some 1), (some 0, some 1))])) := p2.at_ _ (by omega)
  refine ⟨_, rfl, ?_⟩
  refine ho_seq (n_set (t := .ref k) (r1 := r0) (call2 (t := .kls (ns.map T.int)) (v := .int (i : Int)) rfl rfl q0)) ?_
  refine ho_seq (n_set (t := .lst (bs.map bxT)) (r1 := r1) (call3 (t := .ref k) (v := .int 6) (w := .bl false) rfl rfl rfl e1)) ?_
  refine ho_seq (n_set (t := .ref r1.length) (r1 := r1 ++ [bs.map bxT]) (e_ref (xs := bs.map bxT) (r1 := r1) rfl)) ?_
  refine ho_seq (n_set (t := rg bs) (r1 := r1 ++ [bs.map bxT]) (made (t := .ref r1.length) rfl (to_ref at2) f (by omega))) ?_
  refine ho_seq (n_appR (k := r1.length) (xs := bs.map bxT) (t := bxT ((some 0, some 1), (some 0, some 1))) (r1 := r1 ++ [bs.map bxT]) rfl rfl at2 (by rw [List.length_map]; omega)) ?_
  generalize (r1 ++ [bs.map bxT]).set r1.length (bs.map bxT ++ [bxT ((some 0, some 1), (some 0, some 1))]) = r3 at p3
  obtain ⟨r4, e4, p4⟩ := refused p3 f lb
  have eq := eqR bs bs r3
  rw [decide_eq_true rfl] at eq
  refine ho_seq (n_ifF (r1 := r3) (e_orBF (r1 := r3) (e_notB (b := true) (e_tru (x := .bl true) (r1 := r3) (call2 (t := .lst (bs.map bxT)) (v := rg bs) rfl rfl (cells_right f (by omega) r3)) rfl)) (e_toB (two_ok (x := rg bs) (y := rg bs) (r1 := r3) (r2 := r3) rfl (made (t := .tup (bs.map bxT)) (r1 := r3) rfl (to_tup _ r3) f (by omega)) (e_own2n eq)))) rfl) ?_
  refine ho_seq (n_ifF (r1 := r4) (e_orBF (r1 := r3) (e_toB (two_ok (x := rg bs) (y := .lst (bs.map bxT)) (r1 := r3) (r2 := r3) rfl rfl (e_own2x rfl rfl))) (e_orBF (r1 := r3) (e_toB (two_ok (x := rg bs) (y := .int 5) (r1 := r3) (r2 := r3) rfl rfl (e_own2x rfl rfl))) (e_notB (b := true) (e_tru (x := .bl true) (r1 := r4) (call2 (t := .ref k) (v := .lst (bs.map bxT)) rfl rfl e4) rfl)))) rfl) ?_
  exact ho_nil ⟨_, _, rfl, _, _, _, _, _, rfl⟩
end K21
namespace K21
open PySem PySem.Spec L2 He Ep
theorem final {w : World} {K : PySem.W.Frag} {h : Heap} {mg : Str → Option Value} {f0 : Addr} (KX : K.In h) (Ns : h.Ns mainGlobals mg) (hm : mg "law" = some (.ref f0)) (c : SaysD fa fns K) (ck : (chk K).all id = true)
    (e_BadIndex : supW K (ma K (ga K "BadIndex") "__init__") = supV "BadIndex.__init__" s_BadIndex_init) (e_BadPart : supW K (ma K (ga K "BadPart") "__init__") = supV "BadPart.__init__" s_BadPart_init) (e_TooMany : supW K (ma K (ga K "TooMany") "__init__") = supV "TooMany.__init__" s_TooMany_init) :
    ∃ (G : Gm) (f : List T → M T) (fd : FuncData) (cs : List (Addr × Addr)), G.K = K ∧ G.mg = mg ∧ (∀ (s : Shared) (u : Value), BindsTo s fd ⟨[u], []⟩ [("_law_script", u)]) ∧
      (∀ p ∈ cs, ∃ y ∈ [("_law_refused" : Str)], PySem.W.tabIn K y = some p) ∧ (∀ p ∈ cs, K.lookup p.2 = none) ∧ (∀ t ∈ G.tb, ∃ c, (c, t.1) ∈ cs) ∧
      (∀ ns : List Int, ns.length ≤ 63 → (∀ z ∈ ns, Builtin.Int.intBits z ≤ 1048576) → ∃ r, f [.kls (ns.map T.int)] [] = .ok (.bl true) r) ∧ ∀ base : Heap, K.In base → base.Ns mainGlobals mg → (∀ p ∈ cs, LamX.TabB base mg p.1 p.2) → FnOk PW w G.K G.mg base (L2.CX PW w) 10 f0 fd ["_law_script"] (spF G 1 f) := by
  obtain ⟨fd, F⟩ := c.def_ 30
  have cl : mg "law" = some (.ref (ga K "law")) := glo_ok KX Ns (c.fact 58)
  have e : f0 = ga K "law" := Value.ref.inj (Option.some.inj (hm.symm.trans cl))
  subst e
  have tk_law_refused := tab_ok (chk_at ck 24)
  refine ⟨GG K mg, F_law, fd, cs K, rfl, rfl, fun s u => F.bindsA (ps := ["_law_script"]) (fun _ _ _ _ _ _ us hl => match us, hl with | [_], _ => rfl) s [u] rfl, fun p hp => ?_, fun p hp => ?_, fun t ht => ?_, fun ns h _ => law_holds ns h, fun base _ _ TB => ?_⟩
  · simp only [cs, List.mem_cons, List.not_mem_nil, or_false] at hp
    rcases hp with rfl
    · exact ⟨"_law_refused", by simp, tk_law_refused.1⟩
  · simp only [cs, List.mem_cons, List.not_mem_nil, or_false] at hp
    rcases hp with rfl
    · exact tk_law_refused.2.1
  · have ht : t ∈ tb K := ht
    simp only [tb, List.mem_cons, List.not_mem_nil, or_false] at ht
    rcases ht with rfl
    · exact ⟨(tabW K "_law_refused").1, by simp [cs]⟩
  · exact run_law (tx_of (wd := w) KX Ns c ck e_BadIndex e_BadPart e_TooMany TB) F
end K21
open PySem PySem.W
open PyProof.Rows
set_option maxHeartbeats 0 in
theorem PySem.Challenge.cw_endlessplane_k21_regions_made_and_refuse_holds : PySem.Challenge.rw_endlessplane_k21_regions_made_and_refuse.Holds := by
  w_on
  o_law
  k_head
  (case hw => w_witness2)
  k_fill
  refine Ep.law_endT (l := PySem.Challenge.rw_endlessplane_k21_regions_made_and_refuse) (x := "_law_script") 10 ["_law_refused"] rfl rfl ⟨rfl, by decide, by decide⟩ (fun w h Y => PySem.W.km_in_of Y) ?hx ?F
  case hx =>
    intro y hy
    simp only [List.mem_cons, List.not_mem_nil, or_false] at hy
    rcases hy with rfl
    · kernel_rfl
  case F =>
    intro w mg fa h KX Ns hm
    refine' K21.final KX Ns hm ?c ?ck ?e_BadIndex ?e_BadPart ?e_TooMany
    (case c => show He.obsD _ _ _ = He.valD _; kernel_rfl)
    (case ck => kernel_rfl)
    (case e_BadIndex => kernel_rfl)
    (case e_BadPart => kernel_rfl)
    (case e_TooMany => kernel_rfl)
