import PyProof.Rows.All
import Wide.All
import OpenK.AllK
import Wide.FinOn
import HandS.ForMost
import HandS.Walk
import HandS.Wide
import HandS.Defaults
import HandS.IsInst
import HandS.Exc
import HandS.Lambda
import HandS.CallSlots
import HandS.TupAny
import HandS.Deep
import HandS.Style
import HandS.TupMul
import PyProof.Rows.StrMul
import HandS.SortInts
import HandS.RaiseMore
import HandS.Text
import HandS.Zip
import HandS.TryOnly
import HandS.WordsExc
import HandS.Iter
import HandS.Comp
import HandS.Dict
import HandS.More
import KE.KIndexOf
import HandS.SlotsOwn
import HandS.HeadHook2
import HandS.HeadHook3
import HandS.EndTab
import HandS.ForExc
import HandS.ExcSuper
import KE.KExcSuper
import HandS.TryMany
import HandS.ExcIs
import KE.KExcIs
import KE.GoesEnum
import PySem.Challenge.RW_endlessplane_k62_whole_closed_walks
set_option Elab.async false
set_option linter.all false
set_option maxRecDepth 100000
set_option maxHeartbeats 8000000
/-! Values as trees, worlds, what a value denotes. -/
namespace Ep
open PySem PySem.Spec L2
/-- a value, tuples and lists by their items; kls: a list that is never changed (the script, one of the top); gl: a def or class of the top; ref: a list that is changed by several defs -/
inductive T where
  | non | bl (b : Bool) | int (i : Int) | str (x : Str)
  | tup (xs : List T) | lst (xs : List T) | kls (xs : List T)
  | obj (C : Nat) (vs : List T)
  | gl (x : Str) | cl (C : Nat) | ty (n : String) | ref (k : Nat)
  | dct (ks : List Key) (vs : List T) | dtt (ks : List (List Key)) (vs : List T)
abbrev RS := List (List T)
inductive Out (α : Type) where
  | ok (a : α) (r : RS) | exn (c : Nat) (p : T) (r : RS) | bad
def M (α : Type) := RS → Out α
@[simp] def M.pure {α : Type} (a : α) : M α := fun r => .ok a r
@[simp] def M.bind {α β : Type} (m : M α) (k : α → M β) : M β := fun r => match m r with
  | .ok a r' => k a r'
  | .exn c p r' => .exn c p r'
  | .bad => .bad
instance : Monad M where
  pure := M.pure
  bind := M.bind
@[simp] def M.bad {α : Type} : M α := fun _ => .bad
@[simp] def M.lift {α : Type} : Option α → M α
  | some a => M.pure a
  | none => M.bad
/-- the program: its written part, its names, the classes' names and their fields -/
structure Gm where
  K : PySem.W.Frag
  mg : Str → Option Value
  cn : Nat → Str
  fl : Nat → List Str
  tb : List (Addr × Str) := []
/-- a world: what stands still (public), the changed lists' addresses -/
structure Fx where
  me : Addr
  xa : Addr
  xd : Addr
structure Wd where
  P : Hp
  R : List Addr
  fx : Fx
/-- a tuple that stands: tracked, or of the written part -/
def TupAt (K : PySem.W.Frag) (H : Hp) (a : Addr) (xs : List V) : Prop := H a = some (.tup xs) ∨ ∃ (o : Obj) (its : Array Value) (n : Nat), K.lookup a = some o ∧ o.cls = .type "tuple" ∧ o.data = .seq its n ∧ its.size ≤ sizeLine ∧ Vals xs its.toList
theorem tup_sq {K : PySem.W.Frag} {P H : Hp} {a : Addr} {xs : List V} (s : Same P H) (h : TupAt K P a xs) : SqT K H a xs := by
  rcases h with h | h
  · exact .inl (.inl (s _ _ h))
  · exact .inr h
theorem TupAt.mono {K : PySem.W.Frag} {P H : Hp} {a : Addr} {xs : List V} (h : TupAt K P a xs) (s : Same P H) : TupAt K H a xs := by
  rcases h with h | h
  · exact .inl (s _ _ h)
  · exact .inr h
mutual
inductive Den (G : Gm) (w : Wd) : V → T → Prop
  | non : Den G w .non .non
  | bl (b : Bool) : Den G w (.bl b) (.bl b)
  | int (i : Int) : Den G w (.int i) (.int i)
  | str (x : Str) : Den G w (.str x) (.str x)
  | tup {a : Addr} {vs : List V} {ts : List T} (h : TupAt G.K w.P a vs) (z : ts.length ≤ sizeLine) (d : Dens G w vs ts) : Den G w (.ref a) (.tup ts)
  | lst {a : Addr} {vs : List V} {ts : List T} (h : w.P a = some (.lst vs)) (z : ts.length ≤ sizeLine) (d : Dens G w vs ts) : Den G w (.ref a) (.lst ts)
  | kls {a : Addr} {vs : List V} {ts : List T} (h : SqL G.K w.P a vs) (z : ts.length ≤ sizeLine) (d : Dens G w vs ts) : Den G w (.ref a) (.kls ts)
  | obj {a cA dx : Addr} {C : Nat} {vs : List V} {ts : List T} (c : G.mg (G.cn C) = some (.ref cA)) (h : w.P a = some (.ins cA dx ((G.fl C).zip vs))) (l : (G.fl C).length = vs.length) (d : Dens G w vs ts) : Den G w (.ref a) (.obj C ts)
  | gl {x : Str} {a : Addr} (h : G.mg x = some (.ref a)) : Den G w (.ref a) (.gl x)
  | cl {C : Nat} {a : Addr} (h : G.mg (G.cn C) = some (.ref a)) : Den G w (.ref a) (.cl C)
  | ty (n : String) : Den G w (.ty n) (.ty n)
  | ref {k : Nat} {a : Addr} (h : w.R[k]? = some a) : Den G w (.ref a) (.ref k)
  | dct {a : Addr} {ks : List Key} {vs : List V} {ts : List T} (h : w.P a = some (.dK (ks.zip vs))) (l : ks.length = ts.length) (d : Dens G w vs ts) : Den G w (.ref a) (.dct ks ts)
  | dtt {a : Addr} {ks : List (List Key)} {vs : List V} {ts : List T} (h : w.P a = some (.dT (ks.zip vs))) (l : ks.length = ts.length) (d : Dens G w vs ts) : Den G w (.ref a) (.dtt ks ts)
inductive Dens (G : Gm) (w : Wd) : List V → List T → Prop
  | nil : Dens G w [] []
  | cons {v : V} {vs : List V} {t : T} {ts : List T} (h : Den G w v t) (r : Dens G w vs ts) : Dens G w (v :: vs) (t :: ts)
end
/-- what a later world keeps -/
structure Later (w w' : Wd) : Prop where
  pub : Same w.P w'.P
  refs : ∃ more, w'.R = w.R ++ more
theorem Later.refl (w : Wd) : Later w w := ⟨Same.refl _, [], by simp⟩
theorem Later.trans {w w1 w2 : Wd} (a : Later w w1) (b : Later w1 w2) : Later w w2 := ⟨a.pub.trans b.pub, by
  obtain ⟨m, e⟩ := a.refs
  obtain ⟨m', e'⟩ := b.refs
  exact ⟨m ++ m', by rw [e', e, List.append_assoc]⟩⟩
theorem same_t {K : PySem.W.Frag} {H H' : Hp} {a : Addr} {xs : List V} (e : Same H H') (h : SqT K H a xs) : SqT K H' a xs := by
  rcases h with (h | ⟨o, h⟩) | h
  · exact .inl (.inl (e _ _ h))
  · exact .inl (.inr ⟨o, e _ _ h⟩)
  · exact .inr h
mutual
theorem Den.mono {G : Gm} {w w' : Wd} (L : Later w w') : ∀ {v : V} {t : T}, Den G w v t → Den G w' v t
  | _, _, .non => .non
  | _, _, .bl b => .bl b
  | _, _, .int i => .int i
  | _, _, .str x => .str x
  | _, _, .tup h z d => .tup (h.mono L.pub) z (Dens.mono L d)
  | _, _, .lst h z d => .lst (L.pub _ _ h) z (Dens.mono L d)
  | _, _, .kls h z d => .kls (L.pub.seq h) z (Dens.mono L d)
  | _, _, .obj c h l d => .obj c (L.pub _ _ h) l (Dens.mono L d)
  | _, _, .gl h => .gl h
  | _, _, .cl h => .cl h
  | _, _, .ty n => .ty n
  | _, _, .dct h l d => .dct (L.pub _ _ h) l (Dens.mono L d)
  | _, _, .dtt h l d => .dtt (L.pub _ _ h) l (Dens.mono L d)
  | _, _, .ref (k := k) (a := a) h => .ref (by
      obtain ⟨m, e⟩ := L.refs
      rw [e, List.getElem?_append_left (by
        have := (List.getElem?_eq_some_iff.mp h).1
        exact this)]
      exact h)
theorem Dens.mono {G : Gm} {w w' : Wd} (L : Later w w') : ∀ {vs : List V} {ts : List T}, Dens G w vs ts → Dens G w' vs ts
  | _, _, .nil => .nil
  | _, _, .cons h r => .cons (Den.mono L h) (Dens.mono L r)
end
theorem Dens.length {G : Gm} {w : Wd} : ∀ {vs : List V} {ts : List T}, Dens G w vs ts → vs.length = ts.length
  | _, _, .nil => rfl
  | _, _, .cons _ r => by simp [Dens.length r]
theorem Dens.append {G : Gm} {w : Wd} : ∀ {vs ws : List V} {ts us : List T}, Dens G w vs ts → Dens G w ws us → Dens G w (vs ++ ws) (ts ++ us)
  | _, _, _, _, .nil, s => s
  | _, _, _, _, .cons h r, s => .cons h (Dens.append r s)
theorem Dens.get {G : Gm} {w : Wd} : ∀ {vs : List V} {ts : List T} {i : Nat} {t : T}, Dens G w vs ts → ts[i]? = some t → ∃ v, vs[i]? = some v ∧ Den G w v t
  | _, _, _, _, .nil, e => by (simp at e)
  | _, _, 0, _, .cons h r, e => by simp at e; subst e; exact ⟨_, rfl, h⟩
  | _, _, i + 1, _, .cons h r, e => by
    obtain ⟨v, h1, h2⟩ := Dens.get (i := i) r (by simpa using e)
    exact ⟨v, by simpa using h1, h2⟩
theorem Dens.getV {G : Gm} {w : Wd} : ∀ {vs : List V} {ts : List T} {i : Nat} {v : V}, Dens G w vs ts → vs[i]? = some v → ∃ t, ts[i]? = some t ∧ Den G w v t
  | _, _, _, _, .nil, e => by (simp at e)
  | _, _, 0, _, .cons h r, e => by simp at e; subst e; exact ⟨_, rfl, h⟩
  | _, _, i + 1, _, .cons h r, e => by
    obtain ⟨v, h1, h2⟩ := Dens.getV (i := i) r (by simpa using e)
    exact ⟨v, by simpa using h1, h2⟩
theorem Dens.set {G : Gm} {w : Wd} {v : V} {t : T} (d : Den G w v t) : ∀ {vs : List V} {ts : List T} (i : Nat), Dens G w vs ts → Dens G w (vs.set i v) (ts.set i t)
  | _, _, _, .nil => .nil
  | _, _, 0, .cons _ r => .cons d r
  | _, _, i + 1, .cons h r => .cons h (Dens.set d i r)
theorem Dens.take {G : Gm} {w : Wd} : ∀ {vs : List V} {ts : List T} (n : Nat), Dens G w vs ts → Dens G w (vs.take n) (ts.take n)
  | _, _, 0, _ => .nil
  | _, _, n + 1, .nil => .nil
  | _, _, n + 1, .cons h r => .cons h (Dens.take n r)
theorem Dens.drop {G : Gm} {w : Wd} : ∀ {vs : List V} {ts : List T} (n : Nat), Dens G w vs ts → Dens G w (vs.drop n) (ts.drop n)
  | _, _, 0, h => h
  | _, _, n + 1, .nil => .nil
  | _, _, n + 1, .cons h r => Dens.drop n r
/-- the changed lists stand as r says -/
structure RefsOk (G : Gm) (w : Wd) (H : Hp) (r : RS) : Prop where
  nd : w.R.Nodup
  len : w.R.length = r.length
  out : ∀ a ∈ w.R, w.P a = none
  at_ : ∀ (k : Nat) (xs : List T), r[k]? = some xs → ∃ a vs, w.R[k]? = some a ∧ H a = some (.lst vs) ∧ Dens G w vs xs ∧ xs.length ≤ sizeLine
/-- no table of code objects -/
def NoTab (o : HO) : Prop := ∀ ps, o ≠ .tbl ps
/-- no table, nothing of the machine's own -/
structure Pl (o : HO) : Prop where
  tb : ∀ ps, o ≠ .tbl ps
  ex : ∀ f, o ≠ .ext f
/-- something stands there that is no table -/
def Vs (H : Hp) (a : Addr) : Prop := ∃ o, H a = some o ∧ NoTab o
theorem vs_of {H : Hp} {a : Addr} {o : HO} (h : H a = some o) (n : NoTab o := by intro ps e; cases e) : Vs H a := ⟨o, h, n⟩
theorem nvs {H : Hp} {a : Addr} (h : H a = none) : ¬ Vs H a := fun ⟨_, e, _⟩ => by rw [h] at e; cases e
theorem Vs.put {H : Hp} {a p : Addr} {o : HO} (h : Vs H a) (n : NoTab o) : Vs (upd H p o) a := by
  by_cases e : a = p
  · subst e; exact ⟨o, upd_same, n⟩
  · obtain ⟨u, h1, h2⟩ := h; exact ⟨u, by rw [upd_ne e]; exact h1, h2⟩
theorem ne_nv {H : Hp} {a p : Addr} {o : HO} (h : H a = some o) (n : NoTab o) (hp : ¬ Vs H p) : a ≠ p := fun e => hp (e ▸ ⟨o, h, n⟩)
structure Good (G : Gm) (w : Wd) (H : Hp) (r : RS) : Prop where
  sub : Same w.P H
  refs : RefsOk G w H r
  tabs : LamX.Tabs G.tb H
  nt : ∀ a o, w.P a = some o → NoTab o
theorem TabS.put {H : Hp} {T p : Addr} {q : Str} {o : HO} (t : LamX.TabS H T q) (h : H p = none ∨ ∃ u, H p = some u ∧ Pl u) : LamX.TabS (upd H p o) T q := by
  obtain ⟨ps, h1, h2, h3⟩ := t
  have nT : T ≠ p := fun e => by
    rcases h with z | ⟨u, z, k⟩
    · rw [e, z] at h1; cases h1
    · rw [e, z] at h1; exact k.tb ps (Option.some.inj h1)
  refine ⟨ps, by rw [upd_ne nT]; exact h1, h2, fun pos cv hc => ?_⟩
  obtain ⟨c, e1, e2⟩ := h3 pos cv hc
  have nc : c ≠ p := fun e => by
    rcases h with z | ⟨u, z, k⟩
    · rw [e, z] at e2; cases e2
    · rw [e, z] at e2; unfold LamX.CodeO at e2; exact k.ex _ (Option.some.inj e2)
  exact ⟨c, e1, by rw [upd_ne nc]; exact e2⟩
theorem tabs_put {tb : List (Addr × Str)} {H : Hp} {p : Addr} {o : HO} (t : LamX.Tabs tb H) (h : H p = none ∨ ∃ u, H p = some u ∧ Pl u) : LamX.Tabs tb (upd H p o) := fun q hq => TabS.put (t q hq) h
/-- from H to H': public things stay, the untracked of others stays hidden, all but the changed lists stays -/
structure Step (w : Wd) (H : Hp) (w' : Wd) (H' : Hp) : Prop where
  pub : Same w.P w'.P
  fr : ∀ a o, a ∉ w.R → H a = some o → NoTab o → H' a = some o
  keep : ∀ a, Vs H a → Vs H' a
  hid : ∀ a, a ∉ w.R → Vs H a → w.P a = none → w'.P a = none
  refs : ∃ more, w'.R = w.R ++ more ∧ ∀ a ∈ more, ¬ Vs H a
  me : w'.fx = w.fx
theorem Step.refl (w : Wd) (H : Hp) : Step w H w H := ⟨Same.refl _, fun _ _ _ h _ => h, fun _ h => h, fun _ _ _ h => h, ⟨[], by simp, by simp⟩, rfl⟩
theorem Step.later {w w' : Wd} {H H' : Hp} (s : Step w H w' H') : Later w w' := ⟨s.pub, by obtain ⟨m, e, _⟩ := s.refs; exact ⟨m, e⟩⟩
theorem Step.trans {w w1 w2 : Wd} {H H1 H2 : Hp} (a : Step w H w1 H1) (b : Step w1 H1 w2 H2) : Step w H w2 H2 := by
  obtain ⟨m, e, hm⟩ := a.refs
  obtain ⟨m2, e2, hm2⟩ := b.refs
  have notin : ∀ x, x ∉ w.R → Vs H x → x ∉ w1.R := fun x h1 h2 h3 => by
    rw [e] at h3
    rcases List.mem_append.mp h3 with h | h
    · exact h1 h
    · exact hm x h h2
  refine ⟨a.pub.trans b.pub, fun x o h1 h2 h4 => ?_, fun x h => b.keep x (a.keep x h), fun x h1 h2 h3 => ?_, ⟨m ++ m2, by rw [e2, e, List.append_assoc], fun x hx => ?_⟩, b.me.trans a.me⟩
  · exact b.fr x o (notin x h1 ⟨o, h2, h4⟩) (a.fr x o h1 h2 h4) h4
  · exact b.hid x (notin x h1 h2) (a.keep x h2) (a.hid x h1 h2 h3)
  · rcases List.mem_append.mp hx with h | h
    · exact hm x h
    · exact fun hn => hm2 x h (a.keep x hn)
theorem RefsOk.there {G : Gm} {w : Wd} {H : Hp} {r : RS} (x : RefsOk G w H r) {a : Addr} (h : a ∈ w.R) : ∃ vs, H a = some (.lst vs) := by
  obtain ⟨k, hk, e⟩ := List.getElem_of_mem h
  have hk' : k < r.length := by rw [← x.len]; exact hk
  obtain ⟨b, vs, h1, h2, _, _⟩ := x.at_ k r[k] (by simp [hk'])
  have : b = a := by
    rw [List.getElem?_eq_getElem hk] at h1
    exact (Option.some.inj h1).symm.trans e
  subst this
  exact ⟨vs, h2⟩
/-- a new thing, public at once -/
def Wd.add (w : Wd) (p : Addr) (o : HO) : Wd := ⟨upd w.P p o, w.R, w.fx⟩
section
variable {G : Gm} {w : Wd} {H : Hp} {r : RS} {p : Addr} {o : HO}
theorem Good.noref (g : Good G w H r) (hp : H p = none) : p ∉ w.R := fun h => by
  obtain ⟨vs, e⟩ := g.refs.there h
  rw [hp] at e
  cases e
theorem Good.nopub (g : Good G w H r) (hp : H p = none) : w.P p = none := by
  cases e : w.P p with
  | none => rfl
  | some u => exact absurd (g.sub p u e) (by rw [hp]; simp)
theorem Good.new (g : Good G w H r) (hp : H p = none) (no : NoTab o := by intro ps e; cases e) : Step w H (w.add p o) (upd H p o) ∧ Good G (w.add p o) (upd H p o) r := by
  have hP := g.nopub hp
  have hR := g.noref hp
  have st : Step w H (w.add p o) (upd H p o) := by
    refine ⟨fun a u e => ?_, fun a u _ e _ => ?_, fun a h => ?_, fun a _ h1 h2 => ?_, ⟨[], by simp [Wd.add], by simp⟩, rfl⟩
    · show upd w.P p o a = some u
      rw [upd_ne (ne_of_none e hP)]
      exact e
    · rw [upd_ne (ne_of_none e hp)]
      exact e
    · exact h.put no
    · show upd w.P p o a = none
      rw [upd_ne (fun e => nvs hp (by rw [← e]; exact h1))]
      exact h2
  refine ⟨st, fun a u e => ?_, ⟨g.refs.nd, g.refs.len, fun a ha => ?_, fun k xs hk => ?_⟩, tabs_put g.tabs (.inl hp), fun a u e => ?_⟩
  · have e : upd w.P p o a = some u := e
    by_cases h : a = p
    · subst h
      rw [upd_same] at e ⊢
      exact e
    · rw [upd_ne h] at e ⊢
      exact g.sub a u e
  · show upd w.P p o a = none
    rw [upd_ne (fun e => hR (by rw [← e]; exact ha))]
    exact g.refs.out a ha
  · obtain ⟨a, vs, h1, h2, h3, hz⟩ := g.refs.at_ k xs hk
    refine ⟨a, vs, h1, ?_, h3.mono st.later, hz⟩
    rw [upd_ne (ne_of_none h2 hp)]
    exact h2
  · have e : upd w.P p o a = some u := e
    by_cases h : a = p
    · subst h
      rw [upd_same] at e
      cases e
      exact no
    · rw [upd_ne h] at e
      exact g.nt a u e
end
/-- a slot of a def: nothing, a value, a list of its own that is still changed, an instance that is being made (its class's address, its fields so far) -/
inductive Pv where
  | lst (xs : List T) | ins (C : Nat) (vs : List T) | dk (ks : List Key) (vs : List T) | dt (ks : List (List Key)) (vs : List T)
inductive Slot where
  | un | val (t : T) | pv (o : Pv)
abbrev Slot.own (xs : List T) : Slot := .pv (.lst xs)
abbrev Slot.ins (C : Nat) (vs : List T) : Slot := .pv (.ins C vs)
abbrev Slot.dk (ks : List Key) (vs : List T) : Slot := .pv (.dk ks vs)
/-- a thing of a def's own, as it stands -/
inductive PvOk (G : Gm) (w : Wd) (a : Addr) : HO → Pv → Prop
  | lst {vs : List V} {xs : List T} (z : xs.length ≤ sizeLine) (d : Dens G w vs xs) : PvOk G w a (.lst vs) (.lst xs)
  | ins {C : Nat} {cA dx : Addr} {vs : List V} {ts : List T} (hm : a = w.fx.me) (c : G.mg (G.cn C) = some (.ref cA)) (l : ts.length ≤ (G.fl C).length) (d : Dens G w vs ts) : PvOk G w a (.ins cA dx (((G.fl C).take ts.length).zip vs)) (.ins C ts)
  | dk {ks : List Key} {vs : List V} {ts : List T} (l : ks.length = ts.length) (z : ks.length ≤ sizeLine) (d : Dens G w vs ts) : PvOk G w a (.dK (ks.zip vs)) (.dk ks ts)
  | dt {ks : List (List Key)} {vs : List V} {ts : List T} (l : ks.length = ts.length) (z : ks.length ≤ sizeLine) (d : Dens G w vs ts) : PvOk G w a (.dT (ks.zip vs)) (.dt ks ts)
theorem PvOk.mono {G : Gm} {w w' : Wd} {a : Addr} (L : Later w w') (em : w'.fx = w.fx) {o : HO} {p : Pv} (h : PvOk G w a o p) : PvOk G w' a o p := by
  cases h with
  | lst z d => exact .lst z (d.mono L)
  | ins hm c l d => exact .ins (hm.trans (by rw [em])) c l (d.mono L)
  | dk l z d => exact .dk l z (d.mono L)
  | dt l z d => exact .dt l z (d.mono L)
theorem PvOk.pl {G : Gm} {w : Wd} {a : Addr} {o : HO} {p : Pv} (h : PvOk G w a o p) : Pl o := by
  cases h <;> exact ⟨fun _ e => (by cases e), fun _ e => (by cases e)⟩
abbrev Env := List Slot
/-- the slots hold what env says; H0: the heap at the def's entry -/
def SlotAt (G : Gm) (w : Wd) (H0 H : Hp) (σ : L2.St) (oa : Nat → Addr) (i : Nat) : Slot → Prop
  | .un => True
  | .val t => ∃ v, σ[i]? = some (some v) ∧ Den G w v t
  | .pv q => σ[i]? = some (some (.ref (oa i))) ∧ w.P (oa i) = none ∧ oa i ∉ w.R ∧ ¬ Vs H0 (oa i) ∧ ∃ o, H (oa i) = some o ∧ PvOk G w (oa i) o q
def Slot.priv : Slot → Bool
  | .pv _ => true
  | _ => false
structure Slots (G : Gm) (w : Wd) (H0 H : Hp) (σ : L2.St) (env : Env) : Prop where
  len : σ.length = env.length
  ex : ∃ oa : Nat → Addr, (∀ (i : Nat) (s : Slot), env[i]? = some s → SlotAt G w H0 H σ oa i s) ∧ ∀ (i j : Nat) (s u : Slot), env[i]? = some s → env[j]? = some u → s.priv = true → u.priv = true → oa i = oa j → i = j
section
variable {G : Gm} {w w' : Wd} {H0 H H' : Hp} {r r' : RS} {σ : L2.St} {env : Env}
theorem Slots.step (s : Slots G w H0 H σ env) (st : Step w H w' H') : Slots G w' H0 H' σ env := by
  obtain ⟨oa, h1, h2⟩ := s.ex
  refine ⟨s.len, oa, fun i s hi => ?_, h2⟩
  have h := h1 i s hi
  have nr : ∀ a, a ∉ w.R → Vs H a → a ∉ w'.R := fun a ha hn hm => by
    obtain ⟨m, e, hm'⟩ := st.refs
    rw [e] at hm
    rcases List.mem_append.mp hm with z | z
    · exact ha z
    · exact hm' a z hn
  cases s with
  | un => trivial
  | val t =>
    obtain ⟨v, e, d⟩ := h
    exact ⟨v, e, d.mono st.later⟩
  | pv q =>
    obtain ⟨e, h3, h4, h5, o, h6, h7⟩ := h
    exact ⟨e, st.hid _ h4 ⟨o, h6, h7.pl.tb⟩ h3, nr _ h4 ⟨o, h6, h7.pl.tb⟩, h5, o, st.fr _ _ h4 h6 h7.pl.tb, h7.mono st.later st.me⟩
end
/-! ### what is wanted behind a computation -/
/-- an exception of the top's class c, made of one value -/
structure ExcIs (G : Gm) (w : Wd) (H : Hp) (c : Nat) (p : T) (cls : Value) (d : Option Addr) : Prop where
  ex : ∃ cA dd v f, G.mg (G.cn c) = some (.ref cA) ∧ cls = .ref cA ∧ d = some dd ∧ G.fl c = [f] ∧ H dd = some (.xd [(f, v)]) ∧ Den G w v p
def OutP {α : Type} (G : Gm) (w : Wd) (H : Hp) (E : XK) (okP : α → RS → Wd → Hp → Prop) : Out α → Prop
  | .ok a r' => ∀ w' H', Step w H w' H' → Good G w' H' r' → okP a r' w' H'
  | .exn c p r' => ∀ w' H' cls d, Step w H w' H' → Good G w' H' r' → ExcIs G w' H' c p cls d → E cls d H'
  | .bad => False
theorem OutP.mono {α : Type} {G : Gm} {w w1 : Wd} {H H1 : Hp} {E : XK} {P : α → RS → Wd → Hp → Prop} {o : Out α} (h : OutP G w H E P o) (s : Step w H w1 H1) : OutP G w1 H1 E P o := by
  cases o with
  | ok a r' => exact fun w' H' s' g => h w' H' (s.trans s') g
  | exn c p r' => exact fun w' H' cls d s' g x => h w' H' cls d (s.trans s') g x
  | bad => exact h
theorem OutP.imp {α : Type} {G : Gm} {w : Wd} {H : Hp} {E : XK} {P P' : α → RS → Wd → Hp → Prop} {o : Out α} (h : OutP G w H E P o) (hi : ∀ a r w' H', Step w H w' H' → Good G w' H' r → P a r w' H' → P' a r w' H') : OutP G w H E P' o := by
  cases o with
  | ok a r' => exact fun w' H' s' g => hi _ _ _ _ s' g (h w' H' s' g)
  | exn c p r' => exact h
  | bad => exact h
theorem OutP.bind {α β : Type} {G : Gm} {w : Wd} {H : Hp} {E : XK} {P : β → RS → Wd → Hp → Prop} {m : M α} {k : α → M β} {r : RS} (h : OutP G w H E P ((m >>= k) r)) :
    OutP G w H E (fun a r1 w1 H1 => OutP G w1 H1 E P (k a r1)) (m r) := by
  have e : (m >>= k) r = M.bind m k r := rfl
  rw [e] at h
  unfold M.bind at h
  cases q : m r with
  | ok a r' =>
    rw [q] at h
    exact fun w' H' s g => h.mono s
  | exn c p r' =>
    rw [q] at h
    exact h
  | bad =>
    rw [q] at h
    exact h
end Ep
namespace Ep
open PySem PySem.Spec L2
/-! ### readings by computations -/
abbrev WE0 (W : WX) (σ : L2.St) : XK := fun c d H => W c d σ H
def tS (G : Gm) (W : WX) (f : Env → M T) : TE := fun σ H Q => ∃ w H0 env r, Good G w H r ∧ Slots G w H0 H σ env ∧ OutP G w H (WE0 W σ) (fun t _ w' H' => ∀ v, Den G w' v t → Q v H') (f env r)
def tSB (G : Gm) (W : WX) (f : Env → M Bool) : TT := fun σ H Q => ∃ w H0 env r, Good G w H r ∧ Slots G w H0 H σ env ∧ OutP G w H (WE0 W σ) (fun b _ _ H' => Q b H') (f env r)
def fAll : List (Env → M T) → Env → M (List T)
  | [], _ => pure []
  | f :: fs, env => f env >>= fun x => fAll fs env >>= fun xs => pure (x :: xs)
def tSA (G : Gm) (W : WX) (fs : List (Env → M T)) : TA := fun σ H Q => ∃ w H0 env r, Good G w H r ∧ Slots G w H0 H σ env ∧ OutP G w H (WE0 W σ) (fun ts _ w' H' => ∀ vs, Dens G w' vs ts → ts.length = fs.length → Q vs H') (fAll fs env r)
abbrev SE (X : Cx) (G : Gm) (W : WX) (e : Expr) (f : Env → M T) : Prop := PE X e (tS G W f)
abbrev SB (X : Cx) (G : Gm) (W : WX) (e : Expr) (f : Env → M Bool) : Prop := PT X e (tSB G W f)
abbrev SW (X : Cx) (G : Gm) (W : WX) (e : Expr) (f : Env → M Bool) : Prop := PW X e (tSB G W f)
abbrev SA (X : Cx) (G : Gm) (W : WX) (es : List Expr) (fs : List (Env → M T)) : Prop := PA X es (tSA G W fs)
theorem pe_imp {X : Cx} {e : Expr} {t t' : TE} (h : PE X e t) (i : ∀ σ H Q, t' σ H Q → t σ H Q) : PE X e t' := ⟨fun pins s σ H Q I q => h.run pins s σ H Q I (i σ H Q q)⟩
theorem pt_imp {X : Cx} {e : Expr} {t t' : TT} (h : PT X e t) (i : ∀ σ H Q, t' σ H Q → t σ H Q) : PT X e t' := ⟨fun pins s σ H Q I q => h.run pins s σ H Q I (i σ H Q q)⟩
theorem pw_imp {X : Cx} {e : Expr} {t t' : TT} (h : PW X e t) (i : ∀ σ H Q, t' σ H Q → t σ H Q) : PW X e t' := ⟨fun wh pins s σ H Q I q => h.run wh pins s σ H Q I (i σ H Q q)⟩
theorem pa_imp {X : Cx} {e : List Expr} {t t' : TA} (h : PA X e t) (i : ∀ σ H Q, t' σ H Q → t σ H Q) : PA X e t' := ⟨fun pos pins s σ H Q I q => h.run pos pins s σ H Q I (i σ H Q q)⟩
section
variable {G : Gm} {W : WX} {w : Wd} {H0 H : Hp} {r : RS} {σ : L2.St} {env : Env}
/-- behind a first part the second one, in the world that is then -/
theorem seqE {α : Type} {f : Env → M T} {k : T → M α} {P : α → RS → Wd → Hp → Prop} {Q : VK} (g : Good G w H r) (s : Slots G w H0 H σ env) (h : OutP G w H (WE0 W σ) P ((f env >>= k) r))
    (n : ∀ t r1 w1 H1 v, Good G w1 H1 r1 → Slots G w1 H0 H1 σ env → Step w H w1 H1 → Den G w1 v t → OutP G w1 H1 (WE0 W σ) P (k t r1) → Q v H1) : tS G W f σ H Q :=
  ⟨w, H0, env, r, g, s, h.bind.imp fun t r1 w1 H1 st g1 o v d => n t r1 w1 H1 v g1 (s.step st) st d o⟩
theorem seqB {α : Type} {f : Env → M Bool} {k : Bool → M α} {P : α → RS → Wd → Hp → Prop} {Q : Bool → Hp → Prop} (g : Good G w H r) (s : Slots G w H0 H σ env) (h : OutP G w H (WE0 W σ) P ((f env >>= k) r))
    (n : ∀ b r1 w1 H1, Good G w1 H1 r1 → Slots G w1 H0 H1 σ env → Step w H w1 H1 → OutP G w1 H1 (WE0 W σ) P (k b r1) → Q b H1) : tSB G W f σ H Q :=
  ⟨w, H0, env, r, g, s, h.bind.imp fun t r1 w1 H1 st g1 o => n t r1 w1 H1 g1 (s.step st) st o⟩
theorem seqA {α : Type} {fs : List (Env → M T)} {k : List T → M α} {P : α → RS → Wd → Hp → Prop} {Q : List V → Hp → Prop} (g : Good G w H r) (s : Slots G w H0 H σ env) (h : OutP G w H (WE0 W σ) P ((fAll fs env >>= k) r))
    (n : ∀ t r1 w1 H1 v, Good G w1 H1 r1 → Slots G w1 H0 H1 σ env → Step w H w1 H1 → Dens G w1 v t → t.length = fs.length → OutP G w1 H1 (WE0 W σ) P (k t r1) → Q v H1) : tSA G W fs σ H Q :=
  ⟨w, H0, env, r, g, s, h.bind.imp fun t r1 w1 H1 st g1 o v d l => n t r1 w1 H1 v g1 (s.step st) st d l o⟩
theorem OutP.here {α : Type} {E : XK} {P : α → RS → Wd → Hp → Prop} {a : α} (g : Good G w H r) (h : OutP G w H E P (.ok a r)) : P a r w H := h w H (Step.refl _ _) g
end
/-! ### names, constants -/
section
variable {X : Cx} {G : Gm} {W : WX} {pos : Pos}
def fVar (i : Nat) : Env → M T := fun env => match env[i]? with
  | some (.val t) => pure t
  | _ => M.bad
theorem s_var {x : Str} (i : Nat) (hN : X.N[i]? = some x) (hv : Vis X.env.scope x) (hd : (x == ("__debug__" : Str)) = false := by decide) (hcd : (x == ("__classdict__" : Str)) = false := by decide) : SE X G W (.Name x pos) (fVar i) :=
  pe_imp (pe_var hN hv hd hcd) fun σ H Q ⟨w, H0, env, r, g, s, h⟩ => by
    unfold fVar at h
    cases e : env[i]? with
    | none => rw [e] at h; exact h.elim
    | some sl =>
      rw [e] at h
      cases sl with
      | val t =>
        obtain ⟨oa, hs, _⟩ := s.ex
        obtain ⟨v, e1, d⟩ := hs i _ e
        exact ⟨v, e1, OutP.here g h v d⟩
      | un => exact h.elim
      | pv _ => exact h.elim
def fC (t : T) : Env → M T := fun _ => pure t
theorem s_c {e : Expr} {v : V} {t : T} (h : PE X e (tC v)) (d : ∀ w, Den G w v t) : SE X G W e (fC t) := pe_imp h fun σ H Q ⟨w, H0, env, r, g, s, h⟩ => OutP.here g h v (d w)
theorem s_int {i : Int} {j : Nat} : SE X G W (.Constant (.int i) j pos) (fC (.int i)) := s_c pe_int fun _ => .int _
theorem s_bl {b : Bool} {j : Nat} : SE X G W (.Constant (.bool b) j pos) (fC (.bl b)) := s_c pe_bl fun _ => .bl _
theorem s_non {j : Nat} : SE X G W (.Constant .none j pos) (fC .non) := s_c pe_non fun _ => .non
theorem s_str {x : Str} {j : Nat} : SE X G W (.Constant (.str x) j pos) (fC (.str x)) := s_c pe_str fun _ => .str _
/-- a name of the top: its value denotes t in every world -/
theorem s_glob {x : Str} {v : V} {u : Value} {t : T} (hg : Gl X x) (hm : X.mg x = some u) (r : RelV v u) (d : ∀ w, Den G w v t) (hd : (x == ("__debug__" : Str)) = false := by decide) : SE X G W (.Name x pos) (fC t) := s_c (pe_glob hg hm r hd) d
theorem s_bltn {x : Str} {v : V} {u : Value} {t : T} (hg : Gl X x) (hm : X.mg x = none) (hv : bootBuiltins x = some u) (r : RelV v u) (d : ∀ w, Den G w v t) (hn : x ≠ "__name__" := by decide) (hd : (x == ("__debug__" : Str)) = false := by decide) : SE X G W (.Name x pos) (fC t) := s_c (pe_bltn hg hm hv r hn hd) d
end
/-! ### lists that are only looked at -/
/-- a value, or a list that the def still changes -/
def DenB (G : Gm) (w : Wd) (H : Hp) (v : V) (t : T) : Prop := Den G w v t ∨ ∃ a vs xs, v = .ref a ∧ t = .lst xs ∧ a ∉ w.R ∧ H a = some (.lst vs) ∧ Dens G w vs xs ∧ xs.length ≤ sizeLine
def tSK (G : Gm) (W : WX) (f : Env → M T) : TE := fun σ H Q => ∃ w H0 env r, Good G w H r ∧ Slots G w H0 H σ env ∧ OutP G w H (WE0 W σ) (fun t _ w' H' => ∀ v, DenB G w' H' v t → Q v H') (f env r)
abbrev SK (X : Cx) (G : Gm) (W : WX) (e : Expr) (f : Env → M T) : Prop := PE X e (tSK G W f)
theorem DenB.step {G : Gm} {w w' : Wd} {H H' : Hp} {v : V} {t : T} (d : DenB G w H v t) (s : Step w H w' H') : DenB G w' H' v t := by
  rcases d with d | ⟨a, vs, xs, e1, e2, h1, h2, h3, h4⟩
  · exact .inl (d.mono s.later)
  · refine .inr ⟨a, vs, xs, e1, e2, fun hm => ?_, s.fr _ _ h1 h2 (by intro _ e; cases e), h3.mono s.later, h4⟩
    obtain ⟨m, e, hm'⟩ := s.refs
    rw [e] at hm
    rcases List.mem_append.mp hm with z | z
    · exact h1 z
    · exact hm' a z (vs_of h2)
section
variable {X : Cx} {G : Gm} {W : WX} {pos : Pos} {a b : Expr} {f g : Env → M T}
theorem k_of (h : SE X G W a f) : SK X G W a f := pe_imp h fun σ H Q ⟨w, H0, env, r, g, s, h⟩ => ⟨w, H0, env, r, g, s, h.imp fun _ _ _ _ _ _ z v d => z v (.inl d)⟩
def fBor (i : Nat) : Env → M T := fun env => match env[i]? with
  | some (.val t) => pure t
  | some (.pv (.lst xs)) => pure (.lst xs)
  | _ => M.bad
theorem k_var {x : Str} (i : Nat) (hN : X.N[i]? = some x) (hv : Vis X.env.scope x) (hd : (x == ("__debug__" : Str)) = false := by decide) (hcd : (x == ("__classdict__" : Str)) = false := by decide) : SK X G W (.Name x pos) (fBor i) :=
  pe_imp (pe_var hN hv hd hcd) fun σ H Q ⟨w, H0, env, r, g, s, h⟩ => by
    unfold fBor at h
    cases e : env[i]? with
    | none => rw [e] at h; exact h.elim
    | some sl =>
      rw [e] at h
      obtain ⟨oa, hs, _⟩ := s.ex
      cases sl with
      | val t =>
        obtain ⟨v, e1, d⟩ := hs i _ e
        exact ⟨v, e1, OutP.here g h v (.inl d)⟩
      | pv o =>
        cases o with
        | lst xs =>
          obtain ⟨e1, h2, h3, h4, o, h5, h6⟩ := hs i _ e
          cases h6 with
          | lst hz h6 => exact ⟨_, e1, OutP.here g h _ (.inr ⟨_, _, xs, rfl, rfl, h3, h5, h6, hz⟩)⟩
        | _ => exact h.elim
      | un => exact h.elim
theorem seqK {α : Type} {w : Wd} {H0 H : Hp} {r : RS} {σ : L2.St} {env : Env} {k : T → M α} {P : α → RS → Wd → Hp → Prop} {Q : VK} (g : Good G w H r) (s : Slots G w H0 H σ env) (h : OutP G w H (WE0 W σ) P ((f env >>= k) r))
    (n : ∀ t r1 w1 H1 v, Good G w1 H1 r1 → Slots G w1 H0 H1 σ env → Step w H w1 H1 → DenB G w1 H1 v t → OutP G w1 H1 (WE0 W σ) P (k t r1) → Q v H1) : tSK G W f σ H Q :=
  ⟨w, H0, env, r, g, s, h.bind.imp fun t r1 w1 H1 st g1 o v d => n t r1 w1 H1 v g1 (s.step st) st d o⟩
end
/-! ### operators -/
section
variable {X : Cx} {G : Gm} {W : WX} {pos : Pos}
/-- a rule by values computes h -/
def OpV (G : Gm) (r2 : R2) (h : T → T → Option T) : Prop := ∀ w H r x y t u z Q, Good G w H r → Den G w x t → Den G w y u → h t u = some z → (∀ v w' H', Step w H w' H' → Good G w' H' r → Den G w' v z → Q v H') → r2 x y H Q
def fBin (h : T → T → Option T) (f g : Env → M T) : Env → M T := fun env => f env >>= fun x => g env >>= fun y => M.lift (h x y)
theorem liftP {α : Type} {w : Wd} {H : Hp} {E : XK} {r : RS} {P : α → RS → Wd → Hp → Prop} {o : Option α} (h : OutP G w H E P (M.lift o r)) : ∃ a, o = some a ∧ ∀ w' H', Step w H w' H' → Good G w' H' r → P a r w' H' := by
  cases o with
  | none => exact h.elim
  | some a => exact ⟨a, rfl, h⟩
variable {a b c : Expr} {f g k : Env → M T}
theorem op_use {r2 : R2} {h : T → T → Option T} {σ : L2.St} {H : Hp} {Q : VK} (hv : OpV G r2 h) (hq : tS G W (fBin h f g) σ H Q) : tOp r2 (tS G W f) (tS G W g) σ H Q := by
  obtain ⟨w, H0, env, r, g0, s, h0⟩ := hq
  refine seqE g0 s h0 fun t r1 w1 H1 x g1 s1 st1 d1 h1 => ?_
  refine seqE g1 s1 h1 fun u r2 w2 H2 y g2 s2 st2 d2 h2 => ?_
  obtain ⟨z, ez, hz⟩ := liftP h2
  exact hv w2 H2 r2 x y t u z Q g2 (d1.mono st2.later) d2 ez fun v w' H' st g' d => hz w' H' st g' v d
theorem s_bin {op : Operator} {r2 : R2} {h : T → T → Option T} (ho : OpR X (binaryOp op) r2) (hv : OpV G r2 h) (ha : SE X G W a f) (hb : SE X G W b g) : SE X G W (.BinOp a op b pos) (fBin h f g) :=
  pe_imp (pe_op ho ha hb) fun σ H Q hq => op_use hv hq
def UnV (G : Gm) (r1 : V → Hp → VK → Prop) (h : T → Option T) : Prop := ∀ w H r x t z Q, Good G w H r → Den G w x t → h t = some z → (∀ v w' H', Step w H w' H' → Good G w' H' r → Den G w' v z → Q v H') → r1 x H Q
def fUn (h : T → Option T) (f : Env → M T) : Env → M T := fun env => f env >>= fun x => M.lift (h x)
theorem s_un {op : UnaryOp} {r1 : V → Hp → VK → Prop} {h : T → Option T} (ho : UnR X (unaryOp op) r1) (hv : UnV G r1 h) (ha : SE X G W a f) : SE X G W (.UnaryOp op a pos) (fUn h f) :=
  pe_imp (pe_un ho ha) fun σ H Q ⟨w, H0, env, r, g0, s, h0⟩ => by
    refine seqE g0 s h0 fun t r1 w1 H1 x g1 s1 st1 d1 h1 => ?_
    obtain ⟨z, ez, hz⟩ := liftP h1
    exact hv w1 H1 r1 x t z Q g1 d1 ez fun v w' H' st g' d => hz w' H' st g' v d
/-- comparisons -/
def fCmp (h : T → T → Option Bool) (f g : Env → M T) : Env → M T := fBin (fun x y => (h x y).map T.bl) f g
def fCmpB (h : T → T → Option Bool) (f g : Env → M T) : Env → M Bool := fun env => f env >>= fun x => g env >>= fun y => M.lift (h x y)
def CmpV (G : Gm) (r2 : R2) (h : T → T → Option Bool) : Prop := ∀ w H r x y t u z Q, Good G w H r → DenB G w H x t → DenB G w H y u → h t u = some z → Q (.bl z) H → r2 x y H Q
theorem s_cmp {op : CmpOp} {r2 : R2} {h : T → T → Option Bool} (ho : OpR X (compareOp op) r2) (hv : CmpV G r2 h) (ha : SK X G W a f) (hb : SK X G W b g) (hm : behindInMarks op b = false) : SE X G W (.Compare a [op] [b] pos) (fCmp h f g) :=
  pe_imp (pe_cmpR ho ha hb hm) fun σ H Q ⟨w, H0, env, r, g0, s, h0⟩ => by
    refine seqK g0 s h0 fun t r1 w1 H1 x g1 s1 st1 d1 h1 => ?_
    refine seqK g1 s1 h1 fun u r2 w2 H2 y g2 s2 st2 d2 h2 => ?_
    obtain ⟨z, ez, hz⟩ := liftP h2
    have ez : (h t u).map T.bl = some z := ez
    cases e : h t u with
    | none => rw [e] at ez; cases ez
    | some b =>
      rw [e] at ez
      cases ez
      exact hv w2 H2 r2 x y t u b _ g2 (d1.step st2) d2 e (hz w2 H2 (Step.refl _ _) g2 _ (.bl b))
theorem s_cmpB {op : CmpOp} {r2 : R2} {h : T → T → Option Bool} (ho : OpR X (compareOp op) r2) (hv : CmpV G r2 h) (ha : SK X G W a f) (hb : SK X G W b g) (hm : behindInMarks op b = false) : SB X G W (.Compare a [op] [b] pos) (fCmpB h f g) :=
  pt_imp (pt_cmpR ho ha hb hm) fun σ H Q ⟨w, H0, env, r, g0, s, h0⟩ => by
    show tOp r2 (tSK G W f) (tSK G W g) σ H fun x H' => ∃ k, x = .bl k ∧ Q k H'
    refine seqK g0 s h0 fun t r1 w1 H1 x g1 s1 st1 d1 h1 => ?_
    refine seqK g1 s1 h1 fun u r2 w2 H2 y g2 s2 st2 d2 h2 => ?_
    obtain ⟨z, ez, hz⟩ := liftP h2
    exact hv w2 H2 r2 x y t u z _ g2 (d1.step st2) d2 ez ⟨z, rfl, hz w2 H2 (Step.refl _ _) g2⟩
def fChainB (h h' : T → T → Option Bool) (f g k : Env → M T) : Env → M Bool := fun env => f env >>= fun x => g env >>= fun y => M.lift (h x y) >>= fun c => if c = true then k env >>= fun z => M.lift (h' y z) else pure false
def fChain (h h' : T → T → Option Bool) (f g k : Env → M T) : Env → M T := fun env => f env >>= fun x => g env >>= fun y => M.lift (h x y) >>= fun c => if c = true then k env >>= fun z => M.lift ((h' y z).map T.bl) else pure (.bl false)
end
/-! ### chains, and, or, not, if .. else, arguments -/
section
variable {X : Cx} {G : Gm} {W : WX} {pos : Pos} {a b c : Expr} {f g k : Env → M T} {rest : List Expr} {p q : Env → M Bool}
theorem s_chain {op op' : CmpOp} {r2 r3 : R2} {h h' : T → T → Option Bool} (ho : OpR X (compareOp op) r2) (ho' : OpR X (compareOp op') r3) (hv : CmpV G r2 h) (hv' : CmpV G r3 h') (ha : SE X G W a f) (hb : SE X G W b g) (hc : SE X G W c k)
    (hm : lastMarks [op, op'] [b, c] = false) : SE X G W (.Compare a [op, op'] [b, c] pos) (fChain h h' f g k) :=
  pe_imp (pe_chain ho ho' ha hb hc hm) fun σ H Q ⟨w, H0, env, r, g0, s, h0⟩ => by
    refine seqE g0 s h0 fun t r1 w1 H1 x g1 s1 st1 d1 h1 => ?_
    refine seqE g1 s1 h1 fun u r2 w2 H2 y g2 s2 st2 d2 h2 => ?_
    obtain ⟨z, ez, h3⟩ := liftP h2.bind
    refine hv w2 H2 r2 x y t u z _ g2 (.inl (d1.mono st2.later)) (.inl d2) ez ⟨z, rfl, ?_⟩
    have h4 := h3 w2 H2 (Step.refl _ _) g2
    cases z with
    | true =>
      refine seqE g2 s2 h4 fun t3 r3 w3 H3 x3 g3 s3 st3 d3 h5 => ?_
      obtain ⟨z', ez', h6⟩ := liftP h5
      cases e : h' u t3 with
      | none => rw [e] at ez'; cases ez'
      | some b =>
        rw [e] at ez'
        cases ez'
        exact hv' w3 H3 r3 y x3 u t3 b _ g3 (.inl (d2.mono st3.later)) (.inl d3) e (h6 w3 H3 (Step.refl _ _) g3 _ (.bl b))
    | false => exact OutP.here g2 h4 _ (.bl false)
theorem s_chainB {op op' : CmpOp} {r2 r3 : R2} {h h' : T → T → Option Bool} (ho : OpR X (compareOp op) r2) (ho' : OpR X (compareOp op') r3) (hv : CmpV G r2 h) (hv' : CmpV G r3 h') (ha : SE X G W a f) (hb : SE X G W b g) (hc : SE X G W c k)
    (hm : lastMarks [op, op'] [b, c] = false) : SB X G W (.Compare a [op, op'] [b, c] pos) (fChainB h h' f g k) :=
  pt_imp (pt_chain ho ho' ha hb hc hm) fun σ H Q ⟨w, H0, env, r, g0, s, h0⟩ => by
    show tChain r2 r3 (tS G W f) (tS G W g) (tS G W k) σ H fun x H' => ∃ k, x = .bl k ∧ Q k H'
    refine seqE g0 s h0 fun t r1 w1 H1 x g1 s1 st1 d1 h1 => ?_
    refine seqE g1 s1 h1 fun u r2 w2 H2 y g2 s2 st2 d2 h2 => ?_
    obtain ⟨z, ez, h3⟩ := liftP h2.bind
    refine hv w2 H2 r2 x y t u z _ g2 (.inl (d1.mono st2.later)) (.inl d2) ez ⟨z, rfl, ?_⟩
    have h4 := h3 w2 H2 (Step.refl _ _) g2
    cases z with
    | true =>
      refine seqE g2 s2 h4 fun t3 r3 w3 H3 x3 g3 s3 st3 d3 h5 => ?_
      obtain ⟨z', ez', h6⟩ := liftP h5
      exact hv' w3 H3 r3 y x3 u t3 z' _ g3 (.inl (d2.mono st3.later)) (.inl d3) ez' ⟨z', rfl, h6 w3 H3 (Step.refl _ _) g3⟩
    | false => exact ⟨false, rfl, OutP.here g2 h4⟩
/-- a bool as a test -/
def fToB (f : Env → M T) : Env → M Bool := fun env => f env >>= fun x => match x with
  | .bl b => pure b
  | _ => M.bad
def fOfB (p : Env → M Bool) : Env → M T := fun env => p env >>= fun b => pure (.bl b)
theorem s_val (ha : SE X G W a f) (he : ∀ whole, isTrue a X.env whole = (do let v ← whole; standAt a.pos; holding [v] (truthy v)) := by intro _; rfl) : SB X G W a (fToB f) :=
  pt_imp (pt_val ha he) fun σ H Q ⟨w, H0, env, r, g0, s, h0⟩ => by
    refine seqE g0 s h0 fun t r1 w1 H1 x g1 s1 st1 d1 h1 => ?_
    cases d1 with
    | bl b => exact ⟨b, rfl, OutP.here g1 h1⟩
    | _ => exact h1.elim
/-- a value's truth -/
def truT : T → Option Bool
  | .non => some false
  | .bl b => some b
  | .int i => some (i != 0)
  | .str x => if x.length ≤ 100000 then some ((x.length : Int) != 0) else none
  | .tup xs => some (!xs.isEmpty)
  | .lst xs => some (!xs.isEmpty)
  | .kls xs => some (!xs.isEmpty)
  | _ => none
theorem Dens.emp {w : Wd} {vs : List V} {ts : List T} (d : Dens G w vs ts) : vs.isEmpty = ts.isEmpty := by cases d <;> rfl
def fTru (f : Env → M T) : Env → M Bool := fun env => f env >>= fun x => M.lift (truT x)
theorem s_tru (hK : X.K = G.K) (ha : SE X G W a f) (he : ∀ whole, isTrue a X.env whole = (do let v ← whole; standAt a.pos; holding [v] (truthy v)) := by intro _; rfl) : SB X G W a (fTru f) :=
  pt_imp (pt_truth ha he) fun σ H Q ⟨w, H0, env, r, g0, s, h0⟩ => by
    refine seqE g0 s h0 fun t r1 w1 H1 x g1 s1 st1 d1 h1 => ?_
    obtain ⟨z, ez, h2⟩ := liftP h1
    refine ⟨z, ?_, h2 w1 H1 (Step.refl _ _) g1⟩
    rw [hK]
    cases d1 with
    | non => cases ez; rfl
    | bl b => cases ez; rfl
    | int i => cases ez; rfl
    | str y =>
      have ez : (if y.length ≤ 100000 then some ((y.length : Int) != 0) else none) = some z := ez
      by_cases h : y.length ≤ 100000
      · rw [if_pos h] at ez
        cases ez
        exact ⟨Nat.le_trans h (by decide), rfl⟩
      · rw [if_neg h] at ez
        cases ez
    | tup hs _ d => cases ez; exact .inr (.inl ⟨_, tup_sq g1.sub hs, by rw [d.emp]⟩)
    | lst hs _ d => cases ez; exact .inl ⟨_, SqL.of (g1.sub _ _ hs), by rw [d.emp]⟩
    | kls hs _ d => cases ez; exact .inl ⟨_, g1.sub.seq hs, by rw [d.emp]⟩
    | _ => cases ez
def fAndB (p q : Env → M Bool) : Env → M Bool := fun env => p env >>= fun c => if c = true then q env else pure false
def fOrB (p q : Env → M Bool) : Env → M Bool := fun env => p env >>= fun c => if c = true then pure true else q env
def fNotB (p : Env → M Bool) : Env → M Bool := fun env => p env >>= fun c => pure (!c)
theorem w_and1 (ha : SB X G W a p) : SW X G W (.BoolOp .And [a] pos) p := pw_and1 ha
theorem w_or1 (ha : SB X G W a p) : SW X G W (.BoolOp .Or [a] pos) p := pw_or1 ha
theorem w_and (ha : SB X G W a p) (hb : SW X G W (.BoolOp .And (b :: rest) pos) q) : SW X G W (.BoolOp .And (a :: b :: rest) pos) (fAndB p q) :=
  pw_imp (pw_and ha hb) fun σ H Q ⟨w, H0, env, r, g0, s, h0⟩ => by
    refine seqB g0 s h0 fun t r1 w1 H1 g1 s1 st1 h1 => ?_
    cases t with
    | true => exact ⟨w1, H0, env, r1, g1, s1, h1⟩
    | false => exact OutP.here g1 h1
theorem w_or (ha : SB X G W a p) (hb : SW X G W (.BoolOp .Or (b :: rest) pos) q) : SW X G W (.BoolOp .Or (a :: b :: rest) pos) (fOrB p q) :=
  pw_imp (pw_or ha hb) fun σ H Q ⟨w, H0, env, r, g0, s, h0⟩ => by
    refine seqB g0 s h0 fun t r1 w1 H1 g1 s1 st1 h1 => ?_
    cases t with
    | false => exact ⟨w1, H0, env, r1, g1, s1, h1⟩
    | true => exact OutP.here g1 h1
theorem w_not (ha : SB X G W a p) : SB X G W (.UnaryOp .Not a pos) (fNotB p) :=
  pt_imp (pt_not ha) fun σ H Q ⟨w, H0, env, r, g0, s, h0⟩ => by
    refine seqB g0 s h0 fun t r1 w1 H1 g1 s1 st1 h1 => ?_
    exact OutP.here g1 h1
theorem w_t (ha : SW X G W a p) : SB X G W a p := ha.pt
/-- as values: bools -/
def fAnd (f g : Env → M T) : Env → M T := fun env => f env >>= fun x => match x with
  | .bl true => g env
  | .bl false => pure (.bl false)
  | _ => M.bad
def fOr (f g : Env → M T) : Env → M T := fun env => f env >>= fun x => match x with
  | .bl true => pure (.bl true)
  | .bl false => g env
  | _ => M.bad
def fNot (f : Env → M T) : Env → M T := fun env => f env >>= fun x => match x with
  | .bl b => pure (.bl (!b))
  | _ => M.bad
theorem s_one {op : BoolOp} (ha : SE X G W a f) : SE X G W (.BoolOp op [a] pos) f := pe_one ha
theorem s_and (ha : SE X G W a f) (hb : SE X G W (.BoolOp .And (b :: rest) pos) g) : SE X G W (.BoolOp .And (a :: b :: rest) pos) (fAnd f g) :=
  pe_imp (pe_and ha hb) fun σ H Q ⟨w, H0, env, r, g0, s, h0⟩ => by
    refine seqE g0 s h0 fun t r1 w1 H1 x g1 s1 st1 d1 h1 => ?_
    cases d1 with
    | bl b =>
      cases b with
      | true => exact ⟨true, rfl, w1, H0, env, r1, g1, s1, h1⟩
      | false => exact ⟨false, rfl, OutP.here g1 h1 _ (.bl false)⟩
    | _ => exact h1.elim
theorem s_or (ha : SE X G W a f) (hb : SE X G W (.BoolOp .Or (b :: rest) pos) g) : SE X G W (.BoolOp .Or (a :: b :: rest) pos) (fOr f g) :=
  pe_imp (pe_or ha hb) fun σ H Q ⟨w, H0, env, r, g0, s, h0⟩ => by
    refine seqE g0 s h0 fun t r1 w1 H1 x g1 s1 st1 d1 h1 => ?_
    cases d1 with
    | bl b =>
      cases b with
      | true => exact ⟨true, rfl, OutP.here g1 h1 _ (.bl true)⟩
      | false => exact ⟨false, rfl, w1, H0, env, r1, g1, s1, h1⟩
    | _ => exact h1.elim
theorem s_not (ha : SE X G W a f) : SE X G W (.UnaryOp .Not a pos) (fNot f) :=
  pe_imp (pe_not ha) fun σ H Q ⟨w, H0, env, r, g0, s, h0⟩ => by
    refine seqE g0 s h0 fun t r1 w1 H1 x g1 s1 st1 d1 h1 => ?_
    cases d1 with
    | bl b => exact ⟨b, rfl, OutP.here g1 h1 _ (.bl _)⟩
    | _ => exact h1.elim
def fIf (p : Env → M Bool) (f g : Env → M T) : Env → M T := fun env => p env >>= fun c => if c = true then f env else g env
theorem s_if (hc : SB X G W c p) (ha : SE X G W a f) (hb : SE X G W b g) : SE X G W (.IfExp c a b pos) (fIf p f g) :=
  pe_imp (pe_ifExp hc ha hb) fun σ H Q ⟨w, H0, env, r, g0, s, h0⟩ => by
    refine seqB g0 s h0 fun t r1 w1 H1 g1 s1 st1 h1 => ?_
    cases t with
    | true => exact ⟨w1, H0, env, r1, g1, s1, h1⟩
    | false => exact ⟨w1, H0, env, r1, g1, s1, h1⟩
theorem a_nil : SA X G W [] [] := pa_imp pa_nil fun σ H Q ⟨w, H0, env, r, g0, s, h0⟩ => OutP.here g0 h0 [] .nil rfl
theorem a_cons {e : Expr} {es : List Expr} {fs : List (Env → M T)} (ha : SE X G W e f) (hr : SA X G W es fs) (hs : starEach (e :: es) X.env = (false, eval e X.env) :: starEach es X.env := by rfl) : SA X G W (e :: es) (f :: fs) :=
  pa_imp (pa_cons ha hr hs) fun σ H Q ⟨w, H0, env, r, g0, s, h0⟩ => by
    refine seqE g0 s h0 fun t r1 w1 H1 x g1 s1 st1 d1 h1 => ?_
    refine seqA g1 s1 h1 fun ts r2 w2 H2 xs g2 s2 st2 d2 l h2 => ?_
    exact OutP.here g2 h2 (x :: xs) (.cons (d1.mono st2.later) d2) (by rw [List.length_cons, List.length_cons, l])
def fTup (fs : List (Env → M T)) : Env → M T := fun env => fAll fs env >>= fun ts => pure (.tup ts)
def fLst (fs : List (Env → M T)) : Env → M T := fun env => fAll fs env >>= fun ts => pure (.lst ts)
theorem s_tup {es : List Expr} {fs : List (Env → M T)} {j : Nat} (ha : SA X G W es fs) (hl : fs.length ≤ 1000 := by decide) : SE X G W (.Tuple es j pos) (fTup fs) :=
  pe_imp (pe_tup ha) fun σ H Q ⟨w, H0, env, r, g0, s, h0⟩ => by
    refine seqA g0 s h0 fun ts r1 w1 H1 vs g1 s1 st1 d1 l h1 => ?_
    have hz : ts.length ≤ sizeLine := by rw [l]; exact Nat.le_trans hl (by decide)
    refine ⟨by rw [d1.length]; exact hz, fun p hp => ?_⟩
    obtain ⟨st, g2⟩ := g1.new (o := .tup vs) hp
    exact h1 _ _ st g2 _ (.tup (.inl upd_same) hz (d1.mono st.later))
theorem s_lst {es : List Expr} {fs : List (Env → M T)} (ha : SA X G W es fs) (hl : fs.length ≤ 1000 := by decide) : SE X G W (.List es pos) (fLst fs) :=
  pe_imp (pe_lst ha) fun σ H Q ⟨w, H0, env, r, g0, s, h0⟩ => by
    refine seqA g0 s h0 fun ts r1 w1 H1 vs g1 s1 st1 d1 l h1 => ?_
    have hz : ts.length ≤ sizeLine := by rw [l]; exact Nat.le_trans hl (by decide)
    refine ⟨by rw [d1.length]; exact hz, fun p hp => ?_⟩
    obtain ⟨st, g2⟩ := g1.new (o := .lst vs) hp
    exact h1 _ _ st g2 _ (.lst upd_same hz (d1.mono st.later))
end
end Ep
namespace Ep
open PySem PySem.Spec L2
section
variable {X : Cx} {G : Gm} {W : WX} {pos : Pos} {a b : Expr} {f g : Env → M T}
/-- the items of a list, a tuple -/
def seqT (r : RS) : T → Option (List T)
  | .lst xs => some xs
  | .kls xs => some xs
  | .tup xs => some xs
  | .ref k => r[k]?
  | _ => none
inductive SeqD (G : Gm) (w : Wd) (H : Hp) (a : Addr) (xs : List T) : Prop where
  | l (vs : List V) (h : SqL G.K H a vs) (d : Dens G w vs xs) (z : xs.length ≤ sizeLine) : SeqD G w H a xs
  | t (vs : List V) (h : SqT G.K H a vs) (d : Dens G w vs xs) (z : xs.length ≤ sizeLine) : SeqD G w H a xs
theorem seq_of {w : Wd} {H : Hp} {r : RS} {v : V} {t : T} {xs : List T} (g : Good G w H r) (d : DenB G w H v t) (e : seqT r t = some xs) : ∃ a, v = .ref a ∧ SeqD G w H a xs := by
  rcases d with d | ⟨a, vs, ys, e1, e2, h1, h2, h3, h4⟩
  · cases d with
    | tup h z d => cases e; exact ⟨_, rfl, .t _ (tup_sq g.sub h) d z⟩
    | lst h z d => cases e; exact ⟨_, rfl, .l _ (SqL.of (g.sub _ _ h)) d z⟩
    | kls h z d => cases e; exact ⟨_, rfl, .l _ (g.sub.seq h) d z⟩
    | @ref k a h =>
      obtain ⟨b, vs, h1, h2, h3, h4⟩ := g.refs.at_ k xs e
      rw [h] at h1
      cases h1
      exact ⟨_, rfl, .l vs (SqL.of h2) h3 h4⟩
    | _ => cases e
  · subst e1 e2
    cases e
    exact ⟨_, rfl, .l vs (SqL.of h2) h3 h4⟩
theorem SeqD.z {w : Wd} {H : Hp} {a : Addr} {xs : List T} (h : SeqD G w H a xs) : xs.length ≤ sizeLine := by cases h <;> assumption
/-! ### items -/
def ixT (r : RS) (t : T) (i : T) : Option T := match t, i with
  | .str z, .int i => if z.length ≤ 100000 then (atI z.cps.toList i).map fun c => .str ⟨#[c]⟩ else none
  | t, .int i => (seqT r t).bind fun xs => atI xs i
  | _, _ => none
def fIx (f g : Env → M T) : Env → M T := fun env => f env >>= fun x => g env >>= fun y => fun r => M.lift (ixT r x y) r
theorem dens_at {w : Wd} {vs : List V} {xs : List T} {i : Int} {t : T} (d : Dens G w vs xs) (e : atI xs i = some t) : ∃ v, atI vs i = some v ∧ Den G w v t := by
  unfold atI at e ⊢
  rw [d.length]
  cases q : ixN xs.length i with
  | none => rw [q] at e; cases e
  | some j =>
    rw [q] at e
    exact d.get e
theorem s_ix (hK : X.K = G.K) (ha : SK X G W a f) (hb : SE X G W b g) (hs : PlainIx b) : SE X G W (.Subscript a b pos) (fIx f g) :=
  pe_imp (pe_ix ix_seq ha hb hs) fun σ H Q ⟨w, H0, env, r, g0, s, h0⟩ => by
    refine seqK g0 s h0 fun t r1 w1 H1 x g1 s1 st1 d1 h1 => ?_
    refine seqE g1 s1 h1 fun u r2 w2 H2 y g2 s2 st2 d2 h2 => ?_
    have d1 := d1.step st2
    obtain ⟨z, ez, h3⟩ := liftP h2
    have fin : ∀ v, Den G w2 v z → Q v H2 := fun v d => h3 w2 H2 (Step.refl _ _) g2 v d
    rw [hK]
    have seqs : ∀ i, y = .int i → ((seqT r2 t).bind fun xs => atI xs i) = some z → rIx G.K x y H2 Q := fun i ey e => by
      cases q : seqT r2 t with
      | none => rw [q] at e; cases e
      | some xs =>
        rw [q] at e
        obtain ⟨p, rfl, sd⟩ := seq_of g2 d1 q
        cases sd with
        | l vs hh dd _ =>
          obtain ⟨v, e1, e2⟩ := dens_at dd e
          exact .inl ⟨p, vs, i, v, rfl, ey, hh, e1, fin v e2⟩
        | t vs hh dd _ =>
          obtain ⟨v, e1, e2⟩ := dens_at dd e
          exact .inr (.inl ⟨p, vs, i, v, rfl, ey, hh, e1, fin v e2⟩)
    cases d2 with
    | int i =>
      cases t with
      | str zz =>
        have ez : (if zz.length ≤ 100000 then (atI zz.cps.toList i).map fun c => T.str ⟨#[c]⟩ else none) = some z := ez
        by_cases hz : zz.length ≤ 100000
        · rw [if_pos hz] at ez
          cases q : atI zz.cps.toList i with
          | none => rw [q] at ez; cases ez
          | some c =>
            rw [q] at ez
            cases ez
            have : x = .str zz := by
              rcases d1 with d1 | ⟨_, _, _, _, e2, _⟩
              · cases d1; rfl
              · cases e2
            subst this
            exact .inr (.inr ⟨zz, i, c, rfl, rfl, Nat.le_trans hz (by decide), q, fin _ (.str _)⟩)
        · rw [if_neg hz] at ez; cases ez
      | _ => exact seqs i rfl ez
    | _ => cases t <;> cases ez
/-! ### slices -/
def fO : Option (Env → M T) → Env → M (Option Int)
  | none, _ => pure none
  | some f, env => f env >>= fun x => match x with
    | .int i => pure (some i)
    | _ => M.bad
def tSO (G : Gm) (W : WX) (f : Option (Env → M T)) : TO := fun σ H Q => ∃ w H0 env r, Good G w H r ∧ Slots G w H0 H σ env ∧ OutP G w H (WE0 W σ) (fun o _ _ H' => Q o H') (fO f env r)
theorem po_imp {e : Option Expr} {t t' : TO} (h : PO X e t) (i : ∀ σ H Q, t' σ H Q → t σ H Q) : PO X e t' := ⟨fun pins s σ H Q I q => h.run pins s σ H Q I (i σ H Q q)⟩
theorem o_none : PO X none (tSO G W none) := po_imp po_none fun σ H Q ⟨w, H0, env, r, g, s, h⟩ => OutP.here g h
theorem o_some (ha : SE X G W a f) : PO X (some a) (tSO G W (some f)) := po_imp (po_some ha) fun σ H Q ⟨w, H0, env, r, g0, s, h0⟩ => by
  refine seqE g0 s h0 fun t r1 w1 H1 x g1 s1 st1 d1 h1 => ?_
  cases d1 with
  | int i => exact ⟨i, rfl, OutP.here g1 h1⟩
  | _ => exact h1.elim
def cutT (xs : List T) (lo hi : Option Int) : List T := (xs.drop (HT.sIx xs.length 0 lo)).take (HT.sIx xs.length xs.length hi - HT.sIx xs.length 0 lo)
def slT (r : RS) (t : T) (lo hi : Option Int) : Option T := match t with
  | .str z => if z.length ≤ 100000 then some (.str (cutS z lo hi)) else none
  | .lst xs => some (.lst (cutT xs lo hi))
  | .kls xs => some (.lst (cutT xs lo hi))
  | .ref k => r[k]?.map fun xs => .lst (cutT xs lo hi)
  | .tup xs => some (.tup (cutT xs lo hi))
  | _ => none
theorem Dens.cut {w : Wd} {vs : List V} {xs : List T} (d : Dens G w vs xs) (lo hi : Option Int) : Dens G w (cutV vs lo hi) (cutT xs lo hi) := by
  unfold cutV cutT
  rw [d.length]
  exact (d.drop _).take _
theorem cutT_length (xs : List T) (lo hi : Option Int) : (cutT xs lo hi).length ≤ xs.length := by
  unfold cutT
  rw [List.length_take, List.length_drop]
  omega
theorem tup_inj {K : PySem.W.Frag} : True := trivial
/-- a slice's value -/
def SlVal (X : Cx) (G : Gm) (r3 : V → Option Int → Option Int → Hp → VK → Prop) : Prop := ∀ w H r x t lo hi z Q, Good G w H r → DenB G w H x t → slT r t lo hi = some z → (∀ v w' H', Step w H w' H' → Good G w' H' r → Den G w' v z → Q v H') → r3 x lo hi H Q
theorem sl_use (hK : X.K = G.K) : SlVal X G (fun x lo hi H Q => rSlL X.K x lo hi H Q ∨ rSlA X.K x lo hi H Q ∨ rSlS x lo hi H Q) := by
  intro w H r x t lo hi z Q g d e q
  rw [hK]
  have lst : ∀ xs, seqT r t = some xs → z = .lst (cutT xs lo hi) → (∀ ys, t ≠ .tup ys) → rSlL G.K x lo hi H Q := fun xs e1 e2 nt => by
    obtain ⟨a, rfl, sd⟩ := seq_of g d e1
    have go : ∀ vs, SqL G.K H a vs → Dens G w vs xs → xs.length ≤ sizeLine → rSlL G.K (.ref a) lo hi H Q := fun vs h d z' => ⟨a, vs, rfl, h, fun p hp => by
      obtain ⟨st, g2⟩ := g.new (o := .lst (cutV vs lo hi)) hp
      subst e2
      exact q _ _ _ st g2 (.lst upd_same (Nat.le_trans (cutT_length _ _ _) z') ((d.cut lo hi).mono st.later))⟩
    rcases d with d | ⟨b, vs, ys, e3, e4, h1, h2, h3, h4⟩
    · cases d with
      | lst h z d => cases e1; exact go _ (SqL.of (g.sub _ _ h)) d z
      | kls h z d => cases e1; exact go _ (g.sub.seq h) d z
      | tup h z d => exact absurd rfl (nt _)
      | @ref k b h =>
        obtain ⟨b', vs, h1, h2, h3, h4⟩ := g.refs.at_ k xs e1
        rw [h] at h1
        cases h1
        exact go vs (SqL.of h2) h3 h4
      | _ => cases e1
    · cases e3
      subst e4
      cases e1
      exact go vs (SqL.of h2) h3 h4
  cases t with
  | str zz =>
    have e : (if zz.length ≤ 100000 then some (T.str (cutS zz lo hi)) else none) = some z := e
    by_cases hz : zz.length ≤ 100000
    · rw [if_pos hz] at e
      cases e
      have : x = .str zz := by
        rcases d with d1 | ⟨_, _, _, _, e2, _⟩
        · cases d1; rfl
        · cases e2
      subst this
      exact .inr (.inr ⟨zz, rfl, Nat.le_trans hz (by decide), q _ w H (Step.refl _ _) g (.str _)⟩)
    · rw [if_neg hz] at e; cases e
  | lst xs =>
    cases e
    exact .inl (lst xs rfl rfl fun _ => nofun)
  | kls xs =>
    cases e
    exact .inl (lst xs rfl rfl fun _ => nofun)
  | ref k =>
    have e : (r[k]?.map fun xs => T.lst (cutT xs lo hi)) = some z := e
    cases q' : r[k]? with
    | none => rw [q'] at e; cases e
    | some xs =>
      rw [q'] at e
      cases e
      exact .inl (lst xs q' rfl fun _ => nofun)
  | tup xs =>
    cases e
    rcases d with d1 | ⟨_, _, _, _, e2, _⟩
    · cases d1 with
      | @tup a vs _ h z d =>
        have hl : (cutT xs lo hi).length ≤ sizeLine := Nat.le_trans (cutT_length _ _ _) z
        refine .inr (.inl ⟨a, vs, rfl, tup_sq g.sub h, ?_, ?_⟩)
        · rw [d.length]
          rintro ⟨e1, e2⟩
          refine q _ w H (Step.refl _ _) g (.tup h hl ?_)
          unfold cutT
          rw [e1, e2]
          simpa using d
        · intro _ p hp
          obtain ⟨st, g2⟩ := g.new (o := .tup (cutV vs lo hi)) hp
          exact q _ _ _ st g2 (.tup (.inl upd_same) hl ((d.cut lo hi).mono st.later))
    · cases e2
  | _ => cases e
def fSl (f : Env → M T) (lo hi : Option (Env → M T)) : Env → M T := fun env => f env >>= fun x => fO lo env >>= fun i => fO hi env >>= fun j => fun r => M.lift (slT r x i j) r
theorem seqO {α : Type} {w : Wd} {H0 H : Hp} {r : RS} {σ : L2.St} {env : Env} {o : Option (Env → M T)} {k : Option Int → M α} {P : α → RS → Wd → Hp → Prop} {Q : Option Int → Hp → Prop} (g : Good G w H r) (s : Slots G w H0 H σ env) (h : OutP G w H (WE0 W σ) P ((fO o env >>= k) r))
    (n : ∀ t r1 w1 H1, Good G w1 H1 r1 → Slots G w1 H0 H1 σ env → Step w H w1 H1 → OutP G w1 H1 (WE0 W σ) P (k t r1) → Q t H1) : tSO G W o σ H Q :=
  ⟨w, H0, env, r, g, s, h.bind.imp fun t r1 w1 H1 st g1 o => n t r1 w1 H1 g1 (s.step st) st o⟩
theorem s_sl {lo hi : Option Expr} {fl fh : Option (Env → M T)} {p2 : Pos} (hK : X.K = G.K) (ha : SK X G W a f) (hl : PO X lo (tSO G W fl)) (hh : PO X hi (tSO G W fh)) : SE X G W (.Subscript a (.Slice lo hi none p2) pos) (fSl f fl fh) :=
  pe_imp (pe_slice (sl_list.or (sl_tupA.or sl_str)) ha hl hh) fun σ H Q ⟨w, H0, env, r, g0, s, h0⟩ => by
    refine seqK g0 s h0 fun t r1 w1 H1 x g1 s1 st1 d1 h1 => ?_
    refine seqO g1 s1 h1 fun i r2 w2 H2 g2 s2 st2 h2 => ?_
    refine seqO g2 s2 h2 fun j r3 w3 H3 g3 s3 st3 h3 => ?_
    obtain ⟨z, ez, h4⟩ := liftP h3
    exact sl_use hK w3 H3 r3 x t i j z Q g3 ((d1.step st2).step st3) ez fun v w' H' st g' d => h4 w' H' st g' v d
/-! ### new lists -/
def tSL (G : Gm) (W : WX) (f : Env → M (List T)) : TE := fun σ H Q => ∃ w H0 env r, Good G w H r ∧ Slots G w H0 H σ env ∧
  OutP G w H (WE0 W σ) (fun xs _ w' H' => ∀ p vs, ¬ Vs H p → w'.P p = none → p ∉ w'.R → H' p = some (.lst vs) → Dens G w' vs xs → xs.length ≤ sizeLine → Q (.ref p) H') (f env r)
abbrev SL (X : Cx) (G : Gm) (W : WX) (e : Expr) (f : Env → M (List T)) : Prop := PE X e (tSL G W f)
theorem Step.publish {w w' : Wd} {H H' : Hp} {p : Addr} {o : HO} (s : Step w H w' H') (h0 : ¬ Vs H p) (hP : w'.P p = none) : Step w H (w'.add p o) H' := by
  refine ⟨fun a u e => ?_, s.fr, s.keep, fun a h1 h2 h3 => ?_, s.refs, s.me⟩
  · show upd w'.P p o a = some u
    have := s.pub a u e
    rw [upd_ne (ne_of_none this hP)]
    exact this
  · show upd w'.P p o a = none
    rw [upd_ne (fun e => h0 (by rw [← e]; exact h2))]
    exact s.hid a h1 h2 h3
theorem Later.add {w : Wd} {p : Addr} {o : HO} (hP : w.P p = none) : Later w (w.add p o) := ⟨fun a u e => by
  show upd w.P p o a = some u
  rw [upd_ne (ne_of_none e hP)]
  exact e, [], by simp [Wd.add]⟩
theorem Good.publish {w : Wd} {H : Hp} {r : RS} {p : Addr} {o : HO} (g : Good G w H r) (hP : w.P p = none) (hR : p ∉ w.R) (h : H p = some o) (no : NoTab o := by intro ps e; cases e) : Good G (w.add p o) H r := by
  refine ⟨fun a u e => ?_, ⟨g.refs.nd, g.refs.len, fun a ha => ?_, fun k xs hk => ?_⟩, g.tabs, fun a u e => ?_⟩
  · have e : upd w.P p o a = some u := e
    by_cases q : a = p
    · subst q
      rw [upd_same] at e
      cases e
      exact h
    · rw [upd_ne q] at e
      exact g.sub a u e
  · show upd w.P p o a = none
    rw [upd_ne (fun e => hR (by rw [← e]; exact ha))]
    exact g.refs.out a ha
  · obtain ⟨a, vs, h1, h2, h3, hz⟩ := g.refs.at_ k xs hk
    exact ⟨a, vs, h1, h2, h3.mono (Later.add hP), hz⟩
  · have e : upd w.P p o a = some u := e
    by_cases q : a = p
    · subst q
      rw [upd_same] at e
      cases e
      exact no
    · rw [upd_ne q] at e
      exact g.nt a u e
def fOwn (f : Env → M (List T)) : Env → M T := fun env => f env >>= fun xs => pure (.lst xs)
theorem own_read {f : Env → M (List T)} {σ : L2.St} {H : Hp} {Q : VK} : tS G W (fOwn f) σ H Q → tSL G W f σ H Q := fun ⟨w, H0, env, r, g, s, h⟩ => by
  refine ⟨w, H0, env, r, g, s, ?_⟩
  have e : fOwn f env r = M.bind (f env) (fun xs => M.pure (T.lst xs)) r := rfl
  rw [e] at h
  unfold M.bind at h
  cases q : f env r with
  | ok xs r1 =>
    rw [q] at h
    intro w1 H1 st g1 p vs hp hP hR hh d z
    exact h _ _ (st.publish hp hP) (g1.publish hP hR hh) _ (.lst upd_same z (d.mono (Later.add hP)))
  | exn c p r1 =>
    rw [q] at h
    exact h
  | bad =>
    rw [q] at h
    exact h
theorem s_own {f : Env → M (List T)} (h : SL X G W a f) : SE X G W a (fOwn f) := pe_imp h fun σ H Q q => own_read q
theorem l_lst {es : List Expr} {fs : List (Env → M T)} (ha : SA X G W es fs) (hl : fs.length ≤ 1000 := by decide) : SL X G W (.List es pos) (fAll fs) :=
  pe_imp (pe_lst ha) fun σ H Q ⟨w, H0, env, r, g0, s, h0⟩ => by
    refine ⟨w, H0, env, r, g0, s, ?_⟩
    cases q : fAll fs env r with
    | ok ts r1 =>
      rw [q] at h0
      intro w1 H1 st g1 vs d l
      have hz : ts.length ≤ sizeLine := by rw [l]; exact Nat.le_trans hl (by decide)
      refine ⟨by rw [d.length]; exact hz, fun p hp => ?_⟩
      have hR := g1.noref hp
      have hP := g1.nopub hp
      have hH : ¬ Vs H p := fun z => nvs hp (st.keep p z)
      have st2 : Step w H w1 (upd H1 p (.lst vs)) := ⟨st.pub, fun a o h1 h2 h3 => by
        rw [upd_ne (ne_of_none (st.fr a o h1 h2 h3) hp)]
        exact st.fr a o h1 h2 h3, fun a h => by
        exact (st.keep a h).put (by intro _ e; cases e), st.hid, st.refs, st.me⟩
      have g2 : Good G w1 (upd H1 p (.lst vs)) r1 := ⟨fun a o e => by
        rw [upd_ne (ne_of_none (g1.sub a o e) hp)]
        exact g1.sub a o e, ⟨g1.refs.nd, g1.refs.len, g1.refs.out, fun k xs hk => by
        obtain ⟨a, us, h1, h2, h3, h4⟩ := g1.refs.at_ k xs hk
        exact ⟨a, us, h1, by rw [upd_ne (ne_of_none h2 hp)]; exact h2, h3, h4⟩⟩, tabs_put g1.tabs (.inl hp), g1.nt⟩
      exact h0 w1 _ st2 g2 p vs hH hP hR upd_same d hz
    | exn c p r1 =>
      rw [q] at h0
      exact h0
    | bad =>
      rw [q] at h0
      exact h0
end
end Ep
namespace Ep
open PySem PySem.Spec L2
section
variable {G : Gm} {w w1 : Wd} {H H1 : Hp} {r : RS} {p : Addr} {o : HO}
theorem Step.before (s : Step w H w1 H1) (h : H1 p = none) : ¬ Vs H p := fun z => nvs h (s.keep p z)
/-- a new thing that nobody else sees -/
theorem Step.priv (s : Step w H w1 H1) (hp : H1 p = none) (no : NoTab o := by intro ps e; cases e) : Step w H w1 (upd H1 p o) := ⟨s.pub, fun a u h1 h2 h3 => by
    rw [upd_ne (ne_of_none (s.fr a u h1 h2 h3) hp)]
    exact s.fr a u h1 h2 h3, fun a h => by
    exact (s.keep a h).put no, s.hid, s.refs, s.me⟩
/-- a private thing is changed -/
theorem Step.chg (s : Step w H w1 H1) (h0 : ¬ Vs H p) (no : NoTab o := by intro ps e; cases e) : Step w H w1 (upd H1 p o) := ⟨s.pub, fun a u h1 h2 h3 => by
    rw [upd_ne (ne_nv h2 h3 h0)]
    exact s.fr a u h1 h2 h3, fun a h => by
    exact (s.keep a h).put no, s.hid, s.refs, s.me⟩
theorem Good.priv (g : Good G w H r) (hP : w.P p = none) (hR : p ∉ w.R) (hq : H p = none ∨ ∃ u, H p = some u ∧ Pl u) : Good G w (upd H p o) r := ⟨fun a u e => by
    rw [upd_ne (ne_of_none e hP)]
    exact g.sub a u e, ⟨g.refs.nd, g.refs.len, g.refs.out, fun k xs hk => by
    obtain ⟨a, us, h1, h2, h3, h4⟩ := g.refs.at_ k xs hk
    refine ⟨a, us, h1, ?_, h3, h4⟩
    rw [upd_ne (fun e => hR (by rw [← e]; exact List.mem_of_getElem? h1))]
    exact h2⟩, tabs_put g.tabs hq, g.nt⟩
end
/-! ### fields -/
theorem lookup_zip {name : Str} : ∀ {l : List Str} {vs : List V} {j : Nat}, l.findIdx? (fun y => y == name) = some j → l.length = vs.length → (l.zip vs).lookup name = vs[j]?
  | [], _, _, h, _ => by simp at h
  | y :: l, [], _, _, e => by simp at e
  | y :: l, v :: vs, j, h, e => by
    rw [List.findIdx?_cons] at h
    rw [List.zip_cons_cons, List.lookup_cons]
    by_cases q : y = name
    · subst q
      have e1 : (y == y) = true := by simp
      rw [if_pos e1] at h
      cases h
      rw [e1]
      rfl
    · have e1 : (y == name) = false := by simp [q]
      have e2 : (name == y) = false := by simp [Ne.symm q]
      rw [e1, if_neg (by decide)] at h
      rw [e2]
      cases h2 : l.findIdx? (fun y => y == name) with
      | none => rw [h2] at h; cases h
      | some i =>
        rw [h2] at h
        cases h
        have := lookup_zip (vs := vs) h2 (by simpa using e)
        simpa using this
theorem lookup_zip_none {name : Str} : ∀ {l : List Str} {vs : List V}, name ∉ l → (l.zip vs).lookup name = none
  | [], _, _ => rfl
  | y :: l, [], _ => rfl
  | y :: l, v :: vs, h => by
    rw [List.zip_cons_cons, List.lookup_cons]
    have e2 : (name == y) = false := by
      have : name ≠ y := fun e => h (by rw [e]; exact List.mem_cons_self)
      simp [this]
    rw [e2]
    exact lookup_zip_none fun hm => h (List.mem_cons_of_mem _ hm)
/-- the classes whose instances have the field, and its place -/
structure FldOk (G : Gm) (name : Str) (C j : Nat) : Prop where
  at_ : (G.fl C).findIdx? (fun y => y == name) = some j
  cl : ∀ cA, G.mg (G.cn C) = some (.ref cA) → Cls G.K cA ∧ NoAttr G.K cA name
def fFld (m : Nat → Option Nat) (f : Env → M T) : Env → M T := fun env => f env >>= fun x => match x with
  | .obj C vs => M.lift ((m C).bind fun j => vs[j]?)
  | _ => M.bad
section
variable {X : Cx} {G : Gm} {W : WX} {pos : Pos} {a b : Expr} {f g : Env → M T} {name : Str}
theorem s_fld (hK : X.K = G.K) (m : Nat → Option Nat) (ok : ∀ C j, m C = some j → FldOk G name C j) (ha : SE X G W a f) (hb : attributeBase a name X.env (eval a X.env) = eval a X.env := by rfl) : SE X G W (.Attribute a name pos) (fFld m f) :=
  pe_imp (pe_fld ha hb) fun σ H Q ⟨w, H0, env, r, g0, s, h0⟩ => by
    refine seqE g0 s h0 fun t r1 w1 H1 x g1 s1 st1 d1 h1 => ?_
    cases d1 with
    | @obj p cA dx C vs ts c h l d =>
      obtain ⟨z, ez, h2⟩ := liftP h1
      cases q : m C with
      | none => rw [q] at ez; cases ez
      | some j =>
        rw [q] at ez
        have o := ok C j q
        obtain ⟨v, e1, e2⟩ := d.get (i := j) ez
        rw [hK]
        exact ⟨p, cA, dx, _, v, rfl, g1.sub _ _ h, (o.cl cA c).1, (o.cl cA c).2, by rw [lookup_zip o.at_ l]; exact e1, h2 w1 H1 (Step.refl _ _) g1 v e2⟩
    | _ => exact h1.elim
/-! ### calls -/
/-- a def computes F of n arguments -/
def spF (G : Gm) (n : Nat) (F : List T → M T) : Sp := fun vs H Q E => ∃ w r ts, Good G w H r ∧ Dens G w vs ts ∧ ts.length = n ∧ OutP G w H E (fun t _ w' H' => ∀ v, Den G w' v t → Q v H') (F ts r)
/-- an __init__ makes of n arguments the fields of an instance of C -/
def spI (G : Gm) (C n : Nat) (F : List T → M (List T)) : Sp := fun vs H Q E => ∃ w r ts x rest cA dx H1, vs = .ref x :: rest ∧ G.mg (G.cn C) = some (.ref cA) ∧ H1 x = none ∧ H1 dx = none ∧ dx ≠ x ∧ H = upd (upd H1 dx (.own x)) x (.ins cA dx []) ∧
  Good G w H1 r ∧ Dens G w rest ts ∧ ts.length = n ∧ OutP G w H1 E (fun fs _ w' H' => ∀ us dx', H' x = some (.ins cA dx' ((G.fl C).zip us)) → us.length = (G.fl C).length → Dens G w' us fs → w'.P x = none → x ∉ w'.R → Q .non H') (F ts r)
theorem spF_len {n : Nat} {F : List T → M T} {ps : List Str} (h : ps.length = n) : ∀ vs H Q E, spF G n F vs H Q E → vs.length = ps.length := fun vs H Q E ⟨w, r, ts, g, d, l, _⟩ => by rw [d.length, l, h]
theorem spI_len {C n : Nat} {F : List T → M (List T)} {ps : List Str} (h : ps.length = n + 1) : ∀ vs H Q E, spI G C n F vs H Q E → vs.length = ps.length := fun vs H Q E ⟨w, r, ts, x, rest, cA, dx, H1, e, _, _, _, _, _, g, d, l, _⟩ => by rw [e, List.length_cons, d.length, l, h]
/-- a def of the top: x its name, n its parameters, ds its last arguments where they are left out -/
structure DefOk (P : Program) (wd : World) (base : Heap) (G : Gm) (k : Nat) (x : Str) (n : Nat) (ds : List T) (F : List T → M T) : Prop where
  ex : ∃ f fd ps dvs dus, FnOk P wd G.K G.mg base (L2.CX P wd) k f fd ps (spF G n F) ∧ G.mg x = some (.ref f) ∧ PySem.W.keepIn G.K (.ref f) = true ∧ Binds G.K fd ps dus ∧ Vals dvs dus ∧ ∀ w, Dens G w dvs ds
/-- a class's making -/
structure MakeOk (P : Program) (wd : World) (base : Heap) (G : Gm) (k C n : Nat) (ds : List T) (F : List T → M (List T)) : Prop where
  ex : ∃ cA f fd ps dvs dus, G.mg (G.cn C) = some (.ref cA) ∧ Mk G.K cA f ∧ FnOk P wd G.K G.mg base (L2.CX P wd) k f fd ps (spI G C n F) ∧ Binds G.K fd ps dus ∧ Vals dvs dus ∧ ∀ w, Dens G w dvs ds
/-- a method of the class C: F takes the instance first -/
structure MethOk (P : Program) (wd : World) (base : Heap) (G : Gm) (k C : Nat) (m : Str) (n : Nat) (ds : List T) (F : List T → M T) : Prop where
  ex : ∃ cA f fd ps dvs dus, G.mg (G.cn C) = some (.ref cA) ∧ Cls G.K cA ∧ Meth G.K cA m f ∧ FnOk P wd G.K G.mg base (L2.CX P wd) k f fd ps (spF G n F) ∧ Binds G.K fd ps dus ∧ Vals dvs dus ∧ ∀ w, Dens G w dvs ds
  nof : m ∉ G.fl C
def fCall (F : List T → M T) (ds : List T) (fs : List (Env → M T)) : Env → M T := fun env => fAll fs env >>= fun ts => F (ts ++ ds)
def fMake (C : Nat) (F : List T → M (List T)) (ds : List T) (fs : List (Env → M T)) : Env → M T := fun env => fAll fs env >>= fun ts => F (ts ++ ds) >>= fun us => pure (.obj C us)
def fMeth (C : Nat) (F : List T → M T) (ds : List T) (f : Env → M T) (fs : List (Env → M T)) : Env → M T := fun env => f env >>= fun x => match x with
  | .obj C' vs => if C' = C then fAll fs env >>= fun ts => F (.obj C' vs :: (ts ++ ds)) else M.bad
  | _ => M.bad
variable {e : Expr} {es : List Expr} {fs : List (Env → M T)} {ds : List T} {j k n C : Nat} {p apos : Pos} {x : Str}
theorem call_use {F : List T → M T} {dvs : List V} (hn : fs.length + ds.length = n) (hd : ∀ w, Dens G w dvs ds) {σ : L2.St} {H : Hp} {Q : VK} (h : tS G W (fCall F ds fs) σ H Q) : tCallSD (spF G n F) dvs (WE W) (tSA G W fs) σ H Q := by
  obtain ⟨w, H0, env, r, g0, s, h0⟩ := h
  refine seqA g0 s h0 fun ts r1 w1 H1 vs g1 s1 st1 d1 l h1 => ?_
  exact ⟨w1, r1, ts ++ ds, g1, d1.append (hd w1), by rw [List.length_append, l, hn], h1⟩
theorem s_call {F : List T → M T} (D : DefOk X.prog X.w X.base G k x n ds F) (hK : X.K = G.K) (hM : X.mg = G.mg) (tk : Takes X W) (hr : Room j X.A) (hk : k ≤ j) (hg : Gl X x) (ha : SA X G W (e :: es) fs) (hn : fs.length + ds.length = n := by rfl)
    (hdb : (x == ("__debug__" : Str)) = false := by decide) (he : starEach (e :: es) X.env = (false, eval e X.env) :: starEach es X.env := by rfl) (hpl : (backTo pos (starEach es X.env)).any (·.1) = false := by rfl) : SE X G W (.Call (.Name x p) (e :: es) [] pos) (fCall F ds fs) := by
  obtain ⟨f, fd, ps, dvs, dus, h1, h2, h3, h4, h5, h6⟩ := D.ex
  rw [← hK, ← hM] at h1
  exact pe_imp (pe_callSD (E := WE W) h1 (hr.mono hk) hg (by rw [hM]; exact h2) (by rw [hK]; exact h3) (by rw [hK]; exact h4) h5 (fun σ => passAt tk σ) ha hdb he hpl) fun σ H Q h => call_use hn h6 h
theorem pe_call0SD {CX : CXT} {f : Addr} {fd : FuncData} {ps : List Str} {sp : Sp} {dvs : List V} {dus : List Value} {E : L2.St → XK} (F : FnOk X.prog X.w X.K X.mg X.base CX k f fd ps sp) (hr : Room k X.A) (hg : Gl X x) (hm : X.mg x = some (.ref f)) (hk : PySem.W.keepIn X.K (.ref f) = true) (hb : Binds X.K fd ps dus) (hd : Vals dvs dus) (hx : ∀ σ, PassesAt CX X σ (E σ))
    (hdb : (x == ("__debug__" : Str)) = false := by decide) : PE X (.Call (.Name x p) [] [] pos) (tCallSD sp dvs E tNil) := by
  refine ⟨fun pins s σ H Q I h => ?_⟩
  refine wpAny_Call_Name_kw (ld_glob I hg hm ?_ hdb)
  exact PySem.W.callWith_K0 I.kIn hk (run_fnSD (us := []) F hr hb hd (hx σ) I .nil h)
theorem s_call0 {F : List T → M T} (D : DefOk X.prog X.w X.base G k x n ds F) (hK : X.K = G.K) (hM : X.mg = G.mg) (tk : Takes X W) (hr : Room j X.A) (hk : k ≤ j) (hg : Gl X x) (hn : ds.length = n := by rfl)
    (hdb : (x == ("__debug__" : Str)) = false := by decide) : SE X G W (.Call (.Name x p) [] [] pos) (fCall F ds []) := by
  obtain ⟨f, fd, ps, dvs, dus, h1, h2, h3, h4, h5, h6⟩ := D.ex
  rw [← hK, ← hM] at h1
  refine pe_imp (pe_call0SD (E := WE W) h1 (hr.mono hk) hg (by rw [hM]; exact h2) (by rw [hK]; exact h3) (by rw [hK]; exact h4) h5 (fun σ => passAt tk σ) hdb) fun σ H Q ⟨w, H0, env, r, g0, s, h0⟩ => ?_
  exact ⟨w, r, [] ++ ds, g0, by simpa using h6 w, by simpa using hn, h0⟩
theorem s_meth {F : List T → M T} {m : Str} {o : Expr} {pl : Sem Bool} (D : MethOk X.prog X.w X.base G k C m n ds F) (hK : X.K = G.K) (hM : X.mg = G.mg) (tk : Takes X W) (hr : Room j X.A) (hk : k ≤ j) (ho : SE X G W o f) (ha : SA X G W (e :: es) fs) (hn : fs.length + ds.length + 1 = n := by rfl) (hst : starEach (e :: es) X.env = (false, eval e X.env) :: starEach es X.env := by rfl) (hpl : (backTo pos (starEach es X.env)).any (·.1) = false := by rfl)
    (ht : eval (.Call (.Attribute o m apos) (e :: es) [] pos) X.env = (do let ov ← eval o X.env; standAt apos.atName; let (f, first) ← holding [ov] (getMethod ov m pl); callWith pos f first (backTo pos (starEach (e :: es) X.env)) (backToKw pos (keywordEach [] X.env))) := by rfl) : SE X G W (.Call (.Attribute o m apos) (e :: es) [] pos) (fMeth C F ds f fs) := by
  obtain ⟨cA, fn, fd, ps, dvs, dus, c1, c2, c3, h1, h4, h5, h6⟩ := D.ex
  rw [← hK, ← hM] at h1
  refine ⟨fun pins s σ H Q I ⟨w, H0, env, r, g0, s0, h0⟩ => ?_⟩
  refine PySem.W.methodCall_KW (pl := pl) (thn (ho.run pins s σ H _ I (seqE g0 s0 h0 fun t r1 w1 H1 x g1 s1 st1 d1 h1 => show (∃ w1 r1 t, Good G w1 H1 r1 ∧ Slots G w1 H0 H1 σ env ∧ Den G w1 x t ∧ OutP G w1 H1 (WE0 W σ) (fun t x w' H' => ∀ (v : V), Den G w' v t → Q v H') ((match t with | .obj C' vs => if C' = C then fAll fs env >>= fun ts => F (.obj C' vs :: (ts ++ ds)) else M.bad | _ => M.bad : M T) r1)) from ⟨w1, r1, t, g1, s1, d1, h1⟩)) fun u s1 ⟨v, H1, I1, rv, w1, r1, t, g1, sl1, d1, h2⟩ => ?_) ht
  cases d1 with
  | @obj q cA' dx C' vs ts c h l d =>
    by_cases hC : C' = C
    · subst hC
      rw [c1] at c
      cases c
      obtain rfl : u = Value.ref q := rv
      have h2 : OutP G w1 H1 (WE0 W σ) (fun t x w' H' => ∀ (v : V), Den G w' v t → Q v H') ((fAll fs env >>= fun us => F (.obj C' ts :: (us ++ ds))) r1) := by simpa using h2
      refine getmeth_ok I1 (g1.sub _ _ h) (by rw [hK]; exact c2) (by rw [hK]; exact c3) (lookup_zip_none D.nof) ?_
      refine PySem.W.callWith_K (first := [.ref q]) (h₀ := X.base) I.ok.mod.kin (by rw [hK]; exact c3.kp) (thn (ha.run pos pins s1 σ H1 _ I1 (seqA g1 sl1 h2 fun us r2 w2 H2 ws g2 s2 st2 d2 l2 h3 => show (∃ w2 r2 us, Good G w2 H2 r2 ∧ Dens G w2 (.ref q :: (ws ++ dvs)) (.obj C' ts :: (us ++ ds)) ∧ us.length = fs.length ∧ OutP G w2 H2 (WE0 W σ) (fun t x w' H' => ∀ (v : V), Den G w' v t → Q v H') (F (.obj C' ts :: (us ++ ds)) r2)) from ⟨w2, r2, us, g2, .cons ((Den.obj c1 h l d).mono st2.later) (d2.append (h6 w2)), l2, h3⟩)) fun us s2 ⟨ws, H2, I2, rw2, w2, r2, us', g2, d2, l2, h3⟩ => ⟨I2.kIn, ?_⟩) hst hpl
      exact run_fnSD (us := .ref q :: us) (vs := .ref q :: ws) h1 (hr.mono hk) (by rw [hK]; exact h4) h5 (passAt tk σ) I2 (.cons rfl rw2) ⟨w2, r2, _, g2, d2, by rw [List.length_cons, List.length_append, l2, ← hn], h3⟩
    · have h2 : OutP G w1 H1 (WE0 W σ) (fun t x w' H' => ∀ (v : V), Den G w' v t → Q v H') ((M.bad : M T) r1) := by simpa [hC] using h2
      exact h2.elim
  | _ => exact h2.elim
theorem s_meth0 {F : List T → M T} {m : Str} {o : Expr} {pl : Sem Bool} (D : MethOk X.prog X.w X.base G k C m n ds F) (hK : X.K = G.K) (hM : X.mg = G.mg) (tk : Takes X W) (hr : Room j X.A) (hk : k ≤ j) (ho : SE X G W o f) (hn : ds.length + 1 = n := by rfl)
    (ht : eval (.Call (.Attribute o m apos) [] [] pos) X.env = (do let ov ← eval o X.env; standAt apos.atName; let (f, first) ← holding [ov] (getMethod ov m pl); callWith pos f first (backTo pos (starEach [] X.env)) (backToKw pos (keywordEach [] X.env))) := by rfl) : SE X G W (.Call (.Attribute o m apos) [] [] pos) (fMeth C F ds f []) := by
  obtain ⟨cA, fn, fd, ps, dvs, dus, c1, c2, c3, h1, h4, h5, h6⟩ := D.ex
  rw [← hK, ← hM] at h1
  refine ⟨fun pins s σ H Q I ⟨w, H0, env, r, g0, s0, h0⟩ => ?_⟩
  refine PySem.W.methodCall_KW (pl := pl) (thn (ho.run pins s σ H _ I (seqE g0 s0 h0 fun t r1 w1 H1 x g1 s1 st1 d1 h1 => show (∃ w1 r1 t, Good G w1 H1 r1 ∧ Slots G w1 H0 H1 σ env ∧ Den G w1 x t ∧ OutP G w1 H1 (WE0 W σ) (fun t x w' H' => ∀ (v : V), Den G w' v t → Q v H') ((match t with | .obj C' vs => if C' = C then fAll [] env >>= fun ts => F (.obj C' vs :: (ts ++ ds)) else M.bad | _ => M.bad : M T) r1)) from ⟨w1, r1, t, g1, s1, d1, h1⟩)) fun u s1 ⟨v, H1, I1, rv, w1, r1, t, g1, sl1, d1, h2⟩ => ?_) ht
  cases d1 with
  | @obj q cA' dx C' vs ts c h l d =>
    by_cases hC : C' = C
    · subst hC
      rw [c1] at c
      cases c
      obtain rfl : u = Value.ref q := rv
      have h2 : OutP G w1 H1 (WE0 W σ) (fun t x w' H' => ∀ (v : V), Den G w' v t → Q v H') (F (.obj C' ts :: ([] ++ ds)) r1) := by
        have h2 : OutP G w1 H1 (WE0 W σ) (fun t x w' H' => ∀ (v : V), Den G w' v t → Q v H') ((if C' = C' then (fAll [] env >>= fun us => F (.obj C' ts :: (us ++ ds))) else M.bad : M T) r1) := h2
        rw [if_pos rfl] at h2
        exact h2
      refine getmeth_ok I1 (g1.sub _ _ h) (by rw [hK]; exact c2) (by rw [hK]; exact c3) (lookup_zip_none D.nof) ?_
      exact PySem.W.callWith_K0 (first := [.ref q]) I1.kIn (by rw [hK]; exact c3.kp) (run_fnSD (us := [.ref q]) (vs := [.ref q]) h1 (hr.mono hk) (by rw [hK]; exact h4) h5 (passAt tk σ) I1 (.cons rfl .nil) ⟨w1, r1, _, g1, .cons (.obj c1 h l d) (h6 w1), by simpa using hn, h2⟩)
    · have h2 : OutP G w1 H1 (WE0 W σ) (fun t x w' H' => ∀ (v : V), Den G w' v t → Q v H') ((M.bad : M T) r1) := by simpa [hC] using h2
      exact h2.elim
  | _ => exact h2.elim
/-! ### instances made -/
theorem run_makeSD {CX : CXT} {cA f : Addr} {fd : FuncData} {ps : List Str} {sp : Sp} {dvs : List V} {dus : List Value} {E : L2.St → XK} {pins : List (Addr × Obj)} {σ : L2.St} {H : Hp} {s : Shared} {Q : VK} {us : List Value} {vs : List V} (Mk' : Mk X.K cA f) (F : FnOk X.prog X.w X.K X.mg X.base CX k f fd ps sp) (hr : Room (k + 1) X.A) (hb : Binds X.K fd ps dus) (hd : Vals dvs dus)
    (hx : ∀ σ, PassesAt CX X σ (E σ)) (I : L2.Inv X pins σ H s) (r : Vals vs us)
    (h : ∀ x dx, H x = none → H dx = none → dx ≠ x → sp (.ref x :: (vs ++ dvs)) (upd (upd H dx (.own x)) x (.ins cA dx [])) (fun v H2 => v = .non ∧ Q (.ref x) H2) (E σ)) :
    wpAny (model X.prog X.w) X.A (call (.ref cA) us) (EP X pins σ Q) X.xe s := by
  have fr0 : H s.heap.objs.size = none := I.hok.fresh (Nat.le_refl _)
  have fr1 : H (s.heap.objs.size + 1) = none := I.hok.fresh (Nat.le_succ _)
  have hq := h _ _ fr1 fr0 (Nat.ne_of_lt (Nat.lt_succ_self _))
  have J := L2.Inv.made (C := cA) I
  have rr : Vals (V.ref (s.heap.objs.size + 1) :: (vs ++ dvs)) (Value.ref (s.heap.objs.size + 1) :: (us ++ dus)) := .cons rfl (r.append hd)
  have hl : (Value.ref (s.heap.objs.size + 1) :: us ++ dus).length = ps.length := by
    have e1 := rr.length
    have e2 := F.len _ _ _ _ hq
    rw [e2] at e1
    exact e1.symm
  refine wpAny_call (make_map (f := f) I.kIn Mk'.makes Mk'.init (beq_iff_eq.mp Mk'.fn) ?_)
  refine codeAny_mono (F.run _ X.stack _ _ ⟨Value.ref (s.heap.objs.size + 1) :: us, []⟩ (Value.ref (s.heap.objs.size + 1) :: (us ++ dus)) _ _ (E σ) (hr.make cA us []) (J.env0.make cA us []) (hb _ (Value.ref (s.heap.objs.size + 1) :: us) J.kIn hl) rr hq) fun res s' hq' => ?_
  cases res with
  | error e => exact hx σ pins _ _ e s' J hq'
  | ok fl =>
    cases fl with
    | ret u =>
      obtain ⟨v, H', I3, rv, ev, q3⟩ := J.after hq'
      rw [ev] at rv
      exact ⟨rv, ⟨V.ref (s.heap.objs.size + 1), H', I3, rfl, q3⟩⟩
    | next => exact hq'.elim
    | brk => exact hq'.elim
    | cont => exact hq'.elim
theorem make_use {F : List T → M (List T)} {cA x dx : Addr} {w1 : Wd} {H1 : Hp} {r1 : RS} {vs : List V} {ts : List T} {σ : L2.St} {Q : VK} (c1 : G.mg (G.cn C) = some (.ref cA)) (g1 : Good G w1 H1 r1) (d1 : Dens G w1 vs ts) (l1 : ts.length = n)
    (h1 : OutP G w1 H1 (WE0 W σ) (fun t _ w' H' => ∀ v, Den G w' v t → Q v H') ((F ts >>= fun us => pure (T.obj C us)) r1)) (hf : H1 x = none) (hdx : H1 dx = none) (ne : dx ≠ x) :
    spI G C n F (.ref x :: vs) (upd (upd H1 dx (.own x)) x (.ins cA dx [])) (fun v H2 => v = .non ∧ Q (.ref x) H2) (WE W σ) := by
  refine ⟨w1, r1, ts, x, vs, cA, dx, H1, rfl, c1, hf, hdx, ne, rfl, g1, d1, l1, ?_⟩
  have e : ((F ts >>= fun us => pure (T.obj C us)) : M T) r1 = M.bind (F ts) (fun us => M.pure (T.obj C us)) r1 := rfl
  rw [e] at h1
  unfold M.bind at h1
  cases q : F ts r1 with
  | ok us r2 =>
    rw [q] at h1
    intro w' H' st g' ws dx' hh hl d hP hR
    refine ⟨rfl, h1 _ _ (st.publish (nvs hf) hP) (g'.publish hP hR hh) _ ?_⟩
    exact .obj c1 upd_same hl.symm (d.mono (Later.add hP))
  | exn c p r2 =>
    rw [q] at h1
    exact h1
  | bad =>
    rw [q] at h1
    exact h1
theorem s_make {F : List T → M (List T)} (D : MakeOk X.prog X.w X.base G k C n ds F) (hx : x = G.cn C) (hK : X.K = G.K) (hM : X.mg = G.mg) (tk : Takes X W) (hr : Room j X.A) (hk : k + 1 ≤ j) (hg : Gl X x) (ha : SA X G W (e :: es) fs) (hn : fs.length + ds.length = n := by rfl)
    (hdb : (x == ("__debug__" : Str)) = false := by decide) (he : starEach (e :: es) X.env = (false, eval e X.env) :: starEach es X.env := by rfl) (hpl : (backTo pos (starEach es X.env)).any (·.1) = false := by rfl) : SE X G W (.Call (.Name x p) (e :: es) [] pos) (fMake C F ds fs) := by
  obtain ⟨cA, f, fd, ps, dvs, dus, c1, mk, h1, h4, h5, h6⟩ := D.ex
  rw [← hK, ← hM] at h1
  refine ⟨fun pins s σ H Q I ⟨w, H0, env, r, g0, s0, h0⟩ => ?_⟩
  refine wpAny_Call_Name_kw (ld_glob I hg (by rw [hM, hx]; exact c1) ?_ hdb)
  refine PySem.W.callWith_K (h₀ := X.base) I.ok.mod.kin (by rw [hK]; exact mk.kp) (thn (ha.run pos pins s σ H _ I (seqA g0 s0 h0 fun us r2 w2 H2 ws g2 s2 st2 d2 l2 h3 => show (∃ w2 r2 us, Good G w2 H2 r2 ∧ Dens G w2 (ws ++ dvs) (us ++ ds) ∧ us.length = fs.length ∧ OutP G w2 H2 (WE0 W σ) (fun t x w' H' => ∀ (v : V), Den G w' v t → Q v H') ((F (us ++ ds) >>= fun us => pure (T.obj C us)) r2)) from ⟨w2, r2, us, g2, d2.append (h6 w2), l2, h3⟩)) fun us s1 ⟨vs, H1, I1, rv, w2, r2, us', g2, d2, l2, h3⟩ => ⟨I1.kIn, ?_⟩) he hpl
  exact run_makeSD (E := WE W) (by rw [hK]; exact mk) h1 (hr.mono hk) (by rw [hK]; exact h4) h5 (fun σ => passAt tk σ) I1 rv fun x dx e1 e2 ne => make_use c1 g2 d2 (by rw [List.length_append, l2, hn]) h3 e1 e2 ne
theorem s_make0 {F : List T → M (List T)} (D : MakeOk X.prog X.w X.base G k C n ds F) (hx : x = G.cn C) (hK : X.K = G.K) (hM : X.mg = G.mg) (tk : Takes X W) (hr : Room j X.A) (hk : k + 1 ≤ j) (hg : Gl X x) (hn : ds.length = n := by rfl)
    (hdb : (x == ("__debug__" : Str)) = false := by decide) : SE X G W (.Call (.Name x p) [] [] pos) (fMake C F ds []) := by
  obtain ⟨cA, f, fd, ps, dvs, dus, c1, mk, h1, h4, h5, h6⟩ := D.ex
  rw [← hK, ← hM] at h1
  refine ⟨fun pins s σ H Q I ⟨w, H0, env, r, g0, s0, h0⟩ => ?_⟩
  refine wpAny_Call_Name_kw (ld_glob I hg (by rw [hM, hx]; exact c1) ?_ hdb)
  exact PySem.W.callWith_K0 I.kIn (by rw [hK]; exact mk.kp) (run_makeSD (us := []) (vs := []) (E := WE W) (by rw [hK]; exact mk) h1 (hr.mono hk) (by rw [hK]; exact h4) h5 (fun σ => passAt tk σ) I .nil fun x dx e1 e2 ne => make_use c1 g0 (by simpa using h6 w) hn h0 e1 e2 ne)
end
end Ep
namespace Ep
open PySem PySem.Spec L2
section
variable {X : Cx} {G : Gm}
theorem OpV.or1 {r1 r2 : R2} {h : T → T → Option T} (a : OpV G r1 h) : OpV G (fun x y H Q => r1 x y H Q ∨ r2 x y H Q) h := fun w H r x y t u z Q g d1 d2 e q => .inl (a w H r x y t u z Q g d1 d2 e q)
/-! ### arithmetic -/
def addT : T → T → Option T
  | .int i, .int j => some (.int (i + j))
  | .int i, .bl k => some (.int (i + PyProof.Rows.b2i k))
  | .str a, .str b => if a.length + b.length ≤ 100000 then some (.str (a ++ b)) else none
  | .lst a, .lst b => if a.length + b.length ≤ 100000 then some (.lst (a ++ b)) else none
  | .tup a, .tup b => if a.length + b.length ≤ 100000 then some (.tup (a ++ b)) else none
  | _, _ => none
def rAddA (K : PySem.W.Frag) : R2 := fun x y H Q => (rI0 fun i j => .int (i + j)) x y H Q ∨ (∃ i k, x = .int i ∧ y = .bl k ∧ Q (.int (i + PyProof.Rows.b2i k)) H) ∨ (∃ i j, x = .str i ∧ y = .str j ∧ i.length + j.length ≤ sizeLine ∧ Q (.str (i ++ j)) H) ∨ rCat x y H Q ∨ rCatA K x y H Q
theorem op_addA : OpR X (binaryOp .Add) (rAddA X.K) := op_add.or (op_add_ib.or (op_add_str.or (op_cat.or op_catA)))
theorem le_size {n : Nat} (h : n ≤ 100000) : n ≤ sizeLine := Nat.le_trans h (by decide)
theorem v_add (hK : X.K = G.K) : OpV G (rAddA X.K) addT := by
  intro w H r x y t u z Q g d1 d2 e q
  rw [hK]
  cases d1 with
  | int i =>
    cases d2 with
    | int j => cases e; exact .inl ⟨i, j, rfl, rfl, q _ w H (Step.refl _ _) g (.int _)⟩
    | bl k => cases e; exact .inr (.inl ⟨i, k, rfl, rfl, q _ w H (Step.refl _ _) g (.int _)⟩)
    | _ => cases e
  | str a =>
    cases d2 with
    | str b =>
      have e : (if a.length + b.length ≤ 100000 then some (T.str (a ++ b)) else none) = some z := e
      by_cases h : a.length + b.length ≤ 100000
      · rw [if_pos h] at e
        cases e
        exact .inr (.inr (.inl ⟨a, b, rfl, rfl, le_size h, q _ w H (Step.refl _ _) g (.str _)⟩))
      · rw [if_neg h] at e; cases e
    | _ => cases e
  | @lst p vs ts h1 z1 dd =>
    cases d2 with
    | @lst p2 vs2 ts2 h2 z2 dd2 =>
      have e : (if ts.length + ts2.length ≤ 100000 then some (T.lst (ts ++ ts2)) else none) = some z := e
      by_cases h : ts.length + ts2.length ≤ 100000
      · rw [if_pos h] at e
        cases e
        refine .inr (.inr (.inr (.inl ⟨p, p2, vs, vs2, rfl, rfl, g.sub _ _ h1, g.sub _ _ h2, by rw [dd.length, dd2.length]; exact le_size h, fun a ha => ?_⟩)))
        obtain ⟨st, g2⟩ := g.new (o := .lst (vs ++ vs2)) ha
        exact q _ _ _ st g2 (.lst upd_same (by rw [List.length_append]; exact le_size h) ((dd.append dd2).mono st.later))
      · rw [if_neg h] at e; cases e
    | _ => cases e
  | @tup p vs ts h1 z1 dd =>
    cases d2 with
    | @tup p2 vs2 ts2 h2 z2 dd2 =>
      have e : (if ts.length + ts2.length ≤ 100000 then some (T.tup (ts ++ ts2)) else none) = some z := e
      by_cases h : ts.length + ts2.length ≤ 100000
      · rw [if_pos h] at e
        cases e
        refine .inr (.inr (.inr (.inr ⟨p, p2, vs, vs2, rfl, rfl, tup_sq g.sub h1, tup_sq g.sub h2, by rw [dd.length, dd2.length]; exact le_size h, fun e1 => ?_, fun _ e2 => ?_, fun _ _ a ha => ?_⟩)))
        · have : ts = [] := by cases dd with
            | nil => rfl
            | cons _ _ => cases e1
          subst this
          exact q _ w H (Step.refl _ _) g (.tup h2 z2 dd2)
        · have : ts2 = [] := by cases dd2 with
            | nil => rfl
            | cons _ _ => cases e2
          subst this
          rw [List.append_nil] at q
          exact q _ w H (Step.refl _ _) g (.tup h1 z1 dd)
        · obtain ⟨st, g2⟩ := g.new (o := .tup (vs ++ vs2)) ha
          exact q _ _ _ st g2 (.tup (.inl upd_same) (by rw [List.length_append]; exact le_size h) ((dd.append dd2).mono st.later))
      · rw [if_neg h] at e; cases e
    | _ => cases e
  | _ => cases e
def subT : T → T → Option T
  | .int i, .int j => some (.int (i - j))
  | _, _ => none
theorem v_sub : OpV G (rI0 fun i j => .int (i - j)) subT := fun w H r x y t u z Q g d1 d2 e q => by
  cases d1 with
  | int i =>
    cases d2 with
    | int j => cases e; exact ⟨i, j, rfl, rfl, q _ w H (Step.refl _ _) g (.int _)⟩
    | _ => cases e
  | _ => cases e
/-- one factor small, or both together below a million bits -/
def mulOk (i j : Int) : Bool := (decide (-(2 ^ 64) < i) && decide (i < 2 ^ 64)) || (decide (-(2 ^ 64) < j) && decide (j < 2 ^ 64)) || decide (i.natAbs.log2 + j.natAbs.log2 < 1000000)
def mulT : T → T → Option T
  | .int i, .int j => if mulOk i j = true then some (.int (i * j)) else none
  | .lst xs, .int k => if 0 ≤ k ∧ k ≤ 100000 ∧ xs.length * k.toNat ≤ 100000 then some (.lst (List.replicate k.toNat xs).flatten) else none
  | .tup xs, .int k => if xs.isEmpty = false ∧ 2 ≤ k ∧ k ≤ 1000 ∧ xs.length ≤ 1000 then some (.tup (List.replicate k.toNat xs).flatten) else none
  | .str a, .int k => if 0 ≤ k ∧ k ≤ 16384 ∧ a.length ≤ 1024 then some (.str (PySem.Txt.mul a k)) else none
  | _, _ => none
def rRepS : R2 := fun x y H Q => ∃ a k, x = .str a ∧ y = .int k ∧ 0 ≤ k ∧ k ≤ 16384 ∧ a.length ≤ 1024 ∧ Q (.str (PySem.Txt.mul a k)) H
theorem op_repS : OpR X (binaryOp .Mult) rRepS := by
  intro pins s σ H x y v u Q I rx ry h
  obtain ⟨a, k, rfl, rfl, h0, h1, h2, q⟩ := h
  obtain ⟨t, rfl⟩ := rx
  obtain ⟨t', rfl⟩ := ry
  exact SB.mul (PyProof.Rows.mulOk_of 1024 16384 h2 (by omega) (by omega) (by decide) (by decide)) fun t2 n => ⟨.str _, H, I.tok _, ⟨_, rfl⟩, q⟩
def rMulA (K : PySem.W.Frag) : R2 := fun x y H Q => (rI CMul fun i j => .int (i * j)) x y H Q ∨ (rI CMulW fun i j => .int (i * j)) x y H Q ∨ rRep x y H Q ∨ rRepT K x y H Q ∨ rRepS x y H Q
theorem op_mulA : OpR X (binaryOp .Mult) (rMulA X.K) := op_mul.or (op_mulW.or (op_rep.or (op_repT.or op_repS)))
theorem dens_rep {w : Wd} {vs : List V} {ts : List T} (d : Dens G w vs ts) : ∀ k : Nat, Dens G w (List.replicate k vs).flatten (List.replicate k ts).flatten
  | 0 => .nil
  | k + 1 => by
    rw [List.replicate_succ, List.replicate_succ, List.flatten_cons, List.flatten_cons]
    exact d.append (dens_rep d k)
theorem len_rep {α : Type} (xs : List α) : ∀ k : Nat, (List.replicate k xs).flatten.length = xs.length * k
  | 0 => rfl
  | k + 1 => by
    rw [List.replicate_succ, List.flatten_cons, List.length_append, len_rep xs k, Nat.mul_succ, Nat.add_comm]
theorem v_mul (hK : X.K = G.K) : OpV G (rMulA X.K) mulT := fun w H r x y t u z Q g d1 d2 e q => by
  rw [hK]
  cases d1 with
  | str a =>
    cases d2 with
    | int k =>
      have e : (if 0 ≤ k ∧ k ≤ 16384 ∧ a.length ≤ 1024 then some (T.str (PySem.Txt.mul a k)) else none) = some z := e
      by_cases h : 0 ≤ k ∧ k ≤ 16384 ∧ a.length ≤ 1024
      · rw [if_pos h] at e
        cases e
        exact .inr (.inr (.inr (.inr ⟨a, k, rfl, rfl, h.1, h.2.1, h.2.2, q _ w H (Step.refl _ _) g (.str _)⟩)))
      · rw [if_neg h] at e; cases e
    | _ => cases e
  | @tup p vs ts h1 z1 dd =>
    cases d2 with
    | int k =>
      have e : (if ts.isEmpty = false ∧ 2 ≤ k ∧ k ≤ 1000 ∧ ts.length ≤ 1000 then some (T.tup (List.replicate k.toNat ts).flatten) else none) = some z := e
      by_cases h : ts.isEmpty = false ∧ 2 ≤ k ∧ k ≤ 1000 ∧ ts.length ≤ 1000
      · rw [if_pos h] at e
        cases e
        obtain ⟨h0, ha, hb, hc⟩ := h
        refine .inr (.inr (.inr (.inl ⟨p, k, vs, rfl, rfl, tup_sq g.sub h1, fun e => ?_, ha, hb, by rw [dd.length]; exact hc, fun a ha => ?_⟩)))
        · subst e; cases dd; cases h0
        · obtain ⟨st, g2⟩ := g.new (o := .tup (List.replicate k.toNat vs).flatten) ha
          refine q _ _ _ st g2 (.tup (.inl upd_same) ?_ ((dens_rep dd _).mono st.later))
          rw [len_rep, sizeLine_eq]
          have := Nat.mul_le_mul hc (show k.toNat ≤ 1000 by omega)
          omega
      · rw [if_neg h] at e; cases e
    | _ => cases e
  | int i =>
    cases d2 with
    | int j =>
      have e : (if mulOk i j = true then some (T.int (i * j)) else none) = some z := e
      by_cases h : mulOk i j = true
      · rw [if_pos h] at e
        cases e
        have fin := q _ w H (Step.refl _ _) g (.int _)
        unfold mulOk at h
        simp only [Bool.or_eq_true, Bool.and_eq_true, decide_eq_true_eq] at h
        rcases h with (h | h) | h
        · exact .inl ⟨i, j, rfl, rfl, .inl h, fin⟩
        · exact .inl ⟨i, j, rfl, rfl, .inr h, fin⟩
        · exact .inr (.inl ⟨i, j, rfl, rfl, h, fin⟩)
      · rw [if_neg h] at e; cases e
    | _ => cases e
  | @lst p vs ts h1 z1 dd =>
    cases d2 with
    | int k =>
      have e : (if 0 ≤ k ∧ k ≤ 100000 ∧ ts.length * k.toNat ≤ 100000 then some (T.lst (List.replicate k.toNat ts).flatten) else none) = some z := e
      by_cases h : 0 ≤ k ∧ k ≤ 100000 ∧ ts.length * k.toNat ≤ 100000
      · rw [if_pos h] at e
        cases e
        obtain ⟨ha, hb, hc⟩ := h
        refine .inr (.inr (.inl ⟨p, k, vs, rfl, rfl, g.sub _ _ h1, by omega, by omega, by rw [dd.length]; exact le_size hc, fun a ha => ?_⟩))
        obtain ⟨st, g2⟩ := g.new (o := .lst (List.replicate k.toNat vs).flatten) ha
        exact q _ _ _ st g2 (.lst upd_same (by rw [len_rep]; exact le_size hc) ((dens_rep dd _).mono st.later))
      · rw [if_neg h] at e; cases e
    | _ => cases e
  | _ => cases e
/-- // and %: a divisor below 0 is a small one -/
def divT : T → T → Option T
  | .int i, .int j => if 0 < j ∧ j.natAbs.log2 < 9000 then some (.int (i / j)) else if j < 0 ∧ j.natAbs < 1073741824 then some (.int (i.fdiv j)) else none
  | _, _ => none
def rDivA : R2 := fun x y H Q => rI CDivW (fun i j => .int (i / j)) x y H Q ∨ rI CDivN (fun i j => .int (i.fdiv j)) x y H Q
theorem op_divA : OpR X (binaryOp .FloorDiv) rDivA := op_fdivW.or op_fdivN
theorem v_div : OpV G rDivA divT := fun w H r x y t u z Q g d1 d2 e q => by
  cases d1 with
  | int i =>
    cases d2 with
    | int j =>
      have e : (if 0 < j ∧ j.natAbs.log2 < 9000 then some (T.int (i / j)) else if j < 0 ∧ j.natAbs < 1073741824 then some (T.int (i.fdiv j)) else none) = some z := e
      by_cases h : 0 < j ∧ j.natAbs.log2 < 9000
      · rw [if_pos h] at e
        cases e
        exact .inl ⟨i, j, rfl, rfl, h, q _ w H (Step.refl _ _) g (.int _)⟩
      · rw [if_neg h] at e
        by_cases h2 : j < 0 ∧ j.natAbs < 1073741824
        · rw [if_pos h2] at e
          cases e
          exact .inr ⟨i, j, rfl, rfl, ⟨by omega, h2.2⟩, q _ w H (Step.refl _ _) g (.int _)⟩
        · rw [if_neg h2] at e; cases e
    | _ => cases e
  | _ => cases e
def modT : T → T → Option T
  | .int i, .int j => if 0 < j then some (.int (i % j)) else if j < 0 then some (.int (i.fmod j)) else none
  | _, _ => none
def rModA : R2 := fun x y H Q => rI (fun _ j => 0 < j) (fun i j => .int (i % j)) x y H Q ∨ rI (fun _ j => j ≠ 0) (fun i j => .int (i.fmod j)) x y H Q
theorem op_modA : OpR X (binaryOp .Mod) rModA := op_mod.or op_modN
theorem v_mod : OpV G rModA modT := fun w H r x y t u z Q g d1 d2 e q => by
  cases d1 with
  | int i =>
    cases d2 with
    | int j =>
      have e : (if 0 < j then some (T.int (i % j)) else if j < 0 then some (T.int (i.fmod j)) else none) = some z := e
      by_cases h : 0 < j
      · rw [if_pos h] at e
        cases e
        exact .inl ⟨i, j, rfl, rfl, h, q _ w H (Step.refl _ _) g (.int _)⟩
      · rw [if_neg h] at e
        by_cases h2 : j < 0
        · rw [if_pos h2] at e
          cases e
          exact .inr ⟨i, j, rfl, rfl, by omega, q _ w H (Step.refl _ _) g (.int _)⟩
        · rw [if_neg h2] at e; cases e
    | _ => cases e
  | _ => cases e
def powT : T → T → Option T
  | .int i, .int j => if 0 ≤ j ∧ j ≤ 1000 ∧ i.natAbs < 2 ^ 64 then some (.int (i ^ j.toNat)) else none
  | _, _ => none
theorem v_pow : OpV G (rI CPow fun i j => .int (i ^ j.toNat)) powT := fun w H r x y t u z Q g d1 d2 e q => by
  cases d1 with
  | int i =>
    cases d2 with
    | int j =>
      have e : (if 0 ≤ j ∧ j ≤ 1000 ∧ i.natAbs < 2 ^ 64 then some (T.int (i ^ j.toNat)) else none) = some z := e
      by_cases h : 0 ≤ j ∧ j ≤ 1000 ∧ i.natAbs < 2 ^ 64
      · rw [if_pos h] at e
        cases e
        exact ⟨i, j, rfl, rfl, ⟨h.1, by omega, h.2.2⟩, q _ w H (Step.refl _ _) g (.int _)⟩
      · rw [if_neg h] at e; cases e
    | _ => cases e
  | _ => cases e
def negT : T → Option T
  | .int i => some (.int (-i))
  | _ => none
theorem v_neg : UnV G (rU fun i => .int (-i)) negT := fun w H r x t z Q g d1 e q => by
  cases d1 with
  | int i => cases e; exact ⟨i, rfl, q _ w H (Step.refl _ _) g (.int _)⟩
  | _ => cases e
/-! ### comparisons -/
theorem DenB.int {w : Wd} {H : Hp} {v : V} {i : Int} (d : DenB G w H v (.int i)) : v = .int i := by
  rcases d with d | ⟨_, _, _, _, e, _⟩
  · cases d; rfl
  · cases e
theorem DenB.str {w : Wd} {H : Hp} {v : V} {i : Str} (d : DenB G w H v (.str i)) : v = .str i := by
  rcases d with d | ⟨_, _, _, _, e, _⟩
  · cases d; rfl
  · cases e
theorem DenB.bl {w : Wd} {H : Hp} {v : V} {i : Bool} (d : DenB G w H v (.bl i)) : v = .bl i := by
  rcases d with d | ⟨_, _, _, _, e, _⟩
  · cases d; rfl
  · cases e
theorem DenB.non {w : Wd} {H : Hp} {v : V} (d : DenB G w H v .non) : v = .non := by
  rcases d with d | ⟨_, _, _, _, e, _⟩
  · cases d; rfl
  · cases e
def cmpI (p : Int → Int → Bool) : T → T → Option Bool
  | .int i, .int j => some (p i j)
  | _, _ => none
theorem v_cmpI {p : Int → Int → Bool} : CmpV G (rI0 fun i j => .bl (p i j)) (cmpI p) := fun w H r x y t u z Q g d1 d2 e q => by
  cases t with
  | int i =>
    cases u with
    | int j =>
      cases e
      rw [d1.int, d2.int]
      exact ⟨i, j, rfl, rfl, q⟩
    | _ => cases e
  | _ => cases e
def ltT : T → T → Option Bool := cmpI fun i j => decide (i < j)
def leT : T → T → Option Bool := cmpI fun i j => decide (i ≤ j)
def gtT : T → T → Option Bool := cmpI fun i j => decide (j < i)
def geT : T → T → Option Bool := cmpI fun i j => decide (j ≤ i)
theorem v_lt : CmpV G (rI0 fun i j => .bl (decide (i < j))) ltT := v_cmpI
theorem v_le : CmpV G (rI0 fun i j => .bl (decide (i ≤ j))) leT := v_cmpI
theorem v_gt : CmpV G (rI0 fun i j => .bl (decide (j < i))) gtT := v_cmpI
theorem v_ge : CmpV G (rI0 fun i j => .bl (decide (j ≤ i))) geT := v_cmpI
/-- is None, is not None; is True .. -/
def isNon : T → Bool
  | .non => true
  | _ => false
def isT : T → T → Option Bool
  | t, .non => some (isNon t)
  | .bl a, .bl b => some (decide (a = b))
  | _, _ => none
def rIsA : R2 := fun x y H Q => (y = .non ∧ Q (.bl (decide (x = .non))) H) ∨ rIsB x y H Q
theorem op_isA : OpR X (compareOp .Is) rIsA := op_isN.or op_isBl
def rNotA : R2 := fun x y H Q => (y = .non ∧ Q (.bl (!decide (x = .non))) H) ∨ rNotB x y H Q
theorem op_notA : OpR X (compareOp .IsNot) rNotA := op_notN.or op_notBl
theorem DenB.isN {w : Wd} {H : Hp} {v : V} {t : T} (d : DenB G w H v t) : decide (v = .non) = isNon t := by
  rcases d with d | ⟨_, _, _, e1, e, _⟩
  · cases d <;> first | rfl | (simp)
  · subst e1 e
    simp [isNon]
theorem v_is : CmpV G rIsA isT := fun w H r x y t u z Q g d1 d2 e q => by
  cases u with
  | non =>
    have e : some (isNon t) = some z := by cases t <;> exact e
    cases e
    refine .inl ⟨d2.non, ?_⟩
    rw [d1.isN]
    exact q
  | bl b =>
    cases t with
    | bl a =>
      cases e
      exact .inr ⟨a, b, d1.bl, d2.bl, q⟩
    | _ => cases e
  | _ => cases t <;> cases e
def nisT (t u : T) : Option Bool := (isT t u).map (!·)
theorem v_nis : CmpV G rNotA nisT := fun w H r x y t u z Q g d1 d2 e q => by
  unfold nisT at e
  cases u with
  | non =>
    have e : (some (isNon t)).map (!·) = some z := by cases t <;> exact e
    cases e
    refine .inl ⟨d2.non, ?_⟩
    rw [d1.isN]
    exact q
  | bl b =>
    cases t with
    | bl a =>
      cases e
      exact .inr ⟨a, b, d1.bl, d2.bl, q⟩
    | _ => cases e
  | _ => cases t <;> cases e
end
/-! ### data -/
mutual
def pyT : T → Option PyData
  | .non => some .none
  | .bl b => some (.bool b)
  | .int i => some (.int i)
  | .str x => some (.str x)
  | .tup xs => (pyTs xs).map .tuple
  | .lst xs => (pyTs xs).map .list
  | .kls xs => (pyTs xs).map .list
  | _ => none
def pyTs : List T → Option (List PyData)
  | [] => some []
  | x :: xs => (pyT x).bind fun d => (pyTs xs).map (d :: ·)
end
mutual
theorem pyT_dp {G : Gm} {w : Wd} {H : Hp} (s : Same w.P H) : ∀ (t : T) (v : V) (d : PyData), Den G w v t → pyT t = some d → Dp G.K H v d
  | .non, _, _, h, e => by cases h; cases e; exact .non
  | .bl b, _, _, h, e => by cases h; cases e; exact .bl b
  | .int b, _, _, h, e => by cases h; cases e; exact .int b
  | .str b, _, _, h, e => by cases h; cases e; exact .str b
  | .tup xs, _, _, h, e => by
    cases h with
    | tup h z dd =>
      have e : (pyTs xs).map PyData.tuple = some _ := e
      cases q : pyTs xs with
      | none => rw [q] at e; cases e
      | some ds =>
        rw [q] at e
        cases e
        exact .tup (tup_sq s h) (pyTs_dp s xs _ _ dd q)
  | .lst xs, _, _, h, e => by
    cases h with
    | lst h z dd =>
      have e : (pyTs xs).map PyData.list = some _ := e
      cases q : pyTs xs with
      | none => rw [q] at e; cases e
      | some ds =>
        rw [q] at e
        cases e
        exact .lst (SqL.of (s _ _ h)) (pyTs_dp s xs _ _ dd q)
  | .kls xs, _, _, h, e => by
    cases h with
    | kls h z dd =>
      have e : (pyTs xs).map PyData.list = some _ := e
      cases q : pyTs xs with
      | none => rw [q] at e; cases e
      | some ds =>
        rw [q] at e
        cases e
        exact .lst (s.seq h) (pyTs_dp s xs _ _ dd q)
  | .obj _ _, _, _, _, e => by cases e
  | .gl _, _, _, _, e => by cases e
  | .cl _, _, _, _, e => by cases e
  | .ty _, _, _, _, e => by cases e
  | .ref _, _, _, _, e => by cases e
  | .dct _ _, _, _, _, e => by cases e
theorem pyTs_dp {G : Gm} {w : Wd} {H : Hp} (s : Same w.P H) : ∀ (ts : List T) (vs : List V) (ds : List PyData), Dens G w vs ts → pyTs ts = some ds → DpAll G.K H vs ds
  | [], _, _, h, e => by cases h; cases e; exact .nil
  | t :: ts, _, _, h, e => by
    cases h with
    | cons h1 h2 =>
      have e : ((pyT t).bind fun d => (pyTs ts).map (d :: ·)) = some _ := e
      cases q : pyT t with
      | none => rw [q] at e; cases e
      | some d =>
        rw [q] at e
        cases q2 : pyTs ts with
        | none => rw [q2] at e; cases e
        | some ds =>
          rw [q2] at e
          cases e
          exact .cons (pyT_dp s t _ _ h1 q) (pyTs_dp s ts _ _ h2 q2)
end
section
variable {X : Cx} {G : Gm}
theorem denB_dp {w : Wd} {H : Hp} {r : RS} {v : V} {t : T} {d : PyData} (g : Good G w H r) (h : DenB G w H v t) (e : pyT t = some d) : Dp G.K H v d := by
  rcases h with h | ⟨a, vs, xs, e1, e2, h1, h2, h3, h4⟩
  · exact pyT_dp g.sub t v d h e
  · subst e1 e2
    have e : (pyTs xs).map PyData.list = some _ := e
    cases q : pyTs xs with
    | none => rw [q] at e; cases e
    | some ds =>
      rw [q] at e
      cases e
      exact .lst (SqL.of h2) (pyTs_dp g.sub xs _ _ h3 q)
def eqT (t u : T) : Option Bool := match pyT t, pyT u with
  | some d, some e => if (SeqAt.shaped d && SeqAt.shaped e) = true then some (PyData.eqv d e) else none
  | _, _ => none
def neT (t u : T) : Option Bool := (eqT t u).map (!·)
theorem eq_use {w : Wd} {H : Hp} {r : RS} {x y : V} {t u : T} {z : Bool} (g : Good G w H r) (d1 : DenB G w H x t) (d2 : DenB G w H y u) (e : eqT t u = some z) : ∃ d e, Dp G.K H x d ∧ Dp G.K H y e ∧ SeqAt.shaped d = true ∧ SeqAt.shaped e = true ∧ z = PyData.eqv d e := by
  unfold eqT at e
  cases q1 : pyT t with
  | none => rw [q1] at e; cases e
  | some d =>
    cases q2 : pyT u with
    | none => rw [q1, q2] at e; cases e
    | some d' =>
      rw [q1, q2] at e
      have e : (if (SeqAt.shaped d && SeqAt.shaped d') = true then some (PyData.eqv d d') else none) = some z := e
      by_cases h : (SeqAt.shaped d && SeqAt.shaped d') = true
      · rw [if_pos h] at e
        cases e
        rw [Bool.and_eq_true] at h
        exact ⟨d, d', denB_dp g d1 q1, denB_dp g d2 q2, h.1, h.2, rfl⟩
      · rw [if_neg h] at e; cases e
theorem v_eq (hK : X.K = G.K) : CmpV G (rEqD X.K) eqT := fun w H r x y t u z Q g d1 d2 e q => by
  obtain ⟨d, d', h1, h2, h3, h4, e⟩ := eq_use g d1 d2 e
  subst e
  rw [hK]
  exact ⟨d, d', h1, h2, h3, h4, q⟩
theorem v_ne (hK : X.K = G.K) : CmpV G (rNeD X.K) neT := fun w H r x y t u z Q g d1 d2 e q => by
  unfold neT at e
  cases e' : eqT t u with
  | none => rw [e'] at e; cases e
  | some b =>
    rw [e'] at e
    cases e
    obtain ⟨d, d', h1, h2, h3, h4, e⟩ := eq_use g d1 d2 e'
    subst e
    rw [hK]
    exact ⟨d, d', h1, h2, h3, h4, q⟩
/-! ### in -/
/-- the flat value of a tree -/
def flT : T → Option V
  | .non => some .non
  | .bl b => some (.bl b)
  | .int i => some (.int i)
  | .str x => some (.str x)
  | _ => none
def flTs : List T → Option (List V)
  | [] => some []
  | t :: ts => (flT t).bind fun v => (flTs ts).map (v :: ·)
theorem flT_of {w : Wd} {v u : V} {t : T} (d : Den G w v t) (e : flT t = some u) : v = u ∧ flatV v = true := by
  cases d with
  | non => cases e; exact ⟨rfl, rfl⟩
  | bl b => cases e; exact ⟨rfl, rfl⟩
  | int i => cases e; exact ⟨rfl, rfl⟩
  | str x => cases e; exact ⟨rfl, rfl⟩
  | _ => cases e
theorem flTs_of {w : Wd} : ∀ {vs us : List V} {ts : List T}, Dens G w vs ts → flTs ts = some us → vs = us ∧ vs.all flatV = true
  | _, _, _, .nil, e => by cases e; exact ⟨rfl, rfl⟩
  | _, _, t :: ts, .cons h r, e => by
    have e : ((flT t).bind fun v => (flTs ts).map (v :: ·)) = some _ := e
    cases q : flT t with
    | none => rw [q] at e; cases e
    | some v =>
      rw [q] at e
      cases q2 : flTs ts with
      | none => rw [q2] at e; cases e
      | some vs =>
        rw [q2] at e
        cases e
        obtain ⟨e1, f1⟩ := flT_of h q
        obtain ⟨e2, f2⟩ := flTs_of r q2
        subst e1 e2
        exact ⟨rfl, by rw [List.all_cons, f1, f2]; rfl⟩
/-- x in a text (x one sign), a tuple of flat things, a list of data -/
def inT (t u : T) : Option Bool := match u with
  | .str z => match t with
    | .str c => if c.cps.size = 1 then some (decide (c.cps.getD 0 0 ∈ z.cps.toList)) else none
    | _ => none
  | .tup xs => (flT t).bind fun v => (flTs xs).map fun vs => inV v vs
  | u => match pyT t, pyT u with
    | some d, some (.list ds) => if (SeqAt.shaped d && SeqAt.shaped (.list ds)) = true then some (ds.any fun z => PyData.eqv z d) else none
    | _, _ => none
def ninT (t u : T) : Option Bool := (inT t u).map (!·)
def rInA (K : PySem.W.Frag) : R2 := fun x y H Q => (∃ (c : Nat) (z : Str), x = .str ⟨#[c]⟩ ∧ y = .str z ∧ Q (.bl (decide (c ∈ z.cps.toList))) H) ∨ rIn K false x y H Q ∨ rInD K x y H Q
def rNInA (K : PySem.W.Frag) : R2 := fun x y H Q => (∃ (c : Nat) (z : Str), x = .str ⟨#[c]⟩ ∧ y = .str z ∧ Q (.bl (!decide (c ∈ z.cps.toList))) H) ∨ rIn K true x y H Q ∨ rNotInD K x y H Q
theorem op_inA (hu : X.A.units + 65 < cLine) : OpR X (compareOp .In) (rInA X.K) := op_in_sign.or (op_in_seq.or (op_inD hu))
theorem op_ninA (hu : X.A.units + 65 < cLine) : OpR X (compareOp .NotIn) (rNInA X.K) := op_notIn_sign.or (op_notIn_seq.or (op_notInD hu))
theorem sign_eq {c : Str} (h : c.cps.size = 1) : c = ⟨#[c.cps.getD 0 0]⟩ := by
  obtain ⟨a⟩ := c
  obtain ⟨l⟩ := a
  match l, h with
  | [x], _ => rfl
theorem in_use {w : Wd} {H : Hp} {r : RS} {x y : V} {t u : T} {z : Bool} (g : Good G w H r) (d1 : DenB G w H x t) (d2 : DenB G w H y u) (e : inT t u = some z) :
    (∃ (c : Nat) (zz : Str), x = .str ⟨#[c]⟩ ∧ y = .str zz ∧ z = decide (c ∈ zz.cps.toList)) ∨ (∃ p vs, y = .ref p ∧ SqT G.K H p vs ∧ flatV x = true ∧ vs.all flatV = true ∧ z = inV x vs) ∨
    ∃ d ds, Dp G.K H x d ∧ Dp G.K H y (.list ds) ∧ SeqAt.shaped d = true ∧ SeqAt.shaped (.list ds) = true ∧ z = ds.any fun z => PyData.eqv z d := by
  have deep : (match pyT t, pyT u with
      | some d, some (.list ds) => if (SeqAt.shaped d && SeqAt.shaped (.list ds)) = true then some (ds.any fun z => PyData.eqv z d) else none
      | _, _ => none) = some z → ∃ d ds, Dp G.K H x d ∧ Dp G.K H y (.list ds) ∧ SeqAt.shaped d = true ∧ SeqAt.shaped (.list ds) = true ∧ z = ds.any fun z => PyData.eqv z d := fun e => by
    cases q1 : pyT t with
    | none => rw [q1] at e; cases e
    | some d =>
      cases q2 : pyT u with
      | none => rw [q1, q2] at e; cases e
      | some d' =>
        rw [q1, q2] at e
        cases d' with
        | list ds =>
          have e : (if (SeqAt.shaped d && SeqAt.shaped (.list ds)) = true then some (ds.any fun z => PyData.eqv z d) else none) = some z := e
          by_cases h : (SeqAt.shaped d && SeqAt.shaped (.list ds)) = true
          · rw [if_pos h] at e
            cases e
            rw [Bool.and_eq_true] at h
            exact ⟨d, ds, denB_dp g d1 q1, denB_dp g d2 q2, h.1, h.2, rfl⟩
          · rw [if_neg h] at e; cases e
        | _ => cases e
  cases u with
  | str zz =>
    cases t with
    | str c =>
      have e : (if c.cps.size = 1 then some (decide (c.cps.getD 0 0 ∈ zz.cps.toList)) else none) = some z := e
      by_cases h : c.cps.size = 1
      · rw [if_pos h] at e
        cases e
        exact .inl ⟨_, zz, by rw [d1.str]; exact congrArg V.str (sign_eq h), d2.str, rfl⟩
      · rw [if_neg h] at e; cases e
    | _ => cases e
  | tup xs =>
    have e : ((flT t).bind fun v => (flTs xs).map fun vs => inV v vs) = some z := e
    cases q : flT t with
    | none => rw [q] at e; cases e
    | some v =>
      rw [q] at e
      cases q2 : flTs xs with
      | none => rw [q2] at e; cases e
      | some vs =>
        rw [q2] at e
        cases e
        rcases d2 with d2 | ⟨_, _, _, _, e2, _⟩
        · cases d2 with
          | @tup p us _ h zz d =>
            obtain ⟨e3, f3⟩ := flTs_of d q2
            rcases d1 with d1 | ⟨_, _, _, _, e2, _⟩
            · obtain ⟨e4, f4⟩ := flT_of d1 q
              subst e3 e4
              exact .inr (.inl ⟨p, us, rfl, tup_sq g.sub h, f4, f3, rfl⟩)
            · subst e2; cases q
        · cases e2
  | lst xs => exact .inr (.inr (deep e))
  | kls xs => exact .inr (.inr (deep e))
  | _ =>
    have e := deep e
    exact .inr (.inr e)
theorem v_in (hK : X.K = G.K) : CmpV G (rInA X.K) inT := fun w H r x y t u z Q g d1 d2 e q => by
  rw [hK]
  rcases in_use g d1 d2 e with ⟨c, zz, e1, e2, e3⟩ | ⟨p, vs, e1, h1, h2, h3, e3⟩ | ⟨d, ds, h1, h2, h3, h4, e3⟩
  · subst e3; exact .inl ⟨c, zz, e1, e2, q⟩
  · subst e3; exact .inr (.inl ⟨p, vs, e1, .inr h1, h2, h3, q⟩)
  · subst e3; exact .inr (.inr ⟨d, ds, h1, h2, h3, h4, q⟩)
theorem v_nin (hK : X.K = G.K) : CmpV G (rNInA X.K) ninT := fun w H r x y t u z Q g d1 d2 e q => by
  unfold ninT at e
  cases e' : inT t u with
  | none => rw [e'] at e; cases e
  | some b =>
    rw [e'] at e
    cases e
    rw [hK]
    rcases in_use g d1 d2 e' with ⟨c, zz, e1, e2, e3⟩ | ⟨p, vs, e1, h1, h2, h3, e3⟩ | ⟨d, ds, h1, h2, h3, h4, e3⟩
    · subst e3; exact .inl ⟨c, zz, e1, e2, q⟩
    · subst e3; exact .inr (.inl ⟨p, vs, e1, .inr h1, h2, h3, q⟩)
    · subst e3; exact .inr (.inr ⟨d, ds, h1, h2, h3, h4, q⟩)
end
end Ep
namespace Ep
open PySem PySem.Spec L2
/-! ### built-ins of one and two arguments -/
section
variable {X : Cx} {G : Gm} {W : WX} {pos p : Pos} {a b : Expr} {f g : Env → M T} {x : Str} {id : String}
def B1 (G : Gm) (r1 : List V → Hp → VK → Prop) (h : RS → T → Option T) : Prop := ∀ w H r v t z Q, Good G w H r → DenB G w H v t → h r t = some z → (∀ v' w' H', Step w H w' H' → Good G w' H' r → Den G w' v' z → Q v' H') → r1 [v] H Q
def fB1 (h : RS → T → Option T) (f : Env → M T) : Env → M T := fun env => f env >>= fun x => fun r => M.lift (h r x) r
theorem b1_use {r1 : List V → Hp → VK → Prop} {h : RS → T → Option T} (hv : B1 G r1 h) {σ : L2.St} {H : Hp} {Q : VK} (q : tS G W (fB1 h f) σ H Q) : tCB r1 (tCons (tSK G W f) tNil) σ H Q := by
  obtain ⟨w, H0, env, r, g0, s, h0⟩ := q
  refine seqK g0 s h0 fun t r1 w1 H1 x g1 s1 st1 d1 h1 => ?_
  obtain ⟨z, ez, h2⟩ := liftP h1
  exact hv w1 H1 r1 x t z Q g1 d1 ez fun v' w' H' st g' d => h2 w' H' st g' v' d
theorem s_b1 {r1 : List V → Hp → VK → Prop} {h : RS → T → Option T} (hc : CallR X (.builtin id) r1) (hv : B1 G r1 h) (hg : Gl X x) (hm : X.mg x = none) (hb : bootBuiltins x = some (.builtin id)) (ha : SK X G W a f) (hs : starEach [a] X.env = (false, eval a X.env) :: starEach [] X.env := by rfl)
    (hn : x ≠ "__name__" := by decide) (hdb : (x == ("__debug__" : Str)) = false := by decide) (hpl : (backTo pos (starEach [] X.env)).any (·.1) = false := by rfl) : SE X G W (.Call (.Name x p) [a] [] pos) (fB1 h f) :=
  pe_imp (pe_callB hc hg hm hb (pa_cons ha pa_nil hs) hn hdb hs hpl) fun σ H Q q => b1_use hv q
theorem s_t1 {r1 : List V → Hp → VK → Prop} {h : RS → T → Option T} (hc : CallR X (.type id) r1) (hv : B1 G r1 h) (hg : Gl X x) (hm : X.mg x = none) (hb : bootBuiltins x = some (.type id)) (ha : SK X G W a f) (hs : starEach [a] X.env = (false, eval a X.env) :: starEach [] X.env := by rfl)
    (hn : x ≠ "__name__" := by decide) (hdb : (x == ("__debug__" : Str)) = false := by decide) (hpl : (backTo pos (starEach [] X.env)).any (·.1) = false := by rfl) : SE X G W (.Call (.Name x p) [a] [] pos) (fB1 h f) :=
  pe_imp (pe_callTy hc hg hm hb (pa_cons ha pa_nil hs) hn hdb hs hpl) fun σ H Q q => b1_use hv q
def B2 (G : Gm) (r1 : List V → Hp → VK → Prop) (h : T → T → Option T) : Prop := ∀ w H r v u t s z Q, Good G w H r → Den G w v t → Den G w u s → h t s = some z → (∀ v' w' H', Step w H w' H' → Good G w' H' r → Den G w' v' z → Q v' H') → r1 [v, u] H Q
theorem s_b2 {r1 : List V → Hp → VK → Prop} {h : T → T → Option T} (hc : CallR X (.builtin id) r1) (hv : B2 G r1 h) (hg : Gl X x) (hm : X.mg x = none) (hb : bootBuiltins x = some (.builtin id)) (ha : SE X G W a f) (hB : SE X G W b g)
    (hs : starEach [a, b] X.env = (false, eval a X.env) :: starEach [b] X.env := by rfl) (hs2 : starEach [b] X.env = (false, eval b X.env) :: starEach [] X.env := by rfl)
    (hn : x ≠ "__name__" := by decide) (hdb : (x == ("__debug__" : Str)) = false := by decide) (hpl : (backTo pos (starEach [b] X.env)).any (·.1) = false := by rfl) : SE X G W (.Call (.Name x p) [a, b] [] pos) (fBin h f g) :=
  pe_imp (pe_callB hc hg hm hb (pa_cons ha (pa_cons hB pa_nil hs2) hs) hn hdb hs hpl) fun σ H Q ⟨w, H0, env, r, g0, s, h0⟩ => by
    refine seqE g0 s h0 fun t r1 w1 H1 v g1 s1 st1 d1 h1 => ?_
    refine seqE g1 s1 h1 fun u r2 w2 H2 y g2 s2 st2 d2 h2 => ?_
    obtain ⟨z, ez, hz⟩ := liftP h2
    exact hv w2 H2 r2 v y t u z Q g2 (d1.mono st2.later) d2 ez fun v w' H' st g' d => hz w' H' st g' v d
def lenT (r : RS) (t : T) : Option T := match t with
  | .str z => if z.length ≤ 100000 then some (.int z.length) else none
  | t => (seqT r t).map fun xs => .int xs.length
def rLenA (K : PySem.W.Frag) : List V → Hp → VK → Prop := fun xs H Q => (∃ p ys, xs = [.ref p] ∧ (SqL K H p ys ∨ SqT K H p ys) ∧ Q (.int ys.length) H) ∨ ∃ z, xs = [.str z] ∧ z.length ≤ sizeLine ∧ Q (.int z.length) H
theorem c_len : CallR X (.builtin "len") (rLenA X.K) := call_len_seq.or call_len_str
theorem v_len (hK : X.K = G.K) : B1 G (rLenA X.K) lenT := fun w H r v t z Q g d e q => by
  rw [hK]
  have seqs : ((seqT r t).map fun xs => T.int xs.length) = some z → rLenA G.K [v] H Q := fun e => by
    cases q1 : seqT r t with
    | none => rw [q1] at e; cases e
    | some xs =>
      rw [q1] at e
      cases e
      obtain ⟨p, rfl, sd⟩ := seq_of g d q1
      cases sd with
      | l vs h dd zz => exact .inl ⟨p, vs, rfl, .inl h, by rw [dd.length]; exact q _ w H (Step.refl _ _) g (.int _)⟩
      | t vs h dd zz => exact .inl ⟨p, vs, rfl, .inr h, by rw [dd.length]; exact q _ w H (Step.refl _ _) g (.int _)⟩
  cases t with
  | str y =>
    have e : (if y.length ≤ 100000 then some (T.int y.length) else none) = some z := e
    by_cases h : y.length ≤ 100000
    · rw [if_pos h] at e
      cases e
      exact .inr ⟨y, by rw [d.str], le_size h, q _ w H (Step.refl _ _) g (.int _)⟩
    · rw [if_neg h] at e; cases e
  | _ => exact seqs e
def intT (_ : RS) (t : T) : Option T := match t with
  | .int i => some (.int i)
  | .bl k => some (.int (if k then 1 else 0))
  | _ => none
theorem v_int : B1 G (fun xs H Q => (∃ i, xs = [.int i] ∧ Q (.int i) H) ∨ ∃ k, xs = [.bl k] ∧ Q (.int (if k then 1 else 0)) H) intT := fun w H r v t z Q g d e q => by
  cases t with
  | int i => cases e; exact .inl ⟨i, by rw [d.int], q _ w H (Step.refl _ _) g (.int _)⟩
  | bl i => cases e; exact .inr ⟨i, by rw [d.bl], q _ w H (Step.refl _ _) g (.int _)⟩
  | _ => cases e
def absT (_ : RS) (t : T) : Option T := match t with
  | .int i => some (T.int (if i < 0 then -i else i))
  | _ => none
theorem v_abs : B1 G (fun xs H Q => ∃ i, xs = [.int i] ∧ Q (.int (if i < 0 then -i else i)) H) absT := fun w H r v t z Q g d e q => by
  cases t with
  | int i => cases e; exact ⟨i, by rw [d.int], q _ w H (Step.refl _ _) g (.int _)⟩
  | _ => cases e
def max2T : T → T → Option T
  | .int i, .int j => some (.int (if j > i then j else i))
  | _, _ => none
def min2T : T → T → Option T
  | .int i, .int j => some (.int (if j < i then j else i))
  | _, _ => none
theorem v_max2 : B2 G (fun xs H Q => ∃ i j, xs = [.int i, .int j] ∧ Q (.int (if j > i then j else i)) H) max2T := fun w H r v u t s z Q g d1 d2 e q => by
  cases d1 with
  | int i =>
    cases d2 with
    | int j => cases e; exact ⟨i, j, rfl, q _ w H (Step.refl _ _) g (.int _)⟩
    | _ => cases e
  | _ => cases e
theorem v_min2 : B2 G (fun xs H Q => ∃ i j, xs = [.int i, .int j] ∧ Q (.int (if j < i then j else i)) H) min2T := fun w H r v u t s z Q g d1 d2 e q => by
  cases d1 with
  | int i =>
    cases d2 with
    | int j => cases e; exact ⟨i, j, rfl, q _ w H (Step.refl _ _) g (.int _)⟩
    | _ => cases e
  | _ => cases e
/-- a list of ints, of bools, of texts -/
def intsT : List T → Option (List Int)
  | [] => some []
  | .int i :: r => (intsT r).map (i :: ·)
  | _ :: _ => none
def blsT : List T → Option (List Bool)
  | [] => some []
  | .bl i :: r => (blsT r).map (i :: ·)
  | _ :: _ => none
def strsT : List T → Option (List Str)
  | [] => some []
  | .str i :: r => (strsT r).map (i :: ·)
  | _ :: _ => none
theorem ints_of {w : Wd} : ∀ {ts : List T} {vs : List V} {ns : List Int}, Dens G w vs ts → intsT ts = some ns → vs = ns.map V.int
  | [], _, _, .nil, e => by cases e; rfl
  | t :: ts, _, _, .cons h r, e => by
    cases h with
    | int i =>
      have e : (intsT ts).map (i :: ·) = some _ := e
      cases q : intsT ts with
      | none => rw [q] at e; cases e
      | some ns => rw [q] at e; cases e; rw [ints_of r q]; rfl
    | _ => cases e
theorem bls_of {w : Wd} : ∀ {ts : List T} {vs : List V} {ns : List Bool}, Dens G w vs ts → blsT ts = some ns → vs = ns.map V.bl
  | [], _, _, .nil, e => by cases e; rfl
  | t :: ts, _, _, .cons h r, e => by
    cases h with
    | bl i =>
      have e : (blsT ts).map (i :: ·) = some _ := e
      cases q : blsT ts with
      | none => rw [q] at e; cases e
      | some ns => rw [q] at e; cases e; rw [bls_of r q]; rfl
    | _ => cases e
theorem strs_of {w : Wd} : ∀ {ts : List T} {vs : List V} {ns : List Str}, Dens G w vs ts → strsT ts = some ns → vs = ns.map V.str
  | [], _, _, .nil, e => by cases e; rfl
  | t :: ts, _, _, .cons h r, e => by
    cases h with
    | str i =>
      have e : (strsT ts).map (i :: ·) = some _ := e
      cases q : strsT ts with
      | none => rw [q] at e; cases e
      | some ns => rw [q] at e; cases e; rw [strs_of r q]; rfl
    | _ => cases e
/-- the items of a list -/
def lstT (r : RS) : T → Option (List T)
  | .lst xs => some xs
  | .kls xs => some xs
  | .ref k => r[k]?
  | _ => none
theorem lst_of {w : Wd} {H : Hp} {r : RS} {v : V} {t : T} {xs : List T} (g : Good G w H r) (d : DenB G w H v t) (e : lstT r t = some xs) : ∃ a vs, v = .ref a ∧ SqL G.K H a vs ∧ Dens G w vs xs ∧ xs.length ≤ sizeLine := by
  rcases d with d | ⟨a, vs, ys, e1, e2, h1, h2, h3, h4⟩
  · cases d with
    | lst h z d => cases e; exact ⟨_, _, rfl, SqL.of (g.sub _ _ h), d, z⟩
    | kls h z d => cases e; exact ⟨_, _, rfl, g.sub.seq h, d, z⟩
    | @ref k a h =>
      obtain ⟨b, vs, h1, h2, h3, h4⟩ := g.refs.at_ k xs e
      rw [h] at h1
      cases h1
      exact ⟨_, vs, rfl, SqL.of h2, h3, h4⟩
    | _ => cases e
  · subst e1 e2
    cases e
    exact ⟨_, vs, rfl, SqL.of h2, h3, h4⟩
def sumT (r : RS) (t : T) : Option T := (lstT r t).bind fun xs => (intsT xs).map fun ns => .int ns.sum
theorem v_sum (hK : X.K = G.K) : B1 G (rSum X.K) sumT := fun w H r v t z Q g d e q => by
  unfold sumT at e
  cases q1 : lstT r t with
  | none => rw [q1] at e; cases e
  | some xs =>
    rw [q1] at e
    have e : ((intsT xs).map fun ns => T.int ns.sum) = some z := e
    obtain ⟨a, vs, rfl, h, dd, zz⟩ := lst_of g d q1
    cases q2 : intsT xs with
    | none => rw [q2] at e; cases e
    | some ns =>
      rw [q2] at e
      cases e
      have := ints_of dd q2
      subst this
      rw [hK]
      exact ⟨a, ns, rfl, h, q _ w H (Step.refl _ _) g (.int _)⟩
def anyT (r : RS) (t : T) : Option T := (lstT r t).bind fun xs => (blsT xs).map fun bs => .bl (bs.any _root_.id)
def allT (r : RS) (t : T) : Option T := (lstT r t).bind fun xs => (blsT xs).map fun bs => .bl (bs.all _root_.id)
theorem v_any (hK : X.K = G.K) : B1 G (rAny X.K) anyT := fun w H r v t z Q g d e q => by
  unfold anyT at e
  cases q1 : lstT r t with
  | none => rw [q1] at e; cases e
  | some xs =>
    rw [q1] at e
    have e : ((blsT xs).map fun bs => T.bl (bs.any _root_.id)) = some z := e
    obtain ⟨a, vs, rfl, h, dd, zz⟩ := lst_of g d q1
    cases q2 : blsT xs with
    | none => rw [q2] at e; cases e
    | some ns =>
      rw [q2] at e
      cases e
      have := bls_of dd q2
      subst this
      rw [hK]
      exact ⟨a, ns, rfl, h, q _ w H (Step.refl _ _) g (.bl _)⟩
theorem v_all (hK : X.K = G.K) : B1 G (rAll X.K) allT := fun w H r v t z Q g d e q => by
  unfold allT at e
  cases q1 : lstT r t with
  | none => rw [q1] at e; cases e
  | some xs =>
    rw [q1] at e
    have e : ((blsT xs).map fun bs => T.bl (bs.all _root_.id)) = some z := e
    obtain ⟨a, vs, rfl, h, dd, zz⟩ := lst_of g d q1
    cases q2 : blsT xs with
    | none => rw [q2] at e; cases e
    | some ns =>
      rw [q2] at e
      cases e
      have := bls_of dd q2
      subst this
      rw [hK]
      exact ⟨a, ns, rfl, h, q _ w H (Step.refl _ _) g (.bl _)⟩
/-- greatest, least of a list of ints -/
def maxL : List Int → Option Int
  | [] => none
  | x :: xs => some (xs.foldl (fun a b => if b > a then b else a) x)
def minL : List Int → Option Int
  | [] => none
  | x :: xs => some (xs.foldl (fun a b => if b < a then b else a) x)
theorem foldmax_spec : ∀ (xs : List Int) (x : Int), (xs.foldl (fun a b => if b > a then b else a) x ∈ x :: xs) ∧ ∀ y ∈ x :: xs, y ≤ xs.foldl (fun a b => if b > a then b else a) x
  | [], x => by simp
  | y :: ys, x => by
    obtain ⟨h1, h2⟩ := foldmax_spec ys (if y > x then y else x)
    rw [List.foldl_cons]
    refine ⟨?_, fun z hz => ?_⟩
    · rcases List.mem_cons.mp h1 with e | e
      · rw [e]; split <;> simp
      · exact List.mem_cons_of_mem _ (List.mem_cons_of_mem _ e)
    · have h3 := h2 _ List.mem_cons_self
      rcases List.mem_cons.mp hz with e | e
      · subst e
        refine Int.le_trans ?_ h3
        split <;> omega
      · rcases List.mem_cons.mp e with e | e
        · subst e
          refine Int.le_trans ?_ h3
          split <;> omega
        · exact h2 z (List.mem_cons_of_mem _ e)
theorem foldmin_spec : ∀ (xs : List Int) (x : Int), (xs.foldl (fun a b => if b < a then b else a) x ∈ x :: xs) ∧ ∀ y ∈ x :: xs, xs.foldl (fun a b => if b < a then b else a) x ≤ y
  | [], x => by simp
  | y :: ys, x => by
    obtain ⟨h1, h2⟩ := foldmin_spec ys (if y < x then y else x)
    rw [List.foldl_cons]
    refine ⟨?_, fun z hz => ?_⟩
    · rcases List.mem_cons.mp h1 with e | e
      · rw [e]; split <;> simp
      · exact List.mem_cons_of_mem _ (List.mem_cons_of_mem _ e)
    · have h3 := h2 _ List.mem_cons_self
      rcases List.mem_cons.mp hz with e | e
      · subst e
        refine Int.le_trans h3 ?_
        split <;> omega
      · rcases List.mem_cons.mp e with e | e
        · subst e
          refine Int.le_trans h3 ?_
          split <;> omega
        · exact h2 z (List.mem_cons_of_mem _ e)
def maxT (r : RS) (t : T) : Option T := (lstT r t).bind fun xs => (intsT xs).bind fun ns => (maxL ns).map T.int
def minT (r : RS) (t : T) : Option T := (lstT r t).bind fun xs => (intsT xs).bind fun ns => (minL ns).map T.int
theorem v_max (hK : X.K = G.K) : B1 G (rMax X.K) maxT := fun w H r v t z Q g d e q => by
  unfold maxT at e
  cases q1 : lstT r t with
  | none => rw [q1] at e; cases e
  | some xs =>
    rw [q1] at e
    have e : ((intsT xs).bind fun ns => (maxL ns).map T.int) = some z := e
    obtain ⟨a, vs, rfl, h, dd, zz⟩ := lst_of g d q1
    cases q2 : intsT xs with
    | none => rw [q2] at e; cases e
    | some ns =>
      rw [q2] at e
      have := ints_of dd q2
      subst this
      cases ns with
      | nil => cases e
      | cons n ns =>
        cases e
        rw [hK]
        obtain ⟨h1, h2⟩ := foldmax_spec ns n
        refine ⟨a, n :: ns, rfl, h, Nat.succ_pos _, fun m hm hle => ?_⟩
        have : m = ns.foldl (fun a b => if b > a then b else a) n := Int.le_antisymm (h2 m hm) (hle _ h1)
        rw [this]
        exact q _ w H (Step.refl _ _) g (.int _)
theorem v_min (hK : X.K = G.K) : B1 G (rMin X.K) minT := fun w H r v t z Q g d e q => by
  unfold minT at e
  cases q1 : lstT r t with
  | none => rw [q1] at e; cases e
  | some xs =>
    rw [q1] at e
    have e : ((intsT xs).bind fun ns => (minL ns).map T.int) = some z := e
    obtain ⟨a, vs, rfl, h, dd, zz⟩ := lst_of g d q1
    cases q2 : intsT xs with
    | none => rw [q2] at e; cases e
    | some ns =>
      rw [q2] at e
      have := ints_of dd q2
      subst this
      cases ns with
      | nil => cases e
      | cons n ns =>
        cases e
        rw [hK]
        obtain ⟨h1, h2⟩ := foldmin_spec ns n
        refine ⟨a, n :: ns, rfl, h, Nat.succ_pos _, fun m hm hle => ?_⟩
        have : m = ns.foldl (fun a b => if b < a then b else a) n := Int.le_antisymm (hle _ h1) (h2 m hm)
        rw [this]
        exact q _ w H (Step.refl _ _) g (.int _)
/-- tuple(xs), list(xs) -/
def tupT (r : RS) (t : T) : Option T := (seqT r t).map .tup
def lisT (r : RS) (t : T) : Option T := (seqT r t).map .lst
theorem v_tup (hK : X.K = G.K) : B1 G (fun xs H Q => ∃ p ys, xs = [.ref p] ∧ ((SqL X.K H p ys ∧ ∀ l, H l = none → Q (.ref l) (upd H l (.tup ys))) ∨ (SqT X.K H p ys ∧ Q (.ref p) H))) tupT := fun w H r v t z Q g d e q => by
  unfold tupT at e
  cases q1 : seqT r t with
  | none => rw [q1] at e; cases e
  | some xs =>
    rw [q1] at e
    cases e
    rw [hK]
    cases t with
    | tup ys =>
      cases q1
      rcases d with d | ⟨_, _, _, _, e2, _⟩
      · cases d with
        | @tup a vs _ h zz dd => exact ⟨a, vs, rfl, .inr ⟨tup_sq g.sub h, q _ w H (Step.refl _ _) g (.tup h zz dd)⟩⟩
      · cases e2
    | lst ys =>
      obtain ⟨a, vs, rfl, h, dd, zz⟩ := lst_of g d (show lstT r (.lst ys) = some xs from q1)
      refine ⟨a, vs, rfl, .inl ⟨h, fun l hl => ?_⟩⟩
      obtain ⟨st, g2⟩ := g.new (o := .tup vs) hl
      exact q _ _ _ st g2 (.tup (.inl upd_same) zz (dd.mono st.later))
    | kls ys =>
      obtain ⟨a, vs, rfl, h, dd, zz⟩ := lst_of g d (show lstT r (.kls ys) = some xs from q1)
      refine ⟨a, vs, rfl, .inl ⟨h, fun l hl => ?_⟩⟩
      obtain ⟨st, g2⟩ := g.new (o := .tup vs) hl
      exact q _ _ _ st g2 (.tup (.inl upd_same) zz (dd.mono st.later))
    | ref ys =>
      obtain ⟨a, vs, rfl, h, dd, zz⟩ := lst_of g d (show lstT r (.ref ys) = some xs from q1)
      refine ⟨a, vs, rfl, .inl ⟨h, fun l hl => ?_⟩⟩
      obtain ⟨st, g2⟩ := g.new (o := .tup vs) hl
      exact q _ _ _ st g2 (.tup (.inl upd_same) zz (dd.mono st.later))
    | _ => cases q1
theorem v_lis (hK : X.K = G.K) : B1 G (fun xs H Q => ∃ p ys, xs = [.ref p] ∧ (SqL X.K H p ys ∨ SqT X.K H p ys) ∧ ∀ l, H l = none → Q (.ref l) (upd H l (.lst ys))) lisT := fun w H r v t z Q g d e q => by
  unfold lisT at e
  cases q1 : seqT r t with
  | none => rw [q1] at e; cases e
  | some xs =>
    rw [q1] at e
    cases e
    rw [hK]
    obtain ⟨p, rfl, sd⟩ := seq_of g d q1
    cases sd with
    | l vs h dd zz =>
      refine ⟨p, vs, rfl, .inl h, fun l hl => ?_⟩
      obtain ⟨st, g2⟩ := g.new (o := .lst vs) hl
      exact q _ _ _ st g2 (.lst upd_same zz (dd.mono st.later))
    | t vs h dd zz =>
      refine ⟨p, vs, rfl, .inr h, fun l hl => ?_⟩
      obtain ⟨st, g2⟩ := g.new (o := .lst vs) hl
      exact q _ _ _ st g2 (.lst upd_same zz (dd.mono st.later))
/-- isinstance(x, c) -/
def tagS : T → Option String
  | .non => some "NoneType"
  | .bl _ => some "bool"
  | .int _ => some "int"
  | .str _ => some "str"
  | .tup _ => some "tuple"
  | .lst _ => some "list"
  | .kls _ => some "list"
  | .ref _ => some "list"
  | .dct _ _ => some "dict"
  | .dtt _ _ => some "dict"
  | _ => none
theorem ty_of {w : Wd} {H : Hp} {r : RS} {v : V} {t : T} {s : String} (g : Good G w H r) (d : Den G w v t) (e : tagS t = some s) : TyX G.K H v (.type s) := by
  cases d with
  | non => cases e; exact .base .non
  | bl b => cases e; exact .base (.bl b)
  | int i => cases e; exact .base (.int i)
  | str x => cases e; exact .base (.str x)
  | tup h z d =>
    cases e
    rcases h with h | ⟨o, its, n, h1, h2, _⟩
    · exact .base (.tup (g.sub _ _ h))
    · exact .kTuple h1 h2
  | lst h z d => cases e; exact .base (.lst (g.sub _ _ h))
  | kls h z d =>
    cases e
    rcases g.sub.seq h with (h | ⟨o, h⟩) | ⟨o, its, n, h1, h2, _⟩
    · exact .base (.lst h)
    · exact .base (.frz h)
    · exact .kList h1 h2
  | @ref k a h =>
    cases e
    obtain ⟨vs, q⟩ := g.refs.there (List.mem_of_getElem? h)
    exact .base (.lst q)
  | dct h l d => cases e; exact .base (.dK (g.sub _ _ h))
  | dtt h l d => cases e; exact .base (.dT (g.sub _ _ h))
  | _ => cases e
/-- the kind of a value: a built-in type, an own class -/
inductive Kd where
  | b (s : String) | o (C : Nat)
  deriving DecidableEq
def kdT : T → Option Kd
  | .obj C _ => some (.o C)
  | t => (tagS t).map .b
/-- what the library tells of an own class -/
structure InsTy (K : PySem.W.Frag) (cA : Addr) : Prop where
  cl : Cls K cA
  ha : PySem.W.findIn K (.ref cA) "__class__" = some (some (.builtin "object.__class__"))
  hsp : PySem.W.specialIn K (.builtin "object.__class__") "__get__" = some (some (.builtin "getset_descriptor.__get__"))
  htak : PySem.W.takesIn K (.builtin "object.__class__") = some true
  hmr : PySem.W.mroIn K cA (.type "object") = some true
def KdV (G : Gm) (k : Kd) (u : Value) : Prop := match k with
  | .b s => u = .type s
  | .o C => ∃ cA, G.mg (G.cn C) = some (.ref cA) ∧ u = .ref cA ∧ InsTy G.K cA
/-- a class as a value -/
inductive Cl where
  | ty (n : String) | cl (C : Nat)
  deriving DecidableEq
def clT : T → Option Cl
  | .ty n => some (.ty n)
  | .cl C => some (.cl C)
  | _ => none
def ClV (G : Gm) (c : Cl) (u : Value) : Prop := match c with
  | .ty n => u = .type n
  | .cl C => ∃ cA, G.mg (G.cn C) = some (.ref cA) ∧ u = .ref cA
/-- a table of isinstance -/
def TabOk (G : Gm) (tb : Kd → Cl → Option Bool) : Prop := ∀ k c b, tb k c = some b → (∀ C, k = .o C → ∀ cA, G.mg (G.cn C) = some (.ref cA) → InsTy G.K cA) ∧ ∀ u z, KdV G k u → ClV G c z → PySem.W.kitOne G.K u z = some b
def isiL (tb : Kd → Cl → Option Bool) (k : Kd) : List T → Option Bool
  | [] => some false
  | c :: cs => match (clT c).bind (tb k) with
    | some true => (clsT cs).map fun _ => true
    | some false => isiL tb k cs
    | none => none
where clsT : List T → Option Unit
  | [] => some ()
  | c :: cs => (clT c).bind fun _ => clsT cs
def isiT (tb : Kd → Cl → Option Bool) (t c : T) : Option T := match c with
  | .tup cs => (kdT t).bind fun k => match cs with
    | [] => none
    | c :: cs => (isiL tb k (c :: cs)).map T.bl
  | c => (kdT t).bind fun k => (clT c).bind fun c => (tb k c).map T.bl
def rIsiA (K : PySem.W.Frag) : List V → Hp → VK → Prop := fun xs H Q => rIsi K xs H Q ∨ rIsiT K xs H Q ∨ rIsiK K xs H Q
theorem c_isi : CallR X (.builtin "isinstance") (rIsiA X.K) := call_isi.or (call_isiT.or call_isiK)
theorem cl_of {w : Wd} {v : V} {t : T} {c : Cl} (d : Den G w v t) (h : clT t = some c) : ∃ u, ClsV v u ∧ ClV G c u := by
  cases d with
  | ty n => cases h; exact ⟨_, .ty n, rfl⟩
  | @cl C a q => cases h; exact ⟨_, .own a, a, q, rfl⟩
  | _ => cases h
theorem kd_of {w : Wd} {H : Hp} {r : RS} {v : V} {t : T} {k : Kd} (g : Good G w H r) (d : Den G w v t) (e : kdT t = some k) (hi : ∀ C, k = .o C → ∀ cA, G.mg (G.cn C) = some (.ref cA) → InsTy G.K cA) : ∃ u, TyX G.K H v u ∧ KdV G k u := by
  have go : ∀ s, tagS t = some s → k = .b s → ∃ u, TyX G.K H v u ∧ KdV G k u := fun s e1 e2 => by
    subst e2
    exact ⟨_, ty_of g d e1, rfl⟩
  cases t with
  | obj C vs =>
    cases e
    cases d with
    | @obj a cA dx _ us _ c h l dd =>
      have i := hi C rfl cA c
      exact ⟨_, .base (.ins (g.sub _ _ h) i.cl i.ha i.hsp i.htak i.hmr), cA, c, rfl, i⟩
  | non => cases e; exact go _ rfl rfl
  | bl _ => cases e; exact go _ rfl rfl
  | int _ => cases e; exact go _ rfl rfl
  | str _ => cases e; exact go _ rfl rfl
  | tup _ => cases e; exact go _ rfl rfl
  | lst _ => cases e; exact go _ rfl rfl
  | kls _ => cases e; exact go _ rfl rfl
  | ref _ => cases e; exact go _ rfl rfl
  | dct _ _ => cases e; exact go _ rfl rfl
  | dtt _ _ => cases e; exact go _ rfl rfl
  | _ => cases e
theorem cls_of {w : Wd} : ∀ {cs : List T} {vs : List V}, Dens G w vs cs → isiL.clsT cs = some () → ∃ us, Paired ClsV vs us
  | [], _, .nil, _ => ⟨[], .nil⟩
  | c :: cs, _, .cons h r, e => by
    have e : ((clT c).bind fun _ => isiL.clsT cs) = some () := e
    cases q : clT c with
    | none => rw [q] at e; cases e
    | some c' =>
      rw [q] at e
      obtain ⟨u, h1, _⟩ := cl_of h q
      obtain ⟨us, h2⟩ := cls_of r e
      exact ⟨u :: us, .cons h1 h2⟩
theorem isi_list {tb : Kd → Cl → Option Bool} (ok : TabOk G tb) {k : Kd} {u : Value} (hu : KdV G k u) {w : Wd} : ∀ {cs : List T} {vs : List V} {b : Bool}, Dens G w vs cs → isiL tb k cs = some b → ∃ us, Paired ClsV vs us ∧ PySem.W.kitAny G.K u us = some b
  | [], _, _, .nil, e => by cases e; exact ⟨[], .nil, kitAny_nil⟩
  | c :: cs, _, b, .cons h r, e => by
    unfold isiL at e
    cases q : clT c with
    | none => rw [q] at e; cases e
    | some c' =>
      rw [q] at e
      obtain ⟨z, h1, h2⟩ := cl_of h q
      have e : (match tb k c' with
        | some true => (isiL.clsT cs).map fun _ => true
        | some false => isiL tb k cs
        | none => none) = some b := e
      cases q2 : tb k c' with
      | none => rw [q2] at e; cases e
      | some b' =>
        rw [q2] at e
        have h3 := (ok k c' b' q2).2 u z hu h2
        cases b' with
        | true =>
          have e : ((isiL.clsT cs).map fun _ => true) = some b := e
          cases q3 : isiL.clsT cs with
          | none => rw [q3] at e; cases e
          | some _ =>
            rw [q3] at e
            cases e
            obtain ⟨us, hp⟩ := cls_of r q3
            exact ⟨z :: us, .cons h1 hp, kitAny_cons h3 (fun z => nomatch z) (fun _ => rfl)⟩
        | false =>
          obtain ⟨us, hp, ha⟩ := isi_list ok hu r e
          exact ⟨z :: us, .cons h1 hp, kitAny_cons h3 (fun _ => ha) (fun z => nomatch z)⟩
theorem v_isi {tb : Kd → Cl → Option Bool} (ok : TabOk G tb) (hK : X.K = G.K) : B2 G (rIsiA X.K) (isiT tb) := fun w H r v u t s z Q g d1 d2 e q => by
  rw [hK]
  have one : ((kdT t).bind fun k => (clT s).bind fun c => (tb k c).map T.bl) = some z → rIsiA G.K [v, u] H Q := fun e => by
    cases q1 : kdT t with
    | none => rw [q1] at e; cases e
    | some k =>
      rw [q1] at e
      have e : ((clT s).bind fun c => (tb k c).map T.bl) = some z := e
      cases q2 : clT s with
      | none => rw [q2] at e; cases e
      | some c =>
        rw [q2] at e
        have e : (tb k c).map T.bl = some z := e
        cases q3 : tb k c with
        | none => rw [q3] at e; cases e
        | some b =>
          rw [q3] at e
          cases e
          obtain ⟨hi, hk⟩ := ok k c b q3
          obtain ⟨z1, h1, h2⟩ := cl_of d2 q2
          obtain ⟨z2, h3, h4⟩ := kd_of g d1 q1 hi
          exact .inl ⟨v, u, z2, z1, b, rfl, h1, h3, hk _ _ h4 h2, q _ w H (Step.refl _ _) g (.bl b)⟩
  cases s with
  | tup cs =>
    have e : ((kdT t).bind fun k => match cs with
      | [] => none
      | c :: cs => (isiL tb k (c :: cs)).map T.bl) = some z := e
    cases q1 : kdT t with
    | none => rw [q1] at e; cases e
    | some k =>
      rw [q1] at e
      cases cs with
      | nil => cases e
      | cons c cs =>
        have e : (isiL tb k (c :: cs)).map T.bl = some z := e
        cases q3 : isiL tb k (c :: cs) with
        | none => rw [q3] at e; cases e
        | some b =>
          rw [q3] at e
          cases e
          have hi : ∀ C, k = .o C → ∀ cA, G.mg (G.cn C) = some (.ref cA) → InsTy G.K cA := by
            unfold isiL at q3
            cases q2 : clT c with
            | none => rw [q2] at q3; cases q3
            | some c' =>
              rw [q2] at q3
              cases q4 : tb k c' with
              | none =>
                have q3 : (match tb k c' with
                  | some true => (isiL.clsT cs).map fun _ => true
                  | some false => isiL tb k cs
                  | none => none) = some b := q3
                rw [q4] at q3
                cases q3
              | some b' => exact (ok k c' b' q4).1
          obtain ⟨z2, h3, h4⟩ := kd_of g d1 q1 hi
          cases d2 with
          | @tup p vs _ h zz dd =>
            obtain ⟨us, hp, ha⟩ := isi_list ok h4 dd q3
            rcases h with hT | ⟨⟨oc, od, dt, sl⟩, its, n, h1, h2, h5, _, h6⟩
            · exact .inr (.inl ⟨v, p, vs, z2, us, b, rfl, g.sub _ _ hT, hp, h3, ha, q _ w H (Step.refl _ _) g (.bl b)⟩)
            · have h2 : oc = .type "tuple" := h2
              have h5 : dt = .seq its n := h5
              subst h2 h5
              have e6 := ClsV.all hp h6
              have e7 : us.toArray = its := by rw [← e6]
              exact .inr (.inr ⟨v, p, od, us, n, sl, z2, b, rfl, by rw [e7]; exact h1, h3, ha, q _ w H (Step.refl _ _) g (.bl b)⟩)
  | _ => exact one e
end
end Ep
namespace Ep
open PySem PySem.Spec L2
/-! ### statements -/
inductive SO where
  | nx (e : Env) (r : RS) | rt (t : T) (r : RS) | bk (e : Env) (r : RS) | ct (e : Env) (r : RS) | exn (c : Nat) (p : T) (e : Env) (r : RS) | bad
abbrev Sm := Env → RS → SO
def FlowP (G : Gm) (W : WX) (w0 : Wd) (H0 : Hp) (D : Ends) : SO → Prop
  | .nx env r => ∀ w' H' σ', Step w0 H0 w' H' → Good G w' H' r → Slots G w' H0 H' σ' env → D.nx σ' H'
  | .rt t r => ∀ w' H' v, Step w0 H0 w' H' → Good G w' H' r → Den G w' v t → D.rt v H'
  | .bk env r => ∀ w' H' σ', Step w0 H0 w' H' → Good G w' H' r → Slots G w' H0 H' σ' env → D.bk σ' H'
  | .ct env r => ∀ w' H' σ', Step w0 H0 w' H' → Good G w' H' r → Slots G w' H0 H' σ' env → D.ct σ' H'
  | .exn c p env r => ∀ w' H' σ' cls d, Step w0 H0 w' H' → Good G w' H' r → Slots G w' H0 H' σ' env → ExcIs G w' H' c p cls d → W cls d σ' H'
  | .bad => False
/-- where a computation stands: the base, the world now, the slots -/
structure At (G : Gm) (w0 : Wd) (H0 : Hp) (w : Wd) (H : Hp) (σ : L2.St) (env : Env) (r : RS) : Prop where
  st : Step w0 H0 w H
  g : Good G w H r
  s : Slots G w H0 H σ env
def tSS (G : Gm) (W : WX) (w0 : Wd) (H0 : Hp) (g : Sm) : TS := fun D σ H => ∃ w env r, At G w0 H0 w H σ env r ∧ FlowP G W w0 H0 D (g env r)
abbrev SS (X : Cx) (G : Gm) (W : WX) (st : Stmt) (g : Sm) : Prop := ∀ w0 H0, PS X st (tSS G W w0 H0 g)
abbrev SSs (X : Cx) (G : Gm) (W : WX) (st : List Stmt) (g : Sm) : Prop := ∀ w0 H0, PSs X st (tSS G W w0 H0 g)
theorem ps_imp {X : Cx} {st : Stmt} {t t' : TS} (h : PS X st t) (i : ∀ D σ H, t' D σ H → t D σ H) : PS X st t' := ⟨fun pins s σ H D I q => h.run pins s σ H D I (i D σ H q)⟩
theorem pss_imp {X : Cx} {st : List Stmt} {t t' : TS} (h : PSs X st t) (i : ∀ D σ H, t' D σ H → t D σ H) : PSs X st t' := ⟨fun pins s σ H D I q => h.run pins s σ H D I (i D σ H q)⟩
def ofM {α : Type} (env : Env) (k : α → RS → SO) : Out α → SO
  | .ok a r => k a r
  | .exn c p r => .exn c p env r
  | .bad => .bad
section
variable {G : Gm} {W : WX} {w0 w : Wd} {H0 H : Hp} {σ : L2.St} {env : Env} {r : RS} {D : Ends}
theorem At.step (a : At G w0 H0 w H σ env r) {w' : Wd} {H' : Hp} {r' : RS} (st : Step w H w' H') (g : Good G w' H' r') : At G w0 H0 w' H' σ env r' := ⟨a.st.trans st, g, a.s.step st⟩
theorem FlowP.ofM {α : Type} {m : Out α} {k : α → RS → SO} (a : At G w0 H0 w H σ env r) (h : FlowP G W w0 H0 D (ofM env k m)) :
    OutP G w H (WE0 W σ) (fun x r' w' H' => At G w0 H0 w' H' σ env r' ∧ FlowP G W w0 H0 D (k x r')) m := by
  cases m with
  | ok x r' => exact fun w' H' st g => ⟨a.step st g, h⟩
  | exn c p r' => exact fun w' H' cls d st g x => h w' H' σ cls d (a.st.trans st) g (a.s.step st) x
  | bad => exact h
end
section
variable {X : Cx} {G : Gm} {W : WX} {st : Stmt} {rest : List Stmt} {g g' : Sm} {pos : Pos}
def qNil : Sm := fun env r => .nx env r
def qSeq (g g' : Sm) : Sm := fun env r => match g env r with
  | .nx env r => g' env r
  | o => o
theorem ss_nil : SSs X G W [] qNil := fun w0 H0 => pss_imp pss_nil fun D σ H ⟨w, env, r, a, h⟩ => h w H σ a.st a.g a.s
theorem ss_cons (h1 : SS X G W st g) (h2 : SSs X G W rest g') : SSs X G W (st :: rest) (qSeq g g') := fun w0 H0 => pss_imp (pss_cons (h1 w0 H0) (h2 w0 H0)) fun D σ H ⟨w, env, r, a, h⟩ => by
  refine ⟨w, env, r, a, ?_⟩
  unfold qSeq at h
  cases q : g env r with
  | nx env' r' =>
    rw [q] at h
    exact fun w' H' σ' st g s => ⟨w', env', r', ⟨st, g, s⟩, h⟩
  | rt t r' => rw [q] at h; exact h
  | bk e r' => rw [q] at h; exact h
  | ct e r' => rw [q] at h; exact h
  | exn c p e r' => rw [q] at h; exact h
  | bad => rw [q] at h; exact h
theorem ss_one (h1 : SS X G W st g) : SSs X G W [st] g := fun w0 H0 => pss_one (h1 w0 H0)
theorem ss_pass : SS X G W (.Pass pos) qNil := fun w0 H0 => ps_imp ps_pass fun D σ H ⟨w, env, r, a, h⟩ => h w H σ a.st a.g a.s
theorem ss_break : SS X G W (.Break pos) (fun env r => .bk env r) := fun w0 H0 => ps_imp ps_break fun D σ H ⟨w, env, r, a, h⟩ => h w H σ a.st a.g a.s
theorem ss_continue : SS X G W (.Continue pos) (fun env r => .ct env r) := fun w0 H0 => ps_imp ps_continue fun D σ H ⟨w, env, r, a, h⟩ => h w H σ a.st a.g a.s
/-- a statement that is never reached -/
theorem ss_never : SS X G W st (fun _ _ => .bad) := fun w0 H0 => ps_imp ps_never fun D σ H ⟨w, env, r, a, h⟩ => h
variable {e : Expr} {f : Env → M T}
def qRet (f : Env → M T) : Sm := fun env r => ofM env (fun t r => .rt t r) (f env r)
theorem at_e {w0 w : Wd} {H0 H : Hp} {σ : L2.St} {env : Env} {r : RS} {D : Ends} {k : T → RS → SO} {Q : VK} (a : At G w0 H0 w H σ env r) (h : FlowP G W w0 H0 D (ofM env k (f env r)))
    (n : ∀ t r1 w1 H1 v, At G w0 H0 w1 H1 σ env r1 → Den G w1 v t → FlowP G W w0 H0 D (k t r1) → Q v H1) : tS G W f σ H Q :=
  ⟨w, H0, env, r, a.g, a.s, (FlowP.ofM a h).imp fun t r1 w1 H1 _ _ q v d => n t r1 w1 H1 v q.1 d q.2⟩
theorem at_b {w0 w : Wd} {H0 H : Hp} {σ : L2.St} {env : Env} {r : RS} {D : Ends} {p : Env → M Bool} {k : Bool → RS → SO} {Q : Bool → Hp → Prop} (a : At G w0 H0 w H σ env r) (h : FlowP G W w0 H0 D (ofM env k (p env r)))
    (n : ∀ t r1 w1 H1, At G w0 H0 w1 H1 σ env r1 → FlowP G W w0 H0 D (k t r1) → Q t H1) : tSB G W p σ H Q :=
  ⟨w, H0, env, r, a.g, a.s, (FlowP.ofM a h).imp fun t r1 w1 H1 _ _ q => n t r1 w1 H1 q.1 q.2⟩
theorem ss_ret (he : SE X G W e f) : SS X G W (.Return (some e) pos) (qRet f) := fun w0 H0 => ps_imp (ps_ret he) fun D σ H ⟨w, env, r, a, h⟩ =>
  at_e a h fun t r1 w1 H1 v a1 d h1 => h1 w1 H1 v a1.st a1.g d
theorem ss_retN : SS X G W (.Return none pos) (fun _ r => .rt .non r) := fun w0 H0 => ps_imp ps_retN fun D σ H ⟨w, env, r, a, h⟩ => h w H _ a.st a.g .non
def qExpr (f : Env → M T) : Sm := fun env r => ofM env (fun _ r => .nx env r) (f env r)
theorem ss_expr (he : SE X G W e f) (hs : swapsWith e none pos.line X.env = pure false := by rfl) : SS X G W (.Expr e pos) (qExpr f) := fun w0 H0 => ps_imp (ps_expr he hs) fun D σ H ⟨w, env, r, a, h⟩ =>
  at_e a h fun t r1 w1 H1 v a1 d h1 => h1 w1 H1 σ a1.st a1.g a1.s
def qIf (p : Env → M Bool) (g g' : Sm) : Sm := fun env r => ofM env (fun c r => if c = true then g env r else g' env r) (p env r)
theorem ss_if {c : Expr} {p : Env → M Bool} {sa sb : List Stmt} (hc : SB X G W c p) (ha : SSs X G W sa g) (hb : SSs X G W sb g') : SS X G W (.If c sa sb pos) (qIf p g g') := fun w0 H0 => ps_imp (ps_if hc (ha w0 H0) (hb w0 H0)) fun D σ H ⟨w, env, r, a, h⟩ =>
  at_b a h fun t r1 w1 H1 a1 h1 => by
    cases t with
    | true => exact ⟨w1, env, r1, a1, h1⟩
    | false => exact ⟨w1, env, r1, a1, h1⟩
end
/-! ### slots set -/
section
variable {G : Gm} {w : Wd} {H0 H : Hp} {σ : L2.St} {env : Env} {r : RS}
theorem Slots.setVal {v : V} {t : T} (s : Slots G w H0 H σ env) (i : Nat) (d : Den G w v t) : Slots G w H0 H (σ.set i (some v)) (env.set i (.val t)) := by
  obtain ⟨oa, h1, h2⟩ := s.ex
  refine ⟨by simp [s.len], oa, fun j sl hj => ?_, fun j k u u' hj hk pj pk e => ?_⟩
  · by_cases hij : i = j
    · subst hij
      by_cases hl : i < env.length
      · rw [List.getElem?_set_self hl] at hj
        cases hj
        exact ⟨v, by rw [List.getElem?_set_self (by rw [s.len]; exact hl)], d⟩
      · rw [List.getElem?_eq_none (by simpa using hl)] at hj
        cases hj
    · rw [List.getElem?_set_ne hij] at hj
      have := h1 j sl hj
      unfold SlotAt at this ⊢
      cases sl <;> first | exact True.intro | (simp only [List.getElem?_set_ne hij]; exact this)
  · have ne : ∀ {m : Nat} {x : Slot}, (env.set i (.val t))[m]? = some x → x.priv = true → env[m]? = some x := fun {m x} hm px => by
      by_cases him : i = m
      · subst him
        by_cases hl : i < env.length
        · rw [List.getElem?_set_self hl] at hm
          cases hm
          cases px
        · rw [List.getElem?_eq_none (by simpa using hl)] at hm
          cases hm
      · rw [List.getElem?_set_ne him] at hm
        exact hm
    exact h2 j k u u' (ne hj pj) (ne hk pk) pj pk e
/-- an own list's address is none of a heap's that does not know it -/
theorem Slots.setOwn {p : Addr} {o : HO} {xs : Pv} (s : Slots G w H0 H σ env) (i : Nat) (nw : ∀ (j : Nat) (sl : Slot) (oa : Addr), env[j]? = some sl → sl.priv = true → σ[j]? = some (some (.ref oa)) → oa ≠ p)
    (hP : w.P p = none) (hR : p ∉ w.R) (h0 : ¬ Vs H0 p) (hh : H p = some o) (d : PvOk G w p o xs) : Slots G w H0 H (σ.set i (some (.ref p))) (env.set i (.pv xs)) := by
  obtain ⟨oa, h1, h2⟩ := s.ex
  have old : ∀ {m : Nat} {x : Slot}, i ≠ m → (env.set i (.pv xs))[m]? = some x → env[m]? = some x := fun {m x} him hm => by
    rw [List.getElem?_set_ne him] at hm
    exact hm
  have oan : ∀ {m : Nat} {x : Slot}, env[m]? = some x → x.priv = true → oa m ≠ p := fun {m x} hm px => by
    have := h1 m x hm
    cases x with
    | un => cases px
    | val _ => cases px
    | pv ys => exact nw m _ _ hm rfl this.1
  refine ⟨by simp [s.len], fun j => if j = i then p else oa j, fun j sl hj => ?_, fun j k u u' hj hk pj pk e => ?_⟩
  · by_cases hij : i = j
    · subst hij
      by_cases hl : i < env.length
      · rw [List.getElem?_set_self hl] at hj
        cases hj
        simp only [SlotAt, if_true]
        exact ⟨by rw [List.getElem?_set_self (by rw [s.len]; exact hl)], hP, hR, h0, o, hh, d⟩
      · rw [List.getElem?_eq_none (by simpa using hl)] at hj
        cases hj
    · have := h1 j sl (old hij hj)
      unfold SlotAt at this ⊢
      cases sl <;> first | exact True.intro | (simp only [List.getElem?_set_ne hij, if_neg (Ne.symm hij)]; exact this)
  · by_cases hij : i = j
    · by_cases hik : i = k
      · rw [← hij, ← hik]
      · have e : (if j = i then p else oa j) = (if k = i then p else oa k) := e
        rw [if_pos hij.symm, if_neg (Ne.symm hik)] at e
        exact absurd e.symm (oan (old hik hk) pk)
    · by_cases hik : i = k
      · have e : (if j = i then p else oa j) = (if k = i then p else oa k) := e
        rw [if_neg (Ne.symm hij), if_pos hik.symm] at e
        exact absurd e (oan (old hij hj) pj)
      · have e : (if j = i then p else oa j) = (if k = i then p else oa k) := e
        rw [if_neg (Ne.symm hij), if_neg (Ne.symm hik)] at e
        exact h2 j k u u' (old hij hj) (old hik hk) pj pk e
/-- an own list changes -/
theorem Slots.chg {o : HO} {xs ys : Pv} (s : Slots G w H0 H σ env) {i : Nat} {p : Addr} (he : env[i]? = some (.pv xs)) (hp : σ[i]? = some (some (.ref p))) (d : PvOk G w p o ys) : Slots G w H0 (upd H p o) σ (env.set i (.pv ys)) := by
  obtain ⟨oa, h1, h2⟩ := s.ex
  have hi := h1 i _ he
  have ep : oa i = p := by
    have := hi.1
    rw [hp] at this
    exact (V.ref.inj (Option.some.inj (Option.some.inj this))).symm
  have old : ∀ {m : Nat} {x : Slot}, i ≠ m → (env.set i (.pv ys))[m]? = some x → env[m]? = some x := fun {m x} him hm => by
    rw [List.getElem?_set_ne him] at hm
    exact hm
  have hl : i < env.length := (List.getElem?_eq_some_iff.mp he).1
  have pr : ∀ {m : Nat} {x : Slot}, (env.set i (.pv ys))[m]? = some x → x.priv = true → ∃ y : Slot, env[m]? = some y ∧ y.priv = true := fun {m x} hm px => by
    by_cases him : i = m
    · subst him; exact ⟨_, he, rfl⟩
    · exact ⟨x, old him hm, px⟩
  refine ⟨by simp [s.len], oa, fun j sl hj => ?_, fun j k u u' hj hk pj pk e => ?_⟩
  · by_cases hij : i = j
    · subst hij
      rw [List.getElem?_set_self hl] at hj
      cases hj
      obtain ⟨a1, a2, a3, a4, _⟩ := hi
      exact ⟨a1, a2, a3, a4, o, by rw [ep]; exact upd_same, by rw [ep]; exact d⟩
    · have q := old hij hj
      have := h1 j sl q
      cases sl with
      | un => trivial
      | val t => exact this
      | pv zs =>
        have ne : oa j ≠ p := fun e => hij (h2 i j _ _ he q rfl rfl (ep.trans e.symm))
        obtain ⟨a1, a2, a3, a4, u, a6, a7⟩ := this
        exact ⟨a1, a2, a3, a4, u, by rw [upd_ne ne]; exact a6, a7⟩
  · obtain ⟨y, e1, p1⟩ := pr hj pj
    obtain ⟨y', e2, p2⟩ := pr hk pk
    exact h2 j k y y' e1 e2 p1 p2 e
def Pv.frz : Pv → Option T
  | .lst xs => some (.lst xs)
  | .dk ks vs => some (.dct ks vs)
  | .dt ks vs => some (.dtt ks vs)
  | .ins _ _ => none
theorem PvOk.frz {o : HO} {p : Pv} {t : T} {a : Addr} (h : PvOk G w a o p) (e : p.frz = some t) (hP : w.P a = none) : Den G (w.add a o) (.ref a) t := by
  have L : Later w (w.add a o) := Later.add hP
  cases h with
  | lst z d => cases e; exact .lst upd_same z (d.mono L)
  | ins _ c l d => cases e
  | dk l z d => cases e; exact .dct upd_same l (d.mono L)
  | dt l z d => cases e; exact .dtt upd_same l (d.mono L)
/-- an own thing is a value from now on -/
theorem Slots.freeze {p : Pv} {t : T} (s : Slots G w H0 H σ env) (g : Good G w H r) {w0 : Wd} (st : Step w0 H0 w H) {i : Nat} (he : env[i]? = some (.pv p)) (hf : p.frz = some t) : ∃ w', Step w0 H0 w' H ∧ Good G w' H r ∧ Slots G w' H0 H σ (env.set i (.val t)) := by
  obtain ⟨oa, h1, h2⟩ := s.ex
  obtain ⟨a1, a2, a3, a4, o, a6, a7⟩ := h1 i _ he
  refine ⟨w.add (oa i) o, st.publish a4 a2, g.publish a2 a3 a6 a7.pl.tb, ?_⟩
  have L : Later w (w.add (oa i) o) := Later.add a2
  have hl : i < env.length := (List.getElem?_eq_some_iff.mp he).1
  have old : ∀ {m : Nat} {x : Slot}, i ≠ m → (env.set i (.val t))[m]? = some x → env[m]? = some x := fun {m x} him hm => by
    rw [List.getElem?_set_ne him] at hm
    exact hm
  have pr : ∀ {m : Nat} {x : Slot}, (env.set i (.val t))[m]? = some x → x.priv = true → env[m]? = some x := fun {m x} hm px => by
    by_cases him : i = m
    · subst him
      rw [List.getElem?_set_self hl] at hm
      cases hm
      cases px
    · exact old him hm
  refine ⟨by simp [s.len], oa, fun j sl hj => ?_, fun j k u u' hj hk pj pk e => h2 j k u u' (pr hj pj) (pr hk pk) pj pk e⟩
  by_cases hij : i = j
  · subst hij
    rw [List.getElem?_set_self hl] at hj
    cases hj
    exact ⟨_, a1, a7.frz hf a2⟩
  · have q := old hij hj
    have := h1 j sl q
    have nP : ∀ {x : Slot}, env[j]? = some x → x.priv = true → w.P (oa j) = none → (w.add (oa i) o).P (oa j) = none := fun {x} hx px hn => by
      show upd w.P (oa i) o (oa j) = none
      rw [upd_ne (fun e => hij (h2 i j _ _ he hx rfl px e.symm))]
      exact hn
    cases sl with
    | un => trivial
    | val t =>
      obtain ⟨v, e1, d1⟩ := this
      exact ⟨v, e1, d1.mono L⟩
    | pv zs =>
      obtain ⟨b1, b2, b3, b4, u, b6, b7⟩ := this
      exact ⟨b1, nP q rfl b2, b3, b4, u, b6, b7.mono L rfl⟩
end
/-- the own things of some slots become values -/
def frz1 (env : Env) (i : Nat) : Env := match env[i]? with
  | some (.pv p) => match p.frz with
    | some t => env.set i (.val t)
    | none => env
  | _ => env
def frz : List Nat → Env → Env
  | [], env => env
  | i :: is, env => frz is (frz1 env i)
theorem At.freeze1 {G : Gm} {w0 : Wd} {H0 H : Hp} {σ : L2.St} {r : RS} (i : Nat) {w : Wd} {env : Env} (a : At G w0 H0 w H σ env r) : ∃ w', At G w0 H0 w' H σ (frz1 env i) r := by
  unfold frz1
  cases q : env[i]? with
  | none => exact ⟨w, a⟩
  | some sl =>
    cases sl with
    | pv p =>
      cases e : p.frz with
      | none => exact ⟨w, by simpa [e] using a⟩
      | some t =>
        obtain ⟨w', h1, h2, h3⟩ := a.s.freeze a.g a.st q e
        exact ⟨w', by simpa [e] using (⟨h1, h2, h3⟩ : At G w0 H0 w' H σ (env.set i (.val t)) r)⟩
    | un => exact ⟨w, a⟩
    | val t => exact ⟨w, a⟩
theorem At.freeze {G : Gm} {w0 : Wd} {H0 H : Hp} {σ : L2.St} {r : RS} : ∀ (is : List Nat) {w : Wd} {env : Env}, At G w0 H0 w H σ env r → ∃ w', At G w0 H0 w' H σ (frz is env) r
  | [], w, env, a => ⟨w, a⟩
  | i :: is, w, env, a => by
    obtain ⟨w1, a1⟩ := a.freeze1 i
    exact At.freeze is a1
theorem ss_frz {X : Cx} {G : Gm} {W : WX} {st : Stmt} {g : Sm} (is : List Nat) (h : SS X G W st g) : SS X G W st (fun env r => g (frz is env) r) := fun w0 H0 => ps_imp (h w0 H0) fun D σ H ⟨w, env, r, a, q⟩ => by
  obtain ⟨w', a'⟩ := a.freeze is
  exact ⟨w', frz is env, r, a', q⟩
/-! ### assignments -/
section
variable {X : Cx} {G : Gm} {W : WX} {pos : Pos} {e : Expr} {f : Env → M T}
def qSet (i : Nat) (f : Env → M T) : Sm := fun env r => ofM env (fun t r => .nx (env.set i (.val t)) r) (f env r)
theorem ss_set {i : Nat} {x : Str} {pos' : Pos} (hN : X.N.Nodup) (hi : X.N[i]? = some x) (hx : Loc X.env.scope x) (he : SE X G W e f) (hs : swapsWith e (some (.Name x pos')) pos.line X.env = pure false := by rfl) (hf : X.fn x = true ∨ X.env.scope.names.lookup x = some .local := by first | exact .inl rfl | exact .inr rfl | assumption) :
    SS X G W (.Assign [.Name x pos'] e pos) (qSet i f) := fun w0 H0 => ps_imp (ps_set hN hi hx he hs hf) fun D σ H ⟨w, env, r, a, h⟩ =>
  at_e a h fun t r1 w1 H1 v a1 d h1 => h1 w1 H1 _ a1.st a1.g (a1.s.setVal i d)
theorem At.notNew {w0 w : Wd} {H0 H : Hp} {σ : L2.St} {env : Env} {r : RS} (a : At G w0 H0 w H σ env r) {j : Nat} {sl : Slot} {b p : Addr} (hj : env[j]? = some sl) (pj : sl.priv = true) (hb : σ[j]? = some (some (.ref b))) (hp : ¬ Vs H p) : b ≠ p := fun eb => by
  subst eb
  obtain ⟨oa, k1, k2⟩ := a.s.ex
  have := k1 j sl hj
  cases sl with
  | un => cases pj
  | val _ => cases pj
  | pv ys =>
    obtain ⟨b1, _, _, _, o, b6, _⟩ := this
    rw [hb] at b1
    cases b1
    rename_i b7
    exact hp ⟨o, b6, b7.pl.tb⟩
def qOwn (i : Nat) (f : Env → M (List T)) : Sm := fun env r => ofM env (fun xs r => .nx (env.set i (.own xs)) r) (f env r)
theorem at_own {i : Nat} {f : Env → M (List T)} {w0 w : Wd} {H0 H : Hp} {σ : L2.St} {env : Env} {r : RS} {D : Ends} (a : At G w0 H0 w H σ env r) (h : FlowP G W w0 H0 D (qOwn i f env r)) : tSL G W f σ H (fun v H1 => D.nx (σ.set i (some v)) H1) := by
  refine ⟨w, H0, env, r, a.g, a.s, (FlowP.ofM a h).imp fun xs r1 w1 H1 st g1 q p vs hp hP hR hh d z => ?_⟩
  obtain ⟨a1, h1⟩ := q
  refine h1 w1 H1 _ a1.st a1.g (a1.s.setOwn i (fun j sl b hj pj hb => a.notNew hj pj hb hp) hP hR (fun z => hp (a.st.keep _ z)) hh (.lst z d))
theorem ss_own {i : Nat} {x : Str} {pos' : Pos} {f : Env → M (List T)} (hN : X.N.Nodup) (hi : X.N[i]? = some x) (hx : Loc X.env.scope x) (he : SL X G W e f) (hs : swapsWith e (some (.Name x pos')) pos.line X.env = pure false := by rfl) (hf : X.fn x = true ∨ X.env.scope.names.lookup x = some .local := by first | exact .inl rfl | exact .inr rfl | assumption) :
    SS X G W (.Assign [.Name x pos'] e pos) (qOwn i f) := fun w0 H0 => ps_imp (ps_set hN hi hx he hs hf) fun D σ H ⟨w, env, r, a, h⟩ => at_own a h
/-- a, b = e, e' with plain names -/
def qPar2 (i j : Nat) (f g : Env → M T) : Sm := fun env r => ofM env (fun ts r => match ts with
  | [t, u] => .nx ((env.set i (.val t)).set j (.val u)) r
  | _ => .bad) (fAll [f, g] env r)
theorem at_a {w0 w : Wd} {H0 H : Hp} {σ : L2.St} {env : Env} {r : RS} {D : Ends} {fs : List (Env → M T)} {k : List T → RS → SO} {Q : List V → Hp → Prop} (a : At G w0 H0 w H σ env r) (h : FlowP G W w0 H0 D (ofM env k (fAll fs env r)))
    (n : ∀ ts r1 w1 H1 vs, At G w0 H0 w1 H1 σ env r1 → Dens G w1 vs ts → ts.length = fs.length → FlowP G W w0 H0 D (k ts r1) → Q vs H1) : tSA G W fs σ H Q :=
  ⟨w, H0, env, r, a.g, a.s, (FlowP.ofM a h).imp fun t r1 w1 H1 _ _ q v d l => n t r1 w1 H1 v q.1 d l q.2⟩
theorem ss_par2 {i j : Nat} {x y : Str} {e1 e2 : Expr} {f g : Env → M T} {px py pt : Pos} {kt k2 pt2} (hc : X.calm = true) (hN : X.N.Nodup) (hi : X.N[i]? = some x) (hj : X.N[j]? = some y) (hij : i ≠ j)
    (hx : X.env.scope.names.lookup x = some .local) (hy : X.env.scope.names.lookup y = some .local) (ha : SA X G W [e1, e2] [f, g])
    (hw : swappedStores [.Tuple [.Name x px, .Name y py] kt pt] (.Tuple [e1, e2] k2 pt2) X.env = pure (some [x, y]))
    (hs : swapsWithSole [.Tuple [.Name x px, .Name y py] kt pt] (.Tuple [e1, e2] k2 pt2) pos.line X.env = pure false := by rfl) :
    SS X G W (.Assign [.Tuple [.Name x px, .Name y py] kt pt] (.Tuple [e1, e2] k2 pt2) pos) (qPar2 i j f g) := fun w0 H0 => ps_imp (ps_par hc hN hi hj hij hx hy ha hw hs) fun D σ H ⟨w, env, r, a, h⟩ =>
  at_a a h fun ts r1 w1 H1 vs a1 d l h1 => by
    cases d with
    | nil => cases l
    | cons d1 d =>
      cases d with
      | nil => cases l
      | cons d2 d =>
        cases d with
        | cons _ _ => cases l
        | nil => exact ⟨_, _, rfl, h1 w1 H1 _ a1.st a1.g ((a1.s.setVal i d1).setVal j d2)⟩
def qPar3 (i j k : Nat) (fs : List (Env → M T)) : Sm := fun env r => ofM env (fun ts r => match ts with
  | [t, u, v] => .nx (((env.set i (.val t)).set j (.val u)).set k (.val v)) r
  | _ => .bad) (fAll fs env r)
theorem ss_par3 {i j l : Nat} {x y z : Str} {e1 e2 e3 : Expr} {f1 f2 f3 : Env → M T} {px py pz pt : Pos} {kt k2 pt2} (hc : X.calm = true) (hN : X.N.Nodup) (hi : X.N[i]? = some x) (hj : X.N[j]? = some y) (hl : X.N[l]? = some z) (hij : i ≠ j) (hil : i ≠ l) (hjl : j ≠ l)
    (hx : X.env.scope.names.lookup x = some .local) (hy : X.env.scope.names.lookup y = some .local) (hz : X.env.scope.names.lookup z = some .local) (ha : SA X G W [e1, e2, e3] [f1, f2, f3])
    (hw : swappedStores [.Tuple [.Name x px, .Name y py, .Name z pz] kt pt] (.Tuple [e1, e2, e3] k2 pt2) X.env = pure (some [x, y, z]))
    (hs : swapsWithSole [.Tuple [.Name x px, .Name y py, .Name z pz] kt pt] (.Tuple [e1, e2, e3] k2 pt2) pos.line X.env = pure false := by rfl) :
    SS X G W (.Assign [.Tuple [.Name x px, .Name y py, .Name z pz] kt pt] (.Tuple [e1, e2, e3] k2 pt2) pos) (qPar3 i j l [f1, f2, f3]) := fun w0 H0 => ps_imp (ps_par3 hc hN hi hj hl hij hil hjl hx hy hz ha hw hs) fun D σ H ⟨w, env, r, a, h⟩ =>
  at_a a h fun ts r1 w1 H1 vs a1 d l h1 => by
    cases d with
    | nil => cases l
    | cons d1 d =>
      cases d with
      | nil => cases l
      | cons d2 d =>
        cases d with
        | nil => cases l
        | cons d3 d =>
          cases d with
          | cons _ _ => cases l
          | nil => exact ⟨_, _, _, rfl, h1 w1 H1 _ a1.st a1.g (((a1.s.setVal _ d1).setVal _ d2).setVal _ d3)⟩
/-! ### targets -/
/-- all slots but those of vs stay -/
def But (vs : List Nat) (σ σ' : L2.St) : Prop := σ'.length = σ.length ∧ ∀ j, j ∉ vs → σ'[j]? = σ[j]?
theorem But.refl {vs : List Nat} {σ : L2.St} : But vs σ σ := ⟨rfl, fun _ _ => rfl⟩
theorem But.trans {vs us : List Nat} {σ σ1 σ2 : L2.St} (a : But vs σ σ1) (b : But us σ1 σ2) : But (vs ++ us) σ σ2 := ⟨b.1.trans a.1, fun j hj => (b.2 j fun h => hj (List.mem_append_right _ h)).trans (a.2 j fun h => hj (List.mem_append_left _ h))⟩
theorem But.set {σ : L2.St} {i : Nat} {v : Option V} : But [i] σ (σ.set i v) := ⟨List.length_set, fun j hj => List.getElem?_set_ne fun e => hj (by simp [e])⟩
def tG (G : Gm) (vs : List Nat) (w0 : Wd) (H0 : Hp) (h : T → Env → Option Env) : TG := fun v σ H Q => ∃ w env r t env', At G w0 H0 w H σ env r ∧ Den G w v t ∧ h t env = some env' ∧ ∀ σ', Slots G w H0 H σ' env' → But vs σ σ' → Q σ' H
def tGs (G : Gm) (us : List Nat) (w0 : Wd) (H0 : Hp) (h : List T → Env → Option Env) : TGs := fun vs σ H Q => ∃ w env r ts env', At G w0 H0 w H σ env r ∧ Dens G w vs ts ∧ h ts env = some env' ∧ ∀ σ', Slots G w H0 H σ' env' → But us σ σ' → Q σ' H
abbrev SG (X : Cx) (G : Gm) (vs : List Nat) (tg : Expr) (h : T → Env → Option Env) : Prop := ∀ w0 H0, PG X tg (tG G vs w0 H0 h)
abbrev SGs (X : Cx) (G : Gm) (vs : List Nat) (tg : List Expr) (h : List T → Env → Option Env) : Prop := ∀ w0 H0, PGs X tg (tGs G vs w0 H0 h)
theorem pg_imp {tg : Expr} {t t' : TG} (h : PG X tg t) (i : ∀ v σ H Q, t' v σ H Q → t v σ H Q) : PG X tg t' := ⟨fun pins s σ H v u Q I r q => h.run pins s σ H v u Q I r (i v σ H Q q)⟩
theorem pgs_imp {tg : List Expr} {t t' : TGs} (h : PGs X tg t) (i : ∀ v σ H Q, t' v σ H Q → t v σ H Q) : PGs X tg t' := ⟨fun pins s σ H v u Q I r q => h.run pins s σ H v u Q I r (i v σ H Q q)⟩
def hName (i : Nat) : T → Env → Option Env := fun t env => some (env.set i (.val t))
theorem g_name {i : Nat} {x : Str} (hN : X.N.Nodup) (hi : X.N[i]? = some x) (hx : Loc X.env.scope x) (hf : X.fn x = true ∨ X.env.scope.names.lookup x = some .local := by first | exact .inl rfl | exact .inr rfl | assumption) : SG X G [i] (.Name x pos) (hName i) := fun w0 H0 =>
  pg_imp (pg_name hN hi hx hf) fun v σ H Q ⟨w, env, r, t, env', a, d, e, q⟩ => by
    cases e
    exact q _ (a.s.setVal i d) But.set
def hNil : List T → Env → Option Env := fun ts env => match ts with
  | [] => some env
  | _ => none
def hCons (h : T → Env → Option Env) (hs : List T → Env → Option Env) : List T → Env → Option Env := fun ts env => match ts with
  | t :: ts => (h t env).bind (hs ts)
  | [] => none
theorem gs_nil : SGs X G [] [] hNil := fun w0 H0 => pgs_imp pgs_nil fun vs σ H Q ⟨w, env, r, ts, env', a, d, e, q⟩ => by
  cases d with
  | nil => cases e; exact ⟨rfl, q σ a.s But.refl⟩
  | cons _ _ => cases e
theorem gs_cons {tg : Expr} {tgs : List Expr} {h : T → Env → Option Env} {hs : List T → Env → Option Env} {us us' : List Nat} (h1 : SG X G us tg h) (h2 : SGs X G us' tgs hs) (he : (assignEach (tg :: tgs) X.env).map (·.2) = assign tg X.env :: (assignEach tgs X.env).map (·.2) := by rfl) : SGs X G (us ++ us') (tg :: tgs) (hCons h hs) := fun w0 H0 =>
  pgs_imp (pgs_cons (h1 w0 H0) (h2 w0 H0) he) fun vs σ H Q ⟨w, env, r, ts, env', a, d, e, q⟩ => by
    cases d with
    | nil => cases e
    | @cons v vs t ts d1 d2 =>
      have e : (h t env).bind (hs ts) = some env' := e
      cases e1 : h t env with
      | none => rw [e1] at e; cases e
      | some env1 =>
        rw [e1] at e
        exact ⟨v, vs, rfl, w, env, r, t, env1, a, d1, e1, fun σ' s' b => ⟨w, env1, r, ts, env', ⟨a.st, a.g, s'⟩, d2, e, fun σ2 s2 b2 => q σ2 s2 (b.trans b2)⟩⟩
def hTup (n : Nat) (hs : List T → Env → Option Env) : T → Env → Option Env := fun t env => match t with
  | .tup ts => if ts.length = n then hs ts env else none
  | _ => none
theorem g_tup {us : List Nat} {es : List Expr} {k n : Nat} {hs : List T → Env → Option Env} (hc : X.calm = true) (hK : X.K = G.K) (h : SGs X G us es hs) (hn : (assignEach es X.env).length = n := by rfl) (hst : (assignEach es X.env).findIdx? (·.1) = none := by rfl) : SG X G us (.Tuple es k pos) (hTup n hs) := fun w0 H0 =>
  pg_imp (pg_tup hc (h w0 H0) hn hst) fun v σ H Q ⟨w, env, r, t, env', a, d, e, q⟩ => by
    cases d with
    | @tup p vs ts hh z dd =>
      have e : (if ts.length = n then hs ts env else none) = some env' := e
      by_cases hl : ts.length = n
      · rw [if_pos hl] at e
        rw [hK]
        exact ⟨p, vs, rfl, tup_sq a.g.sub hh, by rw [dd.length]; exact hl, w, env, r, ts, env', a, dd, e, q⟩
      · rw [if_neg hl] at e; cases e
    | _ => cases e
def qAsg (f : Env → M T) (h : T → Env → Option Env) : Sm := fun env r => ofM env (fun t r => match h t env with
  | some env' => .nx env' r
  | none => .bad) (f env r)
theorem ss_asg {us : List Nat} {tg : Expr} {h : T → Env → Option Env} (he : SE X G W e f) (hg : SG X G us tg h) (hs : swapsWithSole [tg] e pos.line X.env = pure false := by rfl) (hw : swappedStores [tg] e X.env = pure none := by rfl)
    (h1 : (assignEach [tg] X.env).map (·.2) = [assign tg X.env] := by rfl) : SS X G W (.Assign [tg] e pos) (qAsg f h) := fun w0 H0 => ps_imp (ps_asg he (hg w0 H0) hs hw h1) fun D σ H ⟨w, env, r, a, hq⟩ =>
  at_e a hq fun t r1 w1 H1 v a1 d h2 => by
    cases q : h t env with
    | none => rw [q] at h2; exact h2.elim
    | some env' =>
      rw [q] at h2
      exact ⟨w1, env, r1, t, env', a1, d, q, fun σ' s' _ => h2 w1 H1 σ' a1.st a1.g s'⟩
end
end Ep
namespace Ep
open PySem PySem.Spec L2
/-! ### lists changed -/
section
variable {G : Gm} {w w0 : Wd} {H0 H : Hp} {σ : L2.St} {env : Env} {r : RS}
/-- a changed list of several defs -/
theorem At.ref (a : At G w0 H0 w H σ env r) {k : Nat} {p : Addr} {xs : List T} {vs : List V} (hp : w.R[k]? = some p) (hk : r[k]? = some xs) {ys : List T} (d : Dens G w vs ys) (hz : ys.length ≤ sizeLine) : At G w0 H0 w (upd H p (.lst vs)) σ env (r.set k ys) := by
  have hm : p ∈ w.R := List.mem_of_getElem? hp
  have hl : k < r.length := (List.getElem?_eq_some_iff.mp hk).1
  have st : Step w H w (upd H p (.lst vs)) := ⟨Same.refl _, fun b o h1 h2 _ => by
      rw [upd_ne (fun e => h1 (by rw [e]; exact hm))]
      exact h2, fun b h => by
      exact h.put (by intro _ e; cases e), fun _ _ _ h => h, ⟨[], by simp, by simp⟩, rfl⟩
  obtain ⟨vs0, ev0⟩ := a.g.refs.there hm
  refine a.step st ⟨fun b o e => ?_, ⟨a.g.refs.nd, by rw [List.length_set]; exact a.g.refs.len, a.g.refs.out, fun j zs hj => ?_⟩, tabs_put a.g.tabs (.inr ⟨_, ev0, ⟨fun _ e => (by cases e), fun _ e => (by cases e)⟩⟩), a.g.nt⟩
  · rw [upd_ne (fun q => by rw [q, a.g.refs.out p hm] at e; cases e)]
    exact a.g.sub b o e
  · by_cases hjk : k = j
    · subst hjk
      rw [List.getElem?_set_self hl] at hj
      cases hj
      exact ⟨p, vs, hp, upd_same, d, hz⟩
    · rw [List.getElem?_set_ne hjk] at hj
      obtain ⟨b, us, h1, h2, h3, h4⟩ := a.g.refs.at_ j zs hj
      refine ⟨b, us, h1, ?_, h3, h4⟩
      have hb : b ≠ p := fun e => by
        subst e
        obtain ⟨l1, e1⟩ := List.getElem?_eq_some_iff.mp hp
        obtain ⟨l2, e2⟩ := List.getElem?_eq_some_iff.mp h1
        exact hjk ((List.getElem_inj a.g.refs.nd).mp (e1.trans e2.symm))
      rw [upd_ne hb]
      exact h2
/-- an own thing is changed -/
theorem At.pv (a : At G w0 H0 w H σ env r) {i : Nat} {xs ys : Pv} {o : HO} {p : Addr} (he : env[i]? = some (.pv xs)) (hp : σ[i]? = some (some (.ref p))) (d : PvOk G w p o ys) : At G w0 H0 w (upd H p o) σ (env.set i (.pv ys)) r := by
  obtain ⟨oa, h1, h2⟩ := a.s.ex
  obtain ⟨b1, b2, b3, b4, u, b6, b7⟩ := h1 i _ he
  rw [hp] at b1
  cases b1
  exact ⟨a.st.chg b4 d.pl.tb, a.g.priv b2 b3 (.inr ⟨u, b6, b7.pl⟩), a.s.chg he hp d⟩
theorem At.own (a : At G w0 H0 w H σ env r) {i : Nat} {xs ys : List T} {vs : List V} {p : Addr} (he : env[i]? = some (.own xs)) (hp : σ[i]? = some (some (.ref p))) (d : Dens G w vs ys) (hz : ys.length ≤ sizeLine) : At G w0 H0 w (upd H p (.lst vs)) σ (env.set i (.own ys)) r :=
  a.pv he hp (.lst hz d)
/-- an own thing: its address -/
theorem At.thing (a : At G w0 H0 w H σ env r) {i : Nat} {q : Pv} (he : env[i]? = some (.pv q)) : ∃ p o, σ[i]? = some (some (.ref p)) ∧ H p = some o ∧ PvOk G w p o q := by
  obtain ⟨oa, h1, h2⟩ := a.s.ex
  obtain ⟨b1, b2, b3, b4, o, b6, b7⟩ := h1 i _ he
  exact ⟨_, o, b1, b6, b7⟩
/-- the list of a slot, to be changed: its address, its items -/
theorem At.lst (a : At G w0 H0 w H σ env r) {i : Nat} {xs : List T} (he : env[i]? = some (.own xs)) : ∃ p vs, σ[i]? = some (some (.ref p)) ∧ H p = some (.lst vs) ∧ Dens G w vs xs ∧ xs.length ≤ sizeLine := by
  obtain ⟨p, o, h1, h2, h3⟩ := a.thing he
  cases h3 with
  | lst z d => exact ⟨p, _, h1, h2, d, z⟩
theorem At.lstR (a : At G w0 H0 w H σ env r) {i k : Nat} {xs : List T} (he : env[i]? = some (.val (.ref k))) (hk : r[k]? = some xs) : ∃ p vs, σ[i]? = some (some (.ref p)) ∧ H p = some (.lst vs) ∧ Dens G w vs xs ∧ w.R[k]? = some p ∧ xs.length ≤ sizeLine := by
  obtain ⟨oa, h1, h2⟩ := a.s.ex
  obtain ⟨v, e1, d⟩ := h1 i _ he
  cases d with
  | ref h =>
    obtain ⟨b, us, h3, h4, h5, h6⟩ := a.g.refs.at_ k xs hk
    rw [h] at h3
    cases h3
    exact ⟨_, us, e1, h4, h5, h, h6⟩
end
section
variable {X : Cx} {G : Gm} {W : WX} {pos : Pos} {e ix : Expr} {f g : Env → M T}
theorem at_eS {w0 w : Wd} {H0 H : Hp} {σ : L2.St} {env : Env} {r : RS} {D : Ends} {k : T → RS → SO} {Q : VK} (a : At G w0 H0 w H σ env r) (h : FlowP G W w0 H0 D (ofM env k (f env r)))
    (n : ∀ t r1 w1 H1 v, Step w H w1 H1 → At G w0 H0 w1 H1 σ env r1 → Den G w1 v t → FlowP G W w0 H0 D (k t r1) → Q v H1) : tS G W f σ H Q :=
  ⟨w, H0, env, r, a.g, a.s, (FlowP.ofM a h).imp fun t r1 w1 H1 st _ q v d => n t r1 w1 H1 v st q.1 d q.2⟩
/-- may the slot's list be changed: an own one, or one of several defs -/
def isMut (env : Env) (i : Nat) : Bool := match env[i]? with
  | some (.pv (.lst _)) => true
  | some (.val (.ref _)) => true
  | _ => false
/-- the items of the slot's list; a new list in its place -/
def mutGet (env : Env) (i : Nat) (r : RS) : Option (List T) := match env[i]? with
  | some (.pv (.lst xs)) => some xs
  | some (.val (.ref k)) => r[k]?
  | _ => none
def mutSet (env : Env) (i : Nat) (r : RS) (ys : List T) : SO := match env[i]? with
  | some (.pv (.lst _)) => .nx (env.set i (.own ys)) r
  | some (.val (.ref k)) => .nx env (r.set k ys)
  | _ => .bad
theorem At.mutA {w w0 : Wd} {H0 H : Hp} {σ : L2.St} {env : Env} {r : RS} (a : At G w0 H0 w H σ env r) {i : Nat} (hm : isMut env i = true) : ∃ p vs, σ[i]? = some (some (.ref p)) ∧ H p = some (.lst vs) := by
  unfold isMut at hm
  cases q : env[i]? with
  | none => rw [q] at hm; cases hm
  | some sl =>
    rw [q] at hm
    cases sl with
    | pv o =>
      cases o with
      | lst xs =>
        obtain ⟨p, vs, e1, hp, _⟩ := a.lst q
        exact ⟨p, vs, e1, hp⟩
      | _ => cases hm
    | val t =>
      cases t with
      | ref k =>
        obtain ⟨oa, k1, k2⟩ := a.s.ex
        obtain ⟨v0, e1, d0⟩ := k1 i _ q
        cases d0 with
        | ref hp =>
          obtain ⟨vs, hh⟩ := a.g.refs.there (List.mem_of_getElem? hp)
          exact ⟨_, vs, e1, hh⟩
      | _ => cases hm
    | un => cases hm
theorem At.mutG {w w0 : Wd} {H0 H : Hp} {σ : L2.St} {env : Env} {r : RS} (a : At G w0 H0 w H σ env r) {i : Nat} {xs : List T} (hm : mutGet env i r = some xs) : ∃ p vs, σ[i]? = some (some (.ref p)) ∧ H p = some (.lst vs) ∧ Dens G w vs xs ∧ xs.length ≤ sizeLine ∧
    ∀ us ys, Dens G w us ys → ys.length ≤ sizeLine → ∀ (D : Ends), FlowP G W w0 H0 D (mutSet env i r ys) → D.nx σ (upd H p (.lst us)) := by
  unfold mutGet at hm
  cases q : env[i]? with
  | none => rw [q] at hm; cases hm
  | some sl =>
    rw [q] at hm
    cases sl with
    | pv o =>
      cases o with
      | lst ys =>
        cases hm
        obtain ⟨p, vs, e1, hp, d, hz⟩ := a.lst q
        refine ⟨p, vs, e1, hp, d, hz, fun us ys dd hl D h => ?_⟩
        unfold mutSet at h
        rw [q] at h
        have a2 := a.own q e1 dd hl
        exact h _ _ _ a2.st a2.g a2.s
      | _ => cases hm
    | val t =>
      cases t with
      | ref k =>
        obtain ⟨p, vs, e1, hp, d, hR, hz⟩ := a.lstR q hm
        refine ⟨p, vs, e1, hp, d, hz, fun us ys dd hl D h => ?_⟩
        unfold mutSet at h
        rw [q] at h
        have a2 := a.ref hR hm dd hl
        exact h _ _ _ a2.st a2.g a2.s
      | _ => cases hm
    | un => cases hm
/-- xs.append(e) -/
def qApp (i : Nat) (f : Env → M T) : Sm := fun env r => if isMut env i = true then ofM env (fun t r => match mutGet env i r with
  | some xs => if xs.length < 100000 then mutSet env i r (xs ++ [t]) else .bad
  | none => .bad) (f env r) else .bad
theorem ss_app {x : Str} {px apos cpos : Pos} (hK : X.K = G.K) (i : Nat) (hN : X.N[i]? = some x) (hv : Vis X.env.scope x) (he : SE X G W e f) (hbase : attributeBase (.Name x px) "append" X.env (eval (.Name x px) X.env) = eval (.Name x px) X.env := by rfl)
    (hfew : ((backTo cpos (starEach [e] X.env)).all (fun x => !x.1) && (backToKw cpos (keywordEach [] X.env)).all (fun x => x.1.isSome) && decide (([e] : List Expr).length + ([] : List Keyword).length + (if ([] : List Keyword).isEmpty then 0 else 1) < 30)) = true := by rfl)
    (hline : (apos.endLine == cpos.line) = true := by rfl) (hs : starEach [e] X.env = (false, eval e X.env) :: starEach [] X.env := by rfl) (hplain : (backTo cpos (starEach [] X.env)).any (·.1) = false := by rfl)
    (hd : (x == ("__debug__" : Str)) = false := by decide) (hcd : (x == ("__classdict__" : Str)) = false := by decide) :
    SS X G W (.Expr (.Call (.Attribute (.Name x px) "append" apos) [e] [] cpos) pos) (qApp i f) := fun w0 H0 =>
  ps_imp (ps_expr (pe_bm PySem.F.plainAttrs_list PySem.F.slot_list_append PySem.F.type_list_append mt_append (pe_var hN hv hd hcd) (pa_cons he pa_nil hs) hbase hfew hline hs hplain)) fun D σ H ⟨w, env, r, a, h⟩ => by
    rw [hK]
    unfold qApp at h
    by_cases hm : isMut env i = true
    · rw [if_pos hm] at h
      obtain ⟨p, vs, e1, hp⟩ := a.mutA hm
      refine ⟨_, e1, .inl ⟨rfl, vs, SqL.of hp⟩, at_e a h fun t r1 w1 H1 v a1 d h1 => ?_⟩
      cases q : mutGet env i r1 with
      | none => rw [q] at h1; exact h1.elim
      | some xs =>
        rw [q] at h1
        have h1 : FlowP G W w0 H0 D (if xs.length < 100000 then mutSet env i r1 (xs ++ [t]) else .bad) := h1
        by_cases hl : xs.length < 100000
        · rw [if_pos hl] at h1
          obtain ⟨p', vs', e2, hp', dd, hz', go⟩ := a1.mutG (W := W) q
          rw [e1] at e2
          cases e2
          exact ⟨p, vs', v, rfl, rfl, hp', by rw [dd.length]; exact Nat.lt_of_lt_of_le hl (by decide), go _ _ (dd.append (.cons d .nil)) (by rw [List.length_append]; exact Nat.le_trans (Nat.succ_le_of_lt hl) (by decide)) D h1⟩
        · rw [if_neg hl] at h1; exact h1.elim
    · rw [if_neg hm] at h; exact h.elim
/-- xs.extend(e) -/
def qExt (i : Nat) (f : Env → M T) : Sm := fun env r => if isMut env i = true then ofM env (fun t r => match mutGet env i r, t with
  | some xs, .lst ys => if xs.length + ys.length ≤ 100000 then mutSet env i r (xs ++ ys) else .bad
  | _, _ => .bad) (f env r) else .bad
theorem ss_ext {x : Str} {px apos cpos : Pos} (hK : X.K = G.K) (i : Nat) (hN : X.N[i]? = some x) (hv : Vis X.env.scope x) (he : SE X G W e f) (hbase : attributeBase (.Name x px) "extend" X.env (eval (.Name x px) X.env) = eval (.Name x px) X.env := by rfl)
    (hfew : ((backTo cpos (starEach [e] X.env)).all (fun x => !x.1) && (backToKw cpos (keywordEach [] X.env)).all (fun x => x.1.isSome) && decide (([e] : List Expr).length + ([] : List Keyword).length + (if ([] : List Keyword).isEmpty then 0 else 1) < 30)) = true := by rfl)
    (hline : (apos.endLine == cpos.line) = true := by rfl) (hs : starEach [e] X.env = (false, eval e X.env) :: starEach [] X.env := by rfl) (hplain : (backTo cpos (starEach [] X.env)).any (·.1) = false := by rfl)
    (hd : (x == ("__debug__" : Str)) = false := by decide) (hcd : (x == ("__classdict__" : Str)) = false := by decide) :
    SS X G W (.Expr (.Call (.Attribute (.Name x px) "extend" apos) [e] [] cpos) pos) (qExt i f) := fun w0 H0 =>
  ps_imp (ps_expr (pe_bm PySem.F.plainAttrs_list PySem.F.slot_list_extend PySem.F.type_list_extend mt_extend (pe_var hN hv hd hcd) (pa_cons he pa_nil hs) hbase hfew hline hs hplain)) fun D σ H ⟨w, env, r, a, h⟩ => by
    rw [hK]
    unfold qExt at h
    by_cases hm : isMut env i = true
    · rw [if_pos hm] at h
      obtain ⟨p, vs, e1, hp⟩ := a.mutA hm
      refine ⟨_, e1, .inl ⟨rfl, vs, SqL.of hp⟩, at_e a h fun t r1 w1 H1 v a1 d h1 => ?_⟩
      cases q : mutGet env i r1 with
      | none => rw [q] at h1; exact h1.elim
      | some xs =>
        rw [q] at h1
        cases d with
        | @lst b us ys hb zb db =>
          have h1 : FlowP G W w0 H0 D (if xs.length + ys.length ≤ 100000 then mutSet env i r1 (xs ++ ys) else .bad) := h1
          by_cases hl : xs.length + ys.length ≤ 100000
          · rw [if_pos hl] at h1
            obtain ⟨p', vs', e2, hp', dd, hz', go⟩ := a1.mutG (W := W) q
            rw [e1] at e2
            cases e2
            exact ⟨p, b, vs', us, rfl, rfl, hp', a1.g.sub _ _ hb, by rw [dd.length, db.length]; exact le_size hl, go _ _ (dd.append db) (by rw [List.length_append]; exact le_size hl) D h1⟩
          · rw [if_neg hl] at h1; exact h1.elim
        | _ => exact h1.elim
    · rw [if_neg hm] at h; exact h.elim
/-- xs[i] = e -/
def qSetIx (i : Nat) (f g : Env → M T) : Sm := fun env r => if isMut env i = true then ofM env (fun t r => ofM env (fun u r => match mutGet env i r, u with
  | some xs, .int k => match ixN xs.length k with
    | some j => mutSet env i r (xs.set j t)
    | none => .bad
  | _, _ => .bad) (g env r)) (f env r) else .bad
theorem ss_setIx {x : Str} {px spos : Pos} (i : Nat) (hN : X.N[i]? = some x) (hv : Vis X.env.scope x) (he : SE X G W e f) (hi : SE X G W ix g)
    (ha : ∀ v, assign (.Subscript (.Name x px) ix spos) X.env v = (do let ov ← holding [v] (eval (.Name x px) X.env); let iv ← holding [v, ov] (eval ix X.env); standAt spos; holding [v, ov, iv] (setItem ov iv v); release [v, ov, iv] []) := by intro _; rfl)
    (hs : swapsWithSole [.Subscript (.Name x px) ix spos] e pos.line X.env = pure false := by rfl) (hw : swappedStores [.Subscript (.Name x px) ix spos] e X.env = pure none := by rfl)
    (h1 : (assignEach [.Subscript (.Name x px) ix spos] X.env).map (·.2) = [assign (.Subscript (.Name x px) ix spos) X.env] := by rfl) (hd : (x == ("__debug__" : Str)) = false := by decide) (hcd : (x == ("__classdict__" : Str)) = false := by decide) :
    SS X G W (.Assign [.Subscript (.Name x px) ix spos] e pos) (qSetIx i f g) := fun w0 H0 =>
  ps_imp (ps_asg he (pg_sub (pe_var hN hv hd hcd) hi set_list ha) hs hw h1) fun D σ H ⟨w, env, r, a, h⟩ => by
    unfold qSetIx at h
    by_cases hm : isMut env i = true
    · rw [if_pos hm] at h
      refine at_e a h fun t r1 w1 H1 v a1 d h1 => ?_
      obtain ⟨p, vs, e1, hp⟩ := a1.mutA hm
      refine ⟨_, e1, at_eS a1 h1 fun u r2 w2 H2 y st2 a2 d2 h2 => ?_⟩
      have d := d.mono st2.later
      cases q : mutGet env i r2 with
      | none => rw [q] at h2; exact h2.elim
      | some xs =>
        rw [q] at h2
        cases d2 with
        | int k =>
          obtain ⟨p', vs', e2, hp', dd, hz', go⟩ := a2.mutG (W := W) q
          rw [e1] at e2
          cases e2
          have h2 : FlowP G W w0 H0 D (match ixN xs.length k with
            | some j => mutSet env i r2 (xs.set j t)
            | none => .bad) := h2
          cases q2 : ixN xs.length k with
          | none => rw [q2] at h2; exact h2.elim
          | some j =>
            rw [q2] at h2
            exact ⟨p, vs', k, j, rfl, rfl, hp', by rw [dd.length]; exact q2, go _ _ (dd.set d j) (by rw [List.length_set]; exact hz') D h2⟩
        | _ => exact h2.elim
    · rw [if_neg hm] at h; exact h.elim
/-- a list that several defs change, from a new one -/
def fRef (f : Env → M (List T)) : Env → M T := fun env r => match f env r with
  | .ok xs r' => .ok (.ref r'.length) (r' ++ [xs])
  | .exn c p r' => .exn c p r'
  | .bad => .bad
theorem s_ref {f : Env → M (List T)} (h : SL X G W e f) : SE X G W e (fRef f) := pe_imp h fun σ H Q ⟨w, H0, env, r, g, s, h⟩ => by
  refine ⟨w, H0, env, r, g, s, ?_⟩
  unfold fRef at h
  cases q : f env r with
  | ok xs r1 =>
    rw [q] at h
    intro w1 H1 st g1 p vs hp hP hR hh d z
    have L : Later w1 ⟨w1.P, w1.R ++ [p], w1.fx⟩ := ⟨Same.refl _, [p], rfl⟩
    have st2 : Step w H ⟨w1.P, w1.R ++ [p], w1.fx⟩ H1 := ⟨st.pub, st.fr, st.keep, st.hid, by
      obtain ⟨m, e, hm⟩ := st.refs
      exact ⟨m ++ [p], by show w1.R ++ [p] = _; rw [e, List.append_assoc], fun a ha => by
        rcases List.mem_append.mp ha with z | z
        · exact hm a z
        · rw [List.mem_singleton.mp z]; exact hp⟩, st.me⟩
    have g2 : Good G ⟨w1.P, w1.R ++ [p], w1.fx⟩ H1 (r1 ++ [xs]) := ⟨g1.sub, ⟨List.nodup_append.mpr ⟨g1.refs.nd, by simp, fun a ha b hb e => hR (by rw [← List.mem_singleton.mp hb, ← e]; exact ha)⟩, by simp [g1.refs.len], fun a ha => by
        rcases List.mem_append.mp ha with z | z
        · exact g1.refs.out a z
        · rw [List.mem_singleton.mp z]; exact hP, fun k ys hk => by
        by_cases hl : k < r1.length
        · rw [List.getElem?_append_left hl] at hk
          obtain ⟨a, us, h1, h2, h3, h4⟩ := g1.refs.at_ k ys hk
          exact ⟨a, us, by show (w1.R ++ [p])[k]? = some a; rw [List.getElem?_append_left (by rw [g1.refs.len]; exact hl)]; exact h1, h2, h3.mono L, h4⟩
        · have hk' : k = r1.length := by
            have := (List.getElem?_eq_some_iff.mp hk).1
            rw [List.length_append, List.length_singleton] at this
            omega
          subst hk'
          rw [List.getElem?_append_right (Nat.le_refl _), Nat.sub_self] at hk
          cases hk
          exact ⟨p, vs, by show (w1.R ++ [p])[r1.length]? = some p; rw [List.getElem?_append_right (by rw [g1.refs.len]; exact Nat.le_refl _), g1.refs.len, Nat.sub_self]; rfl, hh, d.mono L, z⟩⟩, g1.tabs, g1.nt⟩
    refine h _ _ st2 g2 _ (.ref ?_)
    show (w1.R ++ [p])[r1.length]? = some p
    rw [List.getElem?_append_right (by rw [g1.refs.len]; exact Nat.le_refl _), g1.refs.len, Nat.sub_self]
    rfl
  | exn c p r1 =>
    rw [q] at h
    exact h
  | bad =>
    rw [q] at h
    exact h
/-- self.f = e in an __init__ -/
def qFld (i C n : Nat) (f : Env → M T) : Sm := fun env r => match env[i]? with
  | some (.pv (.ins C' ts)) => if C' = C ∧ ts.length = n then ofM env (fun t r => .nx (env.set i (.ins C (ts ++ [t]))) r) (f env r) else .bad
  | _ => .bad
theorem putF_new {name : Str} {v : V} : ∀ {fs : List (Str × V)}, fs.lookup name = none → putF name v fs = fs ++ [(name, v)]
  | [], _ => rfl
  | (y, u) :: fs, h => by
    rw [List.lookup_cons] at h
    by_cases q : name = y
    · subst q
      rw [show (name == name) = true by simp] at h
      cases h
    · rw [show (name == y) = false by simp [q]] at h
      have e : ¬ y = name := fun z => q z.symm
      unfold putF
      rw [if_neg e, putF_new h]
      rfl
theorem At.ins {w w0 : Wd} {H0 H : Hp} {σ : L2.St} {env : Env} {r : RS} (a : At G w0 H0 w H σ env r) {i C : Nat} {ts : List T} (he : env[i]? = some (.ins C ts)) : ∃ p cA dx vs, σ[i]? = some (some (.ref p)) ∧ G.mg (G.cn C) = some (.ref cA) ∧ H p = some (.ins cA dx (((G.fl C).take ts.length).zip vs)) ∧ vs.length = ts.length ∧ ts.length ≤ (G.fl C).length ∧
    ∀ v t, Den G w v t → ts.length < (G.fl C).length → At G w0 H0 w (upd H p (.ins cA dx (((G.fl C).take (ts ++ [t]).length).zip (vs ++ [v])))) σ (env.set i (.ins C (ts ++ [t]))) r := by
  obtain ⟨p, o, h1, h2, h3⟩ := a.thing he
  cases h3 with
  | ins hm c l d => exact ⟨p, _, _, _, h1, c, h2, d.length, l, fun v t dd hl => a.pv he h1 (.ins hm c (by rw [List.length_append, List.length_singleton]; exact hl) (d.append (.cons dd .nil)))⟩
/-- the class's n-th field is the name, and stands but once among those ahead -/
structure NthFld (G : Gm) (C n : Nat) (name : Str) : Prop where
  at_ : (G.fl C)[n]? = some name
  new : name ∉ (G.fl C).take n
  few : (G.fl C).length < 1000
  cl : ∀ cA, G.mg (G.cn C) = some (.ref cA) → Cls G.K cA ∧ NoAttr G.K cA name
theorem zip_snoc {l : List Str} {n : Nat} {name : Str} {vs : List V} {v : V} (h : l[n]? = some name) (hv : vs.length = n) : (l.take n).zip vs ++ [(name, v)] = (l.take (n + 1)).zip (vs ++ [v]) := by
  obtain ⟨hl, e⟩ := List.getElem?_eq_some_iff.mp h
  rw [List.take_succ, h]
  simp only [Option.toList]
  rw [List.zip_append (by rw [List.length_take, hv]; omega)]
  rfl
theorem ss_fld {x name : Str} {px fpos : Pos} {C n : Nat} (hK : X.K = G.K) (i : Nat) (hN : X.N[i]? = some x) (hv : Vis X.env.scope x) (ok : NthFld G C n name) (he : SE X G W e f)
    (hs : swapsWith e (some (.Attribute (.Name x px) name fpos)) pos.line X.env = pure false := by rfl) (hd : (x == ("__debug__" : Str)) = false := by decide) (hcd : (x == ("__classdict__" : Str)) = false := by decide) :
    SS X G W (.Assign [.Attribute (.Name x px) name fpos] e pos) (qFld i C n f) := fun w0 H0 =>
  ps_imp (ps_fld (pe_var hN hv hd hcd) he hs) fun D σ H ⟨w, env, r, a, h⟩ => by
    rw [hK]
    unfold qFld at h
    cases q : env[i]? with
    | none => rw [q] at h; exact h.elim
    | some sl =>
      rw [q] at h
      cases sl with
      | pv o =>
       cases o with
       | ins C' ts =>
        have h : FlowP G W w0 H0 D (if C' = C ∧ ts.length = n then ofM env (fun t r => .nx (env.set i (.ins C (ts ++ [t]))) r) (f env r) else .bad) := h
        by_cases hCn : C' = C ∧ ts.length = n
        · rw [if_pos hCn] at h
          obtain ⟨hCC, hn⟩ := hCn
          subst hCC
          refine at_e a h fun t r1 w1 H1 v a1 d h1 => ?_
          obtain ⟨p, cA, dx, vs, e1, c1, e2, l1, l2, go⟩ := a1.ins q
          have hl : ts.length < (G.fl C').length := by
            rw [hn]
            exact (List.getElem?_eq_some_iff.mp ok.at_).1
          have a2 := go v t d hl
          refine ⟨_, e1, p, cA, dx, _, rfl, e2, (ok.cl cA c1).1, (ok.cl cA c1).2, ?_, ?_⟩
          · rw [List.length_zip, List.length_take]
            have := ok.few
            omega
          · rw [putF_new (lookup_zip_none (by rw [hn]; exact ok.new)), zip_snoc (by rw [hn]; exact ok.at_) l1]
            have e3 : ts.length + 1 = (ts ++ [t]).length := by simp
            rw [e3]
            exact h1 _ _ _ a2.st a2.g a2.s
        · rw [if_neg hCn] at h; exact h.elim
       | _ => exact h.elim
      | _ => exact h.elim
end
end Ep
namespace Ep
open PySem PySem.Spec L2
/-! ### another base -/
theorem Slots.base {G : Gm} {w : Wd} {H0 Hb H : Hp} {σ : L2.St} {env : Env} (h : ∀ a, ¬ Vs Hb a → ¬ Vs H0 a) (s : Slots G w Hb H σ env) : Slots G w H0 H σ env := by
  obtain ⟨oa, h1, h2⟩ := s.ex
  refine ⟨s.len, oa, fun i sl hi => ?_, h2⟩
  have := h1 i sl hi
  cases sl with
  | un => trivial
  | val t => exact this
  | pv o =>
    obtain ⟨a1, a2, a3, a4, a5⟩ := this
    exact ⟨a1, a2, a3, h _ a4, a5⟩
theorem FlowP.base {G : Gm} {W : WX} {w0 w : Wd} {H0 Hb : Hp} {D : Ends} {o : SO} (h : FlowP G W w0 H0 D o) (st : Step w0 H0 w Hb) : FlowP G W w Hb D o := by
  have b : ∀ a, ¬ Vs Hb a → ¬ Vs H0 a := fun a ha z => ha (st.keep a z)
  cases o with
  | nx env r => exact fun w' H' σ' s g sl => h w' H' σ' (st.trans s) g (sl.base b)
  | rt t r => exact fun w' H' v s g d => h w' H' v (st.trans s) g d
  | bk env r => exact fun w' H' σ' s g sl => h w' H' σ' (st.trans s) g (sl.base b)
  | ct env r => exact fun w' H' σ' s g sl => h w' H' σ' (st.trans s) g (sl.base b)
  | exn c p env r => exact fun w' H' σ' cls d s g sl x => h w' H' σ' cls d (st.trans s) g (sl.base b) x
  | bad => exact h
open Classical in
/-- the world as it is, the def's own things left out -/
theorem Slots.rebase {G : Gm} {w : Wd} {H0 H : Hp} {σ : L2.St} {env : Env} {r : RS} (s : Slots G w H0 H σ env) (g : Good G w H r) : ∃ Hb, At G w Hb w H σ env r ∧ ∀ w0, Step w0 H0 w H → Step w0 H0 w Hb := by
  obtain ⟨oa, h1, h2⟩ := s.ex
  let own : Addr → Prop := fun b => ∃ i sl, env[i]? = some sl ∧ Slot.priv sl = true ∧ oa i = b
  have hown : ∀ b, own b → ¬ Vs H0 b ∧ w.P b = none ∧ b ∉ w.R := fun b ⟨i, sl, e1, p1, e2⟩ => by
    have := h1 i sl e1
    subst e2
    cases sl with
    | un => cases p1
    | val _ => cases p1
    | pv o =>
      obtain ⟨a1, a2, a3, a4, a5⟩ := this
      exact ⟨a4, a2, a3⟩
  let Hb : Hp := fun b => if own b then none else H b
  have hb1 : ∀ b, own b → Hb b = none := fun b h => if_pos h
  have hb2 : ∀ b, ¬ own b → Hb b = H b := fun b h => if_neg h
  refine ⟨Hb, ⟨⟨Same.refl _, fun b o e1 e2 _ => ?_, fun b e => ?_, fun b _ _ e => e, ⟨[], by simp, by simp⟩, rfl⟩, g, s.len, oa, fun i sl hi => ?_, h2⟩, fun w0 st => ⟨st.pub, fun b o e1 e2 e3 => ?_, fun b e => ?_, fun b e1 e2 e3 => st.hid b e1 e2 e3, st.refs, st.me⟩⟩
  · by_cases q : own b
    · rw [hb1 b q] at e2; cases e2
    · rw [hb2 b q] at e2; exact e2
  · by_cases q : own b
    · exact absurd e (nvs (hb1 b q))
    · obtain ⟨o, e1, e2⟩ := e
      rw [hb2 b q] at e1
      exact ⟨o, e1, e2⟩
  · have := h1 i sl hi
    cases sl with
    | un => trivial
    | val t => exact this
    | pv o =>
      obtain ⟨a1, a2, a3, a4, a5⟩ := this
      exact ⟨a1, a2, a3, nvs (hb1 _ ⟨i, _, hi, rfl, rfl⟩), a5⟩
  · rw [hb2 b (fun q => (hown b q).1 ⟨o, e2, e3⟩)]
    exact st.fr b o e1 e2 e3
  · obtain ⟨o, e1, e2⟩ := st.keep b e
    exact ⟨o, by rw [hb2 b (fun q => (hown b q).1 e)]; exact e1, e2⟩
theorem At.rebase {G : Gm} {w0 w : Wd} {H0 H : Hp} {σ : L2.St} {env : Env} {r : RS} (a : At G w0 H0 w H σ env r) : ∃ Hb, Step w0 H0 w Hb ∧ At G w Hb w H σ env r := by
  obtain ⟨Hb, h1, h2⟩ := a.s.rebase a.g
  exact ⟨Hb, h2 w0 a.st, h1⟩
/-! ### what is walked -/
def ItOk (G : Gm) (w : Wd) (J : It) (xs : List T) : Prop := ∃ Gd Y, Walk J xs.length Gd Y ∧ (∀ w' H' r', Later w w' → Good G w' H' r' → Gd H') ∧
  ∀ i H1 v H2 w1 r1, Later w w1 → Good G w1 H1 r1 → i < xs.length → Y i H1 v H2 → ∃ t w2, xs[i]? = some t ∧ Step w1 H1 w2 H2 ∧ Good G w2 H2 r1 ∧ Den G w2 v t
def tSI (G : Gm) (W : WX) (f : Env → M (List T)) : TI := fun σ H R => ∃ w H0 env r, Good G w H r ∧ Slots G w H0 H σ env ∧ OutP G w H (WE0 W σ) (fun xs _ w' H' => ∀ J, ItOk G w' J xs → R J H') (f env r)
abbrev SI (X : Cx) (G : Gm) (W : WX) (tg e : Expr) (f : Env → M (List T)) : Prop := PI X tg e (tSI G W f)
/-- a def's own names in the target change the environment so -/
def loopF (h : T → Env → Option Env) (g : Sm) : List T → Sm
  | [], env, r => .nx env r
  | x :: xs, env, r => match h x env with
    | none => .bad
    | some env1 => match g env1 r with
      | .nx e r' => loopF h g xs e r'
      | .ct e r' => loopF h g xs e r'
      | .bk e r' => .nx e r'
      | .rt t r' => .rt t r'
      | .exn c p e r' => .exn c p e r'
      | .bad => .bad
def qFor (f : Env → M (List T)) (h : T → Env → Option Env) (g : Sm) : Sm := fun env r => ofM env (fun xs r => loopF h g xs env r) (f env r)
section
variable {X : Cx} {G : Gm} {W : WX} {pos : Pos}
def tSSx (G : Gm) (W : WX) (g : Sm) : TS := fun D σ H => ∃ w0 H0, tSS G W w0 H0 g D σ H
theorem pss_x {body : List Stmt} {g : Sm} (hb : SSs X G W body g) : PSs X body (tSSx G W g) := ⟨fun pins s σ H D I ⟨w0, H0, q⟩ => (hb w0 H0).run pins s σ H D I q⟩
def tGx (G : Gm) (us : List Nat) (h : T → Env → Option Env) : TG := fun v σ H Q => ∃ w0 H0, tG G us w0 H0 h v σ H Q
theorem pg_x {us : List Nat} {tg : Expr} {h : T → Env → Option Env} (hg : SG X G us tg h) : PG X tg (tGx G us h) := ⟨fun pins s σ H v u Q I r ⟨w0, H0, q⟩ => (hg w0 H0).run pins s σ H v u Q I r q⟩
theorem ss_for {us : List Nat} {iter tg : Expr} {body : List Stmt} {f : Env → M (List T)} {h : T → Env → Option Env} {g : Sm} (hp : PassesOwn (model X.prog X.w) X.A X.env X.xe) (hc : X.calm = true) (hi : SI X G W tg iter f) (hg : SG X G us tg h) (hb : SSs X G W body g)
    (hs : ∀ x, foldedSetIterable iter X.env x = pure x := by intro _; rfl) : SS X G W (.For tg iter body [] pos) (qFor f h g) := by
  intro w0 H0
  refine ⟨fun pins s σ H D I ⟨w, env, r, a, hq⟩ => ?_⟩
  refine (ps_for hp hc hi (pg_x hg) (pss_x hb) hs).run pins s σ H D I ?_
  refine ⟨w, H0, env, r, a.g, a.s, (FlowP.ofM a hq).imp fun xs r1 w1 H1 st1 g1 q J it => ?_⟩
  obtain ⟨a1, hf⟩ := q
  obtain ⟨Gd, Y, wk, hG, hY⟩ := it
  obtain ⟨Hc, stc, ac⟩ := a1.rebase
  refine for_it wk (fun i σ H => ∃ w' env r, At G w1 Hc w' H σ env r ∧ FlowP G W w1 Hc D (loopF h g (xs.drop i) env r)) ⟨w1, env, r1, ac, hf.base stc⟩ (fun i σ' H' _ ⟨w', env', r', a', _⟩ => hG w' H' r' a'.st.later a'.g) ?_ ?_
  · rintro i x σ' H2 H3 hlt ⟨w', env', r', a', hl⟩ y
    obtain ⟨t, w2, ht, st2, g2, d⟩ := hY i H2 x H3 w' r' a'.st.later a'.g hlt y
    have a2 := a'.step st2 g2
    have ed : xs.drop i = t :: xs.drop (i + 1) := by
      rw [List.drop_eq_getElem_cons hlt]
      rw [List.getElem?_eq_getElem hlt] at ht
      cases ht
      rfl
    rw [ed] at hl
    unfold loopF at hl
    cases q : h t env' with
    | none => rw [q] at hl; exact hl.elim
    | some env1 =>
      rw [q] at hl
      refine ⟨w1, Hc, w2, env', r', t, env1, a2, d, q, fun σ2 s2 _ => ⟨w1, Hc, w2, env1, r', ⟨a2.st, a2.g, s2⟩, ?_⟩⟩
      simp only at hl
      cases o : g env1 r' with
      | nx e r2 => rw [o] at hl; exact fun w3 H4 σ3 st g s => ⟨w3, e, r2, ⟨st, g, s⟩, hl⟩
      | ct e r2 => rw [o] at hl; exact fun w3 H4 σ3 st g s => ⟨w3, e, r2, ⟨st, g, s⟩, hl⟩
      | bk e r2 => rw [o] at hl; exact hl
      | rt u r2 => rw [o] at hl; exact hl
      | exn c p e r2 => rw [o] at hl; exact hl
      | bad => rw [o] at hl; exact hl
  · rintro σ' H2 ⟨w', env', r', a', hl⟩
    rw [List.drop_length] at hl
    exact hl w' H2 σ' a'.st a'.g a'.s
/-- while, with fuel in the reading alone -/
def whileF (p : Env → M Bool) (g : Sm) : Nat → Sm
  | 0, _, _ => .bad
  | n + 1, env, r => ofM env (fun c r => if c = true then (match g env r with
    | .nx e r' => whileF p g n e r'
    | .ct e r' => whileF p g n e r'
    | .bk e r' => .nx e r'
    | .rt t r' => .rt t r'
    | .exn c p e r' => .exn c p e r'
    | .bad => .bad) else .nx env r) (p env r)
theorem ss_while {c : Expr} {body : List Stmt} {p : Env → M Bool} {g : Sm} (n : Env → RS → Nat) (hp : PassesOwn (model X.prog X.w) X.A X.env X.xe) (hc : SB X G W c p) (hb : SSs X G W body g) : SS X G W (.While c body [] pos) (fun env r => whileF p g (n env r) env r) := by
  intro w0 H0
  refine ⟨fun pins s σ H D I ⟨w, env, r, a, hq⟩ => ?_⟩
  refine (ps_while hp hc (hb w0 H0)).run pins s σ H D I ?_
  refine ⟨fun m σ H => ∃ w env r, At G w0 H0 w H σ env r ∧ FlowP G W w0 H0 D (whileF p g m env r), ⟨_, w, env, r, a, hq⟩, ?_⟩
  rintro m σ1 H1 ⟨w1, env1, r1, a1, h1⟩
  cases m with
  | zero => exact h1.elim
  | succ m =>
    unfold whileF at h1
    refine at_b a1 h1 fun b r2 w2 H2 a2 h2 => ?_
    cases b with
    | false => exact h2 w2 H2 σ1 a2.st a2.g a2.s
    | true =>
      refine ⟨fun σ H => ∃ w env r, At G w0 H0 w H σ env r ∧ FlowP G W w0 H0 D (whileF p g m env r), fun σ' H' q => ⟨m, Nat.lt_succ_self m, q⟩, w2, env1, r2, a2, ?_⟩
      rw [if_pos rfl] at h2
      cases o : g env1 r2 with
      | nx e r2 => rw [o] at h2; exact fun w3 H4 σ3 st g s => ⟨w3, e, r2, ⟨st, g, s⟩, h2⟩
      | ct e r2 => rw [o] at h2; exact fun w3 H4 σ3 st g s => ⟨w3, e, r2, ⟨st, g, s⟩, h2⟩
      | bk e r2 => rw [o] at h2; exact h2
      | rt u r2 => rw [o] at h2; exact h2
      | exn c p e r2 => rw [o] at h2; exact h2
      | bad => rw [o] at h2; exact h2
end
end Ep
namespace Ep
open PySem PySem.Spec L2
/-! ### what can be walked -/
def iSeqA (K : PySem.W.Frag) (te : TE) : TI := fun σ H R => te σ H fun x H1 => (∃ a xs, x = .ref a ∧ SqL K H1 a xs ∧ R (Itl K a) H1) ∨ (∃ a xs, x = .ref a ∧ SqT K H1 a xs ∧ R (Itt K a) H1) ∨ ∃ z, x = .str z ∧ R (Its z) H1
section
variable {X : Cx} {G : Gm} {W : WX} {pos : Pos} {tg e : Expr} {f : Env → M T}
theorem pi_seqA {te : TE} (he : PE X e te) : PI X tg e (iSeqA X.K te) := by
  refine ⟨fun pins s σ H R I h => ?_⟩
  refine thn (he.run pins s σ H _ I h) fun v s1 ⟨x, H1, I1, r1, q1⟩ => ?_
  have one : ∀ {b : Addr}, b ∈ [s1.heap.objs.size] → FpOk X pins H1 b := fun {b} hb => by
    obtain rfl : b = s1.heap.objs.size := by simpa using hb
    exact I1.fpOk (Nat.le_refl _) (I1.hok.fresh (Nat.le_refl _))
  rcases q1 with ⟨a, xs, ex, hq, q⟩ | ⟨a, xs, ex, hq, q⟩ | ⟨z, ex, q⟩
  · subst ex
    cases r1
    obtain ⟨its, rv, p, hz⟩ := I1.list hq
    exact wpAny_pyIter_list p.isList ⟨s1.heap.objs.size, [s1.heap.objs.size], _, _, H1, rfl, I1.kept (t' := s1.toks) fun b o ho => Heap.get?_push_of_some _ ho, turn_list a _, ⟨_, Heap.get?_push_size _ rfl, rfl, rfl⟩, fun b hb => one hb, q⟩
  · subst ex
    cases r1
    obtain ⟨its, rv, p, hz⟩ := I1.tuple hq
    exact wpAny_pyIter_tuple (show s1.heap.IsTuple a its.toArray from p) ⟨s1.heap.objs.size, [s1.heap.objs.size], _, _, H1, rfl, I1.kept (t' := s1.toks) fun b o ho => Heap.get?_push_of_some _ ho, turn_tuple a _, ⟨_, Heap.get?_push_size _ rfl, rfl, rfl⟩, fun b hb => one hb, q⟩
  · subst ex
    obtain ⟨t, rfl⟩ := r1
    cases ha : z.cps.all (· < 128) with
    | false => exact wpAny_pyIter_wide ha (pi_one (tk := s1.toks) I1 _ (turn_str _ z t "str_iterator" (.inr rfl)) ⟨_, Heap.get?_push_size _ rfl, rfl, rfl⟩ q)
    | true => exact wpAny_pyIter_ascii ha (pi_one (tk := s1.toks) I1 _ (turn_str _ z t "str_ascii_iterator" (.inl rfl)) ⟨_, Heap.get?_push_size _ rfl, rfl, rfl⟩ q)
def chrT (z : Str) : List T := z.cps.toList.map fun c => .str ⟨#[c]⟩
def iterT : T → Option (List T)
  | .lst xs => some xs
  | .kls xs => some xs
  | .tup xs => some xs
  | .str z => some (chrT z)
  | _ => none
def fIter (f : Env → M T) : Env → M (List T) := fun env => f env >>= fun t => M.lift (iterT t)
theorem pi_imp {t t' : TI} (h : PI X tg e t) (i : ∀ σ H Q, t' σ H Q → t σ H Q) : PI X tg e t' := ⟨fun pins s σ H Q I q => h.run pins s σ H Q I (i σ H Q q)⟩
theorem it_l {w : Wd} {a : Addr} {vs : List V} {xs : List T} (h : SqL G.K w.P a vs) (d : Dens G w vs xs) : ItOk G w (Itl G.K a) xs := by
  refine ⟨_, _, by rw [← d.length]; exact walk_list (xs := vs), fun w' H' r' L g => g.sub.seq (L.pub.seq h), fun i H1 v H2 w1 r1 L g hi y => ?_⟩
  obtain ⟨e, y⟩ := y
  subst e
  obtain ⟨t, ht, hd⟩ := d.getV y
  exact ⟨t, w1, ht, Step.refl _ _, g, hd.mono L⟩
theorem it_t {w : Wd} {a : Addr} {vs : List V} {xs : List T} (h : TupAt G.K w.P a vs) (d : Dens G w vs xs) : ItOk G w (Itt G.K a) xs := by
  refine ⟨_, _, by rw [← d.length]; exact walk_tup (xs := vs), fun w' H' r' L g => tup_sq g.sub (h.mono L.pub), fun i H1 v H2 w1 r1 L g hi y => ?_⟩
  obtain ⟨e, y⟩ := y
  subst e
  obtain ⟨t, ht, hd⟩ := d.getV y
  exact ⟨t, w1, ht, Step.refl _ _, g, hd.mono L⟩
theorem it_s {w : Wd} {z : Str} : ItOk G w (Its z) (chrT z) := by
  refine ⟨_, _, by rw [show (chrT z).length = z.cps.size by simp [chrT]]; exact walk_str, fun _ _ _ _ _ => trivial, fun i H1 v H2 w1 r1 L g hi y => ?_⟩
  obtain ⟨e, c, hc, y⟩ := y
  subst e y
  exact ⟨.str ⟨#[c]⟩, w1, by simp [chrT, hc], Step.refl _ _, g, .str _⟩
theorem i_seq (hK : X.K = G.K) (he : SE X G W e f) : SI X G W tg e (fIter f) :=
  pi_imp (pi_seqA he) fun σ H R ⟨w, H0, env, r, g, s, h⟩ => by
    refine seqE g s h fun t r1 w1 H1 v g1 s1 st1 d1 h1 => ?_
    obtain ⟨xs, e1, h2⟩ := liftP h1
    have h3 := h2 w1 H1 (Step.refl _ _) g1
    rw [hK]
    cases d1 with
    | lst h z d => cases e1; exact .inl ⟨_, _, rfl, .inl (.inl (g1.sub _ _ h)), h3 _ (it_l (.inl (.inl h)) d)⟩
    | kls h z d => cases e1; exact .inl ⟨_, _, rfl, g1.sub.seq h, h3 _ (it_l h d)⟩
    | tup h z d => cases e1; exact .inr (.inl ⟨_, _, rfl, tup_sq g1.sub h, h3 _ (it_t h d)⟩)
    | str z => cases e1; exact .inr (.inr ⟨z, rfl, h3 _ it_s⟩)
    | _ => cases e1
/-! ### ranges -/
def rngL (lo : Int) (n : Nat) : List T := (List.range n).map fun i => .int (lo + (i : Nat))
theorem it_r {w : Wd} {lo : Int} {n : Nat} : ItOk G w (Itr lo n) (rngL lo n) := by
  refine ⟨_, _, by rw [show (rngL lo n).length = n by simp [rngL]]; exact walk_range, fun _ _ _ _ _ => trivial, fun i H1 v H2 w1 r1 L g hi y => ?_⟩
  obtain ⟨e, y⟩ := y
  subst e y
  have hi : i < n := by simpa [rngL] using hi
  exact ⟨.int (lo + (i : Nat)), w1, by simp [rngL, hi], Step.refl _ _, g, .int _⟩
def rng1T : List T → Option (List T)
  | [.int j] => if -(2 ^ 62) ≤ j ∧ j < 2 ^ 62 then some (rngL 0 j.toNat) else none
  | _ => none
def rng2T : List T → Option (List T)
  | [.int i, .int j] => if -(2 ^ 62) ≤ i ∧ i < 2 ^ 62 ∧ -(2 ^ 62) ≤ j ∧ j < 2 ^ 62 then some (rngL i (j - i).toNat) else none
  | _ => none
def fRng1 (f : Env → M T) : Env → M (List T) := fun env => fAll [f] env >>= fun ts => M.lift (rng1T ts)
def fRng2 (f g : Env → M T) : Env → M (List T) := fun env => fAll [f, g] env >>= fun ts => M.lift (rng2T ts)
theorem i_range1 {a : Expr} {p : Pos} (hg : Gl X "range") (hm : X.mg "range" = none) (ha : SE X G W a f) (hs : starEach [a] X.env = [(false, eval a X.env)] := by rfl) : SI X G W tg (.Call (.Name "range" p) [a] [] pos) (fRng1 f) :=
  pi_imp (pi_range1 hg hm (a_cons ha a_nil hs) hs) fun σ H R ⟨w, H0, env, r, g, s, h⟩ => by
    refine seqA g s h fun ts r1 w1 H1 vs g1 s1 st1 d1 l h1 => ?_
    obtain ⟨xs, e1, h2⟩ := liftP h1
    have h3 := h2 w1 H1 (Step.refl _ _) g1
    cases d1 with
    | nil => cases e1
    | cons d d' =>
      cases d' with
      | cons _ _ => cases l
      | nil =>
        cases d with
        | int j =>
          have e1 : (if -(2 ^ 62) ≤ j ∧ j < 2 ^ 62 then some (rngL 0 j.toNat) else none) = some xs := e1
          split at e1
          · cases e1
            rename_i q
            exact ⟨j, rfl, q.1, q.2, h3 _ it_r⟩
          · cases e1
        | _ => cases e1
theorem i_range2 {a b : Expr} {f' : Env → M T} {p : Pos} (hg : Gl X "range") (hm : X.mg "range" = none) (ha : SE X G W a f) (hb : SE X G W b f') (hs : starEach [a, b] X.env = [(false, eval a X.env), (false, eval b X.env)] := by rfl) (hs2 : starEach [b] X.env = [(false, eval b X.env)] := by rfl) :
    SI X G W tg (.Call (.Name "range" p) [a, b] [] pos) (fRng2 f f') :=
  pi_imp (pi_range2 hg hm (a_cons ha (a_cons hb a_nil hs2) (hs.trans (by rw [hs2]))) hs hs2) fun σ H R ⟨w, H0, env, r, g, s, h⟩ => by
    refine seqA g s h fun ts r1 w1 H1 vs g1 s1 st1 d1 l h1 => ?_
    obtain ⟨xs, e1, h2⟩ := liftP h1
    have h3 := h2 w1 H1 (Step.refl _ _) g1
    cases d1 with
    | nil => cases e1
    | cons d d' =>
      cases d' with
      | nil => cases l
      | cons d2 d' =>
        cases d' with
        | cons _ _ => cases l
        | nil =>
          cases d with
          | int i =>
            cases d2 with
            | int j =>
              have e1 : (if -(2 ^ 62) ≤ i ∧ i < 2 ^ 62 ∧ -(2 ^ 62) ≤ j ∧ j < 2 ^ 62 then some (rngL i (j - i).toNat) else none) = some xs := e1
              split at e1
              · cases e1
                rename_i q
                exact ⟨i, j, rfl, q, h3 _ it_r⟩
              · cases e1
            | _ => cases e1
          | _ => cases e1
/-! ### pairs: enumerate, zip -/
theorem pair_new {w1 : Wd} {H1 H2 : Hp} {r1 : RS} {x y : V} {t u : T} {p : Addr} (g : Good G w1 H1 r1) (hp : H1 p = none) (e : H2 = upd H1 p (.tup [x, y])) (d1 : Den G w1 x t) (d2 : Den G w1 y u) : ∃ w2, Step w1 H1 w2 H2 ∧ Good G w2 H2 r1 ∧ Den G w2 (.ref p) (.tup [t, u]) := by
  subst e
  obtain ⟨st, g2⟩ := g.new (o := .tup [x, y]) hp
  exact ⟨_, st, g2, .tup (.inl upd_same) (by rw [sizeLine_eq]; exact Nat.le_of_lt (by simp)) (.cons (d1.mono st.later) (.cons (d2.mono st.later) .nil))⟩
def enumL : Nat → List T → List T
  | _, [] => []
  | n, x :: xs => .tup [.int (n : Nat), x] :: enumL (n + 1) xs
theorem enumL_len : ∀ (xs : List T) (n : Nat), (enumL n xs).length = xs.length
  | [], _ => rfl
  | x :: xs, n => by simp [enumL, enumL_len xs]
theorem enumL_at : ∀ (xs : List T) (n i : Nat) (x : T), xs[i]? = some x → (enumL n xs)[i]? = some (.tup [.int ((n + i : Nat) : Int), x])
  | [], _, _, _, e => by simp at e
  | x :: xs, n, 0, y, e => by
    simp at e; subst e; rfl
  | x :: xs, n, i + 1, y, e => by
    have := enumL_at xs (n + 1) i y (by simpa using e)
    simp only [enumL, List.getElem?_cons_succ]
    rw [this, show n + 1 + i = n + (i + 1) by omega]
theorem it_e {w : Wd} {a : Addr} {vs : List V} {xs : List T} (h : SqL G.K w.P a vs) (d : Dens G w vs xs) : ItOk G w (Ite G.K a) (enumL 0 xs) := by
  refine ⟨_, _, by rw [enumL_len, ← d.length]; exact walk_enum (xs := vs), fun w' H' r' L g => g.sub.seq (L.pub.seq h), fun i H1 v H2 w1 r1 L g hi y => ?_⟩
  obtain ⟨p, x, y, ev, hp, e2, ex, ey⟩ := y
  subst ev
  cases ex
  obtain ⟨t, ht, hd⟩ := d.getV ey
  obtain ⟨w2, st, g2, d2⟩ := pair_new g hp e2 (.int (i : Nat)) (hd.mono L)
  exact ⟨_, w2, by rw [enumL_at xs 0 i t ht, Nat.zero_add], st, g2, d2⟩
def lstOnly : T → Option (List T)
  | .lst xs => some xs
  | .kls xs => some xs
  | _ => none
def fEnum (f : Env → M T) : Env → M (List T) := fun env => fAll [f] env >>= fun ts => M.lift (match ts with
  | [t] => (lstOnly t).map (enumL 0)
  | _ => none)
theorem lst_pub {w : Wd} {v : V} {t : T} {xs : List T} (d : Den G w v t) (e : lstOnly t = some xs) : ∃ a vs, v = .ref a ∧ SqL G.K w.P a vs ∧ Dens G w vs xs := by
  cases d with
  | lst h z d => cases e; exact ⟨_, _, rfl, .inl (.inl h), d⟩
  | kls h z d => cases e; exact ⟨_, _, rfl, h, d⟩
  | _ => cases e
theorem i_enum {a : Expr} {p tpos : Pos} {elts : List Expr} {kk : Nat} (hK : X.K = G.K) (hg : Gl X "enumerate") (hm : X.mg "enumerate" = none) (ha : SE X G W a f) (hs : starEach [a] X.env = [(false, eval a X.env)] := by rfl) :
    SI X G W (.Tuple elts kk tpos) (.Call (.Name "enumerate" p) [a] [] pos) (fEnum f) :=
  pi_imp (pi_enum hg hm (a_cons ha a_nil hs) hs) fun σ H R ⟨w, H0, env, r, g, s, h⟩ => by
    refine seqA g s h fun ts r1 w1 H1 vs g1 s1 st1 d1 l h1 => ?_
    obtain ⟨xs, e1, h2⟩ := liftP h1
    have h3 := h2 w1 H1 (Step.refl _ _) g1
    cases d1 with
    | nil => cases e1
    | @cons v vs t ts d d' =>
      cases d' with
      | cons _ _ => cases l
      | nil =>
        have e1 : (lstOnly t).map (enumL 0) = some xs := e1
        cases e2 : lstOnly t with
        | none => rw [e2] at e1; cases e1
        | some ys =>
          rw [e2] at e1
          cases e1
          obtain ⟨b, us, ev, hq, dd⟩ := lst_pub d e2
          subst ev
          rw [hK]
          exact ⟨b, us, rfl, g1.sub.seq hq, h3 _ (it_e hq dd)⟩
theorem walk_zipT {K : PySem.W.Frag} {a b : Addr} {xs ys : List V} : Walk (RZ.ItzT K a b) (min xs.length ys.length) (fun H => SqT K H a xs ∧ SqT K H b ys) (YPair (fun i => xs[i]?) (fun i => ys[i]?)) where
  goes i H lt both := ⟨xs, ys, _, _, both.1, both.2, List.getElem?_eq_getElem (Nat.lt_of_lt_of_le lt (Nat.min_le_left _ _)), List.getElem?_eq_getElem (Nat.lt_of_lt_of_le lt (Nat.min_le_right _ _))⟩
  stops H both := ⟨xs, ys, both.1, both.2, (Nat.le_total xs.length ys.length).imp (fun short => Nat.le_min.mpr ⟨Nat.le_refl _, short⟩) (fun short => Nat.le_min.mpr ⟨short, Nat.le_refl _⟩)⟩
  yields i H v H' lt both := fun ⟨p, l, m, ev, new, eH, fst, snd⟩ => ⟨p, l, m, ev, new, eH, fst xs both.1, snd ys both.2⟩
def zipL : List T → List T → List T
  | x :: xs, y :: ys => .tup [x, y] :: zipL xs ys
  | _, _ => []
theorem zipL_len : ∀ (xs ys : List T), (zipL xs ys).length = min xs.length ys.length
  | [], _ => by simp [zipL]
  | x :: xs, [] => by simp [zipL]
  | x :: xs, y :: ys => by simp [zipL, zipL_len xs ys]
theorem zipL_at : ∀ (xs ys : List T) (i : Nat) (x y : T), xs[i]? = some x → ys[i]? = some y → (zipL xs ys)[i]? = some (.tup [x, y])
  | [], _, _, _, _, e, _ => by simp at e
  | x :: xs, [], _, _, _, _, e => by simp at e
  | x :: xs, y :: ys, 0, _, _, e1, e2 => by simp at e1 e2; subst e1 e2; rfl
  | x :: xs, y :: ys, i + 1, x', y', e1, e2 => by
    have := zipL_at xs ys i x' y' (by simpa using e1) (by simpa using e2)
    simpa [zipL] using this
theorem it_zY {w : Wd} {us vs : List V} {xs ys : List T} (d : Dens G w us xs) (d' : Dens G w vs ys) {i : Nat} {H1 : Hp} {v : V} {H2 : Hp} {w1 : Wd} {r1 : RS} (L : Later w w1) (g : Good G w1 H1 r1) (y : YPair (fun i => us[i]?) (fun i => vs[i]?) i H1 v H2) :
    ∃ t w2, (zipL xs ys)[i]? = some t ∧ Step w1 H1 w2 H2 ∧ Good G w2 H2 r1 ∧ Den G w2 v t := by
  obtain ⟨p, x, y, ev, hp, e2, ex, ey⟩ := y
  subst ev
  obtain ⟨t, ht, hd⟩ := d.getV ex
  obtain ⟨u, hu, hd'⟩ := d'.getV ey
  obtain ⟨w2, st, g2, d2⟩ := pair_new g hp e2 (hd.mono L) (hd'.mono L)
  exact ⟨_, w2, zipL_at xs ys i t u ht hu, st, g2, d2⟩
theorem it_zl {w : Wd} {a b : Addr} {us vs : List V} {xs ys : List T} (h : SqL G.K w.P a us) (h' : SqL G.K w.P b vs) (d : Dens G w us xs) (d' : Dens G w vs ys) : ItOk G w (Itz G.K a b) (zipL xs ys) := by
  refine ⟨_, _, by rw [zipL_len, ← d.length, ← d'.length]; exact walk_zip (xs := us) (ys := vs) rfl, fun w' H' r' L g => And.intro (g.sub.seq (L.pub.seq h)) (g.sub.seq (L.pub.seq h')), fun i H1 v H2 w1 r1 L g _ y => it_zY d d' L g y⟩
theorem it_zt {w : Wd} {a b : Addr} {us vs : List V} {xs ys : List T} (h : TupAt G.K w.P a us) (h' : TupAt G.K w.P b vs) (d : Dens G w us xs) (d' : Dens G w vs ys) : ItOk G w (RZ.ItzT G.K a b) (zipL xs ys) := by
  refine ⟨_, _, by rw [zipL_len, ← d.length, ← d'.length]; exact walk_zipT (xs := us) (ys := vs), fun w' H' r' L g => And.intro (tup_sq g.sub (h.mono L.pub)) (tup_sq g.sub (h'.mono L.pub)), fun i H1 v H2 w1 r1 L g _ y => it_zY d d' L g y⟩
def zipT (t u : T) : Option (List T) := match t, u with
  | .tup xs, .tup ys => some (zipL xs ys)
  | t, u => (lstOnly t).bind fun xs => (lstOnly u).map fun ys => zipL xs ys
def fZip (f f' : Env → M T) : Env → M (List T) := fun env => fAll [f, f'] env >>= fun ts => M.lift (match ts with
  | [t, u] => zipT t u
  | _ => none)
theorem zip_cases {t u : T} {xs : List T} (e : zipT t u = some xs) : (∃ ys zs, t = .tup ys ∧ u = .tup zs ∧ xs = zipL ys zs) ∨ ∃ ys zs, lstOnly t = some ys ∧ lstOnly u = some zs ∧ xs = zipL ys zs := by
  have lo : ((lstOnly t).bind fun xs => (lstOnly u).map fun ys => zipL xs ys) = some xs → ∃ ys zs, lstOnly t = some ys ∧ lstOnly u = some zs ∧ xs = zipL ys zs := fun e => by
    cases e1 : lstOnly t with
    | none => rw [e1] at e; cases e
    | some ys =>
      rw [e1] at e
      cases e2 : lstOnly u with
      | none => rw [e2] at e; cases e
      | some zs => rw [e2] at e; cases e; exact ⟨ys, zs, rfl, rfl, rfl⟩
  unfold zipT at e
  split at e
  · cases e; exact .inl ⟨_, _, rfl, rfl, rfl⟩
  · exact .inr (lo e)
theorem i_zip {a b : Expr} {f' : Env → M T} {p tpos : Pos} {elts : List Expr} {kk : Nat} (hK : X.K = G.K) (hg : Gl X "zip") (hm : X.mg "zip" = none) (ha : SE X G W a f) (hb : SE X G W b f')
    (hs : starEach [a, b] X.env = (false, eval a X.env) :: starEach [b] X.env := by rfl) (hs2 : starEach [b] X.env = (false, eval b X.env) :: starEach [] X.env := by rfl) (hpl : (backTo pos (starEach [b] X.env)).any (·.1) = false := by rfl) :
    SI X G W (.Tuple elts kk tpos) (.Call (.Name "zip" p) [a, b] [] pos) (fZip f f') :=
  pi_imp (RZ.pi_zipA hg hm (a_cons ha (a_cons hb a_nil hs2) hs) hs hpl) fun σ H R ⟨w, H0, env, r, g, s, h⟩ => by
    refine seqA g s h fun ts r1 w1 H1 vs g1 s1 st1 d1 l h1 => ?_
    obtain ⟨xs, e1, h2⟩ := liftP h1
    have h3 := h2 w1 H1 (Step.refl _ _) g1
    cases d1 with
    | nil => cases e1
    | @cons v vs t ts d d' =>
      cases d' with
      | nil => cases l
      | @cons v' vs u ts d2 d' =>
        cases d' with
        | cons _ _ => cases l
        | nil =>
          rw [hK]
          rcases zip_cases e1 with ⟨ys, zs, rfl, rfl, rfl⟩ | ⟨ys, zs, e2, e3, rfl⟩
          · cases d with
            | tup hh z dd =>
              cases d2 with
              | tup hh' z' dd' => exact ⟨_, _, _, _, rfl, .inr ⟨tup_sq g1.sub hh, tup_sq g1.sub hh', h3 _ (it_zt hh hh' dd dd')⟩⟩
          · obtain ⟨a, us, ev, hq, dd⟩ := lst_pub d e2
            obtain ⟨b, ws, ev', hq', dd'⟩ := lst_pub d2 e3
            subst ev ev'
            exact ⟨_, _, _, _, rfl, .inl ⟨g1.sub.seq hq, g1.sub.seq hq', h3 _ (it_zl hq hq' dd dd')⟩⟩
end
end Ep
namespace Ep
open PySem PySem.Spec L2
/-! ### comprehensions -/
def wipeE (env : Env) : List Nat → Env
  | [] => env
  | v :: vs => (wipeE env vs).set v .un
section
variable {G : Gm} {w : Wd} {H0 H : Hp} {σ : L2.St} {env : Env} {r : RS}
theorem Slots.setUn {o : Option V} (s : Slots G w H0 H σ env) (i : Nat) : Slots G w H0 H (σ.set i o) (env.set i .un) := by
  obtain ⟨oa, h1, h2⟩ := s.ex
  have old : ∀ {m : Nat} {x : Slot}, (env.set i .un)[m]? = some x → x ≠ .un → i ≠ m ∧ env[m]? = some x := fun {m x} hm px => by
    by_cases him : i = m
    · subst him
      by_cases hl : i < env.length
      · rw [List.getElem?_set_self hl] at hm
        cases hm
        exact absurd rfl px
      · rw [List.getElem?_eq_none (by simpa using hl)] at hm
        cases hm
    · rw [List.getElem?_set_ne him] at hm
      exact ⟨him, hm⟩
  have np : ∀ {x : Slot}, x.priv = true → x ≠ .un := fun {x} p e => by subst e; cases p
  refine ⟨by simp [s.len], oa, fun j sl hj => ?_, fun j k u u' hj hk pj pk e => h2 j k u u' (old hj (np pj)).2 (old hk (np pk)).2 pj pk e⟩
  cases sl with
  | un => trivial
  | val t =>
    obtain ⟨ne, e⟩ := old hj (by simp)
    obtain ⟨v, e1, d⟩ := h1 j _ e
    exact ⟨v, by rw [List.getElem?_set_ne ne]; exact e1, d⟩
  | pv q =>
    obtain ⟨ne, e⟩ := old hj (by simp)
    obtain ⟨b1, b2⟩ := h1 j _ e
    exact ⟨by rw [List.getElem?_set_ne ne]; exact b1, b2⟩
theorem Slots.wiped (s : Slots G w H0 H σ env) : ∀ vs : List Nat, Slots G w H0 H (wipe σ vs) (wipeE env vs)
  | [] => s
  | v :: vs => (s.wiped vs).setUn v
theorem wipe_at : ∀ (vs : List Nat) (j : Nat), (wipe σ vs)[j]? = if j ∈ vs then (σ[j]?).map fun _ => none else σ[j]?
  | [], j => by simp [wipe]
  | v :: vs, j => by
    unfold wipe
    by_cases e : v = j
    · subst e
      rw [List.getElem?_set]
      simp only [wipe_length]
      by_cases hl : v < σ.length
      · simp [hl]
      · simp [hl]
    · rw [List.getElem?_set_ne e, wipe_at vs j]
      by_cases hj : j ∈ vs
      · simp [hj]
      · have : ¬ j = v := fun q => e q.symm
        simp [hj, this]
theorem wipe_but {us vs : List Nat} {σ2 : L2.St} (b : But us (wipe σ vs) σ2) (h : ∀ j ∈ us, j ∈ vs) : wipe σ2 vs = wipe σ vs := by
  apply List.ext_getElem?
  intro j
  rw [wipe_at, wipe_at]
  by_cases hj : j ∈ vs
  · rw [if_pos hj, if_pos hj]
    have := b.1
    rw [wipe_length] at this
    by_cases hl : j < σ.length
    · have h2 : j < σ2.length := by omega
      simp [hl, h2]
    · have h2 : ¬ j < σ2.length := by omega
      simp [hl, h2]
  · rw [if_neg hj, if_neg hj]
    rw [b.2 j (fun q => hj (h j q)), wipe_at, if_neg hj]
end
def noEx {α : Type} (m : M α) : M α := fun r => match m r with
  | .ok a r => .ok a r
  | _ => .bad
theorem noEx_ok {α : Type} {m : M α} {r r' : RS} {a : α} (h : noEx m r = .ok a r') : m r = .ok a r' := by
  unfold noEx at h
  split at h
  · rename_i e; rw [e, h]
  · cases h
def W0 : WX := fun _ _ _ _ => False
def compF (vs : List Nat) (h : T → Env → Option Env) (p : Env → M Bool) (f : Env → M T) : List T → List T → Env → M (List T)
  | [], acc, _ => pure acc
  | x :: xs, acc, env => match h x (wipeE env vs) with
    | none => M.bad
    | some env1 => noEx (p env1) >>= fun b => if b = true then noEx (f env1) >>= fun y => if acc.length < sizeLine then compF vs h p f xs (acc ++ [y]) env else M.bad else compF vs h p f xs acc env
def fComp (vs : List Nat) (h : T → Env → Option Env) (p : Env → M Bool) (f : Env → M T) (fi : Env → M (List T)) : Env → M (List T) := fun env => fi env >>= fun xs => compF vs h p f xs [] env
def fYes : Env → M Bool := fun _ => pure true
abbrev STs (X : Cx) (G : Gm) (ifs : List Expr) (p : Env → M Bool) : Prop := PTs X ifs (tSB G W0 p)
section
variable {X : Cx} {G : Gm} {W : WX} {pos : Pos} {f : Env → M T} {p : Env → M Bool} {env : Env} {r : RS} {w : Wd} {H0 H : Hp} {σ : L2.St}
theorem pts_imp {ifs : List Expr} {t t' : TT} (h : PTs X ifs t) (i : ∀ σ H Q, t' σ H Q → t σ H Q) : PTs X ifs t' := ⟨fun pins s σ H Q I q => h.run pins s σ H Q I (i σ H Q q)⟩
theorem ts_nil : STs X G [] fYes := pts_imp pts_nil fun σ H Q ⟨w, H0, env, r, g, s, h⟩ => OutP.here g h
theorem ts_one {c : Expr} (h : SB X G W0 c p) : STs X G [c] p := pts_one h
theorem seqI {α : Type} {fi : Env → M (List T)} {k : List T → M α} {P : α → RS → Wd → Hp → Prop} {R : It → Hp → Prop} (g : Good G w H r) (s : Slots G w H0 H σ env) (h : OutP G w H (WE0 W σ) P ((fi env >>= k) r))
    (n : ∀ xs r1 w1 H1 J, Good G w1 H1 r1 → Slots G w1 H0 H1 σ env → Step w H w1 H1 → ItOk G w1 J xs → OutP G w1 H1 (WE0 W σ) P (k xs r1) → R J H1) : tSI G W fi σ H R :=
  ⟨w, H0, env, r, g, s, h.bind.imp fun xs r1 w1 H1 st g1 q J it => n xs r1 w1 H1 J g1 (s.step st) st it q⟩
theorem noEx_use {α β : Type} {w' : Wd} {H' : Hp} {E E' : XK} {m : M α} {k : α → M β} {P : β → RS → Wd → Hp → Prop} (h : OutP G w H E P ((noEx m >>= k) r)) : OutP G w' H' E' (fun a r2 _ _ => OutP G w H E P (k a r2)) (m r) := by
  have e : (noEx m >>= k) r = M.bind (noEx m) k r := rfl
  rw [e] at h
  unfold M.bind noEx at h
  cases q : m r with
  | ok a r' => rw [q] at h; exact fun _ _ _ _ => h
  | exn c p r' => rw [q] at h; exact h.elim
  | bad => rw [q] at h; exact h.elim
theorem comp_use {us vs : List Nat} {h : T → Env → Option Env} {fi : Env → M (List T)} {Q : VK} (hu : ∀ j ∈ us, j ∈ vs) (hq : tSL G W (fComp vs h p f fi) σ H Q) : tLc (tSI G W fi) (tGx G us h) (tSB G W0 p) (tS G W0 f) vs σ H Q := by
  obtain ⟨w, H0, env, r, g, s, hq⟩ := hq
  refine seqI g s hq fun xs r1 w1 H1 J g1 s1 st1 it h1 => ?_
  intro D hD
  obtain ⟨Gd, Y, wk, hG, hY⟩ := it
  have hD0 : ¬ Vs H D := st1.before hD
  have stD : Step w1 H1 w1 (upd H1 D (.lst [])) := (Step.refl w1 H1).priv hD
  refine lc_it wk (fun i H' => ∃ w' r' acc vs', Step w1 H1 w' H' ∧ Good G w' H' r' ∧ w'.P D = none ∧ D ∉ w'.R ∧ H' D = some (.lst vs') ∧ Dens G w' vs' acc ∧ OutP G w1 H1 (WE0 W σ) (fun xs _ w' H' => ∀ p vs, ¬ Vs H p → w'.P p = none → p ∉ w'.R → H' p = some (.lst vs) → Dens G w' vs xs → xs.length ≤ sizeLine → Q (.ref p) H') (compF vs h p f (xs.drop i) acc env r') ∧ acc.length ≤ sizeLine)
    ⟨w1, r1, [], [], stD, g1.priv (g1.nopub hD) (g1.noref hD) (.inl hD), g1.nopub hD, g1.noref hD, upd_same, .nil, h1, Nat.zero_le _⟩
    (fun i H' _ ⟨w', r', _, _, st, g', _⟩ => hG w' H' r' st.later g') ?_ ?_
  · rintro i x H2 H3 hlt ⟨w', r', acc, us', st, g', hP, hR, hh, d, hc, hz⟩ y
    obtain ⟨t, w2, ht, st2, g2, dx⟩ := hY i H2 x H3 w' r' st.later g' hlt y
    have hP2 := st2.hid D hR (vs_of hh) hP
    have nr : ∀ {wa wb : Wd} {Ha Hb : Hp}, Step wa Ha wb Hb → D ∉ wa.R → Vs Ha D → D ∉ wb.R := fun {wa wb Ha Hb} s h1 h2 h3 => by
      obtain ⟨m, e, hm⟩ := s.refs
      rw [e] at h3
      rcases List.mem_append.mp h3 with z | z
      · exact h1 z
      · exact hm D z h2
    have hR2 := nr st2 hR (vs_of hh)
    have hh2 := st2.fr D _ hR hh (by intro _ e; cases e)
    have d2 := d.mono st2.later
    have s2 := ((s1.step st).step st2).wiped vs
    obtain ⟨Hb, aB, _⟩ := s2.rebase g2
    have ed : xs.drop i = t :: xs.drop (i + 1) := by
      rw [List.drop_eq_getElem_cons hlt]
      rw [List.getElem?_eq_getElem hlt] at ht
      cases ht
      rfl
    rw [ed] at hc
    unfold compF at hc
    cases q : h t (wipeE env vs) with
    | none => rw [q] at hc; exact hc.elim
    | some env1 =>
      rw [q] at hc
      refine ⟨w2, Hb, w2, _, r', t, env1, aB, dx, q, fun σ2 sl b => ⟨wipe_but b hu, ?_⟩⟩
      refine ⟨w2, Hb, env1, r', g2, sl, (noEx_use hc).imp fun b r3 w3 H4 st3 g3 hc => ?_⟩
      have hP3 := st3.hid D hR2 (vs_of hh2) hP2
      have hR3 := nr st3 hR2 (vs_of hh2)
      have hh3 := st3.fr D _ hR2 hh2 (by intro _ e; cases e)
      have d3 := d2.mono st3.later
      have stA := (st.trans st2).trans st3
      cases b with
      | false => exact ⟨w3, r3, acc, us', stA, g3, hP3, hR3, hh3, d3, hc, hz⟩
      | true =>
        have hc : OutP G w1 H1 (WE0 W σ) (fun xs _ w' H' => ∀ p vs, ¬ Vs H p → w'.P p = none → p ∉ w'.R → H' p = some (.lst vs) → Dens G w' vs xs → xs.length ≤ sizeLine → Q (.ref p) H') ((noEx (f env1) >>= fun y => if acc.length < sizeLine then compF vs h p f (xs.drop (i + 1)) (acc ++ [y]) env else M.bad) r3) := hc
        refine ⟨w3, Hb, env1, r3, g3, sl.step st3, (noEx_use hc).imp fun y r4 w4 H5 st4 g4 hc v dv => ?_⟩
        have hP4 := st4.hid D hR3 (vs_of hh3) hP3
        have hR4 := nr st4 hR3 (vs_of hh3)
        have hh4 := st4.fr D _ hR3 hh3 (by intro _ e; cases e)
        have d4 := d3.mono st4.later
        have stB := stA.trans st4
        by_cases hl : acc.length < sizeLine
        · rw [if_pos hl] at hc
          exact ⟨us', hh4, by rw [d4.length]; exact hl, w4, r4, acc ++ [y], us' ++ [v], stB.chg (nvs hD), g4.priv hP4 hR4 (.inr ⟨_, hh4, ⟨fun _ e => (by cases e), fun _ e => (by cases e)⟩⟩), hP4, hR4, upd_same, d4.append (.cons dv .nil), hc, by rw [List.length_append, List.length_singleton]; exact hl⟩
        · rw [if_neg hl] at hc
          exact hc.elim
  · rintro H2 ⟨w', r', acc, us', st, g', hP, hR, hh, d, hc, hz⟩
    rw [List.drop_length] at hc
    exact hc w' H2 st g' D us' hD0 hP hR hh d hz
variable {elt tg iter : Expr} {ifs : List Expr} {scope : Scope} {own : List (Str × Nat)} {us : List Nat} {h : T → Env → Option Env} {fi : Env → M (List T)}
theorem l_comp (hc : X.calm = true) (hN : X.N.Nodup) (hi : SI X G W tg iter fi) (ok : BlkOk X.N X.env.scope scope own) (hu : ∀ j ∈ us, j ∈ own.map (·.2))
    (hg : ∀ (s : Shared) (H : Hp) (C : Addr) (cl : List (Str × Addr)) (fp : List Addr), SG (X.blk s H scope (compEnvC scope cl C X.env) fp) G us tg h) (ht : ∀ (s : Shared) (H : Hp) (C : Addr) (cl : List (Str × Addr)) (fp : List Addr), STs (X.blk s H scope (compEnvC scope cl C X.env) fp) G ifs p)
    (he : ∀ (s : Shared) (H : Hp) (C : Addr) (cl : List (Str × Addr)) (fp : List Addr), SE (X.blk s H scope (compEnvC scope cl C X.env) fp) G W0 elt f) (hs : ∀ x, foldedSetIterable iter X.env x = pure x := by intro _; rfl) : SL X G W (.ListComp elt [⟨tg, iter, ifs, 0⟩] scope pos) (fComp (own.map (·.2)) h p f fi) :=
  pe_imp (pe_lc hc hN hi ok (fun s H C cl fp => pg_x (hg s H C cl fp)) ht he hs) fun σ H Q q => comp_use hu q
theorem ss_comp {i : Nat} {y : Str} {py spos : Pos} (hc : X.calm = true) (hN : X.N.Nodup) (hy : X.N[i]? = some y) (hyl : X.env.scope.names.lookup y = some .local)
    (hsw : swapsWith (.ListComp elt [⟨tg, iter, ifs, 0⟩] scope pos) (some (.Name y py)) spos.line X.env = pure true) (hi : SI X G W tg iter fi) (ok : BlkOk X.N X.env.scope scope own) (hu : ∀ j ∈ us, j ∈ own.map (·.2))
    (hg : ∀ (s : Shared) (H : Hp) (C : Addr) (cl : List (Str × Addr)) (fp : List Addr), SG (X.blk s H scope (compEnvC scope cl C X.env) fp) G us tg h) (ht : ∀ (s : Shared) (H : Hp) (C : Addr) (cl : List (Str × Addr)) (fp : List Addr), STs (X.blk s H scope (compEnvC scope cl C X.env) fp) G ifs p)
    (he : ∀ (s : Shared) (H : Hp) (C : Addr) (cl : List (Str × Addr)) (fp : List Addr), SE (X.blk s H scope (compEnvC scope cl C X.env) fp) G W0 elt f) (hs : ∀ x, foldedSetIterable iter X.env x = pure x := by intro _; rfl) : SS X G W (.Assign [.Name y py] (.ListComp elt [⟨tg, iter, ifs, 0⟩] scope pos) spos) (qOwn i (fComp (own.map (·.2)) h p f fi)) := fun w0 H0 =>
  ps_imp (ps_setLc hc hN hy hyl hsw hi ok (fun s H C cl fp => pg_x (hg s H C cl fp)) ht he hs) fun D σ H ⟨w, env, r, a, q⟩ => comp_use hu (at_own a q)
theorem ss_compV {i : Nat} {y : Str} {py spos : Pos} (hc : X.calm = true) (hN : X.N.Nodup) (hy : X.N[i]? = some y) (hyl : X.env.scope.names.lookup y = some .local)
    (hsw : swapsWith (.ListComp elt [⟨tg, iter, ifs, 0⟩] scope pos) (some (.Name y py)) spos.line X.env = pure true) (hi : SI X G W tg iter fi) (ok : BlkOk X.N X.env.scope scope own) (hu : ∀ j ∈ us, j ∈ own.map (·.2))
    (hg : ∀ (s : Shared) (H : Hp) (C : Addr) (cl : List (Str × Addr)) (fp : List Addr), SG (X.blk s H scope (compEnvC scope cl C X.env) fp) G us tg h) (ht : ∀ (s : Shared) (H : Hp) (C : Addr) (cl : List (Str × Addr)) (fp : List Addr), STs (X.blk s H scope (compEnvC scope cl C X.env) fp) G ifs p)
    (he : ∀ (s : Shared) (H : Hp) (C : Addr) (cl : List (Str × Addr)) (fp : List Addr), SE (X.blk s H scope (compEnvC scope cl C X.env) fp) G W0 elt f) (hs : ∀ x, foldedSetIterable iter X.env x = pure x := by intro _; rfl) : SS X G W (.Assign [.Name y py] (.ListComp elt [⟨tg, iter, ifs, 0⟩] scope pos) spos) (qSet i (fOwn (fComp (own.map (·.2)) h p f fi))) := fun w0 H0 =>
  ps_imp (ps_setLc hc hN hy hyl hsw hi ok (fun s H C cl fp => pg_x (hg s H C cl fp)) ht he hs) fun D σ H ⟨w, env, r, a, q⟩ => comp_use hu (own_read (at_e a q fun t r1 w1 H1 v a1 d h1 => h1 w1 H1 _ a1.st a1.g (a1.s.setVal i d)))
end
end Ep
namespace Ep
open PySem PySem.Spec L2
open PyProof.Rows (envOfC)
/-! ### defs -/
def WD (E : XK) : WX := fun cls d _ H => E cls d H
def envOf (m : Nat) (ts : List T) : Env := ts.map .val ++ List.replicate m .un
/-- what a def computes: m slots beyond its parameters -/
def fnS (m : Nat) (g : Sm) : List T → M T := fun ts r => match g (envOf m ts) r with
  | .nx _ r => .ok .non r
  | .rt t r => .ok t r
  | .exn c p _ r => .exn c p r
  | _ => .bad
def insOf : Option Slot → Option (Nat × List T)
  | some (.pv (.ins D fs)) => some (D, fs)
  | _ => none
def fnI (G : Gm) (C m : Nat) (g : Sm) : List T → M (List T) := fun ts r => match g (.ins C [] :: envOf m ts) r with
  | .nx env r => match insOf env[0]? with
    | some (D, fs) => if D = C ∧ fs.length = (G.fl C).length then .ok fs r else .bad
    | none => .bad
  | .exn c p _ r => .exn c p r
  | _ => .bad
/-- another instance in the making -/
def Wd.re (w : Wd) (b : Addr) : Wd := ⟨w.P, w.R, { w.fx with me := b }⟩
theorem Later.re (w : Wd) (b : Addr) : Later w (w.re b) := ⟨Same.refl _, [], by simp [Wd.re]⟩
theorem Later.er (w : Wd) (b : Addr) : Later (w.re b) w := ⟨Same.refl _, [], by simp [Wd.re]⟩
theorem Step.re {w w' : Wd} {H H' : Hp} {b : Addr} (s : Step (w.re b) H w' H') : Step w H (w'.re w.fx.me) H' := ⟨s.pub, s.fr, s.keep, s.hid, s.refs, by show { w'.fx with me := w.fx.me } = w.fx; rw [s.me]; rfl⟩
theorem Good.re {G : Gm} {w : Wd} {H : Hp} {r : RS} (g : Good G w H r) (b : Addr) : Good G (w.re b) H r := ⟨g.sub, ⟨g.refs.nd, g.refs.len, g.refs.out, fun k xs hk => by
  obtain ⟨a, vs, h1, h2, h3, h4⟩ := g.refs.at_ k xs hk
  exact ⟨a, vs, h1, h2, h3.mono (Later.re w b), h4⟩⟩, g.tabs, g.nt⟩
theorem ExcIs.re {G : Gm} {w : Wd} {H : Hp} {c : Nat} {p : T} {cls : Value} {d : Option Addr} (x : ExcIs G w H c p cls d) (b : Addr) : ExcIs G (w.re b) H c p cls d := by
  obtain ⟨cA, dd, v, f, h1, h2, h3, h4, h5, h6⟩ := x.ex
  exact ⟨cA, dd, v, f, h1, h2, h3, h4, h5, h6.mono (Later.re w b)⟩
/-- a body's context -/
abbrev cxB (P : Program) (wd : World) (G : Gm) (base : Heap) (N : List Str) (qual : Str) (st : Stmt) (f : Addr) (cdv : Value) (A : Around) (outer : List PySem.Env) (s : Shared) (H : Hp) (E : XK) : Cx := cxOf (L2.CX P wd) P wd G.K G.mg base N qual (defScope st) f cdv A outer s H E
section
variable {P : Program} {wd : World} {base : Heap} {G : Gm} {k : Nat} {x qual : Str} {st : Stmt} {f : Addr} {fd : FuncData} {N ps : List Str} {n m : Nat} {g : Sm} {dv : List V} {kw : List (Str × V)}
theorem start_slots {w : Wd} {H : Hp} {vs : List V} {ts : List T} (d : Dens G w vs ts) (m : Nat) (hN : N.length - vs.length = m) : Slots G w H H (L2.start N vs) (envOf m ts) := by
  have np : ∀ (i : Nat) (s : Slot), (envOf m ts)[i]? = some s → s = .un ∨ ∃ t, s = .val t ∧ ts[i]? = some t := fun i s hi => by
    unfold envOf at hi
    by_cases hl : i < ts.length
    · rw [List.getElem?_append_left (by simpa using hl)] at hi
      rw [List.getElem?_map] at hi
      cases q : ts[i]? with
      | none => rw [q] at hi; cases hi
      | some t => rw [q] at hi; cases hi; exact .inr ⟨t, rfl, rfl⟩
    · rw [List.getElem?_append_right (by simpa using Nat.le_of_not_lt hl)] at hi
      exact .inl (List.eq_of_mem_replicate (List.mem_of_getElem? hi))
  refine ⟨by simp [L2.start, envOf, d.length, ← hN], fun _ => 0, fun i s hi => ?_, fun i j s u hi hj pi pj _ => ?_⟩
  · rcases np i s hi with e | ⟨t, e, ht⟩
    · subst e; trivial
    · subst e
      obtain ⟨v, hv, dv⟩ := d.get ht
      refine ⟨v, ?_, dv⟩
      unfold L2.start
      rw [List.getElem?_append_left (by rw [List.length_map]; exact (List.getElem?_eq_some_iff.mp hv).1), List.getElem?_map, hv]
      rfl
  · rcases np i s hi with e | ⟨t, e, ht⟩ <;> (subst e; cases pi)
theorem fn_run (F : FunD G.K x qual (defArgs st) (defBody st) (defScope st) dv kw f fd) (S : FnScope N ps (defScope st)) (hps : ps.length = n) (hm : N.length - n = m)
    (hb : ∀ cdv A outer s H E, Room k (A.deeper (envOfC qual (defScope st) s.heap.objs.size f cdv)) → SSs (cxB P wd G base N qual st f cdv A outer s H E) G (WD E) (defBody st) g) :
    FnOk P wd G.K G.mg base (L2.CX P wd) (k + 1) f fd ps (spF G n (fnS m g)) := by
  refine F.ok (CX := L2.CX P wd) S (spF_len hps) fun cdv A outer s H vs Q E hr ⟨w, r, ts, gd, d, l, h⟩ => ?_
  refine ⟨_, hb cdv A outer s H E hr w H, w, _, r, ⟨Step.refl _ _, gd, start_slots d m (by rw [d.length, l]; exact hm)⟩, ?_⟩
  have h : OutP G w H E (fun t _ w' H' => ∀ v, Den G w' v t → Q v H') (fnS m g ts r) := h
  unfold fnS at h
  cases o : g (envOf m ts) r with
  | nx env' r' => rw [o] at h; exact fun w' H' σ' st g' _ => h w' H' st g' _ .non
  | rt t r' => rw [o] at h; exact fun w' H' v st g' dv => h w' H' st g' v dv
  | bk e r' => rw [o] at h; exact h.elim
  | ct e r' => rw [o] at h; exact h.elim
  | exn c p e r' => rw [o] at h; exact fun w' H' σ' cls dd st g' _ x => h w' H' cls dd st g' x
  | bad => rw [o] at h; exact h.elim
theorem def_ok {ds : List T} {dvs : List V} {dus : List Value} (F : FunD G.K x qual (defArgs st) (defBody st) (defScope st) dv kw f fd) (S : FnScope N ps (defScope st)) (hps : ps.length = n) (hm : N.length - n = m) (hg : G.mg x = some (.ref f)) (hB : Binds G.K fd ps dus) (hv : Vals dvs dus) (hd : ∀ w, Dens G w dvs ds)
    (hb : ∀ cdv A outer s H E, Room k (A.deeper (envOfC qual (defScope st) s.heap.objs.size f cdv)) → SSs (cxB P wd G base N qual st f cdv A outer s H E) G (WD E) (defBody st) g) : DefOk P wd base G (k + 1) x n ds (fnS m g) :=
  ⟨f, fd, ps, dvs, dus, fn_run F S hps hm hb, hg, F.kp, hB, hv, hd⟩
theorem meth_ok {C : Nat} {cA : Addr} {ds : List T} {dvs : List V} {dus : List Value} (F : FunD G.K x qual (defArgs st) (defBody st) (defScope st) dv kw f fd) (S : FnScope N ps (defScope st)) (hps : ps.length = n) (hm : N.length - n = m) (hc : G.mg (G.cn C) = some (.ref cA)) (hC : Cls G.K cA) (hM : Meth G.K cA x f) (hB : Binds G.K fd ps dus) (hv : Vals dvs dus) (hd : ∀ w, Dens G w dvs ds) (nof : x ∉ G.fl C)
    (hb : ∀ cdv A outer s H E, Room k (A.deeper (envOfC qual (defScope st) s.heap.objs.size f cdv)) → SSs (cxB P wd G base N qual st f cdv A outer s H E) G (WD E) (defBody st) g) : MethOk P wd base G (k + 1) C x n ds (fnS m g) :=
  ⟨⟨cA, f, fd, ps, dvs, dus, hc, hC, hM, fn_run F S hps hm hb, hB, hv, hd⟩, nof⟩
theorem make_run {C : Nat} (F : FunD G.K x qual (defArgs st) (defBody st) (defScope st) dv kw f fd) (S : FnScope N ps (defScope st)) (hps : ps.length = n + 1) (hm : N.length - (n + 1) = m)
    (hb : ∀ cdv A outer s H E, Room k (A.deeper (envOfC qual (defScope st) s.heap.objs.size f cdv)) → SSs (cxB P wd G base N qual st f cdv A outer s H E) G (WD E) (defBody st) g) :
    FnOk P wd G.K G.mg base (L2.CX P wd) (k + 1) f fd ps (spI G C n (fnI G C m g)) := by
  refine F.ok (CX := L2.CX P wd) S (spI_len hps) fun cdv A outer s H vs Q E hr ⟨w, r, ts, xx, rest, cA, dx, H1, ev, c, hx, hdx, ne, eH, gd, d, l, h⟩ => ?_
  subst ev
  subst eH
  have hdx' : (upd H1 dx (.own xx)) xx = none := by rw [upd_ne (Ne.symm ne)]; exact hx
  have st1 : Step (w.re xx) H1 (w.re xx) (upd (upd H1 dx (.own xx)) xx (.ins cA dx [])) := ((Step.refl (w.re xx) H1).priv hdx).priv hdx'
  have g1 : Good G (w.re xx) (upd (upd H1 dx (.own xx)) xx (.ins cA dx [])) r := ((gd.re xx).priv (gd.nopub hdx) (gd.noref hdx) (.inl hdx)).priv (gd.nopub hx) (gd.noref hx) (.inl hdx')
  have sl : Slots G (w.re xx) H1 (upd (upd H1 dx (.own xx)) xx (.ins cA dx [])) (L2.start N (.ref xx :: rest)) (.ins C [] :: envOf m ts) := by
    have s0 : Slots G (w.re xx) H1 H1 (rest.map some ++ List.replicate (N.length - (rest.length + 1)) none) (envOf m ts) := by
      have := start_slots (N := N.drop 1) (H := H1) (d.mono (Later.re w xx)) m (by rw [List.length_drop, d.length, l]; omega)
      unfold L2.start at this
      rw [List.length_drop, show N.length - 1 - rest.length = N.length - (rest.length + 1) by omega] at this
      exact this
    obtain ⟨oa, k1, k2⟩ := s0.ex
    have nv : ∀ (j : Nat) (u : Slot), (envOf m ts)[j]? = some u → u.priv = false := fun j u hj => by
      unfold envOf at hj
      rcases List.mem_append.mp (List.mem_of_getElem? hj) with z | z
      · obtain ⟨t, _, rfl⟩ := List.mem_map.mp z; rfl
      · rw [List.eq_of_mem_replicate z]; rfl
    refine ⟨by have := s0.len; simp [L2.start] at this ⊢; omega, fun _ => xx, fun i u hi => ?_, fun i j u u' hi hj pi pj _ => ?_⟩
    · cases i with
      | zero =>
        cases hi
        exact ⟨rfl, gd.nopub hx, gd.noref hx, nvs hx, .ins cA dx [], upd_same, .ins (vs := []) rfl c (Nat.zero_le _) .nil⟩
      | succ i =>
        have hi : (envOf m ts)[i]? = some u := by simpa using hi
        have := k1 i u hi
        have np := nv i u hi
        cases u with
        | un => trivial
        | val t =>
          obtain ⟨v, e1, d1⟩ := this
          exact ⟨v, by simpa [L2.start] using e1, d1⟩
        | pv q => cases np
    · cases i with
      | zero =>
        cases j with
        | zero => rfl
        | succ j => rw [nv j u' (by simpa using hj)] at pj; cases pj
      | succ i => rw [nv i u (by simpa using hi)] at pi; cases pi
  refine ⟨_, hb cdv A outer s _ E hr (w.re xx) H1, w.re xx, _, r, ⟨st1, g1, sl⟩, ?_⟩
  unfold fnI at h
  cases o : g (.ins C [] :: envOf m ts) r with
  | nx env' r' =>
    rw [o] at h
    intro w' H' σ' st g' s'
    simp only at h
    cases q : env'[0]? with
    | none => rw [q] at h; exact h.elim
    | some u =>
      rw [q] at h
      cases u with
      | un => exact h.elim
      | val _ => exact h.elim
      | pv o =>
        cases o with
        | ins D fs =>
          have h : OutP G w H1 E (fun fs _ w' H' => ∀ us dx', H' xx = some (.ins cA dx' ((G.fl C).zip us)) → us.length = (G.fl C).length → Dens G w' us fs → w'.P xx = none → xx ∉ w'.R → Q .non H') (if D = C ∧ fs.length = (G.fl C).length then .ok fs r' else .bad) := h
          by_cases hC : D = C ∧ fs.length = (G.fl C).length
          · rw [if_pos hC] at h
            obtain ⟨e1, e2⟩ := hC
            subst e1
            have g2 := g'.re w.fx.me
            obtain ⟨oa, k1, k2⟩ := s'.ex
            obtain ⟨b1, b2, b3, b4, o, b5, b6⟩ := k1 0 _ q
            cases b6 with
            | @ins _ cA' dx' vs _ hm c' l' d' =>
              have ea : oa 0 = xx := hm.trans (by rw [st.me]; rfl)
              rw [ea] at b2 b3 b5
              have ez : (G.fl D).take fs.length = G.fl D := by rw [e2, List.take_length]
              rw [ez] at b5
              rw [c] at c'
              cases c'
              exact h (w'.re w.fx.me) H' st.re g2 vs dx' b5 (by rw [d'.length]; exact e2) (d'.mono (Later.re w' w.fx.me)) b2 b3
          · rw [if_neg hC] at h; exact h.elim
        | _ => exact h.elim
  | rt t r' => rw [o] at h; exact h.elim
  | bk e r' => rw [o] at h; exact h.elim
  | ct e r' => rw [o] at h; exact h.elim
  | exn c p e r' => rw [o] at h; exact fun w' H' σ' cls dd st g' _ x => h _ H' cls dd st.re (g'.re _) (x.re _)
  | bad => rw [o] at h; exact h.elim
theorem make_ok {C : Nat} {cA : Addr} {ds : List T} {dvs : List V} {dus : List Value} (F : FunD G.K x qual (defArgs st) (defBody st) (defScope st) dv kw f fd) (S : FnScope N ps (defScope st)) (hps : ps.length = n + 1) (hm : N.length - (n + 1) = m) (hc : G.mg (G.cn C) = some (.ref cA)) (hM : Mk G.K cA f) (hB : Binds G.K fd ps dus) (hv : Vals dvs dus) (hd : ∀ w, Dens G w dvs ds)
    (hb : ∀ cdv A outer s H E, Room k (A.deeper (envOfC qual (defScope st) s.heap.objs.size f cdv)) → SSs (cxB P wd G base N qual st f cdv A outer s H E) G (WD E) (defBody st) g) : MakeOk P wd base G (k + 1) C n ds (fnI G C m g) :=
  ⟨cA, f, fd, ps, dvs, dus, hc, hM, make_run F S hps hm hb, hB, hv, hd⟩
end
end Ep
namespace Ep
open PySem PySem.Spec L2
/-! ### dicts as two lists -/
section
variable {κ α : Type} [DecidableEq κ]
def gK : List κ → List α → κ → Option α
  | k' :: ks, t :: ts, k => if k' = k then some t else gK ks ts k
  | _, _, _ => none
def repK : List κ → List α → κ → α → List α
  | k' :: ks, t' :: ts, k, t => (if k' = k then t else t') :: repK ks ts k t
  | _, ts, _, _ => ts
def hasK (ks : List κ) (k : κ) : Bool := ks.any fun k' => decide (k' = k)
def putKs (ks : List κ) (k : κ) : List κ := if hasK ks k = true then ks else ks ++ [k]
def putVs (ks : List κ) (ts : List α) (k : κ) (t : α) : List α := if hasK ks k = true then repK ks ts k t else ts ++ [t]
theorem valV_gK (k : κ) : ∀ (ks : List κ) (vs : List V), valV (ks.zip vs) k = gK ks vs k
  | [], _ => rfl
  | _ :: _, [] => rfl
  | k' :: ks, v :: vs => by
    rw [List.zip_cons_cons]
    unfold gK
    by_cases e : k' = k
    · rw [if_pos e, valV_pos e]
    · rw [if_neg e, valV_neg e, valV_gK k ks vs]
theorem repK_len (k : κ) (t : α) : ∀ (ks : List κ) (ts : List α), (repK ks ts k t).length = ts.length
  | [], _ => rfl
  | _ :: _, [] => rfl
  | k' :: ks, t' :: ts => by simp [repK, repK_len k t ks ts]
theorem zip_map (k : κ) (v : V) : ∀ (ks : List κ) (vs : List V), ((ks.zip vs).map fun kv => if kv.1 = k then (kv.1, v) else kv) = ks.zip (repK ks vs k v)
  | [], _ => by simp
  | _ :: _, [] => by simp [repK]
  | k' :: ks, v' :: vs => by
    rw [List.zip_cons_cons, List.map_cons, zip_map k v ks vs]
    show _ = (k' :: ks).zip ((if k' = k then v else v') :: repK ks vs k v)
    rw [List.zip_cons_cons]
    by_cases e : k' = k
    · simp [e]
    · simp [e]
theorem any_zip (k : κ) : ∀ (ks : List κ) (vs : List V), ks.length = vs.length → ((ks.zip vs).any fun kv => decide (kv.1 = k)) = hasK ks k
  | [], _, _ => rfl
  | _ :: _, [], e => by cases e
  | k' :: ks, v' :: vs, e => by
    rw [List.zip_cons_cons]
    simp only [List.any_cons, hasK]
    rw [any_zip k ks vs (by simpa using e)]
    rfl
theorem putK_zip (k : κ) (v : V) {ks : List κ} {vs : List V} (l : ks.length = vs.length) : putK (ks.zip vs) k v = (putKs ks k).zip (putVs ks vs k v) := by
  unfold putK putKs putVs
  rw [any_zip k ks vs l]
  cases e : hasK ks k with
  | true => simp only [if_true]; exact zip_map k v ks vs
  | false =>
    simp only [Bool.false_eq_true, if_false]
    rw [List.zip_append l]
    rfl
theorem putKV_len (k : κ) (t : α) {ks : List κ} {ts : List α} (l : ks.length = ts.length) : (putKs ks k).length = (putVs ks ts k t).length := by
  unfold putKs putVs
  split
  · rw [repK_len]; exact l
  · simp [l]
theorem putKs_len (k : κ) (ks : List κ) : (putKs ks k).length ≤ ks.length + 1 := by
  unfold putKs
  split <;> simp
end
theorem Dens.gK {κ : Type} [DecidableEq κ] {G : Gm} {w : Wd} {k : κ} : ∀ {ks : List κ} {vs : List V} {ts : List T} {t : T}, Dens G w vs ts → Ep.gK ks ts k = some t → ∃ v, Ep.gK ks vs k = some v ∧ Den G w v t
  | [], _, _, _, _, e => by cases e
  | _ :: _, _, _, _, .nil, e => by cases e
  | k' :: ks, _, _, t, .cons h r, e => by
    unfold Ep.gK at e ⊢
    by_cases q : k' = k
    · rw [if_pos q] at e ⊢
      cases e
      exact ⟨_, rfl, h⟩
    · rw [if_neg q] at e ⊢
      exact Dens.gK r e
theorem Dens.gKn {κ : Type} [DecidableEq κ] {G : Gm} {w : Wd} {k : κ} : ∀ {ks : List κ} {vs : List V} {ts : List T}, Dens G w vs ts → Ep.gK ks ts k = none → Ep.gK ks vs k = none
  | [], _, _, _, e => rfl
  | _ :: _, _, _, .nil, e => rfl
  | k' :: ks, _, _, .cons h r, e => by
    unfold Ep.gK at e ⊢
    by_cases q : k' = k
    · rw [if_pos q] at e; cases e
    · rw [if_neg q] at e ⊢
      exact Dens.gKn r e
theorem Dens.rep {κ : Type} [DecidableEq κ] {G : Gm} {w : Wd} {k : κ} {v : V} {t : T} (d : Den G w v t) : ∀ {ks : List κ} {vs : List V} {ts : List T}, Dens G w vs ts → Dens G w (repK ks vs k v) (repK ks ts k t)
  | [], _, _, h => h
  | _ :: _, _, _, .nil => .nil
  | k' :: ks, _, _, .cons h r => by
    unfold repK
    by_cases q : k' = k
    · rw [if_pos q, if_pos q]; exact .cons d (Dens.rep d r)
    · rw [if_neg q, if_neg q]; exact .cons h (Dens.rep d r)
theorem Dens.put {κ : Type} [DecidableEq κ] {G : Gm} {w : Wd} {k : κ} {v : V} {t : T} (d : Den G w v t) {ks : List κ} {vs : List V} {ts : List T} (h : Dens G w vs ts) : Dens G w (putVs ks vs k v) (putVs ks ts k t) := by
  unfold putVs
  split
  · exact h.rep d
  · exact h.append (.cons d .nil)
def keyT : T → Option Key
  | .int i => some (.inl i)
  | .str x => some (.inr x)
  | _ => none
theorem key_of' {G : Gm} {w : Wd} {v : V} {t : T} {k : Key} (d : Den G w v t) (e : keyT t = some k) : v = kV k := by
  cases d <;> first | (cases e; rfl) | cases e
def keysT : List T → Option (List Key)
  | [] => some []
  | t :: ts => (keyT t).bind fun k => (keysT ts).map fun ks => k :: ks
theorem keys_of {G : Gm} {w : Wd} : ∀ {vs : List V} {ts : List T} {ks : List Key}, Dens G w vs ts → keysT ts = some ks → vs = ks.map kV
  | _, _, _, .nil, e => by cases e; rfl
  | _, _, ks, .cons (t := t) (ts := ts) h r, e => by
    unfold keysT at e
    cases q : keyT t with
    | none => rw [q] at e; cases e
    | some k =>
      rw [q] at e
      cases q2 : keysT ts with
      | none => simp [q2] at e
      | some ks' =>
        simp [q2] at e
        subst e
        rw [List.map_cons, key_of' h q, keys_of r q2]
/-! ### a dict to be looked into -/
/-- ks at ts: the dict at v, its keys, its values; of either kind of keys -/
inductive DenD (G : Gm) (w : Wd) (H : Hp) : V → T → Prop
  | k {a : Addr} {ks : List Key} {vs : List V} {ts : List T} (h : H a = some (.dK (ks.zip vs))) (n : a ∉ w.R) (l : ks.length = ts.length) (d : Dens G w vs ts) : DenD G w H (.ref a) (.dct ks ts)
  | t {a : Addr} {ks : List (List Key)} {vs : List V} {ts : List T} (h : H a = some (.dT (ks.zip vs))) (n : a ∉ w.R) (l : ks.length = ts.length) (d : Dens G w vs ts) : DenD G w H (.ref a) (.dtt ks ts)
section
variable {X : Cx} {G : Gm} {W : WX} {pos : Pos} {a b e ix : Expr} {f g : Env → M T} {w w' : Wd} {H H' H0 : Hp} {r : RS} {σ : L2.St} {env : Env} {v : V} {t : T}
theorem Step.noR {a : Addr} (s : Step w H w' H') (h1 : a ∉ w.R) (h2 : Vs H a) : a ∉ w'.R := fun h3 => by
  obtain ⟨m, e, hm⟩ := s.refs
  rw [e] at h3
  rcases List.mem_append.mp h3 with z | z
  · exact h1 z
  · exact hm a z h2
theorem DenD.step (d : DenD G w H v t) (s : Step w H w' H') : DenD G w' H' v t := by
  cases d with
  | k h n l d => exact .k (s.fr _ _ n h (by intro _ e; cases e)) (s.noR n (vs_of h)) l (d.mono s.later)
  | t h n l d => exact .t (s.fr _ _ n h (by intro _ e; cases e)) (s.noR n (vs_of h)) l (d.mono s.later)
theorem DenD.of (g : Good G w H r) (d : Den G w v t) : (∃ ks ts, t = .dct ks ts) ∨ (∃ ks ts, t = .dtt ks ts) → DenD G w H v t := fun h => by
  have nr : ∀ {a : Addr} {o : HO}, w.P a = some o → a ∉ w.R := fun {a o} h hm => by rw [g.refs.out a hm] at h; cases h
  cases d with
  | dct q l d => exact .k (g.sub _ _ q) (nr q) l d
  | dtt q l d => exact .t (g.sub _ _ q) (nr q) l d
  | _ => rcases h with ⟨_, _, e⟩ | ⟨_, _, e⟩ <;> cases e
def isD : T → Bool
  | .dct _ _ => true
  | .dtt _ _ => true
  | _ => false
def tSD (G : Gm) (W : WX) (f : Env → M T) : TE := fun σ H Q => ∃ w H0 env r, Good G w H r ∧ Slots G w H0 H σ env ∧ OutP G w H (WE0 W σ) (fun t _ w' H' => ∀ v, DenD G w' H' v t → Q v H') (f env r)
abbrev SD (X : Cx) (G : Gm) (W : WX) (e : Expr) (f : Env → M T) : Prop := PE X e (tSD G W f)
def fD (f : Env → M T) : Env → M T := fun env => f env >>= fun t => if isD t = true then pure t else M.bad
theorem d_of (h : SE X G W a f) : SD X G W a (fD f) := pe_imp h fun σ H Q ⟨w, H0, env, r, g, s, h⟩ => by
  refine seqE g s h fun t r1 w1 H1 v g1 s1 st1 d1 h1 => ?_
  cases q : isD t with
  | false => rw [if_neg (by rw [q]; simp)] at h1; exact h1.elim
  | true =>
    rw [if_pos q] at h1
    refine OutP.here g1 h1 v (DenD.of g1 d1 ?_)
    cases t <;> first | exact .inl ⟨_, _, rfl⟩ | exact .inr ⟨_, _, rfl⟩ | cases q
def fBorD (i : Nat) : Env → M T := fun env => match env[i]? with
  | some (.val t) => if isD t = true then pure t else M.bad
  | some (.pv (.dk ks ts)) => pure (.dct ks ts)
  | some (.pv (.dt ks ts)) => pure (.dtt ks ts)
  | _ => M.bad
theorem d_var {x : Str} (i : Nat) (hN : X.N[i]? = some x) (hv : Vis X.env.scope x) (hd : (x == ("__debug__" : Str)) = false := by decide) (hcd : (x == ("__classdict__" : Str)) = false := by decide) : SD X G W (.Name x pos) (fBorD i) :=
  pe_imp (pe_var hN hv hd hcd) fun σ H Q ⟨w, H0, env, r, g, s, h⟩ => by
    unfold fBorD at h
    cases e : env[i]? with
    | none => rw [e] at h; exact h.elim
    | some sl =>
      rw [e] at h
      obtain ⟨oa, hs, _⟩ := s.ex
      cases sl with
      | un => exact h.elim
      | val t =>
        obtain ⟨v, e1, d⟩ := hs i _ e
        simp only at h
        cases q : isD t with
        | false => rw [if_neg (by rw [q]; simp)] at h; exact h.elim
        | true =>
          rw [if_pos q] at h
          refine ⟨v, e1, OutP.here g h v (DenD.of g d ?_)⟩
          cases t <;> first | exact .inl ⟨_, _, rfl⟩ | exact .inr ⟨_, _, rfl⟩ | cases q
      | pv p =>
        obtain ⟨e1, h2, h3, h4, o, h5, h6⟩ := hs i _ e
        cases h6 with
        | lst _ _ => exact h.elim
        | ins _ _ _ _ => exact h.elim
        | dk l z d => exact ⟨_, e1, OutP.here g h _ (.k h5 h3 l d)⟩
        | dt l z d => exact ⟨_, e1, OutP.here g h _ (.t h5 h3 l d)⟩
theorem seqD {α : Type} {k : T → M α} {P : α → RS → Wd → Hp → Prop} {Q : VK} (g : Good G w H r) (s : Slots G w H0 H σ env) (h : OutP G w H (WE0 W σ) P ((f env >>= k) r))
    (n : ∀ t r1 w1 H1 v, Good G w1 H1 r1 → Slots G w1 H0 H1 σ env → Step w H w1 H1 → DenD G w1 H1 v t → OutP G w1 H1 (WE0 W σ) P (k t r1) → Q v H1) : tSD G W f σ H Q :=
  ⟨w, H0, env, r, g, s, h.bind.imp fun t r1 w1 H1 st g1 q v d => n t r1 w1 H1 v g1 (s.step st) st d q⟩
/-- what a dict holds at a key; the outer none: no key of its kind -/
def lookT (d i : T) : Option (Option T) := match d with
  | .dct ks ts => (keyT i).map fun k => gK ks ts k
  | _ => none
theorem look_of {d i : T} {o : Option T} {y : V} (hd : DenD G w H v d) (hi : Den G w y i) (e : lookT d i = some o) : ∃ a, v = .ref a ∧ ∃ u, DGet H a y u ∧ (∀ t, o = some t → ∃ x, u = some x ∧ Den G w x t) ∧ (o = none → u = none) := by
  cases hd with
  | @k a ks vs ts h n l d =>
    cases q : keyT i with
    | none => simp [lookT, q] at e
    | some k =>
      simp [lookT, q] at e
      subst e
      rw [key_of' hi q]
      refine ⟨a, rfl, _, DGet.k h, fun t ht => ?_, fun hn => ?_⟩
      · rw [valV_gK]; exact d.gK ht
      · rw [valV_gK]; exact d.gKn hn
  | t h n l d => cases e
def fDget (f g : Env → M T) : Env → M T := fun env => f env >>= fun d => g env >>= fun i => M.lift ((lookT d i).bind id)
theorem s_dget (hu : X.A.units + 1 < cLine) (ha : SD X G W a f) (hi : SE X G W ix g) (hs : NoSl ix) : SE X G W (.Subscript a ix pos) (fDget f g) :=
  pe_imp (pe_dget hu ha hi hs) fun σ H Q ⟨w, H0, env, r, g0, s, h0⟩ => by
    refine seqD g0 s h0 fun d r1 w1 H1 x g1 s1 st1 d1 h1 => ?_
    refine seqE g1 s1 h1 fun i r2 w2 H2 y g2 s2 st2 d2 h2 => ?_
    obtain ⟨z, ez, h3⟩ := liftP h2
    cases q : lookT d i with
    | none => rw [q] at ez; cases ez
    | some o =>
      rw [q] at ez
      have ez : o = some z := ez
      obtain ⟨p, e1, u, dg, hh, _⟩ := look_of (d1.step st2) d2 q
      obtain ⟨xx, e2, dx⟩ := hh z ez
      subst e1 e2
      exact ⟨p, xx, rfl, dg, h3 w2 H2 (Step.refl _ _) g2 xx dx⟩
def fDgetD (f g k : Env → M T) : Env → M T := fun env => f env >>= fun d => g env >>= fun i => k env >>= fun z => M.lift ((lookT d i).map fun o => o.getD z)
theorem s_dgetD {apos : Pos} {c : Expr} {k : Env → M T} (hu : X.A.units + 1 < cLine) (ha : SD X G W a f) (hi : SE X G W ix g) (hc : SE X G W c k) (m : M2 X a "get" apos ix c pos) : SE X G W (.Call (.Attribute a "get" apos) [ix, c] [] pos) (fDgetD f g k) :=
  pe_imp (pe_dget2 hu ha hi hc m) fun σ H Q ⟨w, H0, env, r, g0, s, h0⟩ => by
    refine seqD g0 s h0 fun d r1 w1 H1 x g1 s1 st1 d1 h1 => ?_
    have e1 : ∃ p, x = .ref p ∧ IsD H1 p := by
      cases d1 with
      | k h n l d => exact ⟨_, rfl, .inl ⟨_, .inl h⟩⟩
      | t h n l d => exact ⟨_, rfl, .inr ⟨_, .inl h⟩⟩
    obtain ⟨p, rfl, hp⟩ := e1
    refine ⟨p, rfl, hp, seqE g1 s1 h1 fun i r2 w2 H2 y g2 s2 st2 d2 h2 => ?_⟩
    refine seqE g2 s2 h2 fun z r3 w3 H3 zz g3 s3 st3 d3 h3 => ?_
    obtain ⟨t, et, h4⟩ := liftP h3
    cases q : lookT d i with
    | none => rw [q] at et; cases et
    | some o =>
      rw [q] at et
      have et : o.getD z = t := by cases et; rfl
      obtain ⟨p', e1, u, dg, hh, hn⟩ := look_of ((d1.step st2).step st3) (d2.mono st3.later) q
      cases e1
      refine ⟨u, dg, h4 w3 H3 (Step.refl _ _) g3 _ ?_⟩
      cases o with
      | none => rw [hn rfl]; cases et; exact d3
      | some t' =>
        obtain ⟨xx, e2, dx⟩ := hh t' rfl
        rw [e2]
        cases et
        exact dx
/-- a display of a dict -/
def SPs (X : Cx) (G : Gm) (W : WX) (pos : Pos) (keys : List (Option Expr)) (values : List Expr) (fs : List ((Env → M T) × (Env → M T))) : Prop := PPs X pos keys values (fs.map fun p => (tS G W p.1, tS G W p.2))
theorem sp_nil : SPs X G W pos [] [] [] := pps_nil
theorem sp_cons {k v : Expr} {ks : List (Option Expr)} {vs : List Expr} {fs : List ((Env → M T) × (Env → M T))} (hk : SE X G W k f) (hv : SE X G W v g) (h : SPs X G W pos ks vs fs) : SPs X G W pos (some k :: ks) (v :: vs) ((f, g) :: fs) := pps_cons hk hv h
def fPairs : List ((Env → M T) × (Env → M T)) → Env → M (List Key × List T)
  | [], _ => pure ([], [])
  | (f, g) :: fs, env => f env >>= fun k => g env >>= fun v => M.lift (keyT k) >>= fun k => fPairs fs env >>= fun p => pure (k :: p.1, v :: p.2)
def mergeT {α : Type} (ks : List Key) (ts : List α) : List Key → List α → List Key × List α
  | k :: ks', t :: ts' => mergeT (putKs ks k) (putVs ks ts k t) ks' ts'
  | _, _ => (ks, ts)
theorem merge_zip : ∀ (ks' : List Key) (vs' : List V) (ks : List Key) (vs : List V), ks.length = vs.length → mergeK (ks.zip vs) (ks'.zip vs') = (mergeT ks vs ks' vs').1.zip (mergeT ks vs ks' vs').2 ∧ (mergeT ks vs ks' vs').1.length = (mergeT ks vs ks' vs').2.length
  | [], _, ks, vs, l => ⟨rfl, l⟩
  | _ :: _, [], ks, vs, l => ⟨rfl, l⟩
  | k :: ks', v :: vs', ks, vs, l => by
    rw [List.zip_cons_cons]
    show mergeK (putK (ks.zip vs) k v) (ks'.zip vs') = _ ∧ _
    rw [putK_zip k v l]
    exact merge_zip ks' vs' _ _ (putKV_len k v l)
theorem merge_den : ∀ {ks' : List Key} {vs' : List V} {ts' : List T} {ks : List Key} {vs : List V} {ts : List T}, Dens G w vs ts → Dens G w vs' ts' → Dens G w (mergeT ks vs ks' vs').2 (mergeT ks ts ks' ts').2 ∧ (mergeT ks vs ks' vs').1 = (mergeT ks ts ks' ts').1
  | [], _, _, ks, vs, ts, h, _ => ⟨h, rfl⟩
  | _ :: _, _, _, ks, vs, ts, h, .nil => ⟨h, rfl⟩
  | k :: ks', v :: vs', t :: ts', ks, vs, ts, h, .cons d r => by
    show Dens G w (mergeT (putKs ks k) (putVs ks vs k v) ks' vs').2 (mergeT (putKs ks k) (putVs ks ts k t) ks' ts').2 ∧ (mergeT (putKs ks k) (putVs ks vs k v) ks' vs').1 = (mergeT (putKs ks k) (putVs ks ts k t) ks' ts').1
    exact merge_den (h.put d) r
theorem mergeT_len {α : Type} : ∀ (ks' : List Key) (ts' : List α) (ks : List Key) (ts : List α), (mergeT ks ts ks' ts').1.length ≤ ks.length + ks'.length
  | [], _, ks, ts => by simp [mergeT]
  | _ :: _, [], ks, ts => by simp [mergeT]
  | k :: ks', t :: ts', ks, ts => by
    have h1 := mergeT_len ks' ts' (putKs ks k) (putVs ks ts k t)
    have h2 := putKs_len k ks
    show (mergeT (putKs ks k) (putVs ks ts k t) ks' ts').1.length ≤ _
    rw [List.length_cons]
    omega
theorem pairs_use : ∀ {fs : List ((Env → M T) × (Env → M T))} {w : Wd} {H : Hp} {r : RS} {α : Type} {k : List Key × List T → M α} {P : α → RS → Wd → Hp → Prop} {Q : List (V × V) → Hp → Prop}, Good G w H r → Slots G w H0 H σ env → OutP G w H (WE0 W σ) P ((fPairs fs env >>= k) r) →
    (∀ p r1 w1 H1 vs, Good G w1 H1 r1 → Slots G w1 H0 H1 σ env → Step w H w1 H1 → Dens G w1 vs p.2 → p.1.length = p.2.length → p.1.length = fs.length → OutP G w1 H1 (WE0 W σ) P (k p r1) → Q ((p.1.zip vs).map fun kv => (kV kv.1, kv.2)) H1) → tPairs (fs.map fun p => (tS G W p.1, tS G W p.2)) σ H Q
  | [], w, H, r, α, k, P, Q, g0, s, h, n => n ([], []) r w H [] g0 s (Step.refl _ _) .nil rfl rfl h
  | (f, g) :: fs, w, H, r, α, k, P, Q, g0, s, h, n => by
    have e : (fPairs ((f, g) :: fs) env >>= k) r = (f env >>= fun kk => g env >>= fun v => M.lift (keyT kk) >>= fun kk => fPairs fs env >>= fun p => k (kk :: p.1, v :: p.2)) r := by
      show M.bind (M.bind (f env) _) k r = M.bind (f env) _ r
      unfold M.bind
      cases f env r with
      | bad => rfl
      | exn c p r' => rfl
      | ok a r' =>
        show M.bind (M.bind (g env) _) k r' = M.bind (g env) _ r'
        unfold M.bind
        cases g env r' with
        | bad => rfl
        | exn c p r' => rfl
        | ok b r' =>
          show M.bind (M.bind (M.lift (keyT a)) _) k r' = M.bind (M.lift (keyT a)) _ r'
          unfold M.bind
          cases keyT a with
          | none => rfl
          | some kk =>
            show M.bind (M.bind (fPairs fs env) _) k r' = M.bind (fPairs fs env) _ r'
            unfold M.bind
            cases fPairs fs env r' <;> rfl
    rw [e] at h
    refine seqE g0 s h fun kk r1 w1 H1 x g1 s1 st1 d1 h1 => ?_
    refine seqE g1 s1 h1 fun v r2 w2 H2 y g2 s2 st2 d2 h2 => ?_
    cases q : keyT kk with
    | none => rw [q] at h2; exact h2.elim
    | some key =>
      rw [q] at h2
      have h2 : OutP G w2 H2 (WE0 W σ) P ((fPairs fs env >>= fun p => k (key :: p.1, v :: p.2)) r2) := h2
      refine pairs_use g2 s2 h2 fun p r3 w3 H3 vs g3 s3 st3 d3 l1 l2 h3 => ?_
      have := n (key :: p.1, v :: p.2) r3 w3 H3 (y :: vs) g3 s3 ((st1.trans st2).trans st3) (.cons (d2.mono st3.later) d3) (by simpa using l1) (by simpa using l2) h3
      rw [key_of' d1 q]
      exact this
def fDisp (fs : List ((Env → M T) × (Env → M T))) : Env → M (List Key × List T) := fun env => fPairs fs env >>= fun p => pure (mergeT [] [] p.1 p.2)
/-- a new dict -/
def tSN (G : Gm) (W : WX) (f : Env → M (List Key × List T)) : TE := fun σ H Q => ∃ w H0 env r, Good G w H r ∧ Slots G w H0 H σ env ∧
  OutP G w H (WE0 W σ) (fun p _ w' H' => ∀ a vs, ¬ Vs H a → w'.P a = none → a ∉ w'.R → H' a = some (.dK (p.1.zip vs)) → p.1.length = p.2.length → p.1.length ≤ sizeLine → Dens G w' vs p.2 → Q (.ref a) H') (f env r)
abbrev SN (X : Cx) (G : Gm) (W : WX) (e : Expr) (f : Env → M (List Key × List T)) : Prop := PE X e (tSN G W f)
theorem n_disp {keys : List (Option Expr)} {values : List Expr} {fs : List ((Env → M T) × (Env → M T))} (h : SPs X G W pos keys values fs) (hall : keys.all (·.isSome) = true) (hl : keys.length = values.length) (h0 : keys ≠ []) (h15 : keys.length ≤ 15) (hf : fs.length ≤ 15) : SN X G W (.Dict keys values pos) (fDisp fs) :=
  pe_imp (pe_disp h hall hl h0 h15) fun σ H Q ⟨w, H0, env, r, g0, s, h0⟩ => by
    intro p hp
    have st0 : Step w H w (upd H p (.dK [])) := (Step.refl w H).priv hp
    have g1 : Good G w (upd H p (.dK [])) r := g0.priv (g0.nopub hp) (g0.noref hp) (.inl hp)
    have hk : OutP G w (upd H p (.dK [])) (WE0 W σ) (fun q r1 _ _ => OutP G w H (WE0 W σ) (fun p _ w' H' => ∀ a vs, ¬ Vs H a → w'.P a = none → a ∉ w'.R → H' a = some (.dK (p.1.zip vs)) → p.1.length = p.2.length → p.1.length ≤ sizeLine → Dens G w' vs p.2 → Q (.ref a) H') (.ok (mergeT [] [] q.1 q.2) r1)) ((fPairs fs env >>= M.pure) r) := by
      have h0 : OutP G w H (WE0 W σ) (fun p _ w' H' => ∀ a vs, ¬ Vs H a → w'.P a = none → a ∉ w'.R → H' a = some (.dK (p.1.zip vs)) → p.1.length = p.2.length → p.1.length ≤ sizeLine → Dens G w' vs p.2 → Q (.ref a) H') (M.bind (fPairs fs env) (fun p => M.pure (mergeT [] [] p.1 p.2)) r) := h0
      show OutP G w (upd H p (.dK [])) (WE0 W σ) _ (M.bind (fPairs fs env) M.pure r)
      unfold M.bind at h0 ⊢
      cases q : fPairs fs env r with
      | ok a r' => rw [q] at h0; exact fun _ _ _ _ => h0
      | exn c p r' => rw [q] at h0; exact fun w' H' cls d s1 g' x => h0 w' H' cls d (st0.trans s1) g' x
      | bad => rw [q] at h0; exact h0
    refine pairs_use g1 (s.step st0) hk fun q r1 w1 H1 vs g2 s2 st2 d2 l1 l2 h1 => ?_
    have h1 := OutP.here g2 h1
    have hh : H1 p = some (.dK []) := st2.fr _ _ (g0.noref hp) upd_same (by intro _ e; cases e)
    have hP := st2.hid p (g0.noref hp) (vs_of upd_same) (g0.nopub hp)
    have hR := st2.noR (g0.noref hp) (vs_of upd_same)
    refine ⟨hh, q.1.zip vs, rfl, by rw [List.length_zip, d2.length]; omega, ?_⟩
    obtain ⟨m1, m2⟩ := merge_zip q.1 vs [] [] rfl
    obtain ⟨m3, m4⟩ := merge_den (ks' := q.1) (ks := []) (Dens.nil (G := G) (w := w1)) d2
    have em : mergeK [] (q.1.zip vs) = (mergeT [] [] q.1 q.2).1.zip (mergeT [] [] q.1 vs).2 := by
      have := m1
      rw [m4] at this
      exact this
    rw [em]
    have hz : (mergeT [] [] q.1 q.2).1.length ≤ sizeLine := by
      have := mergeT_len q.1 q.2 [] []
      rw [sizeLine_eq]
      simp only [List.length_nil] at this
      omega
    refine h1 w1 _ ((st0.trans st2).chg (nvs hp)) (g2.priv hP hR (.inr ⟨_, hh, ⟨fun _ e => (by cases e), fun _ e => (by cases e)⟩⟩)) p _ (nvs hp) hP hR upd_same ?_ hz m3
    rw [m4] at m2
    rw [m2, m3.length]
def qOwnD (i : Nat) (f : Env → M (List Key × List T)) : Sm := fun env r => ofM env (fun p r => .nx (env.set i (.pv (.dk p.1 p.2))) r) (f env r)
theorem ss_ownD {i : Nat} {x : Str} {pos' : Pos} {f : Env → M (List Key × List T)} (hN : X.N.Nodup) (hi : X.N[i]? = some x) (hx : Loc X.env.scope x) (he : SN X G W e f) (hs : swapsWith e (some (.Name x pos')) pos.line X.env = pure false := by rfl) (hf : X.fn x = true ∨ X.env.scope.names.lookup x = some .local := by first | exact .inl rfl | exact .inr rfl | assumption) :
    SS X G W (.Assign [.Name x pos'] e pos) (qOwnD i f) := fun w0 H0 => ps_imp (ps_set hN hi hx he hs hf) fun D σ H ⟨w, env, r, a, h⟩ => by
  refine ⟨w, H0, env, r, a.g, a.s, (FlowP.ofM a h).imp fun xs r1 w1 H1 st g1 q p vs hp hP hR hh hl hz d => ?_⟩
  obtain ⟨a1, h1⟩ := q
  exact h1 w1 H1 _ a1.st a1.g (a1.s.setOwn i (fun j sl b hj pj hb => a.notNew hj pj hb hp) hP hR (fun z => hp (a.st.keep _ z)) hh (.dk hl hz d))
def fNewD (f : Env → M (List Key × List T)) : Env → M T := fun env => f env >>= fun p => pure (.dct p.1 p.2)
theorem s_newD {f : Env → M (List Key × List T)} (h : SN X G W a f) : SE X G W a (fNewD f) := pe_imp h fun σ H Q ⟨w, H0, env, r, g, s, h⟩ => by
  refine ⟨w, H0, env, r, g, s, ?_⟩
  have h : OutP G w H (WE0 W σ) (fun t _ w' H' => ∀ v, Den G w' v t → Q v H') (M.bind (f env) (fun p => M.pure (T.dct p.1 p.2)) r) := h
  unfold M.bind at h
  cases q : f env r with
  | ok p r1 =>
    rw [q] at h
    intro w1 H1 st g1 a vs ha hP hR hh hl hz d
    exact h (w1.add a _) H1 (st.publish ha hP) (g1.publish hP hR hh) _ (.dct upd_same hl (d.mono (Later.add hP)))
  | exn c p r1 => rw [q] at h; exact h
  | bad => rw [q] at h; exact h
/-! ### stores into an own dict -/
def dkAt (env : Env) (i : Nat) : Option (List Key × List T) := match env[i]? with
  | some (.pv (.dk ks ts)) => some (ks, ts)
  | _ => none
theorem dkAt_eq {i : Nat} {ks : List Key} {ts : List T} (h : dkAt env i = some (ks, ts)) : env[i]? = some (.pv (.dk ks ts)) := by
  unfold dkAt at h
  split at h
  · rename_i e; cases h; exact e
  · cases h
/-- what d[k] = v makes of the slots -/
def putD (i : Nat) (env : Env) (t k : T) : Option Env := (dkAt env i).bind fun p => (keyT k).bind fun k => if p.1.length < sizeLine then some (env.set i (.pv (.dk (putKs p.1 k) (putVs p.1 p.2 k t)))) else none
theorem At.putD {w0 w : Wd} (a : At G w0 H0 w H σ env r) {i : Nat} {v y : V} {t k : T} {env' : Env} (dv : Den G w v t) (dk : Den G w y k) (h : Ep.putD i env t k = some env') : ∃ p H', σ[i]? = some (some (.ref p)) ∧ DPut H p y v H' ∧ At G w0 H0 w H' σ env' r := by
  unfold Ep.putD at h
  cases q : dkAt env i with
  | none => rw [q] at h; cases h
  | some kt =>
    obtain ⟨ks, ts⟩ := kt
    rw [q] at h
    cases q2 : keyT k with
    | none => simp [q2] at h
    | some key =>
      simp only [q2, Option.bind_some] at h
      by_cases hl : ks.length < sizeLine
      · rw [if_pos hl] at h
        cases h
        obtain ⟨p, o, e1, e2, ok⟩ := a.thing (dkAt_eq q)
        cases ok with
        | @dk _ vs _ l z d =>
          refine ⟨p, _, e1, by rw [key_of' dk q2]; exact DPut.k e2 (by rw [List.length_zip, d.length]; omega), ?_⟩
          rw [putK_zip key v (by rw [l, d.length])]
          exact a.pv (dkAt_eq q) e1 (.dk (putKV_len key t l) (Nat.le_trans (putKs_len key ks) hl) (d.put dv))
      · rw [if_neg hl] at h; cases h
def qDput (i : Nat) (f g : Env → M T) : Sm := fun env r => if (dkAt env i).isSome = true then ofM env (fun t r => ofM env (fun k r => match putD i env t k with
  | some env' => .nx env' r
  | none => .bad) (g env r)) (f env r) else .bad
theorem At.dkA {w0 w : Wd} (a : At G w0 H0 w H σ env r) {i : Nat} (h : (dkAt env i).isSome = true) : ∃ p, σ[i]? = some (some (.ref p)) := by
  cases q : dkAt env i with
  | none => rw [q] at h; cases h
  | some kt =>
    obtain ⟨p, o, e1, _, _⟩ := a.thing (dkAt_eq (ks := kt.1) (ts := kt.2) q)
    exact ⟨p, e1⟩
theorem ss_dput {x : Str} {px spos : Pos} (i : Nat) (hu : X.A.units + 1 < cLine) (hN : X.N[i]? = some x) (hv : Vis X.env.scope x) (he : SE X G W e f) (hi : SE X G W ix g) (hs : swapsWith e (some (.Subscript (.Name x px) ix spos)) pos.line X.env = pure false := by rfl)
    (hd : (x == ("__debug__" : Str)) = false := by decide) (hcd : (x == ("__classdict__" : Str)) = false := by decide) : SS X G W (.Assign [.Subscript (.Name x px) ix spos] e pos) (qDput i f g) := fun w0 H0 =>
  ps_imp (ps_dput hu (pe_var hN hv hd hcd) hi he hs) fun D σ H ⟨w, env, r, a, h⟩ => by
    unfold qDput at h
    by_cases hc : (dkAt env i).isSome = true
    · rw [if_pos hc] at h
      refine at_e a h fun t r1 w1 H1 v a1 d h1 => ?_
      obtain ⟨p, e1⟩ := a1.dkA hc
      refine ⟨_, e1, at_eS a1 h1 fun k r2 w2 H2 y st2 a2 d2 h2 => ?_⟩
      cases q : putD i env t k with
      | none => rw [q] at h2; exact h2.elim
      | some env' =>
        rw [q] at h2
        obtain ⟨p', H', e2, dp, a3⟩ := a2.putD (d.mono st2.later) d2 q
        rw [e1] at e2
        cases e2
        exact ⟨p, H', rfl, dp, h2 w2 H' σ a3.st a3.g a3.s⟩
    · rw [if_neg hc] at h; exact h.elim
/-! ### targets that are places -/
abbrev nxD (Q : L2.St → Hp → Prop) : Ends := { nx := Q, rt := fun _ _ => False }
def tGq (G : Gm) (W : WX) (h : T → Sm) : TG := fun v σ H Q => ∃ w0 H0 w env r t, At G w0 H0 w H σ env r ∧ Den G w v t ∧ FlowP G W w0 H0 (nxD Q) (h t env r)
def tGqs (G : Gm) (W : WX) (h : List T → Sm) : TGs := fun vs σ H Q => ∃ w0 H0 w env r ts, At G w0 H0 w H σ env r ∧ Dens G w0 vs ts ∧ FlowP G W w0 H0 (nxD Q) (h ts env r)
abbrev SGq (X : Cx) (G : Gm) (W : WX) (tg : Expr) (h : T → Sm) : Prop := PG X tg (tGq G W h)
abbrev SGqs (X : Cx) (G : Gm) (W : WX) (tg : List Expr) (h : List T → Sm) : Prop := PGs X tg (tGqs G W h)
def hqOf (h : T → Env → Option Env) : T → Sm := fun t env r => match h t env with
  | some env' => .nx env' r
  | none => .bad
theorem gq_of {us : List Nat} {tg : Expr} {h : T → Env → Option Env} (hg : SG X G us tg h) : SGq X G W tg (hqOf h) := pg_imp (pg_x hg) fun v σ H Q ⟨w0, H0, w, env, r, t, a, d, fl⟩ => by
  unfold hqOf at fl
  cases q : h t env with
  | none => rw [q] at fl; exact fl.elim
  | some env' =>
    rw [q] at fl
    exact ⟨w0, H0, w, env, r, t, env', a, d, q, fun σ' s' _ => fl w H σ' a.st a.g s'⟩
def hqNil : List T → Sm := fun ts env r => match ts with
  | [] => .nx env r
  | _ => .bad
def hqCons (h : T → Sm) (hs : List T → Sm) : List T → Sm := fun ts env r => match ts with
  | t :: ts => (match h t env r with
    | .nx env' r' => hs ts env' r'
    | .exn c p e r' => .exn c p e r'
    | _ => .bad)
  | [] => .bad
theorem gqs_nil : SGqs X G W [] hqNil := pgs_imp pgs_nil fun vs σ H Q ⟨w0, H0, w, env, r, ts, a, d, fl⟩ => by
  cases d with
  | nil => exact ⟨rfl, fl w H σ a.st a.g a.s⟩
  | cons _ _ => exact fl.elim
theorem gqs_cons {tg : Expr} {tgs : List Expr} {h : T → Sm} {hs : List T → Sm} (h1 : SGq X G W tg h) (h2 : SGqs X G W tgs hs) (he : (assignEach (tg :: tgs) X.env).map (·.2) = assign tg X.env :: (assignEach tgs X.env).map (·.2) := by rfl) : SGqs X G W (tg :: tgs) (hqCons h hs) :=
  pgs_imp (pgs_cons h1 h2 he) fun vs σ H Q ⟨w0, H0, w, env, r, ts, a, d, fl⟩ => by
    cases d with
    | nil => exact fl.elim
    | @cons v vs t ts d1 d2 =>
      unfold hqCons at fl
      simp only at fl
      refine ⟨v, vs, rfl, w0, H0, w, env, r, t, a, d1.mono a.st.later, ?_⟩
      cases o : h t env r with
      | nx env' r' => rw [o] at fl; exact fun w' H' σ' st g s => ⟨w0, H0, w', env', r', ts, ⟨st, g, s⟩, d2, fl⟩
      | exn c p e r' => rw [o] at fl; exact fl
      | _ => rw [o] at fl; exact fl.elim
def hqTup (n : Nat) (hs : List T → Sm) : T → Sm := fun t env r => match t with
  | .tup ts => if ts.length = n then hs ts env r else .bad
  | _ => .bad
theorem gq_tup {es : List Expr} {k n : Nat} {hs : List T → Sm} (hc : X.calm = true) (hK : X.K = G.K) (h : SGqs X G W es hs) (hn : (assignEach es X.env).length = n := by rfl) (hst : (assignEach es X.env).findIdx? (·.1) = none := by rfl) : SGq X G W (.Tuple es k pos) (hqTup n hs) :=
  pg_imp (pg_tup hc h hn hst) fun v σ H Q ⟨w0, H0, w, env, r, t, a, d, fl⟩ => by
    cases d with
    | @tup p vs ts hh z dd =>
      have fl : FlowP G W w0 H0 (nxD Q) (if ts.length = n then hs ts env r else .bad) := fl
      by_cases hl : ts.length = n
      · rw [if_pos hl] at fl
        obtain ⟨Hb, st, ab⟩ := a.rebase
        rw [hK]
        exact ⟨p, vs, rfl, tup_sq a.g.sub hh, by rw [dd.length]; exact hl, w, Hb, w, env, r, ts, ab, dd, fl.base st⟩
      · rw [if_neg hl] at fl; exact fl.elim
    | _ => exact fl.elim
def hqDput (i : Nat) (g : Env → M T) : T → Sm := fun t env r => if (dkAt env i).isSome = true then ofM env (fun k r => match putD i env t k with
  | some env' => .nx env' r
  | none => .bad) (g env r) else .bad
theorem pset_d (hu : X.A.units + 1 < cLine) : PSet X (fun o y v H Q => ∃ a H', o = .ref a ∧ DPut H a y v H' ∧ Q H') := by
  intro pins s σ H o i v ov iv u Q I r1 r2 r3 ⟨a, H', e, dp, q⟩
  subst e
  obtain rfl : ov = Value.ref a := r1
  exact d_setItem hu I dp r2 r3 fun s' I' => ⟨H', I', q⟩
theorem gq_dput {x : Str} {px : Pos} (i : Nat) (hu : X.A.units + 1 < cLine) (hN : X.N[i]? = some x) (hv : Vis X.env.scope x) (hi : SE X G W ix g)
    (ha : ∀ v, assign (.Subscript (.Name x px) ix pos) X.env v = (do let ov ← holding [v] (eval (.Name x px) X.env); let iv ← holding [v, ov] (eval ix X.env); standAt pos; holding [v, ov, iv] (setItem ov iv v); release [v, ov, iv] []) := by intro _; rfl) (hd : (x == ("__debug__" : Str)) = false := by decide) (hcd : (x == ("__classdict__" : Str)) = false := by decide) : SGq X G W (.Subscript (.Name x px) ix pos) (hqDput i g) :=
  pg_imp (pg_sub (pe_var hN hv hd hcd) hi (pset_d hu) ha) fun v σ H Q ⟨w0, H0, w, env, r, t, a, d, fl⟩ => by
    unfold hqDput at fl
    by_cases hc : (dkAt env i).isSome = true
    · rw [if_pos hc] at fl
      obtain ⟨p, e1⟩ := a.dkA hc
      refine ⟨_, e1, at_eS a fl fun k r2 w2 H2 y st2 a2 d2 h2 => ?_⟩
      cases q : putD i env t k with
      | none => rw [q] at h2; exact h2.elim
      | some env' =>
        rw [q] at h2
        obtain ⟨p', H', e2, dp, a3⟩ := a2.putD (d.mono st2.later) d2 q
        rw [e1] at e2
        cases e2
        exact ⟨p, H', rfl, dp, h2 w2 H' σ a3.st a3.g a3.s⟩
    · rw [if_neg hc] at fl; exact fl.elim
def qAsgq (f : Env → M T) (h : T → Sm) : Sm := fun env r => ofM env (fun t r => match h t env r with
  | .nx env' r' => .nx env' r'
  | .exn c p e r' => .exn c p e r'
  | _ => .bad) (f env r)
theorem ss_asgq {tg : Expr} {h : T → Sm} (he : SE X G W e f) (hg : SGq X G W tg h) (hs : swapsWithSole [tg] e pos.line X.env = pure false := by rfl) (hw : swappedStores [tg] e X.env = pure none := by rfl)
    (h1 : (assignEach [tg] X.env).map (·.2) = [assign tg X.env] := by rfl) : SS X G W (.Assign [tg] e pos) (qAsgq f h) := fun w0 H0 => ps_imp (ps_asg he hg hs hw h1) fun D σ H ⟨w, env, r, a, hq⟩ =>
  at_e a hq fun t r1 w1 H1 v a1 d h2 => by
    refine ⟨w0, H0, w1, env, r1, t, a1, d, ?_⟩
    cases o : h t env r1 with
    | nx env' r' => rw [o] at h2; exact h2
    | exn c p e r' => rw [o] at h2; exact h2
    | _ => rw [o] at h2; exact h2.elim
/-! ### dicts of the top, str keys -/
structure GdOk (wd : World) (G : Gm) (x : Str) (tb : Str → Option T) : Prop where
  ex : ∃ p es n, G.mg x = some (.ref p) ∧ G.K.lookup p = some ⟨.type "dict", none, .dict es n, #[]⟩ ∧ PySem.W.KeysLit wd.params es.toList ∧ (p == sysModules) = false ∧ ∀ z, (∀ t, tb z = some t → ∃ u v, PySem.W.nsIn G.K p z = some (some u) ∧ RelV v u ∧ ∀ w, Den G w v t)
def fGd (tb : Str → Option T) (f : Env → M T) : Env → M T := fun env => f env >>= fun t => match t with
  | .str z => M.lift (tb z)
  | _ => M.bad
theorem s_gd {x : Str} {px : Pos} {tb : Str → Option T} (ok : GdOk X.w G x tb) (hK : X.K = G.K) (hM : X.mg = G.mg) (hg : Gl X x) (hi : SE X G W ix f) (hs : PlainIx ix) (hd : (x == ("__debug__" : Str)) = false := by decide) : SE X G W (.Subscript (.Name x px) ix pos) (fGd tb f) := by
  obtain ⟨p, es, n, h1, h2, h3, _, h4⟩ := ok.ex
  refine pe_imp (pe_ix ix_kdict (pe_glob (v := .ref p) hg (by rw [hM]; exact h1) rfl hd) hi hs) fun σ H Q ⟨w, H0, env, r, g0, s, h0⟩ => ?_
  refine seqE g0 s h0 fun t r1 w1 H1 y g1 s1 st1 d1 hq => ?_
  cases d1 with
  | str z =>
    obtain ⟨u, eu, h5⟩ := liftP hq
    obtain ⟨uu, v, e1, e2, e3⟩ := h4 z u eu
    rw [hK]
    exact ⟨p, z, v, rfl, rfl, ⟨es, n, uu, h2, h3, e1, e2⟩, h5 w1 H1 (Step.refl _ _) g1 v (e3 w1)⟩
  | _ => exact hq.elim
end
end Ep
namespace Ep
open PySem PySem.Spec L2
/-! ### operators by a class's own defs -/
def own2 (C : Nat) (F : List T → M T) : T → T → M T := fun x y => match x with
  | .obj D vs => if D = C then noEx (F [.obj D vs, y]) else M.bad
  | _ => M.bad
def fOwn2 (C : Nat) (F : List T → M T) (f g : Env → M T) : Env → M T := fun env => f env >>= fun x => g env >>= fun y => own2 C F x y
def r2own (G : Gm) (C : Nat) (h : T → T → M T) : R2 := fun x y H Q => ∃ w r t u, Good G w H r ∧ Den G w x t ∧ Den G w y u ∧ OutP G w H (fun _ _ _ => False) (fun t _ w' H' => ∀ v, Den G w' v t → Q v H') (h t u r)
section
variable {X : Cx} {G : Gm} {W : WX} {pos : Pos} {a b : Expr} {f g : Env → M T} {C j k : Nat} {F : List T → M T} {m : Str}
theorem own_use {h : T → T → M T} {σ : L2.St} {H : Hp} {Q : VK} (hne : ∀ t u r c p r', h t u r ≠ .exn c p r') (hq : tS G W (fun env => f env >>= fun x => g env >>= fun y => h x y) σ H Q) : tOp (r2own G C h) (tS G W f) (tS G W g) σ H Q := by
  obtain ⟨w, H0, env, r, g0, s, h0⟩ := hq
  refine seqE g0 s h0 fun t r1 w1 H1 x g1 s1 st1 d1 h1 => ?_
  refine seqE g1 s1 h1 fun u r2 w2 H2 y g2 s2 st2 d2 h2 => ?_
  refine ⟨w2, r2, t, u, g2, d1.mono st2.later, d2, ?_⟩
  cases o : h t u r2 with
  | ok z r3 => rw [o] at h2; exact h2
  | exn c p r3 => exact absurd o (hne t u r2 c p r3)
  | bad => rw [o] at h2; exact h2
theorem noEx_ne {α : Type} (m : M α) (r : RS) (c : Nat) (p : T) (r' : RS) : noEx m r ≠ .exn c p r' := by
  unfold noEx
  cases m r <;> simp
theorem own2_ne (t u : T) (r : RS) (c : Nat) (p : T) (r' : RS) : own2 C F t u r ≠ .exn c p r' := by
  unfold own2
  split
  · split
    · exact noEx_ne _ _ _ _ _
    · simp
  · simp
/-- the two operands, the def that is called -/
theorem own_args {x y : V} {v u : Value} {pins : List (Addr × Obj)} {s : Shared} {σ : L2.St} {H : Hp} {Q : VK} (D : MethOk X.prog X.w X.base G k C m 2 [] F) (hK : X.K = G.K) (hM : X.mg = G.mg) (hr : Room j X.A) (hk : k ≤ j) (I : L2.Inv X pins σ H s) (rx : RelV x v) (ry : RelV y u)
    (h : r2own G C (own2 C F) x y H Q) : ∃ (p cA fn : Addr) (od : Obj × Option Obj), v = .ref p ∧ G.mg (G.cn C) = some (.ref cA) ∧ PySem.W.InstAt s.heap p od.1 cA od.2 ∧ PySem.W.findIn X.K (.ref cA) m = some (some (.ref fn)) ∧ PySem.W.isFn X.K (.ref fn) = true ∧
      ∀ A : Around, Room k A → Env0 X.prog X.w X.K X.mg X.base A X.stack s H → wpAny (model X.prog X.w) A (call (.ref fn) [.ref p, u]) (EP X pins σ Q) X.xe s := by
  obtain ⟨w, r, t, u', g0, d1, d2, h⟩ := h
  obtain ⟨cA, fn, fd, ps, dvs, dus, c1, c2, c3, h1, h4, h5, h6⟩ := D.ex
  rw [← hK, ← hM] at h1
  cases d1 with
  | @obj p cA' dx C' vs ts c hh l d =>
    by_cases hC : C' = C
    · subst hC
      have h : OutP G w H (fun _ _ _ => False) (fun t _ w' H' => ∀ v, Den G w' v t → Q v H') (noEx (F [.obj C' ts, u']) r) := by simpa [own2] using h
      rw [c1] at c
      cases c
      obtain rfl : v = Value.ref p := rx
      obtain ⟨mA, J, _⟩ := ins_get I.hok (g0.sub _ _ hh)
      obtain ⟨od, J, _⟩ := J.look
      have hd0 : dvs = [] := by
        have := h6 w
        generalize dvs = q at this
        cases this; rfl
      subst hd0
      cases h5
      refine ⟨p, cA, fn, (_, _), rfl, c1, J, by rw [hK]; exact c3.at_, by rw [hK]; exact c3.fn, fun A hrA e0 => ?_⟩
      have hsp : spF G 2 F [.ref p, y] H Q (fun _ _ _ => False) := by
        refine ⟨w, r, [.obj C' ts, u'], g0, .cons (.obj c1 hh l d) (.cons d2 .nil), rfl, ?_⟩
        unfold noEx at h
        cases o : F [.obj C' ts, u'] r with
        | ok z r' => rw [o] at h; exact h
        | exn c p r' => rw [o] at h; exact h.elim
        | bad => rw [o] at h; exact h.elim
      have hl := h1.len _ _ _ _ hsp
      refine wpAny_call (codeAny_mono (h1.run A X.stack s H ⟨[.ref p, u], []⟩ [.ref p, u] [.ref p, y] Q (fun _ _ _ => False) hrA e0 (by
        have := h4 s [.ref p, u] (by rw [← hK]; exact I.kIn) (by simpa using hl)
        simpa using this) (.cons rfl (.cons ry .nil)) hsp) fun res s' hq => ?_)
      cases res with
      | error e => exact passAt (W := fun _ _ _ _ => False) takes0 σ pins H s e s' I hq
      | ok fl =>
        cases fl with
        | ret u => exact I.after hq
        | next => exact False.elim hq
        | brk => exact False.elim hq
        | cont => exact False.elim hq
    · have h : OutP G w H (fun _ _ _ => False) (fun t _ w' H' => ∀ v, Den G w' v t → Q v H') ((M.bad : M T) r) := by simpa [own2, hC] using h
      exact h.elim
  | _ => exact h.elim
/-- y is of the same class -/
def sameT (C : Nat) : T → T → Bool
  | _, .obj D _ => decide (D = C)
  | _, _ => false
def own2s (C : Nat) (F : List T → M T) : T → T → M T := fun x y => if sameT C x y = true then own2 C F x y else M.bad
theorem own2s_ne (t u : T) (r : RS) (c : Nat) (p : T) (r' : RS) : own2s C F t u r ≠ .exn c p r' := by
  unfold own2s
  split
  · exact own2_ne _ _ _ _ _ _
  · simp
theorem same_of {x y : V} {H : Hp} {Q : VK} (h : r2own G C (own2s C F) x y H Q) : r2own G C (own2 C F) x y H Q ∧ ∃ p cA dx fs, y = .ref p ∧ G.mg (G.cn C) = some (.ref cA) ∧ H p = some (.ins cA dx fs) := by
  obtain ⟨w, r, t, u, g0, d1, d2, h⟩ := h
  unfold own2s at h
  by_cases hs : sameT C t u = true
  · rw [if_pos hs] at h
    refine ⟨⟨w, r, t, u, g0, d1, d2, h⟩, ?_⟩
    cases d2 with
    | obj c hh l d =>
      have := of_decide_eq_true hs
      subst this
      exact ⟨_, _, _, _, rfl, c, g0.sub _ _ hh⟩
    | _ => simp [sameT] at hs
  · rw [if_neg hs] at h; exact h.elim
/-- a op b, both of the class -/
theorem op_ownB {op : Operator} (D : MethOk X.prog X.w X.base G k C (PySem.dunder op.info.2) 2 [] F) (hK : X.K = G.K) (hM : X.mg = G.mg) (hr : Room j X.A) (hk : k ≤ j) (hf : ∀ cA, G.mg (G.cn C) = some (.ref cA) → PySem.W.selfFirst G.K cA = true) : OpR X (binaryOp op) (r2own G C (own2s C F)) := by
  intro pins s σ H x y v u Q I rx ry h
  obtain ⟨h, q, cA', dx, fs, e, c', hq⟩ := same_of h
  obtain ⟨p, cA, fn, od, rfl, c, J, fi, ff, run⟩ := own_args D hK hM hr hk I rx ry h
  rw [c] at c'
  cases c'
  subst e
  obtain rfl : u = Value.ref q := ry
  obtain ⟨mA, J', _⟩ := ins_get I.hok hq
  obtain ⟨od', J', _⟩ := J'.look
  obtain ⟨m, hF⟩ := I.fr
  refine PySem.W.binop_K hF I.ok.mod.kin J J'.type (by rw [hK]; exact hf _ c) fi ff (wpAny_mono (run X.A (hr.mono hk) I.env0) (fun w s' z => ?_) fun _ _ e => e)
  obtain ⟨z', H', I', rz, qz⟩ := z
  exact SlX.cmpback rz ⟨z', H', I', rz, qz⟩
theorem s_ownB {op : Operator} (D : MethOk X.prog X.w X.base G k C (PySem.dunder op.info.2) 2 [] F) (hK : X.K = G.K) (hM : X.mg = G.mg) (hr : Room j X.A) (hk : k ≤ j) (hf : ∀ cA, G.mg (G.cn C) = some (.ref cA) → PySem.W.selfFirst G.K cA = true) (ha : SE X G W a f) (hb : SE X G W b g) :
    SE X G W (.BinOp a op b pos) (fun env => f env >>= fun x => g env >>= fun y => own2s C F x y) := pe_imp (pe_op (op_ownB D hK hM hr hk hf) ha hb) fun σ H Q hq => own_use own2s_ne hq
theorem op_ownC {op : CmpOp} (hop : ∀ a b, compareOp op a b = richCompare op a b) (D : MethOk X.prog X.w X.base G k C (cmpInfo op).2.1 2 [] F) (hK : X.K = G.K) (hM : X.mg = G.mg) (hr : Room j X.A) (hk : k ≤ j) : OpR X (compareOp op) (r2own G C (own2s C F)) := by
  intro pins s σ H x y v u Q I rx ry h
  obtain ⟨h, q, cA', dx, fs, e, c', hq⟩ := same_of h
  obtain ⟨p, cA, fn, od, rfl, c, J, fi, ff, run⟩ := own_args D hK hM hr hk I rx ry h
  rw [c] at c'
  cases c'
  subst e
  obtain rfl : u = Value.ref q := ry
  obtain ⟨mA, J', _⟩ := ins_get I.hok hq
  obtain ⟨od', J', _⟩ := J'.look
  obtain ⟨m, hF⟩ := I.fr
  rw [hop]
  refine PySem.W.cmp_K (op := op) (tb := .ref cA') hr.units0 hF I.ok.mod.kin J J'.type (by simp [PySem.W.notFirst]) fi ff (wpAny_mono (run X.A (hr.mono hk) I.env0) (fun w s' z => ?_) fun _ _ e => e)
  obtain ⟨z', H', I', rz, qz⟩ := z
  exact SlX.cmpback rz ⟨z', H', I', rz, qz⟩
theorem s_ownC {op : CmpOp} (hop : ∀ a b, compareOp op a b = richCompare op a b) (D : MethOk X.prog X.w X.base G k C (cmpInfo op).2.1 2 [] F) (hK : X.K = G.K) (hM : X.mg = G.mg) (hr : Room j X.A) (hk : k ≤ j) (ha : SE X G W a f) (hb : SE X G W b g) (hm : behindInMarks op b = false) :
    SE X G W (.Compare a [op] [b] pos) (fun env => f env >>= fun x => g env >>= fun y => own2s C F x y) := pe_imp (pe_cmpR (op_ownC hop D hK hM hr hk) ha hb hm) fun σ H Q hq => own_use own2s_ne hq
/-- a != b, the class with an own == and no own != -/
structure NeOk (G : Gm) (C : Nat) : Prop where
  ok : ∀ cA, G.mg (G.cn C) = some (.ref cA) → PySem.W.findIn G.K (.ref cA) "__ne__" = some (some (.builtin "object.__ne__")) ∧ PySem.W.mroIn G.K cA (.type "object") = some true
/-- what a class says of != where it keeps the object's own: that slot, bound to the instance -/
theorem ne_bound {M : Model} {A : Around} {E : Value → Shared → Prop} {s : Shared} {K : PySem.W.Frag} {x cA : Addr} {ox : Obj} {od : Option Obj} {Q : Option (Value × List Value) → Shared → Prop} (kin : K.In s.heap) (at_x : PySem.W.InstAt s.heap x ox cA od)
    (own : PySem.W.findIn K (.ref cA) "__ne__" = some (some (.builtin "object.__ne__"))) (h : Q (some (.builtin "object.__ne__", [.ref x])) s) : wpAny M A (bindSpecialIfBound? (.ref x) "__ne__") Q E s := by
  have bnd : wpAny M A (bindSpecial (.builtin "object.__ne__") (.ref x) >>= fun m => pure (some m)) Q E s := wpAny_of_eq (PySem.F.cmp_object.ne.bind _ ▸ rfl) h
  unfold bindSpecialIfBound?
  exact wpAny_bind (wpAny_bind (at_x.type.here (PySem.W.looks_findIn kin own |>.here (wpAny_bind (wpAny_askSetting (wpAny_ite (by split <;> first | exact bnd | exact wpAny_tryCatch bnd)))))))
theorem ifBound_ne {M : Model} {A : Around} {E : Value → Shared → Prop} {s : Shared} {K : PySem.W.Frag} {x cA : Addr} {ox : Obj} {od : Option Obj} {args : List Value} {Q : Option Value → Shared → Prop} (kin : K.In s.heap) (at_x : PySem.W.InstAt s.heap x ox cA od)
    (own : PySem.W.findIn K (.ref cA) "__ne__" = some (some (.builtin "object.__ne__"))) (h : wpAny M A (call (.builtin "object.__ne__") (.ref x :: args)) (fun v => Q (some v)) E s) : wpAny M A (callSpecialIfBound? (.ref x) "__ne__" args) Q E s :=
  wpAny_holding (wpAny_bind (ne_bound kin at_x own (wpAny_bind (wpAny_mono h (fun _ _ => wpAny_pure) fun _ _ => id))))
def negB : T → M T
  | .bl b => pure (.bl !b)
  | _ => M.bad
def own2n (C : Nat) (F : List T → M T) : T → T → M T := fun x y => own2s C F x y >>= negB
theorem own2n_ne (t u : T) (r : RS) (c : Nat) (p : T) (r' : RS) : own2n C F t u r ≠ .exn c p r' := by
  show M.bind (own2s C F t u) negB r ≠ _
  unfold M.bind
  cases o : own2s C F t u r with
  | ok a r2 => cases a <;> simp [negB, M.bad, pure, M.pure]
  | exn c' p' r2 => exact absurd o (own2s_ne t u r c' p' r2)
  | bad => simp
theorem neg_of {x y : V} {H : Hp} {Q : VK} (h : r2own G C (own2n C F) x y H Q) : r2own G C (own2s C F) x y H (fun v H' => ∃ b, v = .bl b ∧ Q (.bl !b) H') := by
  obtain ⟨w, r, t, u, g0, d1, d2, h⟩ := h
  refine ⟨w, r, t, u, g0, d1, d2, ?_⟩
  have h : OutP G w H (fun _ _ _ => False) (fun t _ w' H' => ∀ v, Den G w' v t → Q v H') (M.bind (own2s C F t u) negB r) := h
  unfold M.bind at h
  cases o : own2s C F t u r with
  | ok a r2 =>
    rw [o] at h
    cases a with
    | bl b =>
      intro w' H' st g' v d
      cases d
      exact ⟨b, rfl, h w' H' st g' _ (.bl !b)⟩
    | _ => exact h.elim
  | exn c' p' r2 => rw [o] at h; exact h
  | bad => rw [o] at h; exact h.elim
theorem objNe_entry {prog : Program} {w : World} {A : Around} {E : Value → Shared → Prop} {s : Shared} {K : PySem.W.Frag} {x cA fn : Addr} {y : Value} {ox : Obj} {od : Option Obj} {Q : Fin → Shared → Prop} (kin : K.In s.heap) (at_x : PySem.W.InstAt s.heap x ox cA od) (own : PySem.W.findIn K (.ref cA) "__eq__" = some (some (.ref fn))) (def_ : PySem.W.isFn K (.ref fn) = true) (room : A.units < cLine)
    (asked : wpAny (model prog w) A (call (.ref fn) [.ref x, y]) (fun v s' => ∃ b, v = .bool b ∧ Q (.done (.ret (.bool (!b)))) s') E s) : wpAny (model prog w) A (Builtin.«object.__ne__» ⟨[.ref x, y], []⟩) Q E s := by
  show wpAny _ A (cRoomFor "comparison" [.ref x, y] >>= _) Q E s
  refine wpAny_bind (wpAny_cRoomFor room (wpAny_bind (PySem.W.ifBound_K kin at_x own def_ (wpAny_mono asked (fun v s' said => ?_) fun _ _ => id))))
  obtain ⟨b, rfl, said⟩ := said
  exact wpAny_bind (wpAny_truthy_bool (wpAny_pure said))
/-- != of two things of one class, where the left one's own != answers -/
theorem rich_ne {M : Model} {A : Around} {E : Value → Shared → Prop} {s : Shared} {l r cA : Addr} {ol oR : Obj} {dl dr : Option Obj} {Q : Value → Shared → Prop} (left : PySem.W.InstAt s.heap l ol cA dl) (right : PySem.W.InstAt s.heap r oR cA dr) (room : A.units < cLine)
    (answer : wpAny M A (tryCompare (.ref l) "__ne__" (.ref r)) (fun o s' => ∃ v, o = some v ∧ Q v s') E s) : wpAny M A (richCompare .NotEq (.ref l) (.ref r)) Q E s := by
  have alike : ¬ ((Value.ref cA != Value.ref cA) = true) := by rw [bne_self_eq_false]; exact Bool.false_ne_true
  unfold richCompare
  rw [PySem.oneThing_ref]
  refine wpAny_holding (wpAny_bind (wpAny_cRoomFor room (wpAny_bind (left.type.here (wpAny_bind (right.type.here ?_))))))
  dsimp only
  rw [if_neg alike]
  refine wpAny_bind (wpAny_pure ?_)
  rw [if_neg Bool.false_ne_true]
  refine (wpAny_bind (wpAny_mono answer (fun o s' said => ?_) fun _ _ => id))
  obtain ⟨v, rfl, said⟩ := said
  exact wpAny_pure said
theorem op_ownN (D : MethOk X.prog X.w X.base G k C "__eq__" 2 [] F) (ne : NeOk G C) (hK : X.K = G.K) (hM : X.mg = G.mg) (hr : Room j X.A) (hk : k + 1 ≤ j) : OpR X (compareOp .NotEq) (r2own G C (own2n C F)) := by
  intro pins s σ H x y v u Q I rx ry asked
  obtain ⟨asked, q, cA', dx, fs, e, c', at_q⟩ := same_of (neg_of asked)
  obtain ⟨p, cA, fn, od, rfl, c, left, found, isdef, run⟩ := own_args D hK hM hr (Nat.le_of_succ_le hk) I rx ry asked
  cases c.symm.trans c'
  subst e
  cases (show u = Value.ref q from ry)
  obtain ⟨_, right, _⟩ := ins_get I.hok at_q
  obtain ⟨_, right, _⟩ := right.look
  have says := ne.ok _ c
  rw [← hK] at says
  have room : Room k X.A.in1 := (hr.mono hk).in1
  have answer : wpAny (model X.prog X.w) X.A.in1 (call (.ref fn) [.ref p, .ref q]) (fun v s' => ∃ b, v = .bool b ∧ EP X pins σ Q (.bool !b) s') X.xe s := wpAny_mono (run X.A.in1 room I.env0.in1) (fun v s' told => by
    obtain ⟨_, H', I', rz, b, rfl, told⟩ := told
    exact ⟨b, rz, .bl !b, H', I', rfl, told⟩) fun _ _ => id
  refine rich_ne left right hr.units0 (wpAny_bind (ifBound_ne I.kIn left says.1 (wpAny_call (codeAny_call_builtin PySem.F.cmp_object.ne.plain PySem.F.cmpEntry_ne (PySem.W.check_slot PySem.F.cmpKind_ne PySem.F.cmpSplit_ne (left.type.andThen (PySem.W.looks_mroIn I.kIn says.2)) (PySem.F.cmpArgs_ne _ _) (objNe_entry I.kIn left found isdef room.units0 (wpAny_mono answer (fun v s' told => ?_) fun _ _ => id)))))))
  obtain ⟨b, rfl, told⟩ := told
  exact ⟨b, rfl, wpAny_pure ⟨_, rfl, told⟩⟩
theorem s_ownN (D : MethOk X.prog X.w X.base G k C "__eq__" 2 [] F) (ne : NeOk G C) (hK : X.K = G.K) (hM : X.mg = G.mg) (hr : Room j X.A) (hk : k + 1 ≤ j) (ha : SE X G W a f) (hb : SE X G W b g) (hm : behindInMarks .NotEq b = false) :
    SE X G W (.Compare a [.NotEq] [b] pos) (fun env => f env >>= fun x => g env >>= fun y => own2n C F x y) := pe_imp (pe_cmpR (op_ownN D ne hK hM hr hk) ha hb hm) fun σ H Q hq => own_use own2n_ne hq
end
end Ep
namespace Ep
open PySem PySem.Spec L2
open PyProof.Rows (envOfC)
/-! ### NotImplemented by an own == -/
theorem tup_declines {prog : Program} {w : World} {A : Around} {E : Value → Shared → Prop} {s : Shared} {l b : Addr} {Q : Fin → Shared → Prop} (L : PySem.W.Looks (model prog w) s.heap (isInstance (.ref b) (.type "tuple")) false) (h : Q (.done (.ret .notImplemented)) s) :
    wpAny (model prog w) A (Builtin.«tuple.__eq__» ⟨[.ref l, .ref b], []⟩) Q E s := by
  unfold Builtin.«tuple.__eq__»
  repeat (first
    | (refine wpAny_bind (m := isInstance (.ref b) (.type "tuple")) (L.here ?_))
    | wp_step)
  exact h
/-- the def of == gives NotImplemented where p says so -/
def NiRun (P : Program) (wd : World) (base : Heap) (G : Gm) (k : Nat) (f : Addr) (fd : FuncData) (ps : List Str) (p : List T → RS → Option RS) : Prop :=
  ∀ (A : Around) (outer : List PySem.Env) (s : Shared) (H : Hp) (args : Args) (us : List Value) (vs : List V) (Q : Hp → Prop), Room k A → Env0 P wd G.K G.mg base A outer s H → BindsTo s fd args (ps.zip us) → Vals vs us →
    (∃ w r ts r', Good G w H r ∧ Dens G w vs ts ∧ ts.length = ps.length ∧ p ts r = some r' ∧ ∀ w' H', Step w H w' H' → Good G w' H' r' → Q H') →
    codeAny (model P wd) A (.call (.ref f) args) (fun r s' => match r with
      | .ok (.ret u) => u = .notImplemented ∧ CE outer P wd H s (fun _ H' => Q H') .none s'
      | .ok _ => False
      | .error e => L2.CX P wd outer H s (fun _ _ _ => False) e s') s
def niP (m : Nat) (q : Env → M Bool) : List T → RS → Option RS := fun ts r => match q (envOf m ts) r with
  | .ok true r' => some r'
  | _ => none
/-- where a def's parameters stand -/
theorem par_kinds {N ps : List Str} {sc : Scope} (S : FnScope N ps sc) (us : List Value) (at_ : Nat) : ∀ y ∈ ps.zip us, sc.names.lookup y.1 = some .local ∨ (sc.names.lookup y.1 = some .cell ∧ ((cellsFrom at_ sc.names []).lookup y.1).isSome = true) := fun y hy =>
  (S.par y.1 (List.of_mem_zip (show (y.1, y.2) ∈ _ from hy)).1).imp id fun is_cell => ⟨is_cell, PySem.W.cellsFrom_some _ _ _ (.inl is_cell)⟩
theorem niP_at {m : Nat} {q : Env → M Bool} {ts : List T} {r r' : RS} (h : niP m q ts r = some r') : q (envOf m ts) r = .ok true r' := by
  unfold niP at h
  split at h
  · next e => cases h; exact e
  · cases h
theorem ni_run {P : Program} {wd : World} {base : Heap} {G : Gm} {k : Nat} {x qual : Str} {st : Stmt} {f : Addr} {fd : FuncData} {N ps : List Str} {m : Nat} {c : Expr} {rest : List Stmt} {q1 q2 q3 : Pos} {p : Env → M Bool} {dv : List V} {kw : List (Str × V)} (F : FunD G.K x qual (defArgs st) (defBody st) (defScope st) dv kw f fd) (S : FnScope N ps (defScope st)) (hm : N.length - ps.length = m)
    (hbod : defBody st = .If c [.Return (some (.Name "NotImplemented" q1)) q2] [] q3 :: rest) (hni : G.mg "NotImplemented" = none) (hgl : ∀ cdv A outer s H E, Gl (cxB P wd G base N qual st f cdv A outer s H E) "NotImplemented")
    (hc : ∀ cdv A outer s H E, Room k (A.deeper (PyProof.Rows.envOfC qual (defScope st) s.heap.objs.size f cdv)) → SB (cxB P wd G base N qual st f cdv A outer s H E) G (WD E) c p) : NiRun P wd base G (k + 1) f fd ps (niP m p) := by
  intro A outer s H args us vs Q room e0 bound vals ⟨w, rr, ts, rr', gd, d, l, asked, told⟩
  have yes := niP_at asked
  have many : vs.length = ps.length := d.length.trans l
  have still : ∀ b o, base.get? b = some o → s.heap.get? b = some o := fun b o at_b => (e0.bs b o at_b).1
  obtain ⟨_, _, _, _, _, _, _, cdv, _, _, rfl, at_f, code, _, _⟩ := F.ex
  refine codeAny_call_function room.depth (e0.mod.kin.keeps still _ _ at_f) rfl S.co S.gen rfl (PySem.W.codeRec_of (e0.mod.kin.keeps still) code) (bound _ _ _ _ (wpAny_newFunctionEnv_cells S.kind (par_kinds S us _) fun env is_env s1 inside => ?_))
  subst is_env
  have I : L2.Inv (cxB P wd G base N qual st f cdv A outer s H (fun _ _ _ => False)) [] (L2.start N vs) H s1 := inv_start S room.hd e0 many vals inside
  refine ⟨(e0.mod.nolimit.keeps still).keeps inside.toInCall.keep, codeAny_func ?_⟩
  rw [hbod]
  have test := (hc cdv A outer s H (fun _ _ _ => False) (room.deeper _)).run [] s1 (L2.start N vs) H (fun b H' => b = true ∧ Q H') I ⟨w, H, envOf m ts, rr, gd, start_slots d m (by rw [many]; exact hm), by
    rw [yes]
    exact fun w' H' st g' => ⟨rfl, told w' H' st g'⟩⟩
  refine wpAny_execs_cons (wpAny_If (wpAny_mono test (fun b s2 after => ?_) fun _ _ => id))
  obtain ⟨H2, I2, rfl, held⟩ := after
  exact wpAny_execs_cons (wpAny_Return_some (ld_blt I2 (hgl cdv A outer s H _) hni (u := .notImplemented) rfl ⟨rfl, .non, H2, I2.os, I2.bare, I2.base, I2.hok, rfl, held⟩))
structure NiOk (P : Program) (wd : World) (base : Heap) (G : Gm) (k C : Nat) (p : List T → RS → Option RS) : Prop where
  ex : ∃ cA f fd ps, G.mg (G.cn C) = some (.ref cA) ∧ Meth G.K cA "__eq__" f ∧ NiRun P wd base G k f fd ps p ∧ Binds G.K fd ps [] ∧ ps.length = 2 ∧ PySem.W.subIn G.K (.type "tuple") (.ref cA) = some false ∧ PySem.W.mroIn G.K cA (.type "tuple") = some false
def isTupT : T → Bool
  | .tup _ => true
  | _ => false
def ownE (C : Nat) (F : List T → M T) (p : List T → RS → Option RS) : T → T → M T := fun x y => match x with
  | .obj D vs => if D = C then (if isTupT y = true then (fun r => match p [.obj D vs, y] r with
    | some r' => .ok (.bl false) r'
    | none => .bad) else own2s C F (.obj D vs) y) else M.bad
  | _ => M.bad
theorem ownE_ne {C : Nat} {F : List T → M T} {p : List T → RS → Option RS} (t u : T) (r : RS) (c : Nat) (q : T) (r' : RS) : ownE C F p t u r ≠ .exn c q r' := by
  cases t with
  | obj D vs =>
    by_cases hD : D = C
    · by_cases ht : isTupT u = true
      · subst hD
        cases hp : p [.obj D vs, u] r with
        | none => simp [ownE, ht, hp]
        | some r2 => simp [ownE, ht, hp]
      · have e : ownE C F p (.obj D vs) u = own2s C F (.obj D vs) u := by simp [ownE, hD, ht]
        rw [e]
        exact own2s_ne _ _ _ _ _ _
    · simp [ownE, hD, M.bad]
  | _ => simp [ownE, M.bad]
section
variable {X : Cx} {G : Gm} {W : WX} {pos : Pos} {a b : Expr} {f g : Env → M T} {C j k k' : Nat} {F : List T → M T} {p : List T → RS → Option RS}
theorem op_ownE (D : MethOk X.prog X.w X.base G k C "__eq__" 2 [] F) (N : NiOk X.prog X.w X.base G k' C p) (hK : X.K = G.K) (hM : X.mg = G.mg) (hr : Room j X.A) (hk : k ≤ j) (hk' : k' ≤ j) : OpR X (compareOp .Eq) (r2own G C (ownE C F p)) := by
  intro pins s σ H x y v u Q I rx ry h
  have h0 := h
  obtain ⟨w, r, t, u', g0, d1, d2, h⟩ := h
  cases d1 with
  | @obj pp cA' dx D' vs ts c hh l d =>
    by_cases hD : D' = C
    · subst hD
      by_cases ht : isTupT u' = true
      · -- a tuple
        have hfin : OutP G w H (fun _ _ _ => False) (fun t _ w' H' => ∀ v, Den G w' v t → Q v H') (match p [.obj D' ts, u'] r with
          | some r' => .ok (.bl false) r'
          | none => .bad) := by simpa [ownE, ht] using h
        cases hp : p [.obj D' ts, u'] r with
        | none => rw [hp] at hfin; exact hfin.elim
        | some rr =>
          rw [hp] at hfin
          obtain ⟨cA, fn, fd, ps, c1, hM', run, hB, hps, hs1, hs2⟩ := N.ex
          rw [c1] at c
          cases c
          cases d2 with
          | @tup q us xs hq z dd =>
            obtain rfl : v = Value.ref pp := rx
            obtain rfl : u = Value.ref q := ry
            obtain ⟨mA, J, _⟩ := ins_get I.hok (g0.sub _ _ hh)
            obtain ⟨od, J, _⟩ := J.look
            have hqT := tup_sq g0.sub hq
            rw [← hK] at hqT
            obtain ⟨its, rv, tq, hz⟩ := I.tuple hqT
            have tyq : s.TypeIs (.ref q) "tuple" := by
              obtain ⟨o, h1, h2, _⟩ := id tq
              exact ⟨o, h1, h2⟩
            have X1 := I.kIn
            have inst : ∀ {s' : Shared} {w' : Wd} {H' : Hp} {r' : RS}, L2.Inv X pins σ H' s' → Step w H w' H' → Good G w' H' r' → ∃ od, PySem.W.InstAt s'.heap pp (PySem.W.instObj cA' dx) cA' (some od) ∧ s'.TypeIs (.ref q) "tuple" ∧ pp ≠ q ∧ ∃ o, s'.heap.get? q = some o := fun {s' w' H' r'} I' st g' => by
              obtain ⟨mA, J, _⟩ := ins_get I'.hok (g'.sub _ _ (st.pub _ _ hh))
              obtain ⟨od, J, _⟩ := J.look
              have hqT := tup_sq g'.sub (hq.mono st.pub)
              rw [← hK] at hqT
              obtain ⟨its, rv, ⟨o, h1, h2, _⟩, hz⟩ := I'.tuple hqT
              refine ⟨od, J, ⟨o, h1, h2⟩, fun e => ?_, o, h1⟩
              subst e
              have := J.at_
              rw [h1] at this
              cases this
              cases h2
            have one : wpAny (model X.prog X.w) X.A (tryCompare (.ref pp) "__eq__" (.ref q)) (fun r0 s' => r0 = none ∧ ∃ w' H', L2.Inv X pins σ H' s' ∧ Step w H w' H' ∧ Good G w' H' rr) X.xe s := by
              unfold tryCompare
              refine wpAny_bind (PySem.W.ifBound_K X1 J (by rw [hK]; exact hM'.at_) (by rw [hK]; exact hM'.fn) (wpAny_call (codeAny_mono (run X.A X.stack s H ⟨[.ref pp, .ref q], []⟩ [.ref pp, .ref q] [.ref pp, .ref q] (fun H' => ∃ w', Step w H w' H' ∧ Good G w' H' rr) (hr.mono hk') (by
                have := I.env0
                rw [hK, hM] at this
                exact this) (by
                have := hB s [.ref pp, .ref q] (by rw [← hK]; exact X1) (by simp [hps])
                simpa using this) (.cons rfl (.cons rfl .nil)) ⟨w, r, _, rr, g0, .cons (.obj c1 hh l d) (.cons (.tup hq z dd) .nil), by simp [hps], hp, fun w' H' st g' => ⟨w', st, g'⟩⟩) fun res s' hq' => ?_)))
              cases res with
              | error e => exact passAt (W := fun _ _ _ _ => False) takes0 σ pins H s e s' I hq'
              | ok fl =>
                cases fl with
                | ret u =>
                  obtain ⟨eu, ce⟩ := hq'
                  subst eu
                  obtain ⟨v', H', I', _, w', st, g'⟩ := I.after ce
                  exact wpAny_pure ⟨rfl, w', H', I', st, g'⟩
                | next => exact False.elim hq'
                | brk => exact False.elim hq'
                | cont => exact False.elim hq'
            show wpAny (model X.prog X.w) X.A (richCompare .Eq (.ref pp) (.ref q)) (EP X pins σ Q) X.xe s
            unfold richCompare
            simp only [PySem.oneThing_ref]
            refine wpAny_holding (wpAny_bind (wpAny_cRoomFor hr.units0 ?_))
            refine wpAny_bind (J.type.here ?_)
            refine wpAny_bind (wpAny_typeOf tyq ?_)
            rw [show (Value.ref cA' != Value.type "tuple") = true from rfl]
            simp only [if_true]
            refine wpAny_bind ((PySem.W.looks_subIn X1 (by rw [hK]; exact hs1)).here ?_)
            simp only [Bool.false_eq_true, if_false, Bool.not_false, if_true]
            refine wpAny_bind (wpAny_mono one (fun r0 s1 z1 => ?_) fun _ _ e => e)
            obtain ⟨z1, w1, H1, I1, st1, g1⟩ := z1
            subst z1
            obtain ⟨od1, J1, ty1, hne, o1, ho1⟩ := inst I1 st1 g1
            refine wpAny_bind (wpAny_tryCompare_declines ty1 PySem.F.slot_tuple_eq_refl (wpAny_call_entry PySem.F.slot_tuple_eq_refl ty1 PySem.F.entry_tuple_eq (tup_declines (J1.type.andThen (PySem.W.looks_mroIn I1.kIn (by rw [hK]; exact hs2))) ⟨_, rfl, rfl, ?_⟩) (PySem.F.args_tuple_eq_2 _ _)))
            refine wpAny_bind (wpAny_rule (wpAny_bind ?_))
            have fin : EP X pins σ Q (.bool false) s1 := ⟨.bl false, H1, I1, rfl, hfin w1 H1 st1 g1 _ (.bl false)⟩
            have e1 := J1.at_
            show wpAny _ _ (if (pp == q) = true then pure true else _) _ _ _
            rw [if_neg (by simpa using hne)]
            refine wpAny_bind (wpAny_load e1 (wpAny_bind (wpAny_load ho1 ?_)))
            show wpAny _ _ (pure false) _ _ _
            exact wpAny_pure (wpAny_pure fin)
          | _ => cases ht
      · have e : ownE D' F p (.obj D' ts) u' = own2s D' F (.obj D' ts) u' := by simp [ownE, ht]
        rw [e] at h
        exact op_ownC (op := .Eq) (fun _ _ => rfl) D hK hM hr hk pins s σ H _ y v u Q I rx ry ⟨w, r, _, u', g0, .obj c hh l d, d2, h⟩
    · have h : OutP G w H (fun _ _ _ => False) (fun t _ w' H' => ∀ v, Den G w' v t → Q v H') ((M.bad : M T) r) := by simpa [ownE, hD] using h
      exact h.elim
  | _ => exact h.elim
theorem s_ownE (D : MethOk X.prog X.w X.base G k C "__eq__" 2 [] F) (N : NiOk X.prog X.w X.base G k' C p) (hK : X.K = G.K) (hM : X.mg = G.mg) (hr : Room j X.A) (hk : k ≤ j) (hk' : k' ≤ j) (ha : SE X G W a f) (hb : SE X G W b g) (hm : behindInMarks .Eq b = false) :
    SE X G W (.Compare a [.Eq] [b] pos) (fun env => f env >>= fun x => g env >>= fun y => ownE C F p x y) := pe_imp (pe_cmpR (op_ownE D N hK hM hr hk hk') ha hb hm) fun σ H Q hq => own_use ownE_ne hq
end
end Ep
namespace Ep
open PySem PySem.Spec L2
/-! ### index -/
def idxT (xs : List T) (t : T) : Option T := match t with
  | .str x => (strsT xs).bind fun ys => if x ∈ ys then some (.int (ys.idxOf x : Nat)) else none
  | .int i => (intsT xs).bind fun ys => if i ∈ ys then some (.int (ys.idxOf i : Nat)) else none
  | _ => none
/-- by values -/
def rIdx (K : PySem.W.Frag) : V → List V → Hp → VK → Prop := fun v us H Q => ∃ p, v = .ref p ∧
  ((∃ (ys : List Str) (x : Str), us = [.str x] ∧ x ∈ ys ∧ ys.length ≤ sizeLine ∧ SqL K H p (ys.map V.str) ∧ Q (.int (ys.idxOf x : Nat)) H) ∨ (∃ (ys : List Int) (i : Int), us = [.int i] ∧ i ∈ ys ∧ ys.length ≤ sizeLine ∧ SqL K H p (ys.map V.int) ∧ Q (.int (ys.idxOf i : Nat)) H))
def rIdxT (K : PySem.W.Frag) : V → List V → Hp → VK → Prop := fun v us H Q => ∃ p, v = .ref p ∧
  ((∃ (ys : List Str) (x : Str), us = [.str x] ∧ x ∈ ys ∧ ys.length ≤ sizeLine ∧ SqT K H p (ys.map V.str) ∧ Q (.int (ys.idxOf x : Nat)) H) ∨ (∃ (ys : List Int) (i : Int), us = [.int i] ∧ i ∈ ys ∧ ys.length ≤ sizeLine ∧ SqT K H p (ys.map V.int) ∧ Q (.int (ys.idxOf i : Nat)) H))
section
variable {X : Cx} {G : Gm} {W : WX} {pos apos : Pos} {a b e : Expr} {f g : Env → M T}
theorem mt_idx : MtR X "list.index" (rIdx X.K) := by
  intro pins s σ H x vs v us Q I rx rv h
  obtain ⟨p, rfl, h⟩ := h
  obtain rfl : v = Value.ref p := rx
  rcases h with ⟨ys, x, rfl, hm, hz, hs, q⟩ | ⟨ys, x, rfl, hm, hz, hs, q⟩
  · obtain ⟨u, rfl, ru⟩ := rv.one
    obtain ⟨t, rfl⟩ := (show ∃ t, u = Value.str x t from ru)
    obtain ⟨its, r, pl, _⟩ := I.list hs
    exact PySem.SeqAt.list_index_strs pl.isList (Vals.strs r) hz hm ⟨.int _, H, I.tok _, ⟨_, rfl⟩, q⟩
  · obtain ⟨u, rfl, ru⟩ := rv.one
    obtain ⟨t, rfl⟩ := (show ∃ t, u = Value.int x t from ru)
    obtain ⟨its, r, pl, _⟩ := I.list hs
    exact PySem.SeqAt.list_index_ints pl.isList (Vals.ints r) hz hm ⟨.int _, H, I.tok _, ⟨_, rfl⟩, q⟩
theorem mt_idxT : MtR X "tuple.index" (rIdxT X.K) := by
  intro pins s σ H x vs v us Q I rx rv h
  obtain ⟨p, rfl, h⟩ := h
  obtain rfl : v = Value.ref p := rx
  rcases h with ⟨ys, x, rfl, hm, hz, hs, q⟩ | ⟨ys, x, rfl, hm, hz, hs, q⟩
  · obtain ⟨u, rfl, ru⟩ := rv.one
    obtain ⟨t, rfl⟩ := (show ∃ t, u = Value.str x t from ru)
    obtain ⟨its, r, pl, _⟩ := I.tuple hs
    exact PySem.SeqAt.tuple_index_strs (show s.heap.IsTuple p its.toArray from pl) (Vals.strs r) hm ⟨.int _, H, I.tok _, ⟨_, rfl⟩, q⟩
  · obtain ⟨u, rfl, ru⟩ := rv.one
    obtain ⟨t, rfl⟩ := (show ∃ t, u = Value.int x t from ru)
    obtain ⟨its, r, pl, _⟩ := I.tuple hs
    exact PySem.SeqAt.tuple_index_ints (show s.heap.IsTuple p its.toArray from pl) (Vals.ints r) hm ⟨.int _, H, I.tok _, ⟨_, rfl⟩, q⟩
def isLst : T → Bool
  | .lst _ => true
  | .kls _ => true
  | .ref _ => true
  | _ => false
def fIdxL (f g : Env → M T) : Env → M T := fun env => f env >>= fun x => if isLst x = true then g env >>= fun y => fun r => M.lift ((lstT r x).bind fun xs => idxT xs y) r else M.bad
theorem idx_of {w : Wd} {us : List V} {xs : List T} {y : V} {t z : T} (d : Dens G w us xs) (dy : Den G w y t) (e : idxT xs t = some z) :
    (∃ (ys : List Str) (x : Str), y = .str x ∧ us = ys.map V.str ∧ x ∈ ys ∧ z = .int (ys.idxOf x : Nat)) ∨ ∃ (ys : List Int) (i : Int), y = .int i ∧ us = ys.map V.int ∧ i ∈ ys ∧ z = .int (ys.idxOf i : Nat) := by
  cases dy with
  | str x =>
    have e : ((strsT xs).bind fun ys => if x ∈ ys then some (.int (ys.idxOf x : Nat)) else none) = some z := e
    cases q : strsT xs with
    | none => rw [q] at e; cases e
    | some ys =>
      rw [q] at e
      have e : (if x ∈ ys then some (T.int (ys.idxOf x : Nat)) else none) = some z := e
      by_cases hm : x ∈ ys
      · rw [if_pos hm] at e; cases e; exact .inl ⟨ys, x, rfl, strs_of d q, hm, rfl⟩
      · rw [if_neg hm] at e; cases e
  | int x =>
    have e : ((intsT xs).bind fun ys => if x ∈ ys then some (.int (ys.idxOf x : Nat)) else none) = some z := e
    cases q : intsT xs with
    | none => rw [q] at e; cases e
    | some ys =>
      rw [q] at e
      have e : (if x ∈ ys then some (T.int (ys.idxOf x : Nat)) else none) = some z := e
      by_cases hm : x ∈ ys
      · rw [if_pos hm] at e; cases e; exact .inr ⟨ys, x, rfl, ints_of d q, hm, rfl⟩
      · rw [if_neg hm] at e; cases e
  | _ => cases e
theorem s_idxL (hK : X.K = G.K) (ha : SK X G W a f) (he : SE X G W e g)
    (hbase : attributeBase a "index" X.env (eval a X.env) = eval a X.env := by rfl)
    (hfew : ((backTo pos (starEach [e] X.env)).all (fun x => !x.1) && (backToKw pos (keywordEach [] X.env)).all (fun x => x.1.isSome)
      && decide (([e] : List Expr).length + ([] : List Keyword).length + (if ([] : List Keyword).isEmpty then 0 else 1) < 30)) = true := by rfl)
    (hline : (apos.endLine == pos.line) = true := by rfl) (hs : starEach [e] X.env = (false, eval e X.env) :: starEach [] X.env := by rfl) (hplain : (backTo pos (starEach [] X.env)).any (·.1) = false := by rfl) :
    SE X G W (.Call (.Attribute a "index" apos) [e] [] pos) (fIdxL f g) :=
  pe_imp (pe_bm PySem.F.plainAttrs_list PySem.F.slot_list_index PySem.F.type_list_index mt_idx ha (pa_cons he pa_nil hs) hbase hfew hline hs hplain) fun σ H Q ⟨w, H0, env, r, g0, s, h0⟩ => by
    refine seqK g0 s h0 fun t r1 w1 H1 v g1 s1 st1 d1 h1 => ?_
    by_cases hl : isLst t = true
    · rw [if_pos hl] at h1
      have isL : ∃ p us, v = V.ref p ∧ SqL X.K H1 p us := by
        rw [hK]
        rcases d1 with d | ⟨p, us, ys, e1, e2, h1, h2, h3, h4⟩
        · cases d with
          | lst hh z d => exact ⟨_, _, rfl, .inl (.inl (g1.sub _ _ hh))⟩
          | kls hh z d => exact ⟨_, _, rfl, g1.sub.seq hh⟩
          | @ref k p hr =>
            obtain ⟨us, hu⟩ := g1.refs.there (List.mem_of_getElem? hr)
            exact ⟨_, us, rfl, SqL.of hu⟩
          | _ => cases hl
        · exact ⟨_, us, e1, SqL.of h2⟩
      obtain ⟨p, us0, rfl, hs0⟩ := isL
      refine ⟨.inl ⟨rfl, us0, hs0⟩, seqE g1 s1 h1 fun u r2 w2 H2 y g2 s2 st2 d2 h2 => ?_⟩
      obtain ⟨z, ez, h3⟩ := liftP h2
      cases q : lstT r2 t with
      | none => rw [q] at ez; cases ez
      | some xs =>
        rw [q] at ez
        have ez : idxT xs u = some z := ez
        obtain ⟨p', us, e1, hs, dd, hz⟩ := lst_of g2 (d1.step st2) q
        cases e1
        rw [hK]
        rcases idx_of dd d2 ez with ⟨ys, x, rfl, rfl, hm, rfl⟩ | ⟨ys, x, rfl, rfl, hm, rfl⟩
        · have hz : ys.length ≤ sizeLine := by rw [← dd.length, List.length_map] at hz; exact hz
          exact ⟨p, rfl, .inl ⟨ys, x, rfl, hm, hz, hs, h3 w2 H2 (Step.refl _ _) g2 _ (.int _)⟩⟩
        · have hz : ys.length ≤ sizeLine := by rw [← dd.length, List.length_map] at hz; exact hz
          exact ⟨p, rfl, .inr ⟨ys, x, rfl, hm, hz, hs, h3 w2 H2 (Step.refl _ _) g2 _ (.int _)⟩⟩
    · rw [if_neg hl] at h1; exact h1.elim
/-- a tuple of the top -/
structure GtOk (G : Gm) (x : Str) (xs : List T) : Prop where
  ex : ∃ p o its n us, G.mg x = some (.ref p) ∧ G.K.lookup p = some o ∧ o.cls = .type "tuple" ∧ o.dict = none ∧ o.data = .seq its n ∧ its.size ≤ sizeLine ∧ Vals us its.toList ∧ ∀ w, Dens G w us xs
theorem GtOk.den {x : Str} {xs : List T} (ok : GtOk G x xs) : ∃ v u, G.mg x = some u ∧ RelV v u ∧ ∀ w, Den G w v (.tup xs) := by
  obtain ⟨p, o, its, n, us, h1, h2, h3, h4, h5, h6, h7, h8⟩ := ok.ex
  refine ⟨.ref p, .ref p, h1, rfl, fun w => .tup (.inr ⟨o, its, n, h2, h3, h5, h6, h7⟩) ?_ (h8 w)⟩
  rw [← (h8 w).length, h7.length, Array.length_toList]
  exact h6
theorem s_gt {x : Str} {xs : List T} (ok : GtOk G x xs) (hM : X.mg = G.mg) (hg : Gl X x) (hd : (x == ("__debug__" : Str)) = false := by decide) : SE X G W (.Name x pos) (fC (.tup xs)) := by
  obtain ⟨v, u, h1, h2, h3⟩ := ok.den
  exact s_glob hg (by rw [hM]; exact h1) h2 h3 hd
def fIdxG (xs : List T) (g : Env → M T) : Env → M T := fun env => g env >>= fun y => M.lift (idxT xs y)
theorem s_idxG {x : Str} {px : Pos} {xs : List T} (ok : GtOk G x xs) (hK : X.K = G.K) (hM : X.mg = G.mg) (hg : Gl X x) (he : SE X G W e g)
    (hbase : attributeBase (.Name x px) "index" X.env (eval (.Name x px) X.env) = eval (.Name x px) X.env := by rfl)
    (hfew : ((backTo pos (starEach [e] X.env)).all (fun x => !x.1) && (backToKw pos (keywordEach [] X.env)).all (fun x => x.1.isSome)
      && decide (([e] : List Expr).length + ([] : List Keyword).length + (if ([] : List Keyword).isEmpty then 0 else 1) < 30)) = true := by rfl)
    (hline : (apos.endLine == pos.line) = true := by rfl) (hs : starEach [e] X.env = (false, eval e X.env) :: starEach [] X.env := by rfl) (hplain : (backTo pos (starEach [] X.env)).any (·.1) = false := by rfl) (hd : (x == ("__debug__" : Str)) = false := by decide) :
    SE X G W (.Call (.Attribute (.Name x px) "index" apos) [e] [] pos) (fIdxG xs g) := by
  obtain ⟨p, o, its, n, us, h1, h2, h3, h4, h5, h6, h7, h8⟩ := ok.ex
  refine pe_imp (pe_bm PySem.F.plainAttrs_tuple PySem.F.slot_tuple_index PySem.F.type_tuple_index mt_idxT (pe_glob (v := .ref p) hg (by rw [hM]; exact h1) rfl hd) (pa_cons he pa_nil hs) hbase hfew hline hs hplain) fun σ H Q ⟨w, H0, env, r, g0, s, h0⟩ => ?_
  rw [hK]
  refine ⟨.inr (.inl ⟨rfl, o, h2, h3, h4⟩), seqE g0 s h0 fun u r2 w2 H2 y g2 s2 st2 d2 hq => ?_⟩
  obtain ⟨z, ez, h9⟩ := liftP hq
  have hT : SqT G.K H2 p us := .inr ⟨o, its, n, h2, h3, h5, h6, h7⟩
  have hz : us.length ≤ sizeLine := by rw [h7.length, Array.length_toList]; exact h6
  rcases idx_of (h8 w2) d2 ez with ⟨ys, x, rfl, rfl, hm, rfl⟩ | ⟨ys, x, rfl, rfl, hm, rfl⟩
  · exact ⟨p, rfl, .inl ⟨ys, x, rfl, hm, by simpa using hz, hT, h9 w2 H2 (Step.refl _ _) g2 _ (.int _)⟩⟩
  · exact ⟨p, rfl, .inr ⟨ys, x, rfl, hm, by simpa using hz, hT, h9 w2 H2 (Step.refl _ _) g2 _ (.int _)⟩⟩
/-! ### d.get(k, x) of a dict of the top -/
structure GgOk (wd : World) (G : Gm) (x : Str) (tb : Str → Option (Option T)) : Prop where
  ex : ∃ p es n, G.mg x = some (.ref p) ∧ G.K.lookup p = some ⟨.type "dict", none, .dict es n, #[]⟩ ∧ PySem.W.KeysLit wd.params es.toList ∧ (p == sysModules) = false ∧ ∀ z, (∀ t, tb z = some (some t) → ∃ u v, PySem.W.nsIn G.K p z = some (some u) ∧ RelV v u ∧ ∀ w, Den G w v t) ∧ (tb z = some none → PySem.W.nsIn G.K p z = some none)
def fGget (tb : Str → Option (Option T)) (f g : Env → M T) : Env → M T := fun env => f env >>= fun t => g env >>= fun d => match t with
  | .str z => M.lift ((tb z).map fun o => o.getD d)
  | _ => M.bad
theorem s_gget {x : Str} {px : Pos} {c : Expr} {tb : Str → Option (Option T)} (ok : GgOk X.w G x tb) (hK : X.K = G.K) (hM : X.mg = G.mg) (hg : Gl X x) (hi : SE X G W e f) (hc : SE X G W c g) (m : M2 X (.Name x px) "get" apos e c pos) (hd : (x == ("__debug__" : Str)) = false := by decide) : SE X G W (.Call (.Attribute (.Name x px) "get" apos) [e, c] [] pos) (fGget tb f g) := by
  obtain ⟨p, es, n, h1, h2, h3, h4, h5⟩ := ok.ex
  have h2' : X.K.lookup p = some ⟨.type "dict", none, .dict es n, #[]⟩ := by rw [hK]; exact h2
  refine ⟨fun pins s σ H Q I h => ?_⟩
  refine wpAny_Call_method m.base m.few m.line PySem.F.plainAttrs_dict PySem.F.slot_dict_get PySem.F.type_dict_get (ld_glob I hg (by rw [hM]; exact h1) ?_ hd)
  have hm := PySem.W.mapOf_K (prog := X.prog) (w := X.w) I.kIn (by rw [hK]; exact h2) h3
  refine ⟨hm.typeIs, fun a q => ?_, ?_⟩
  · cases q
    exact ⟨_, I.kIn _ _ (by rw [hK]; exact h2), rfl⟩
  rw [m.trees]
  obtain ⟨w, H0, env, r, g0, s0, h0⟩ := h
  refine wpAny_dict_get2 (knd := PySem.strKind X.prog X.w) h4 (thn (hi.run pins s σ H (fun y H1 => ∃ w1 r1 t, Good G w1 H1 r1 ∧ Slots G w1 H0 H1 σ env ∧ Den G w1 y t ∧ OutP G w1 H1 (WE0 W σ) (fun t _ w' H' => ∀ v, Den G w' v t → Q v H') ((g env >>= fun d => (match t with
    | .str z => M.lift ((tb z).map fun o => o.getD d)
    | _ => M.bad : M T)) r1)) I (seqE g0 s0 h0 fun t r1 w1 H1 y g1 s1 st1 d1 h6 => ⟨w1, r1, t, g1, s1, d1, h6⟩)) fun iv s1 ⟨y, H1, I1, ry, w1, r1, t, g1, sl1, d1, h6⟩ => ?_)
  refine thn (hc.run pins s1 σ H1 (fun v H2 => ∃ z d r2 w2, y = .str z ∧ Good G w2 H2 r2 ∧ Den G w2 v d ∧ OutP G w2 H2 (WE0 W σ) (fun t _ w' H' => ∀ v, Den G w' v t → Q v H') ((M.lift ((tb z).map fun o => o.getD d) : M T) r2)) I1 (seqE g1 sl1 h6 fun d r2 w2 H2 v g2 s2 st2 d2 h7 => ?_)) fun dv s2 ⟨v, H2, I2, rv, z, d, r2, w2, ey, g2, d2, h7⟩ => ?_
  · cases d1 with
    | str z => exact ⟨z, d, r2, w2, rfl, g2, d2, h7⟩
    | _ => exact h7.elim
  · subst ey
    obtain ⟨tk, rfl⟩ := (show ∃ t, iv = Value.str z t from ry)
    obtain ⟨o, eo, h8⟩ := liftP h7
    have hm2 := PySem.W.mapOf_K (prog := X.prog) (w := X.w) I2.kIn (by rw [hK]; exact h2) h3
    refine ⟨z, _, PySem.strKind_is X.prog X.w z tk, hm2, ?_⟩
    cases q : tb z with
    | none => rw [q] at eo; cases eo
    | some o' =>
      rw [q] at eo
      have eo : o'.getD d = o := by cases eo; rfl
      subst eo
      have h9 := h8 w2 H2 (Step.refl _ _) g2
      cases o' with
      | none =>
        have := PySem.W.find_K h2' (by rw [hK]; exact (h5 z).2 q : PySem.W.nsIn X.K p z = some none)
        show EP X pins σ Q ((PySem.findBy Value.isStrOf es z).getD dv) _
        rw [this]
        exact ⟨v, H2, I2.tok _, rv, h9 v d2⟩
      | some t' =>
        obtain ⟨u, v', e1, e2, e3⟩ := (h5 z).1 t' q
        have := PySem.W.find_K h2' (by rw [hK]; exact e1 : PySem.W.nsIn X.K p z = some (some u))
        show EP X pins σ Q ((PySem.findBy Value.isStrOf es z).getD dv) _
        rw [this]
        exact ⟨v', H2, I2.tok _, e2, h9 v' (e3 w2)⟩
end
end Ep
namespace Ep
open PySem PySem.Spec L2 He
/-! ### what the head tells -/
/-- a written value is t -/
def denB (K : PySem.W.Frag) : Nat → Value → T → Bool
  | _, .none, .non => true
  | _, .bool b, .bl c => b == c
  | _, .int i _, .int j => decide (i = j)
  | _, .str x _, .str y => decide (x = y)
  | n + 1, .ref a, .tup ts => match K.lookup a with
    | some ⟨.type c, _, .seq its _, _⟩ => decide (c = "tuple") && (decide (its.size ≤ sizeLine) && go n its.toList ts)
    | _ => false
  | _, _, _ => false
where go (n : Nat) : List Value → List T → Bool
  | [], [] => true
  | u :: us, t :: ts => denB K n u t && go n us ts
  | _, _ => false
theorem and2 {a b : Bool} (h : (a && b) = true) : a = true ∧ b = true := Bool.and_eq_true_iff.mp h
section
variable {G : Gm} {wd : World} {K : PySem.W.Frag} {mg : Str → Option Value}
theorem denB_go (hK : G.K = K) (n : Nat) (ih : ∀ u t, denB K n u t = true → ∃ v, RelV v u ∧ ∀ w, Den G w v t) : ∀ {us : List Value} {ts : List T}, denB.go K n us ts = true → ∃ vs, Vals vs us ∧ ∀ w, Dens G w vs ts
  | [], [], _ => ⟨[], .nil, fun _ => .nil⟩
  | [], _ :: _, h => by cases h
  | _ :: _, [], h => by cases h
  | u :: us, t :: ts, h => by
    obtain ⟨h1, h2⟩ := and2 (show (denB K n u t && denB.go K n us ts) = true from h)
    obtain ⟨v, r, d⟩ := ih u t h1
    obtain ⟨vs, rs, ds⟩ := denB_go hK n ih h2
    exact ⟨v :: vs, .cons r rs, fun w => .cons (d w) (ds w)⟩
theorem denB_ok (hK : G.K = K) : ∀ (n : Nat) (u : Value) (t : T), denB K n u t = true → ∃ v, RelV v u ∧ ∀ w, Den G w v t := by
  intro n
  induction n with
  | zero =>
    intro u t h
    cases u <;> cases t <;> first | (simp [denB] at h; done) | skip
    · exact ⟨.non, rfl, fun _ => .non⟩
    · rename_i b c
      obtain rfl : b = c := by simpa [denB] using h
      exact ⟨.bl b, rfl, fun _ => .bl b⟩
    · rename_i i t j
      obtain rfl : i = j := of_decide_eq_true h
      exact ⟨.int i, ⟨t, rfl⟩, fun _ => .int i⟩
    · rename_i x t y
      obtain rfl : x = y := of_decide_eq_true h
      exact ⟨.str x, ⟨t, rfl⟩, fun _ => .str x⟩
  | succ n ih =>
    intro u t h
    cases u <;> cases t <;> first | (simp [denB] at h; done) | skip
    · exact ⟨.non, rfl, fun _ => .non⟩
    · rename_i b c
      obtain rfl : b = c := by simpa [denB] using h
      exact ⟨.bl b, rfl, fun _ => .bl b⟩
    · rename_i i t j
      obtain rfl : i = j := of_decide_eq_true h
      exact ⟨.int i, ⟨t, rfl⟩, fun _ => .int i⟩
    · rename_i x t y
      obtain rfl : x = y := of_decide_eq_true h
      exact ⟨.str x, ⟨t, rfl⟩, fun _ => .str x⟩
    · rename_i a ts
      unfold denB at h
      split at h
      · rename_i c od its n1 sl q
        obtain ⟨h1, h2⟩ := and2 h
        obtain ⟨h3, h4⟩ := and2 h2
        have h1 := of_decide_eq_true h1
        have h3 := of_decide_eq_true h3
        obtain ⟨vs, rs, ds⟩ := denB_go hK n ih h4
        subst hK
        subst h1
        refine ⟨.ref a, rfl, fun w => .tup (.inr ⟨_, its, n1, q, rfl, rfl, h3, rs⟩) ?_ (ds w)⟩
        rw [← (ds w).length, rs.length, Array.length_toList]
        exact h3
      · cases h
/-- a tuple of the top -/
def gtB (K : PySem.W.Frag) (x : Str) (ts : List T) : Bool := match K.lookup (ga K x) with
  | some ⟨.type c, none, .seq its _, _⟩ => decide (c = "tuple") && (decide (its.size ≤ sizeLine) && denB.go K 6 its.toList ts)
  | _ => false
theorem gtB_ok {x : Str} {ts : List T} (hK : G.K = K) (hg : G.mg x = some (.ref (ga K x))) (h : gtB K x ts = true) : GtOk G x ts := by
  unfold gtB at h
  split at h
  · rename_i c its n1 sl q
    obtain ⟨h1, h2⟩ := and2 h
    obtain ⟨h3, h4⟩ := and2 h2
    obtain ⟨vs, rs, ds⟩ := denB_go hK 6 (denB_ok hK 6) h4
    have h1 := of_decide_eq_true h1
    subst h1
    exact ⟨_, _, its, n1, vs, hg, by rw [hK]; exact q, rfl, rfl, rfl, of_decide_eq_true h3, rs, ds⟩
  · cases h
/-- a dict of the top -/
def ggB (K : PySem.W.Frag) (x : Str) : List (Str × Option T) → Bool
  | [] => true
  | (z, o) :: r => (match PySem.W.nsIn K (ga K x) z, o with
    | some (some u), some t => denB K 6 u t
    | some none, none => true
    | _, _ => false) && ggB K x r
theorem ggB_at {x : Str} : ∀ {rows : List (Str × Option T)} {z : Str} {o : Option T}, ggB K x rows = true → rows.lookup z = some o → (match PySem.W.nsIn K (ga K x) z, o with
    | some (some u), some t => denB K 6 u t
    | some none, none => true
    | _, _ => false) = true
  | [], _, _, _, e => by cases e
  | (y, o') :: r, z, o, h, e => by
    obtain ⟨h1, h2⟩ := and2 h
    rw [List.lookup_cons] at e
    cases q : z == y with
    | true =>
      rw [q] at e
      cases e
      rw [beq_iff_eq.mp q]
      exact h1
    | false =>
      rw [q] at e
      exact ggB_at h2 e
theorem ggB_ok {x : Str} {rows : List (Str × Option T)} {ks : List Str} (hK : G.K = K) (hg : G.mg x = some (.ref (ga K x))) (hd : dicW K (ga K x) = some (keysIn wd.params ks)) (h : ggB K x rows = true) : GgOk wd G x (fun z => rows.lookup z) := by
  obtain ⟨es, n, D⟩ := dicW_ok hd
  subst hK
  refine ⟨_, es, n, hg, D.at_, D.lit, D.low, fun z => ⟨fun t e => ?_, fun e => ?_⟩⟩
  · have := ggB_at h e
    split at this
    · rename_i u t' q1 q2
      cases q2
      obtain ⟨v, r, d⟩ := denB_ok rfl 6 _ _ this
      exact ⟨u, v, q1, r, d⟩
    · rename_i q2; cases q2
    · cases this
  · have := ggB_at h e
    split at this
    · rename_i q2; cases q2
    · rename_i q1 q2; exact q1
    · cases this
theorem GgOk.gd {x : Str} {tb : Str → Option (Option T)} (ok : GgOk wd G x tb) : GdOk wd G x (fun z => (tb z).bind id) := by
  obtain ⟨p, es, n, h1, h2, h3, h4, h5⟩ := ok.ex
  refine ⟨p, es, n, h1, h2, h3, h4, fun z t e => (h5 z).1 t ?_⟩
  cases q : tb z with
  | none => rw [q] at e; cases e
  | some o => rw [q] at e; rw [show o = some t from e]
/-- isinstance -/
def kvB (K : PySem.W.Frag) (cn : Nat → Str) : Kd → Value
  | .b s => .type s
  | .o C => .ref (ga K (cn C))
def clB (K : PySem.W.Frag) (cn : Nat → Str) : Cl → Value
  | .ty s => .type s
  | .cl C => .ref (ga K (cn C))
def insB (K : PySem.W.Frag) (x : Str) : Bool := (Fa.cls x).ok K && (decide (PySem.W.findIn K (.ref (ga K x)) "__class__" = some (some (.builtin "object.__class__"))) && (decide (PySem.W.specialIn K (.builtin "object.__class__") "__get__" = some (some (.builtin "getset_descriptor.__get__"))) &&
  (decide (PySem.W.takesIn K (.builtin "object.__class__") = some true) && decide (PySem.W.mroIn K (ga K x) (.type "object") = some true))))
theorem insB_ok {x : Str} (h : insB K x = true) : InsTy K (ga K x) := by
  obtain ⟨h1, h2⟩ := and2 h
  obtain ⟨h2, h3⟩ := and2 h2
  obtain ⟨h3, h4⟩ := and2 h3
  obtain ⟨h4, h5⟩ := and2 h4
  exact ⟨cls_ok h1, of_decide_eq_true h2, of_decide_eq_true h3, of_decide_eq_true h4, of_decide_eq_true h5⟩
def tabB (K : PySem.W.Frag) (cn : Nat → Str) : List (Kd × Cl × Bool) → Bool
  | [] => true
  | (k, c, b) :: r => (decide (PySem.W.kitOne K (kvB K cn k) (clB K cn c) = some b) && (match k with
    | .o C => insB K (cn C)
    | _ => true)) && tabB K cn r
def tabF (rows : List (Kd × Cl × Bool)) (k : Kd) (c : Cl) : Option Bool := (rows.find? fun p => decide (p.1 = k ∧ p.2.1 = c)).map fun p => p.2.2
theorem tabB_all {cn : Nat → Str} : ∀ {rows : List (Kd × Cl × Bool)}, tabB K cn rows = true → ∀ p ∈ rows, PySem.W.kitOne K (kvB K cn p.1) (clB K cn p.2.1) = some p.2.2 ∧ ∀ C, p.1 = .o C → InsTy K (ga K (cn C))
  | [], _, _, hp => by cases hp
  | (k, c, b) :: r, h, p, hp => by
    obtain ⟨h1, h2⟩ := and2 h
    rcases List.mem_cons.mp hp with e | hp
    · subst e
      obtain ⟨h3, h4⟩ := and2 h1
      refine ⟨of_decide_eq_true h3, fun C e => ?_⟩
      have e : k = .o C := e
      subst e
      exact insB_ok h4
    · exact tabB_all h2 p hp
theorem tabB_ok {rows : List (Kd × Cl × Bool)} (hK : G.K = K) (hg : ∀ C cA, G.mg (G.cn C) = some (.ref cA) → cA = ga K (G.cn C)) (h : tabB K G.cn rows = true) : TabOk G (tabF rows) := by
  intro k c b e
  unfold tabF at e
  cases q : rows.find? fun p => decide (p.1 = k ∧ p.2.1 = c) with
  | none => rw [q] at e; cases e
  | some p =>
    rw [q] at e
    cases e
    obtain ⟨h1, h2⟩ := tabB_all h p (List.mem_of_find?_eq_some q)
    have hp : p.1 = k ∧ p.2.1 = c := by
      have := List.find?_some q
      simpa using this
    obtain ⟨e1, e2⟩ := hp
    subst e1 e2
    subst hK
    refine ⟨fun C ek cA hc => ?_, fun u z hu hz => ?_⟩
    · rw [hg C cA hc]; exact h2 C ek
    · have eu : u = kvB G.K G.cn p.1 := by
        cases ek : p.1 with
        | b s => rw [ek] at hu; exact hu
        | o C =>
          rw [ek] at hu
          obtain ⟨cA, hc, e, _⟩ := hu
          rw [e, hg C cA hc]; rfl
      have ez : z = clB G.K G.cn p.2.1 := by
        cases ek : p.2.1 with
        | ty s => rw [ek] at hz; exact hz
        | cl C =>
          rw [ek] at hz
          obtain ⟨cA, hc, e⟩ := hz
          rw [e, hg C cA hc]; rfl
      rw [eu, ez]
      exact h1
end
end Ep
namespace Ep
open PySem PySem.Spec L2 He
/-- a tuple at an address of one's own -/
def taB (K : PySem.W.Frag) (a : Addr) (ts : List T) : Bool := denB K 7 (.ref a) (.tup ts)
theorem taB_ok {G : Gm} {K : PySem.W.Frag} {a : Addr} {ts : List T} (hK : G.K = K) (h : taB K a ts = true) : ∀ w, Den G w (.ref a) (.tup ts) := by
  obtain ⟨v, r, d⟩ := denB_ok hK 7 _ _ h
  intro w
  have := d w
  cases this with
  | @tup b vs us h z dd =>
    have e : Value.ref a = Value.ref b := r
    cases e
    exact .tup h z dd
end Ep
namespace Ep
open PySem PySem.Spec L2 He
/-! ### short words for generated derivations -/
structure Bd (X : Cx) (G : Gm) (W : WX) (j : Nat) : Prop where
  eK : X.K = G.K
  eM : X.mg = G.mg
  tk : Takes X W
  rm : Room j X.A
  nd : X.N.Nodup
  calm : X.calm = true
theorem Bd.blk {X : Cx} {G : Gm} {W : WX} {j : Nat} (B : Bd X G W j) (s : Shared) (H : Hp) (scope : Scope) (cenv : PySem.Env) (fp : List Addr) : Bd (X.blk s H scope cenv fp) G W0 j := ⟨B.eK, B.eM, takes0, B.rm, B.nd, B.calm⟩
theorem bd_of {P : Program} {wd : World} {G : Gm} {base : Heap} {N ps : List Str} {qual : Str} {st : Stmt} {f : Addr} {cdv : Value} {A : Around} {outer : List PySem.Env} {s : Shared} {H : Hp} {E : XK} {k : Nat} (S : FnScope N ps (defScope st)) (hr : Room k (A.deeper (PyProof.Rows.envOfC qual (defScope st) s.heap.objs.size f cdv))) :
    Bd (cxB P wd G base N qual st f cdv A outer s H E) G (WD E) k := ⟨rfl, rfl, takes_of rfl rfl rfl rfl, hr, S.nd, rfl⟩
theorem po_of {P : Program} {wd : World} {G : Gm} {base : Heap} {N : List Str} {qual : Str} {st : Stmt} {f : Addr} {cdv : Value} {A : Around} {outer : List PySem.Env} {s : Shared} {H : Hp} {E : XK} :
    PassesOwn (model P wd) (cxB P wd G base N qual st f cdv A outer s H E).A (cxB P wd G base N qual st f cdv A outer s H E).env (cxB P wd G base N qual st f cdv A outer s H E).xe :=
  passes_of (X := cxB P wd G base N qual st f cdv A outer s H E) (K := fun e s'' => L2.CX P wd outer H s E e s'') (E₁ := fun e' s'' => L2.CX P wd outer H s E e' s'') rfl
section
variable {X : Cx} {G : Gm} {W : WX} {j : Nat} {pos p : Pos} {a b c : Expr} {f g h : Env → M T} {x : Str}
/-! names -/
theorem vr (i : Nat) (hN : X.N[i]? = some x := by rfl) (hv : Vis X.env.scope x := by first | exact Or.inl rfl | exact Or.inr (Or.inl rfl) | exact Or.inr (Or.inr rfl)) (hd : (x == ("__debug__" : Str)) = false := by decide) (hcd : (x == ("__classdict__" : Str)) = false := by decide) : SE X G W (.Name x pos) (fVar i) := s_var i hN hv hd hcd
theorem kv (i : Nat) (hN : X.N[i]? = some x := by rfl) (hv : Vis X.env.scope x := by first | exact Or.inl rfl | exact Or.inr (Or.inl rfl) | exact Or.inr (Or.inr rfl)) (hd : (x == ("__debug__" : Str)) = false := by decide) (hcd : (x == ("__classdict__" : Str)) = false := by decide) : SK X G W (.Name x pos) (fBor i) := k_var i hN hv hd hcd
theorem dvr (i : Nat) (hN : X.N[i]? = some x := by rfl) (hv : Vis X.env.scope x := by first | exact Or.inl rfl | exact Or.inr (Or.inl rfl) | exact Or.inr (Or.inr rfl)) (hd : (x == ("__debug__" : Str)) = false := by decide) (hcd : (x == ("__classdict__" : Str)) = false := by decide) : SD X G W (.Name x pos) (fBorD i) := d_var i hN hv hd hcd
theorem Bd.cls (B : Bd X G W j) (C : Nat) {cA : Addr} (hm : G.mg x = some (.ref cA)) (hx : x = G.cn C := by rfl) (hg : Gl X x := by rfl) (hd : (x == ("__debug__" : Str)) = false := by decide) : SE X G W (.Name x pos) (fC (.cl C)) := by
  subst hx
  exact s_glob hg (by rw [B.eM]; exact hm) (v := .ref cA) rfl (fun w => .cl hm) hd
theorem Bd.ty (B : Bd X G W j) (n : String) (hm : G.mg x = none) (hb : bootBuiltins x = some (.type n) := by rfl) (hg : Gl X x := by rfl) (hn : x ≠ "__name__" := by decide) (hd : (x == ("__debug__" : Str)) = false := by decide) : SE X G W (.Name x pos) (fC (.ty n)) := s_bltn hg (by rw [B.eM]; exact hm) hb (v := .ty n) rfl (fun w => .ty n) hn hd
theorem Bd.gint (B : Bd X G W j) (i : Int) (hm : ∃ t, G.mg x = some (.int i t)) (hg : Gl X x := by rfl) (hd : (x == ("__debug__" : Str)) = false := by decide) : SE X G W (.Name x pos) (fC (.int i)) := by
  obtain ⟨t, hm⟩ := hm
  exact s_glob hg (by rw [B.eM]; exact hm) (v := .int i) ⟨t, rfl⟩ (fun w => .int i) hd
theorem Bd.gstr (B : Bd X G W j) (z : Str) (hm : ∃ t, G.mg x = some (.str z t)) (hg : Gl X x := by rfl) (hd : (x == ("__debug__" : Str)) = false := by decide) : SE X G W (.Name x pos) (fC (.str z)) := by
  obtain ⟨t, hm⟩ := hm
  exact s_glob hg (by rw [B.eM]; exact hm) (v := .str z) ⟨t, rfl⟩ (fun w => .str z) hd
theorem Bd.gt (B : Bd X G W j) {xs : List T} (ok : GtOk G x xs) (hg : Gl X x := by rfl) (hd : (x == ("__debug__" : Str)) = false := by decide) : SE X G W (.Name x pos) (fC (.tup xs)) := s_gt ok B.eM hg hd
/-! arithmetic -/
theorem Bd.add (B : Bd X G W j) (ha : SE X G W a f) (hb : SE X G W b g) : SE X G W (.BinOp a .Add b pos) (fBin addT f g) := s_bin op_addA (v_add B.eK) ha hb
theorem Bd.sub (B : Bd X G W j) (ha : SE X G W a f) (hb : SE X G W b g) : SE X G W (.BinOp a .Sub b pos) (fBin subT f g) := s_bin op_sub v_sub ha hb
theorem Bd.mul (B : Bd X G W j) (ha : SE X G W a f) (hb : SE X G W b g) : SE X G W (.BinOp a .Mult b pos) (fBin mulT f g) := s_bin op_mulA (v_mul B.eK) ha hb
theorem Bd.div (B : Bd X G W j) (ha : SE X G W a f) (hb : SE X G W b g) : SE X G W (.BinOp a .FloorDiv b pos) (fBin divT f g) := s_bin op_divA v_div ha hb
theorem Bd.mod (B : Bd X G W j) (ha : SE X G W a f) (hb : SE X G W b g) : SE X G W (.BinOp a .Mod b pos) (fBin modT f g) := s_bin op_modA v_mod ha hb
theorem Bd.pow (B : Bd X G W j) (ha : SE X G W a f) (hb : SE X G W b g) : SE X G W (.BinOp a .Pow b pos) (fBin powT f g) := s_bin op_pow v_pow ha hb
theorem Bd.neg (B : Bd X G W j) (ha : SE X G W a f) : SE X G W (.UnaryOp .USub a pos) (fUn negT f) := s_un un_neg v_neg ha
/-! comparisons, as values and as tests -/
variable {p' : Env → M Bool}
theorem Bd.eq (B : Bd X G W j) (ha : SK X G W a f) (hb : SK X G W b g) (hm : behindInMarks .Eq b = false := by rfl) : SE X G W (.Compare a [.Eq] [b] pos) (fCmp eqT f g) := s_cmp (op_eqD B.rm.units) (v_eq B.eK) ha hb hm
theorem Bd.ne (B : Bd X G W j) (ha : SK X G W a f) (hb : SK X G W b g) (hm : behindInMarks .NotEq b = false := by rfl) : SE X G W (.Compare a [.NotEq] [b] pos) (fCmp neT f g) := s_cmp (op_neD B.rm.units) (v_ne B.eK) ha hb hm
theorem Bd.lt (B : Bd X G W j) (ha : SK X G W a f) (hb : SK X G W b g) (hm : behindInMarks .Lt b = false := by rfl) : SE X G W (.Compare a [.Lt] [b] pos) (fCmp ltT f g) := s_cmp op_lt v_lt ha hb hm
theorem Bd.le (B : Bd X G W j) (ha : SK X G W a f) (hb : SK X G W b g) (hm : behindInMarks .LtE b = false := by rfl) : SE X G W (.Compare a [.LtE] [b] pos) (fCmp leT f g) := s_cmp op_le v_le ha hb hm
theorem Bd.gtr (B : Bd X G W j) (ha : SK X G W a f) (hb : SK X G W b g) (hm : behindInMarks .Gt b = false := by rfl) : SE X G W (.Compare a [.Gt] [b] pos) (fCmp gtT f g) := s_cmp op_gt v_gt ha hb hm
theorem Bd.ge (B : Bd X G W j) (ha : SK X G W a f) (hb : SK X G W b g) (hm : behindInMarks .GtE b = false := by rfl) : SE X G W (.Compare a [.GtE] [b] pos) (fCmp geT f g) := s_cmp op_ge v_ge ha hb hm
theorem Bd.is_ (B : Bd X G W j) (ha : SK X G W a f) (hb : SK X G W b g) (hm : behindInMarks .Is b = false := by rfl) : SE X G W (.Compare a [.Is] [b] pos) (fCmp isT f g) := s_cmp op_isA v_is ha hb hm
theorem Bd.nis (B : Bd X G W j) (ha : SK X G W a f) (hb : SK X G W b g) (hm : behindInMarks .IsNot b = false := by rfl) : SE X G W (.Compare a [.IsNot] [b] pos) (fCmp nisT f g) := s_cmp op_notA v_nis ha hb hm
theorem units65 {A : Around} (r : Room j A) : A.units + 65 < cLine := by have := r.un; omega
theorem Bd.in_ (B : Bd X G W j) (ha : SK X G W a f) (hb : SK X G W b g) (hm : behindInMarks .In b = false := by rfl) : SE X G W (.Compare a [.In] [b] pos) (fCmp inT f g) := s_cmp (op_inA (units65 B.rm)) (v_in B.eK) ha hb hm
theorem Bd.nin (B : Bd X G W j) (ha : SK X G W a f) (hb : SK X G W b g) (hm : behindInMarks .NotIn b = false := by rfl) : SE X G W (.Compare a [.NotIn] [b] pos) (fCmp ninT f g) := s_cmp (op_ninA (units65 B.rm)) (v_nin B.eK) ha hb hm
theorem Bd.eqB (B : Bd X G W j) (ha : SK X G W a f) (hb : SK X G W b g) (hm : behindInMarks .Eq b = false := by rfl) : SB X G W (.Compare a [.Eq] [b] pos) (fCmpB eqT f g) := s_cmpB (op_eqD B.rm.units) (v_eq B.eK) ha hb hm
theorem Bd.neB (B : Bd X G W j) (ha : SK X G W a f) (hb : SK X G W b g) (hm : behindInMarks .NotEq b = false := by rfl) : SB X G W (.Compare a [.NotEq] [b] pos) (fCmpB neT f g) := s_cmpB (op_neD B.rm.units) (v_ne B.eK) ha hb hm
theorem Bd.ltB (B : Bd X G W j) (ha : SK X G W a f) (hb : SK X G W b g) (hm : behindInMarks .Lt b = false := by rfl) : SB X G W (.Compare a [.Lt] [b] pos) (fCmpB ltT f g) := s_cmpB op_lt v_lt ha hb hm
theorem Bd.leB (B : Bd X G W j) (ha : SK X G W a f) (hb : SK X G W b g) (hm : behindInMarks .LtE b = false := by rfl) : SB X G W (.Compare a [.LtE] [b] pos) (fCmpB leT f g) := s_cmpB op_le v_le ha hb hm
theorem Bd.gtB (B : Bd X G W j) (ha : SK X G W a f) (hb : SK X G W b g) (hm : behindInMarks .Gt b = false := by rfl) : SB X G W (.Compare a [.Gt] [b] pos) (fCmpB gtT f g) := s_cmpB op_gt v_gt ha hb hm
theorem Bd.geB (B : Bd X G W j) (ha : SK X G W a f) (hb : SK X G W b g) (hm : behindInMarks .GtE b = false := by rfl) : SB X G W (.Compare a [.GtE] [b] pos) (fCmpB geT f g) := s_cmpB op_ge v_ge ha hb hm
theorem Bd.isB (B : Bd X G W j) (ha : SK X G W a f) (hb : SK X G W b g) (hm : behindInMarks .Is b = false := by rfl) : SB X G W (.Compare a [.Is] [b] pos) (fCmpB isT f g) := s_cmpB op_isA v_is ha hb hm
theorem Bd.nisB (B : Bd X G W j) (ha : SK X G W a f) (hb : SK X G W b g) (hm : behindInMarks .IsNot b = false := by rfl) : SB X G W (.Compare a [.IsNot] [b] pos) (fCmpB nisT f g) := s_cmpB op_notA v_nis ha hb hm
theorem Bd.inB (B : Bd X G W j) (ha : SK X G W a f) (hb : SK X G W b g) (hm : behindInMarks .In b = false := by rfl) : SB X G W (.Compare a [.In] [b] pos) (fCmpB inT f g) := s_cmpB (op_inA (units65 B.rm)) (v_in B.eK) ha hb hm
theorem Bd.ninB (B : Bd X G W j) (ha : SK X G W a f) (hb : SK X G W b g) (hm : behindInMarks .NotIn b = false := by rfl) : SB X G W (.Compare a [.NotIn] [b] pos) (fCmpB ninT f g) := s_cmpB (op_ninA (units65 B.rm)) (v_nin B.eK) ha hb hm
/-- a value as a test -/
theorem Bd.tru (B : Bd X G W j) (ha : SE X G W a f) (he : ∀ whole, isTrue a X.env whole = (do let v ← whole; standAt a.pos; holding [v] (truthy v)) := by intro _; rfl) : SB X G W a (fTru f) := s_tru B.eK ha he
theorem vb (ha : SE X G W a f) (he : ∀ whole, isTrue a X.env whole = (do let v ← whole; standAt a.pos; holding [v] (truthy v)) := by intro _; rfl) : SB X G W a (fToB f) := s_val ha he
/-! built-ins -/
theorem Bd.len (B : Bd X G W j) (m : G.mg "len" = none) (ha : SK X G W a f) (hg : Gl X "len" := by rfl) (hs : starEach [a] X.env = (false, eval a X.env) :: starEach [] X.env := by rfl) : SE X G W (.Call (.Name "len" p) [a] [] pos) (fB1 lenT f) := s_b1 c_len (v_len B.eK) hg (by rw [B.eM]; exact m) rfl ha hs
theorem Bd.int (B : Bd X G W j) (m : G.mg "int" = none) (ha : SK X G W a f) (hg : Gl X "int" := by rfl) (hs : starEach [a] X.env = (false, eval a X.env) :: starEach [] X.env := by rfl) : SE X G W (.Call (.Name "int" p) [a] [] pos) (fB1 intT f) := s_t1 call_int1 v_int hg (by rw [B.eM]; exact m) rfl ha hs
theorem Bd.abs (B : Bd X G W j) (m : G.mg "abs" = none) (ha : SK X G W a f) (hg : Gl X "abs" := by rfl) (hs : starEach [a] X.env = (false, eval a X.env) :: starEach [] X.env := by rfl) : SE X G W (.Call (.Name "abs" p) [a] [] pos) (fB1 absT f) := s_b1 call_abs v_abs hg (by rw [B.eM]; exact m) rfl ha hs
theorem Bd.sum (B : Bd X G W j) (m : G.mg "sum" = none) (ha : SK X G W a f) (hg : Gl X "sum" := by rfl) (hs : starEach [a] X.env = (false, eval a X.env) :: starEach [] X.env := by rfl) : SE X G W (.Call (.Name "sum" p) [a] [] pos) (fB1 sumT f) := s_b1 (cr_sum B.calm) (v_sum B.eK) hg (by rw [B.eM]; exact m) rfl ha hs
theorem Bd.any (B : Bd X G W j) (m : G.mg "any" = none) (ha : SK X G W a f) (hg : Gl X "any" := by rfl) (hs : starEach [a] X.env = (false, eval a X.env) :: starEach [] X.env := by rfl) : SE X G W (.Call (.Name "any" p) [a] [] pos) (fB1 anyT f) := s_b1 (cr_any B.calm) (v_any B.eK) hg (by rw [B.eM]; exact m) rfl ha hs
theorem Bd.all (B : Bd X G W j) (m : G.mg "all" = none) (ha : SK X G W a f) (hg : Gl X "all" := by rfl) (hs : starEach [a] X.env = (false, eval a X.env) :: starEach [] X.env := by rfl) : SE X G W (.Call (.Name "all" p) [a] [] pos) (fB1 allT f) := s_b1 (cr_all B.calm) (v_all B.eK) hg (by rw [B.eM]; exact m) rfl ha hs
theorem Bd.max1 (B : Bd X G W j) (m : G.mg "max" = none) (ha : SK X G W a f) (hg : Gl X "max" := by rfl) (hs : starEach [a] X.env = (false, eval a X.env) :: starEach [] X.env := by rfl) : SE X G W (.Call (.Name "max" p) [a] [] pos) (fB1 maxT f) := s_b1 (cr_max B.calm) (v_max B.eK) hg (by rw [B.eM]; exact m) rfl ha hs
theorem Bd.min1 (B : Bd X G W j) (m : G.mg "min" = none) (ha : SK X G W a f) (hg : Gl X "min" := by rfl) (hs : starEach [a] X.env = (false, eval a X.env) :: starEach [] X.env := by rfl) : SE X G W (.Call (.Name "min" p) [a] [] pos) (fB1 minT f) := s_b1 (cr_min B.calm) (v_min B.eK) hg (by rw [B.eM]; exact m) rfl ha hs
theorem Bd.tuple (B : Bd X G W j) (m : G.mg "tuple" = none) (ha : SK X G W a f) (hg : Gl X "tuple" := by rfl) (hs : starEach [a] X.env = (false, eval a X.env) :: starEach [] X.env := by rfl) : SE X G W (.Call (.Name "tuple" p) [a] [] pos) (fB1 tupT f) := s_t1 call_tuple_of (v_tup B.eK) hg (by rw [B.eM]; exact m) rfl ha hs
theorem Bd.list (B : Bd X G W j) (m : G.mg "list" = none) (ha : SK X G W a f) (hg : Gl X "list" := by rfl) (hs : starEach [a] X.env = (false, eval a X.env) :: starEach [] X.env := by rfl) : SE X G W (.Call (.Name "list" p) [a] [] pos) (fB1 lisT f) := s_t1 call_list_of (v_lis B.eK) hg (by rw [B.eM]; exact m) rfl ha hs
theorem Bd.max2 (B : Bd X G W j) (m : G.mg "max" = none) (ha : SE X G W a f) (hb : SE X G W b g) (hg : Gl X "max" := by rfl) (hs : starEach [a, b] X.env = (false, eval a X.env) :: starEach [b] X.env := by rfl) (hs2 : starEach [b] X.env = (false, eval b X.env) :: starEach [] X.env := by rfl) (hpl : (backTo pos (starEach [b] X.env)).any (·.1) = false := by rfl) : SE X G W (.Call (.Name "max" p) [a, b] [] pos) (fBin max2T f g) := s_b2 (call_max2 B.calm) v_max2 hg (by rw [B.eM]; exact m) rfl ha hb hs hs2 (by decide) (by decide) hpl
theorem Bd.min2 (B : Bd X G W j) (m : G.mg "min" = none) (ha : SE X G W a f) (hb : SE X G W b g) (hg : Gl X "min" := by rfl) (hs : starEach [a, b] X.env = (false, eval a X.env) :: starEach [b] X.env := by rfl) (hs2 : starEach [b] X.env = (false, eval b X.env) :: starEach [] X.env := by rfl) (hpl : (backTo pos (starEach [b] X.env)).any (·.1) = false := by rfl) : SE X G W (.Call (.Name "min" p) [a, b] [] pos) (fBin min2T f g) := s_b2 (call_min2 B.calm) v_min2 hg (by rw [B.eM]; exact m) rfl ha hb hs hs2 (by decide) (by decide) hpl
theorem Bd.isi (B : Bd X G W j) {tb : Kd → Cl → Option Bool} (ok : TabOk G tb) (m : G.mg "isinstance" = none) (ha : SE X G W a f) (hb : SE X G W b g) (hg : Gl X "isinstance" := by rfl) (hs : starEach [a, b] X.env = (false, eval a X.env) :: starEach [b] X.env := by rfl) (hs2 : starEach [b] X.env = (false, eval b X.env) :: starEach [] X.env := by rfl) (hpl : (backTo pos (starEach [b] X.env)).any (·.1) = false := by rfl) : SE X G W (.Call (.Name "isinstance" p) [a, b] [] pos) (fBin (isiT tb) f g) := s_b2 c_isi (v_isi ok B.eK) hg (by rw [B.eM]; exact m) rfl ha hb hs hs2 (by decide) (by decide) hpl
/-! items, fields, dicts -/
theorem Bd.ix (B : Bd X G W j) (ha : SK X G W a f) (hb : SE X G W b g) (hs : PlainIx b := by intro _ _; rfl) : SE X G W (.Subscript a b pos) (fIx f g) := s_ix B.eK ha hb hs
theorem Bd.sl (B : Bd X G W j) {lo hi : Option Expr} {fl fh : Option (Env → M T)} {p2 : Pos} (ha : SK X G W a f) (hl : PO X lo (tSO G W fl)) (hh : PO X hi (tSO G W fh)) : SE X G W (.Subscript a (.Slice lo hi none p2) pos) (fSl f fl fh) := s_sl B.eK ha hl hh
theorem Bd.fld (B : Bd X G W j) {name : Str} (m : Nat → Option Nat) (ok : ∀ C j, m C = some j → FldOk G name C j) (ha : SE X G W a f) (hb : attributeBase a name X.env (eval a X.env) = eval a X.env := by rfl) : SE X G W (.Attribute a name pos) (fFld m f) := s_fld B.eK m ok ha hb
theorem Bd.dget (B : Bd X G W j) (ha : SD X G W a f) (hi : SE X G W b g) (hs : NoSl b := by intro _ _; rfl) : SE X G W (.Subscript a b pos) (fDget f g) := s_dget (by have := B.rm.units; omega) ha hi hs
theorem Bd.gd (B : Bd X G W j) {px : Pos} {tb : Str → Option (Option T)} (ok : GgOk X.w G x tb) (hi : SE X G W b f) (hg : Gl X x := by rfl) (hs : PlainIx b := by intro _ _; rfl) (hd : (x == ("__debug__" : Str)) = false := by decide) : SE X G W (.Subscript (.Name x px) b pos) (fGd (fun z => (tb z).bind id) f) := s_gd ok.gd B.eK B.eM hg hi hs hd
theorem Bd.gget (B : Bd X G W j) {px apos : Pos} {tb : Str → Option (Option T)} (ok : GgOk X.w G x tb) (hi : SE X G W b f) (hc : SE X G W c g) (hg : Gl X x := by rfl) (m : M2 X (.Name x px) "get" apos b c pos := by exact ⟨rfl, rfl, rfl, rfl⟩) (hd : (x == ("__debug__" : Str)) = false := by decide) : SE X G W (.Call (.Attribute (.Name x px) "get" apos) [b, c] [] pos) (fGget tb f g) := s_gget ok B.eK B.eM hg hi hc m hd
theorem Bd.idxL (B : Bd X G W j) {apos : Pos} (ha : SK X G W a f) (he : SE X G W b g) (hbase : attributeBase a "index" X.env (eval a X.env) = eval a X.env := by rfl)
    (hfew : ((backTo pos (starEach [b] X.env)).all (fun x => !x.1) && (backToKw pos (keywordEach [] X.env)).all (fun x => x.1.isSome) && decide (([b] : List Expr).length + ([] : List Keyword).length + (if ([] : List Keyword).isEmpty then 0 else 1) < 30)) = true := by rfl)
    (hline : (apos.endLine == pos.line) = true := by rfl) (hs : starEach [b] X.env = (false, eval b X.env) :: starEach [] X.env := by rfl) : SE X G W (.Call (.Attribute a "index" apos) [b] [] pos) (fIdxL f g) := s_idxL B.eK ha he hbase hfew hline hs
theorem Bd.idxG (B : Bd X G W j) {px apos : Pos} {xs : List T} (ok : GtOk G x xs) (he : SE X G W b g) (hg : Gl X x := by rfl) (hbase : attributeBase (.Name x px) "index" X.env (eval (.Name x px) X.env) = eval (.Name x px) X.env := by rfl)
    (hfew : ((backTo pos (starEach [b] X.env)).all (fun x => !x.1) && (backToKw pos (keywordEach [] X.env)).all (fun x => x.1.isSome) && decide (([b] : List Expr).length + ([] : List Keyword).length + (if ([] : List Keyword).isEmpty then 0 else 1) < 30)) = true := by rfl)
    (hline : (apos.endLine == pos.line) = true := by rfl) (hs : starEach [b] X.env = (false, eval b X.env) :: starEach [] X.env := by rfl) (hd : (x == ("__debug__" : Str)) = false := by decide) : SE X G W (.Call (.Attribute (.Name x px) "index" apos) [b] [] pos) (fIdxG xs g) := s_idxG ok B.eK B.eM hg he hbase hfew hline hs (hd := hd)
/-! calls -/
variable {es : List Expr} {fs : List (Env → M T)} {ds : List T} {k n C : Nat} {apos : Pos}
theorem Bd.call (B : Bd X G W j) {F : List T → M T} (D : DefOk X.prog X.w X.base G k x n ds F) (ha : SA X G W (a :: es) fs) (hk : k ≤ j := by decide) (hn : fs.length + ds.length = n := by rfl) (hg : Gl X x := by rfl)
    (hdb : (x == ("__debug__" : Str)) = false := by decide) (he : starEach (a :: es) X.env = (false, eval a X.env) :: starEach es X.env := by rfl) (hpl : (backTo pos (starEach es X.env)).any (·.1) = false := by rfl) : SE X G W (.Call (.Name x p) (a :: es) [] pos) (fCall F ds fs) := s_call D B.eK B.eM B.tk B.rm hk hg ha hn hdb he hpl
theorem Bd.call0 (B : Bd X G W j) {F : List T → M T} (D : DefOk X.prog X.w X.base G k x n ds F) (hk : k ≤ j := by decide) (hn : ds.length = n := by rfl) (hg : Gl X x := by rfl) (hdb : (x == ("__debug__" : Str)) = false := by decide) : SE X G W (.Call (.Name x p) [] [] pos) (fCall F ds []) := s_call0 D B.eK B.eM B.tk B.rm hk hg hn hdb
theorem Bd.make (B : Bd X G W j) {F : List T → M (List T)} (D : MakeOk X.prog X.w X.base G k C n ds F) (ha : SA X G W (a :: es) fs) (hk : k + 1 ≤ j := by decide) (hn : fs.length + ds.length = n := by rfl) (hx : x = G.cn C := by rfl) (hg : Gl X x := by rfl)
    (hdb : (x == ("__debug__" : Str)) = false := by decide) (he : starEach (a :: es) X.env = (false, eval a X.env) :: starEach es X.env := by rfl) (hpl : (backTo pos (starEach es X.env)).any (·.1) = false := by rfl) : SE X G W (.Call (.Name x p) (a :: es) [] pos) (fMake C F ds fs) := s_make D hx B.eK B.eM B.tk B.rm hk hg ha hn hdb he hpl
/-! statements -/
variable {st : Stmt} {rest body : List Stmt} {gg : Sm} {i : Nat}
theorem Bd.set (B : Bd X G W j) (i : Nat) {pos' : Pos} (he : SE X G W a f) (hi : X.N[i]? = some x := by rfl) (hx : Loc X.env.scope x := by first | exact Or.inl rfl | exact Or.inr rfl) (hs : swapsWith a (some (.Name x pos')) pos.line X.env = pure false := by rfl) (hf : X.fn x = true ∨ X.env.scope.names.lookup x = some .local := by first | exact .inl rfl | exact .inr rfl) : SS X G W (.Assign [.Name x pos'] a pos) (qSet i f) := ss_set B.nd hi hx he hs hf
theorem Bd.own (B : Bd X G W j) (i : Nat) {pos' : Pos} {f : Env → M (List T)} (he : SL X G W a f) (hi : X.N[i]? = some x := by rfl) (hx : Loc X.env.scope x := by first | exact Or.inl rfl | exact Or.inr rfl) (hs : swapsWith a (some (.Name x pos')) pos.line X.env = pure false := by rfl) (hf : X.fn x = true ∨ X.env.scope.names.lookup x = some .local := by first | exact .inl rfl | exact .inr rfl) : SS X G W (.Assign [.Name x pos'] a pos) (qOwn i f) := ss_own B.nd hi hx he hs hf
theorem Bd.ownD (B : Bd X G W j) (i : Nat) {pos' : Pos} {f : Env → M (List Key × List T)} (he : SN X G W a f) (hi : X.N[i]? = some x := by rfl) (hx : Loc X.env.scope x := by first | exact Or.inl rfl | exact Or.inr rfl) (hs : swapsWith a (some (.Name x pos')) pos.line X.env = pure false := by rfl) (hf : X.fn x = true ∨ X.env.scope.names.lookup x = some .local := by first | exact .inl rfl | exact .inr rfl) : SS X G W (.Assign [.Name x pos'] a pos) (qOwnD i f) := ss_ownD B.nd hi hx he hs hf
theorem Bd.par2 (B : Bd X G W j) (i l : Nat) {y : Str} {e1 e2 : Expr} {px py pt : Pos} {kt k2 pt2} (ha : SA X G W [e1, e2] [f, g]) (hi : X.N[i]? = some x := by rfl) (hj : X.N[l]? = some y := by rfl) (hij : i ≠ l := by decide)
    (hx : X.env.scope.names.lookup x = some .local := by rfl) (hy : X.env.scope.names.lookup y = some .local := by rfl)
    (hw : swappedStores [.Tuple [.Name x px, .Name y py] kt pt] (.Tuple [e1, e2] k2 pt2) X.env = pure (some [x, y]) := by rfl)
    (hs : swapsWithSole [.Tuple [.Name x px, .Name y py] kt pt] (.Tuple [e1, e2] k2 pt2) pos.line X.env = pure false := by rfl) :
    SS X G W (.Assign [.Tuple [.Name x px, .Name y py] kt pt] (.Tuple [e1, e2] k2 pt2) pos) (qPar2 i l f g) := ss_par2 B.calm B.nd hi hj hij hx hy ha hw hs
theorem Bd.par3 (B : Bd X G W j) (i l m : Nat) {y z : Str} {e1 e2 e3 : Expr} {f1 f2 f3 : Env → M T} {px py pz pt : Pos} {kt k2 pt2} (ha : SA X G W [e1, e2, e3] [f1, f2, f3]) (hi : X.N[i]? = some x := by rfl) (hj : X.N[l]? = some y := by rfl) (hl : X.N[m]? = some z := by rfl) (hij : i ≠ l := by decide) (hil : i ≠ m := by decide) (hjl : l ≠ m := by decide)
    (hx : X.env.scope.names.lookup x = some .local := by rfl) (hy : X.env.scope.names.lookup y = some .local := by rfl) (hz : X.env.scope.names.lookup z = some .local := by rfl)
    (hw : swappedStores [.Tuple [.Name x px, .Name y py, .Name z pz] kt pt] (.Tuple [e1, e2, e3] k2 pt2) X.env = pure (some [x, y, z]) := by rfl)
    (hs : swapsWithSole [.Tuple [.Name x px, .Name y py, .Name z pz] kt pt] (.Tuple [e1, e2, e3] k2 pt2) pos.line X.env = pure false := by rfl) :
    SS X G W (.Assign [.Tuple [.Name x px, .Name y py, .Name z pz] kt pt] (.Tuple [e1, e2, e3] k2 pt2) pos) (qPar3 i l m [f1, f2, f3]) := ss_par3 B.calm B.nd hi hj hl hij hil hjl hx hy hz ha hw hs
theorem Bd.nm (B : Bd X G W j) (i : Nat) (hi : X.N[i]? = some x := by rfl) (hx : Loc X.env.scope x := by first | exact Or.inl rfl | exact Or.inr rfl) (hf : X.fn x = true ∨ X.env.scope.names.lookup x = some .local := by first | exact .inl rfl | exact .inr rfl) : SG X G [i] (.Name x pos) (hName i) := g_name B.nd hi hx hf
theorem Bd.tg (B : Bd X G W j) {us : List Nat} {kk : Nat} {hs : List T → Env → Option Env} (n : Nat) (h : SGs X G us es hs) (hn : (assignEach es X.env).length = n := by rfl) (hst : (assignEach es X.env).findIdx? (·.1) = none := by rfl) : SG X G us (.Tuple es kk pos) (hTup n hs) := g_tup B.calm B.eK h hn hst
theorem Bd.tgq (B : Bd X G W j) {kk : Nat} {hs : List T → Sm} (n : Nat) (h : SGqs X G W es hs) (hn : (assignEach es X.env).length = n := by rfl) (hst : (assignEach es X.env).findIdx? (·.1) = none := by rfl) : SGq X G W (.Tuple es kk pos) (hqTup n hs) := gq_tup B.calm B.eK h hn hst
theorem Bd.dputq (B : Bd X G W j) (i : Nat) {px : Pos} (hi : SE X G W b g) (hN : X.N[i]? = some x := by rfl) (hv : Vis X.env.scope x := by first | exact Or.inl rfl | exact Or.inr (Or.inl rfl) | exact Or.inr (Or.inr rfl))
    (ha : ∀ v, assign (.Subscript (.Name x px) b pos) X.env v = (do let ov ← holding [v] (eval (.Name x px) X.env); let iv ← holding [v, ov] (eval b X.env); standAt pos; holding [v, ov, iv] (setItem ov iv v); release [v, ov, iv] []) := by intro _; rfl) (hd : (x == ("__debug__" : Str)) = false := by decide) (hcd : (x == ("__classdict__" : Str)) = false := by decide) : SGq X G W (.Subscript (.Name x px) b pos) (hqDput i g) := gq_dput i (by have := B.rm.units; omega) hN hv hi ha hd hcd
theorem Bd.put (B : Bd X G W j) (i : Nat) {px spos : Pos} (he : SE X G W a f) (hi : SE X G W b g) (hN : X.N[i]? = some x := by rfl) (hv : Vis X.env.scope x := by first | exact Or.inl rfl | exact Or.inr (Or.inl rfl) | exact Or.inr (Or.inr rfl))
    (ha : ∀ v, assign (.Subscript (.Name x px) b spos) X.env v = (do let ov ← holding [v] (eval (.Name x px) X.env); let iv ← holding [v, ov] (eval b X.env); standAt spos; holding [v, ov, iv] (setItem ov iv v); release [v, ov, iv] []) := by intro _; rfl)
    (hs : swapsWithSole [.Subscript (.Name x px) b spos] a pos.line X.env = pure false := by rfl) (hw : swappedStores [.Subscript (.Name x px) b spos] a X.env = pure none := by rfl) (hd : (x == ("__debug__" : Str)) = false := by decide) (hcd : (x == ("__classdict__" : Str)) = false := by decide) :
    SS X G W (.Assign [.Subscript (.Name x px) b spos] a pos) (qSetIx i f g) := ss_setIx i hN hv he hi ha hs hw (hd := hd) (hcd := hcd)
end
section
variable {X : Cx} {G : Gm} {W : WX} {j : Nat} {pos spos py : Pos} {elt tg iter : Expr} {ifs : List Expr} {scope : Scope} {own : List (Str × Nat)} {us : List Nat} {h : T → Env → Option Env} {fi : Env → M (List T)} {f : Env → M T} {p : Env → M Bool} {y : Str}
theorem Bd.comp (B : Bd X G W j) (own : List (Str × Nat)) (hi : SI X G W tg iter fi)
    (hg : ∀ (s : Shared) (H : Hp) (C : Addr) (cl : List (Str × Addr)) (fp : List Addr), SG (X.blk s H scope (compEnvC scope cl C X.env) fp) G us tg h) (ht : ∀ (s : Shared) (H : Hp) (C : Addr) (cl : List (Str × Addr)) (fp : List Addr), STs (X.blk s H scope (compEnvC scope cl C X.env) fp) G ifs p)
    (he : ∀ (s : Shared) (H : Hp) (C : Addr) (cl : List (Str × Addr)) (fp : List Addr), SE (X.blk s H scope (compEnvC scope cl C X.env) fp) G W0 elt f) (ok : blkC X.N X.env.scope scope own = true := by kernel_rfl) (hu : ∀ j ∈ us, j ∈ own.map (·.2) := by decide) (hs : ∀ x, foldedSetIterable iter X.env x = pure x := by intro _; rfl) : SL X G W (.ListComp elt [⟨tg, iter, ifs, 0⟩] scope pos) (fComp (own.map (·.2)) h p f fi) := l_comp B.calm B.nd hi (blkOk_by ok) hu hg ht he hs
theorem Bd.setC (B : Bd X G W j) (i : Nat) (own : List (Str × Nat)) (hi : SI X G W tg iter fi)
    (hg : ∀ (s : Shared) (H : Hp) (C : Addr) (cl : List (Str × Addr)) (fp : List Addr), SG (X.blk s H scope (compEnvC scope cl C X.env) fp) G us tg h) (ht : ∀ (s : Shared) (H : Hp) (C : Addr) (cl : List (Str × Addr)) (fp : List Addr), STs (X.blk s H scope (compEnvC scope cl C X.env) fp) G ifs p)
    (he : ∀ (s : Shared) (H : Hp) (C : Addr) (cl : List (Str × Addr)) (fp : List Addr), SE (X.blk s H scope (compEnvC scope cl C X.env) fp) G W0 elt f) (ok : blkC X.N X.env.scope scope own = true := by kernel_rfl) (hu : ∀ j ∈ us, j ∈ own.map (·.2) := by decide)
    (hy : X.N[i]? = some y := by rfl) (hyl : X.env.scope.names.lookup y = some .local := by rfl) (hsw : swapsWith (.ListComp elt [⟨tg, iter, ifs, 0⟩] scope pos) (some (.Name y py)) spos.line X.env = pure true := by rfl) (hs : ∀ x, foldedSetIterable iter X.env x = pure x := by intro _; rfl) : SS X G W (.Assign [.Name y py] (.ListComp elt [⟨tg, iter, ifs, 0⟩] scope pos) spos) (qSet i (fOwn (fComp (own.map (·.2)) h p f fi))) := ss_compV B.calm B.nd hy hyl hsw hi (blkOk_by ok) hu hg ht he hs
theorem Bd.ownC (B : Bd X G W j) (i : Nat) (own : List (Str × Nat)) (hi : SI X G W tg iter fi)
    (hg : ∀ (s : Shared) (H : Hp) (C : Addr) (cl : List (Str × Addr)) (fp : List Addr), SG (X.blk s H scope (compEnvC scope cl C X.env) fp) G us tg h) (ht : ∀ (s : Shared) (H : Hp) (C : Addr) (cl : List (Str × Addr)) (fp : List Addr), STs (X.blk s H scope (compEnvC scope cl C X.env) fp) G ifs p)
    (he : ∀ (s : Shared) (H : Hp) (C : Addr) (cl : List (Str × Addr)) (fp : List Addr), SE (X.blk s H scope (compEnvC scope cl C X.env) fp) G W0 elt f) (ok : blkC X.N X.env.scope scope own = true := by kernel_rfl) (hu : ∀ j ∈ us, j ∈ own.map (·.2) := by decide)
    (hy : X.N[i]? = some y := by rfl) (hyl : X.env.scope.names.lookup y = some .local := by rfl) (hsw : swapsWith (.ListComp elt [⟨tg, iter, ifs, 0⟩] scope pos) (some (.Name y py)) spos.line X.env = pure true := by rfl) (hs : ∀ x, foldedSetIterable iter X.env x = pure x := by intro _; rfl) : SS X G W (.Assign [.Name y py] (.ListComp elt [⟨tg, iter, ifs, 0⟩] scope pos) spos) (qOwn i (fComp (own.map (·.2)) h p f fi)) := ss_comp B.calm B.nd hy hyl hsw hi (blkOk_by ok) hu hg ht he hs
end
section
variable {X : Cx} {G : Gm} {W : WX} {pos : Pos} {a b : Expr} {f g : Env → M T} {C j k k' : Nat} {F : List T → M T} {p : List T → RS → Option RS}
theorem tob_read {f : Env → M T} {σ : L2.St} {H : Hp} {Q : Bool → Hp → Prop} (h : tSB G W (fToB f) σ H Q) : tS G W f σ H (fun v H1 => ∃ k, v = .bl k ∧ Q k H1) := by
  obtain ⟨w, H0, env, r, g0, s, h0⟩ := h
  refine ⟨w, H0, env, r, g0, s, h0.bind.imp fun t r1 w1 H1 st g1 q v d => ?_⟩
  cases d with
  | bl b => exact ⟨b, rfl, OutP.here g1 q⟩
  | _ => exact q.elim
theorem b_ownC {op : CmpOp} (hop : ∀ a b, compareOp op a b = richCompare op a b) (D : MethOk X.prog X.w X.base G k C (cmpInfo op).2.1 2 [] F) (hK : X.K = G.K) (hM : X.mg = G.mg) (hr : Room j X.A) (hk : k ≤ j) (ha : SE X G W a f) (hb : SE X G W b g) (hm : behindInMarks op b = false) :
    SB X G W (.Compare a [op] [b] pos) (fToB fun env => f env >>= fun x => g env >>= fun y => own2s C F x y) := pt_imp (pt_cmpR (op_ownC hop D hK hM hr hk) ha hb hm) fun σ H Q hq => own_use own2s_ne (tob_read hq)
theorem b_ownN (D : MethOk X.prog X.w X.base G k C "__eq__" 2 [] F) (ne : NeOk G C) (hK : X.K = G.K) (hM : X.mg = G.mg) (hr : Room j X.A) (hk : k + 1 ≤ j) (ha : SE X G W a f) (hb : SE X G W b g) (hm : behindInMarks .NotEq b = false) :
    SB X G W (.Compare a [.NotEq] [b] pos) (fToB fun env => f env >>= fun x => g env >>= fun y => own2n C F x y) := pt_imp (pt_cmpR (op_ownN D ne hK hM hr hk) ha hb hm) fun σ H Q hq => own_use own2n_ne (tob_read hq)
theorem b_ownE (D : MethOk X.prog X.w X.base G k C "__eq__" 2 [] F) (N : NiOk X.prog X.w X.base G k' C p) (hK : X.K = G.K) (hM : X.mg = G.mg) (hr : Room j X.A) (hk : k ≤ j) (hk' : k' ≤ j) (ha : SE X G W a f) (hb : SE X G W b g) (hm : behindInMarks .Eq b = false) :
    SB X G W (.Compare a [.Eq] [b] pos) (fToB fun env => f env >>= fun x => g env >>= fun y => ownE C F p x y) := pt_imp (pt_cmpR (op_ownE D N hK hM hr hk hk') ha hb hm) fun σ H Q hq => own_use ownE_ne (tob_read hq)
end
/-! ### the end -/
/-- what stands, the tables left out -/
def noTb (H : Hp) : Hp := fun b => match H b with
  | some (.tbl _) => none
  | o => o
theorem noTb_at {H : Hp} {b : Addr} {o : HO} (h : H b = some o) (n : NoTab o) : noTb H b = some o := by
  unfold noTb
  rw [h]
  cases o <;> first | rfl | exact absurd rfl (n _)
theorem noTb_of {H : Hp} {b : Addr} {o : HO} (h : noTb H b = some o) : H b = some o ∧ NoTab o := by
  unfold noTb at h
  cases e : H b with
  | none => rw [e] at h; cases h
  | some u =>
    rw [e] at h
    cases u <;> first | (cases h; exact ⟨rfl, fun _ z => by cases z⟩) | cases h
theorem noTb_seq {K : PySem.W.Frag} {H : Hp} {a : Addr} {xs : List V} (h : SqL K H a xs) : SqL K (noTb H) a xs := by
  rcases h with (h | ⟨o, h⟩) | h
  · exact .inl (.inl (noTb_at h (fun _ z => by cases z)))
  · exact .inl (.inr ⟨o, noTb_at h (fun _ z => by cases z)⟩)
  · exact .inr h
theorem law_end {l : PySem.W.OpenLaw} {q : Program} {loose : List Str} {XP : (Str → Option Value) → Heap → Prop} {YP : World → Heap → Prop} {d : DefRec} {K : Params → PySem.W.Frag} {x : Str} (k : Nat) (hn : l.most = some 63) (hdf : d.params.defaults = []) (hr : Room k callerA)
    (hY : ∀ (w : World) (h : Heap), YP w h → (K w.params).In h)
    (F : ∀ (w : World) (mg : Str → Option Value) (fa : Addr) (h : Heap), YP w h → (K w.params).In h → h.Ns mainGlobals mg → mg d.name = some (.ref fa) → ∃ (G : Gm) (f : List T → M T) (fd : FuncData) (cs : List (Addr × Addr)), G.K = K w.params ∧ G.mg = mg ∧ (∀ (s : Shared) (u : Value), BindsTo s fd ⟨[u], []⟩ [(x, u)]) ∧
      (∀ p ∈ cs, h.get? p.2 = some { cls := .none, data := .fields #[] }) ∧ (∀ p ∈ cs, (K w.params).lookup p.2 = none) ∧ (∀ p ∈ cs, PySem.W.CodeHd h p.1 p.2) ∧ (∀ t ∈ G.tb, ∃ c, (c, t.1) ∈ cs) ∧
      (∀ ns : List Int, ns.length ≤ 63 → (∀ z ∈ ns, Builtin.Int.intBits z ≤ 1048576) → ∃ r, f [.kls (ns.map T.int)] [] = .ok (.bl true) r) ∧ ∀ base : Heap, (K w.params).In base → base.Ns mainGlobals mg → (∀ p ∈ cs, LamX.TabB base mg p.1 p.2) → FnOk l.prog w G.K G.mg base (L2.CX l.prog w) k fa fd [x] (spF G 1 f)) :
    PySem.W.WalkO q loose XP YP l.row.toRowW d [] (fun f vs => PySem.call f vs) :=
  LamX.walk_ofTs (n := 63) (k := k) (x := x) (K := K) (CX := fun w => L2.CX l.prog w) hn (by decide) hdf hr hY (fun w mg fa h Y KX Ns hm => by
    obtain ⟨G, f, fd, cs, e1, e2, hb, t1, t2, t3, t4, hv, hF⟩ := F w mg fa h Y KX Ns hm
    refine ⟨fd, cs, spF G 1 f, t1, t2, t3, hb, fun H a ns hl hbits hT hS => ?_, fun base KB NB hTB => ?_⟩
    · obtain ⟨r, er⟩ := hv ns hl hbits
      have dint : ∀ (ns : List Int) (w : Wd), Dens G w (ns.map V.int) (ns.map T.int) := fun ns w => by
        induction ns with
        | nil => exact .nil
        | cons n ns ih => exact .cons (.int n) ih
      refine ⟨⟨noTb H, [], ⟨0, 0, 0⟩⟩, [], [.kls (ns.map T.int)], ⟨fun b o e => (noTb_of e).1, ⟨List.nodup_nil, rfl, fun a h => (by cases h), fun k xs h => (by cases h)⟩, fun p hp => ?_, fun b o e => (noTb_of e).2⟩, .cons (.kls (by rw [e1]; exact noTb_seq hS) (by rw [List.length_map, sizeLine_eq]; omega) (dint ns _)) .nil, rfl, ?_⟩
      · obtain ⟨c, hc⟩ := t4 p hp
        exact LamX.TabS.nil (hT _ hc)
      · rw [er]
        intro w' H' st g v d
        cases d
        rfl
    · have := hF base KB NB hTB
      rw [e1, e2] at this
      exact this) fun w H s e s' ⟨_, _, _, _, _, _, _, _, _, _, _, _, z⟩ => z
end Ep
namespace Ep
open PySem PySem.Spec L2
/-! ### computations, step by step -/
section
variable {f g k : Env → M T} {p q : Env → M Bool} {env env' env2 : Env} {r r1 r2 r3 : RS} {x y z t : T} {s s' : Sm} {so : SO} {b c : Bool}
theorem bind_ok {α β : Type} {m : M α} {k : α → M β} {a : α} {o : Out β} (h1 : m r = .ok a r1) (h2 : k a r1 = o) : (m >>= k) r = o := by
  show M.bind m k r = o
  unfold M.bind
  rw [h1]
  exact h2
theorem e_bin {h : T → T → Option T} (h1 : f env r = .ok x r1) (h2 : g env r1 = .ok y r2) (h3 : h x y = some z) : fBin h f g env r = .ok z r2 := bind_ok h1 (bind_ok h2 (by rw [h3]; rfl))
theorem e_un {h : T → Option T} (h1 : f env r = .ok x r1) (h3 : h x = some z) : fUn h f env r = .ok z r1 := bind_ok h1 (by rw [h3]; rfl)
theorem e_cmp {h : T → T → Option Bool} (h1 : f env r = .ok x r1) (h2 : g env r1 = .ok y r2) (h3 : h x y = some b) : fCmp h f g env r = .ok (.bl b) r2 := e_bin h1 h2 (by rw [h3]; rfl)
theorem e_cmpB {h : T → T → Option Bool} (h1 : f env r = .ok x r1) (h2 : g env r1 = .ok y r2) (h3 : h x y = some b) : fCmpB h f g env r = .ok b r2 := bind_ok h1 (bind_ok h2 (by rw [h3]; rfl))
theorem e_b1 {h : RS → T → Option T} (h1 : f env r = .ok x r1) (h3 : h r1 x = some z) : fB1 h f env r = .ok z r1 := bind_ok h1 (by
  show M.lift (h r1 x) r1 = _
  rw [h3]; rfl)
theorem e_ix (h1 : f env r = .ok x r1) (h2 : g env r1 = .ok y r2) (h3 : ixT r2 x y = some z) : fIx f g env r = .ok z r2 := bind_ok h1 (bind_ok h2 (by
  show M.lift (ixT r2 x y) r2 = _
  rw [h3]; rfl))
theorem e_andF (h1 : f env r = .ok (.bl false) r1) : fAnd f g env r = .ok (.bl false) r1 := bind_ok h1 rfl
theorem e_andT {o : Out T} (h1 : f env r = .ok (.bl true) r1) (h2 : g env r1 = o) : fAnd f g env r = o := bind_ok h1 h2
theorem e_orT (h1 : f env r = .ok (.bl true) r1) : fOr f g env r = .ok (.bl true) r1 := bind_ok h1 rfl
theorem e_orF {o : Out T} (h1 : f env r = .ok (.bl false) r1) (h2 : g env r1 = o) : fOr f g env r = o := bind_ok h1 h2
theorem e_not (h1 : f env r = .ok (.bl b) r1) : fNot f env r = .ok (.bl !b) r1 := bind_ok h1 rfl
theorem e_andBF (h1 : p env r = .ok false r1) : fAndB p q env r = .ok false r1 := bind_ok h1 rfl
theorem e_andBT {o : Out Bool} (h1 : p env r = .ok true r1) (h2 : q env r1 = o) : fAndB p q env r = o := bind_ok h1 h2
theorem e_orBT (h1 : p env r = .ok true r1) : fOrB p q env r = .ok true r1 := bind_ok h1 rfl
theorem e_orBF {o : Out Bool} (h1 : p env r = .ok false r1) (h2 : q env r1 = o) : fOrB p q env r = o := bind_ok h1 h2
theorem e_notB (h1 : p env r = .ok b r1) : fNotB p env r = .ok (!b) r1 := bind_ok h1 rfl
theorem e_toB (h1 : f env r = .ok (.bl b) r1) : fToB f env r = .ok b r1 := bind_ok h1 rfl
theorem e_tru (h1 : f env r = .ok x r1) (h2 : truT x = some b) : fTru f env r = .ok b r1 := bind_ok h1 (by rw [h2]; rfl)
theorem e_ifT {o : Out T} (h1 : p env r = .ok true r1) (h2 : f env r1 = o) : fIf p f g env r = o := bind_ok h1 h2
theorem e_ifF {o : Out T} (h1 : p env r = .ok false r1) (h2 : g env r1 = o) : fIf p f g env r = o := bind_ok h1 h2
theorem e_nil : fAll [] env r = .ok [] r := rfl
theorem e_cons {fs : List (Env → M T)} {ts : List T} (h1 : f env r = .ok x r1) (h2 : fAll fs env r1 = .ok ts r2) : fAll (f :: fs) env r = .ok (x :: ts) r2 := by
  show (f env >>= fun t => fAll fs env >>= fun ts => pure (t :: ts)) r = _
  exact bind_ok h1 (bind_ok h2 rfl)
theorem e_tup {fs : List (Env → M T)} {ts : List T} (h1 : fAll fs env r = .ok ts r1) : fTup fs env r = .ok (.tup ts) r1 := bind_ok h1 rfl
theorem e_lst {fs : List (Env → M T)} {ts : List T} (h1 : fAll fs env r = .ok ts r1) : fLst fs env r = .ok (.lst ts) r1 := bind_ok h1 rfl
theorem e_call {F : List T → M T} {ds ts : List T} {fs : List (Env → M T)} {o : Out T} (h1 : fAll fs env r = .ok ts r1) (h2 : F (ts ++ ds) r1 = o) : fCall F ds fs env r = o := bind_ok h1 h2
theorem e_make {C : Nat} {F : List T → M (List T)} {ds ts us : List T} {fs : List (Env → M T)} (h1 : fAll fs env r = .ok ts r1) (h2 : F (ts ++ ds) r1 = .ok us r2) : fMake C F ds fs env r = .ok (.obj C us) r2 := bind_ok h1 (bind_ok h2 rfl)
theorem e_meth {C : Nat} {F : List T → M T} {ds ts vs : List T} {fs : List (Env → M T)} {o : Out T} (h1 : f env r = .ok (.obj C vs) r1) (h2 : fAll fs env r1 = .ok ts r2) (h3 : F (.obj C vs :: (ts ++ ds)) r2 = o) : fMeth C F ds f fs env r = o := bind_ok h1 (by
  show (if C = C then (fAll fs env >>= fun ts => F (.obj C vs :: (ts ++ ds))) else M.bad : M T) r1 = o
  rw [if_pos rfl]
  exact bind_ok h2 h3)
theorem e_own {f : Env → M (List T)} {xs : List T} (h1 : f env r = .ok xs r1) : fOwn f env r = .ok (.lst xs) r1 := bind_ok h1 rfl
theorem e_own2 {h : T → T → M T} {o : Out T} (h1 : f env r = .ok x r1) (h2 : g env r1 = .ok y r2) (h3 : h x y r2 = o) : (fun env => f env >>= fun x => g env >>= fun y => h x y : Env → M T) env r = o := bind_ok h1 (bind_ok h2 h3)
/-! statements -/
theorem n_seq (h1 : s env r = .nx env' r1) (h2 : s' env' r1 = so) : qSeq s s' env r = so := by
  unfold qSeq; rw [h1]; exact h2
theorem n_seqR (h1 : s env r = .rt t r1) : qSeq s s' env r = .rt t r1 := by unfold qSeq; rw [h1]
theorem n_ifT (h1 : p env r = .ok true r1) (h2 : s env r1 = so) : qIf p s s' env r = so := by
  unfold qIf ofM; rw [h1]; exact h2
theorem n_ifF (h1 : p env r = .ok false r1) (h2 : s' env r1 = so) : qIf p s s' env r = so := by
  unfold qIf ofM; rw [h1]; exact h2
theorem n_ret (h1 : f env r = .ok t r1) : qRet f env r = .rt t r1 := by unfold qRet ofM; rw [h1]
theorem n_set {i : Nat} (h1 : f env r = .ok t r1) : qSet i f env r = .nx (env.set i (.val t)) r1 := by unfold qSet ofM; rw [h1]
theorem n_par2 {i j : Nat} (h1 : f env r = .ok x r1) (h2 : g env r1 = .ok y r2) : qPar2 i j f g env r = .nx ((env.set i (.val x)).set j (.val y)) r2 := by
  unfold qPar2 ofM; rw [e_cons h1 (e_cons h2 e_nil)]
theorem n_asg {h : T → Env → Option Env} (h1 : f env r = .ok x r1) (h2 : h x env = some env') : qAsg f h env r = .nx env' r1 := by
  unfold qAsg ofM; rw [h1]; simp only; rw [h2]
theorem n_for {fi : Env → M (List T)} {h : T → Env → Option Env} {xs : List T} (h1 : fi env r = .ok xs r1) (h2 : loopF h s xs env r1 = so) : qFor fi h s env r = so := by
  unfold qFor ofM; rw [h1]; exact h2
theorem n_loopN {h : T → Env → Option Env} : loopF h s [] env r = .nx env r := rfl
theorem n_loop {h : T → Env → Option Env} {xs : List T} (h1 : h x env = some env') (h2 : s env' r = .nx env2 r1) (h3 : loopF h s xs env2 r1 = so) : loopF h s (x :: xs) env r = so := by
  unfold loopF; rw [h1]; simp only; rw [h2]; exact h3
theorem n_loopR {h : T → Env → Option Env} {xs : List T} (h1 : h x env = some env') (h2 : s env' r = .rt t r1) : loopF h s (x :: xs) env r = .rt t r1 := by
  unfold loopF; rw [h1]; simp only; rw [h2]
theorem n_fn {m : Nat} {ts : List T} (h1 : s (envOf m ts) r = .rt t r1) : fnS m s ts r = .ok t r1 := by unfold fnS; rw [h1]
theorem n_fnN {m : Nat} {ts : List T} (h1 : s (envOf m ts) r = .nx env' r1) : fnS m s ts r = .ok .non r1 := by unfold fnS; rw [h1]
/-- a loop by an invariant of what is left -/
theorem loop_inv {h : T → Env → Option Env} (I : List T → Env → RS → Prop) (step : ∀ x xs env r, I (x :: xs) env r → ∃ env1 env2 r2, h x env = some env1 ∧ s env1 r = .nx env2 r2 ∧ I xs env2 r2) : ∀ (xs : List T) (env : Env) (r : RS), I xs env r → ∃ env' r', loopF h s xs env r = .nx env' r' ∧ I [] env' r'
  | [], env, r, i => ⟨env, r, rfl, i⟩
  | x :: xs, env, r, i => by
    obtain ⟨env1, env2, r2, h1, h2, i2⟩ := step x xs env r i
    obtain ⟨env', r', h3, i3⟩ := loop_inv I step xs env2 r2 i2
    exact ⟨env', r', n_loop h1 h2 h3, i3⟩
end
/-! ### equality -/
theorem eq_int (a b : Int) : eqT (.int a) (.int b) = some (a == b) := rfl
theorem eq_ii (a b c d : Int) : eqT (.tup [.int a, .int b]) (.tup [.int c, .int d]) = some ((a == c) && ((b == d) && true)) := rfl
end Ep
/-! an exception class of the program's own whose __init__ says super().__init__(f); self.f = f -/
namespace Ep
namespace SupX
open PySem PySem.W PySem.Calls PyProof.Rows PySem.HandSPX
def iA (f : Str) (p1 p2 : Pos) : Arguments := { posonlyargs := [], args := [{ arg := "self", annotation := none, pos := p1 }, { arg := f, annotation := none, pos := p2 }], vararg := none, kwonlyargs := [], kw_defaults := [], kwarg := none, defaults := [] }
def iB (f : Str) (a1 a2 a3 a4 a5 a6 q1 q2 q3 q4 : Pos) : List Stmt := [.Expr (.Call (.Attribute (.Call (.Name "super" a1) [] [] a2) "__init__" a3) [.Name f a4] [] a5) a6, .Assign [.Attribute (.Name "self" q1) f q2] (.Name f q3) q4]
def iS (f : Str) : Scope := { kind := .function, names := [(PySem.Str.ofString "self", .local), (f, .local), (PySem.Str.ofString "__class__", .free), (PySem.Str.ofString "super", .globalImplicit)], isGenerator := false, isCoroutine := false, more := [] }
/-- a built-in exception below which the program's own ones lie -/
structure XB where
  B : String
  nw : String
  ini : String
  tl : List Value
structure XB.Ok (b : XB) : Prop where
  eb : ExcBaseFacts b.B b.nw b.ini b.tl
  sf : StoreFacts b.B b.tl "object.__setattr__" "object"
  kx : KxsFacts b.B b.ini
  ob : b.tl.contains (.type "object") = true
def xVE : XB := ⟨"ValueError", "ValueError.__new__", "ValueError.__init__", [.type "ValueError", .type "Exception", .type "BaseException", .type "object"]⟩
def xOE : XB := ⟨"OverflowError", "OverflowError.__new__", "OverflowError.__init__", [.type "OverflowError", .type "ArithmeticError", .type "Exception", .type "BaseException", .type "object"]⟩
theorem xVE_ok : xVE.Ok := ⟨F.excBase_ValueError, F.store_ValueError, kxs_ValueError, by decide +kernel⟩
theorem xOE_ok : xOE.Ok := ⟨F.excBase_OverflowError, F.store_OverflowError, kxs_OverflowError, by decide +kernel⟩
/-- what the written part says of the class at C, its __init__ at fI -/
structure Txt (P : Program) (K : Frag) (mg : Str → Option Value) (qn f : Str) (C fI : Addr) : Prop where
  cls : ∃ b : XB, b.Ok ∧ subIn K (.ref C) (.type b.B) = some true ∧ ks_superIn K C C "__init__" = some (some (.builtin b.ini)) ∧
    ∃ nm q N bs bm sn sub ab col dd k0 k1 k2 k3 k5, K.lookup C = some (excClassObj nm q C N bs bm true sn sub ab col dd k0 k1 k2 k3 k5 b.nw) ∧ excTail b.tl bm = true
  sa : findIn K (.ref C) "__setattr__" = some (some (.builtin "object.__setattr__"))
  noN : findIn K (.ref C) f = some none
  iC : findIn K (.ref C) "__init__" = some (some (.ref fI))
  tC : typeIn K (.ref fI) = some (.type "function")
  kC : keepIn K (.ref C) = true
  exC : subIn K (.ref C) (.type "BaseException") = some true
  tyC : typeIn K (.ref C) = some (.type "type")
  mroC : mroIn K C (.ref C) = some true
  nosup : nsIn K mainGlobals "super" = some none
  opq : nsIn K cStatics "thirdparty.any" = some none
  fn : ∃ (oc : Value) (od : Option Addr) (doc pm : Value) (an : Option Addr) (cda : Addr) (ct : Value) (osl : Array (Option Value)) (p1 p2 a1 a2 a3 a4 a5 a6 q1 q2 q3 q4 : Pos) (cc : Addr) (cl : Value) (cld : Option Addr) (csl : Array (Option Value)) (ccl : Value) (cdd : Option Addr) (vs : Array Value) (ccs : Array (Option Value)) (file : Str) (tf : Tok),
    K.lookup fI = some ⟨oc, od, .func (ksFn "__init__" qn (iA f p1 p2) (iB f a1 a2 a3 a4 a5 a6 q1 q2 q3 q4) (iS f) .none .none doc pm an (.ref cda) ct cc), osl⟩ ∧ codeIn K (.ref cda) qn = true ∧
    K.lookup cc = some ⟨cl, cld, .cell (some (.ref C)), csl⟩ ∧ K.lookup cda = some ⟨ccl, cdd, .fields vs, ccs⟩ ∧ vs[2]? = some (.str file tf) ∧ ((P.main.file : Str) == file) = true ∧
    ∀ L : Addr, ∃ pl : Sem Bool, eval (.Call (.Attribute (.Call (.Name "super" a1) [] [] a2) "__init__" a3) [.Name f a4] [] a5) (ksEnv qn (iS f) L fI (.ref cda) cc) = (do
      let ov ← attributeBase (.Call (.Name "super" a1) [] [] a2) "__init__" (ksEnv qn (iS f) L fI (.ref cda) cc) (eval (.Call (.Name "super" a1) [] [] a2) (ksEnv qn (iS f) L fI (.ref cda) cc))
      standAt a3.atName
      let (g, first) ← holding [ov] (getMethod ov "__init__" pl)
      callWith a5 g first (backTo a5 (starEach [.Name f a4] (ksEnv qn (iS f) L fI (.ref cda) cc))) [])
structure FOk (P : Program) (f : Str) : Prop where
  htop : (P.main.scope.names.lookup ("super" : Str)).isSome = false
  nself : ((PySem.Str.ofString "self") == f) = false
  self' : (f == ("self" : Str)) = false
  dbg : (f == ("__debug__" : Str)) = false
  loc : (iS f).names.lookup f = some .local
  slf : (iS f).names.lookup ("self" : Str) = some .local
  sup : (iS f).names.lookup ("super" : Str) = some .globalImplicit
  cls : (iS f).names.lookup ("__class__" : Str) = some .free
  ncell : ∀ x ∈ (iS f).names, x.2 ≠ .cell
  bnd : ∀ (qn : Str) (a1 a2 a3 a4 a5 a6 q1 q2 q3 q4 p1 p2 : Pos) (doc pm : Value) (an : Option Addr) (cdv ct : Value) (cc : Addr) (u v : Value), bindArgs (ksFn "__init__" qn (iA f p1 p2) (iB f a1 a2 a3 a4 a5 a6 q1 q2 q3 q4) (iS f) .none .none doc pm an cdv ct cc) ⟨[u, v], []⟩ = pure [(PySem.Str.ofString "self", u), (f, v)]
theorem one_size (v : Value) : [v].length ≤ sizeLine := by
  rw [sizeLine_eq]
  exact (by decide : 1 ≤ 16777216)
structure InitEnd (f : Str) (h h' : Heap) (x C dx t1 : Addr) (v : Value) : Prop where
  keep : ∀ b o, b ≠ x → h.get? b = some o → h'.get? b = some o
  obj : h'.get? x = some { cls := .ref C, dict := some dx, data := .fields #[.ref t1, .none, .none, .none, .bool false, .none] }
  dbig : h.objs.size ≤ dx
  dne : dx ≠ x
  ns : h'.Ns1 dx (fun y => if y = f then some v else none)
section
variable {prog : Program} {w : World} {A : Around} {E : Value → Shared → Prop} {h : Heap} {g : Array GenState} {d : Drawn} {t : Nat} {os : OsState}
variable {nm q : Str} {C N : Addr} {bs bm bmB : List Value} {hdct : Bool} {sn : List Str} {sub : List Value} {ab : Bool} {col : Option Bool} {dd : Option Addr} {k0 k1 k2 k3 k5 : Option Value} {B newId initId : String}
/-- a built-in bound to a thing (kxs_mw): a call of it is checked, and goes on at the built-in with the thing ahead -/
theorem mw_tree {M : Model} {i : String} {u e : Addr} {args : Args} {Q : Fin → Shared → Prop} {s : Shared} (at_u : s.heap.get? u = some (kxs_mw i e))
    (on : wpAny M A (checkBoundCall i { args with pos := .ref e :: args.pos }) (fun _ s' => Q (.again (.builtin i { args with pos := .ref e :: args.pos })) s') E s) : wpAny M A (callAny (.ref u) args) Q E s := by
  unfold callAny
  refine wpAny_bind (wpAny_load at_u ?_)
  show wpAny M A (checkBoundCall i { args with pos := .ref e :: args.pos } >>= fun _ => _) Q E s
  exact wpAny_bind (wpAny_mono on (fun _ _ z => wpAny_bind (wpAny_pure (wpAny_pure z))) fun _ _ => id)
/-- a built-in exception's __init__ bound to an instance, called: the instance's arguments are told anew, all else stands -/
theorem call_mw (FB : ExcBaseFacts B newId initId bmB) {u e t0 : Addr} {rest : List Value} {Q : Value → Shared → Prop}
    (at_C : h.get? C = some (excClassObj nm q C N bs bm hdct sn sub ab col dd k0 k1 k2 k3 k5 newId)) (at_e : h.get? e = some (HandSPX.excO C t0)) (at_u : h.get? u = some (kxs_mw initId e)) (few : rest.length ≤ sizeLine)
    (told : ∀ h' t1, (∀ b o, b ≠ e → h.get? b = some o → h'.get? b = some o) → h'.get? e = some (HandSPX.excO C t1) → Q .none ⟨h', g, d, t, os⟩) :
    wpAny (model prog w) A (call (.ref u) rest) Q E ⟨h, g, d, t, os⟩ :=
  wpAny_call (codeAny_of_tree (mw_tree at_u (W.check_bound_init FB.toExcCallFacts at_C at_e rfl
    ⟨plainId_quiet FB.init.plain _, codeAny_builtin FB.initEntry (exc_init_tree (cls := .ref C) (t0 := t0) (dv := none) (c2 := .none) (c3 := .none) (b4 := .bool false) at_e few fun h' same now _ => told h' _ same now)⟩)))
end
section
open Builtin Builtin.ObjectAttr
variable {prog : Program} {w : World} {A : Around} {E : Value → Shared → Prop} {R : Result → Shared → Prop} {hp : Heap} {g : Array GenState} {d : Drawn} {t : Nat} {os : OsState}
/-- the first field of an instance of such a class: osa_openX opens the store, instanceDict_exc makes the instance's dict, store_in_new puts the field into it -/
theorem osa_b {b : XB} (ok : b.Ok) {K : Frag} {name : Str} {tk : Tok} {v : Value} {x C t1 : Addr} {bm : List Value} {cd : ClassData} (kin : K.In hp) (at_x : hp.get? x = some (excO C t1)) (at_C : clsIn K C = some cd) (mro : cd.mro = .ref C :: bm) (tail : excTail b.tl bm = true) (dict : cd.hasDict = true) (free : findIn K (.ref C) name = some none)
    (told : ∀ h' tk' dx, (∀ b o, b ≠ x → hp.get? b = some o → h'.get? b = some o) → hp.objs.size ≤ dx → dx ≠ x → h'.get? x = some { cls := .ref C, dict := some dx, data := .fields #[.ref t1, .none, .none, .none, .bool false, .none] } →
      h'.Ns1 dx (fun y => if y = name then some v else none) → R (.ok (.ret .none)) ⟨h', g, d, tk', os⟩) :
    codeAny (model prog w) A (.call (.builtin "object.__setattr__") ⟨[.ref x, .str name tk, v], []⟩) R ⟨hp, g, d, t, os⟩ := by
  have old : x ≠ hp.objs.size := Nat.ne_of_lt (Heap.lt_size at_x)
  have over : excOver K C b.tl = true := by unfold excOver; rw [at_C, Option.any_some, mro]; exact Bool.and_eq_true_iff.mpr ⟨beq_self_eq_true _, tail⟩
  have at_x' : (hp.push (dictOf [] 0)).get? x = some (excO C t1) := Heap.get?_push_of_some _ at_x
  have made : ((hp.push (dictOf [] 0)).update x fun o => { o with dict := some hp.objs.size }).get? hp.objs.size = some (dictOf [] 0) := by rw [Heap.get?_update_ne _ _ _ _ old.symm, Heap.get?_push_size _ rfl]
  refine osa_openX (r := none) ok.sf kin (InstAt.mk (od := none) at_x rfl rfl trivial) over (by unfold takerIn; rw [free]; rfl) fun _ => ?_
  refine wpAny_bind (wpAny_pure (wpAny_bind (instanceDict_exc at_x (looks_clsIn kin at_C) dict ?_)))
  refine store_in_new ⟨_, #[], 0, made, rfl, fun _ z => absurd z (Array.not_mem_empty _), fun _ => rfl⟩ fun h' tk' held but => told h' tk' hp.objs.size (fun a o ne at_a => ?_) (Nat.le_refl _) old.symm ?_ held
  · rw [but.2 a (Nat.ne_of_lt (Heap.lt_size at_a)), Heap.get?_update_ne _ _ _ _ ne]
    exact Heap.get?_push_of_some _ at_a
  · rw [but.2 x old]
    exact Heap.get?_update_self _ at_x' rfl
end
section
variable {prog : Program} {w : World} {A : Around} {E : Value → Shared → Prop} {R : Result → Shared → Prop} {s : Shared} {K : Frag} {mg : Str → Option Value} {C fI : Addr} {qn f : Str} {base : Heap}
theorem init (T : Txt prog K mg qn f C fI) (Y : FOk prog f) {x t0 : Addr} {v : Value} (X : K.In s.heap) (hg : s.heap.Ns mainGlobals mg) (hm : mg "super" = none) (hb : ∃ mb, s.heap.Ns builtinsNs mb ∧ mb "super" = some (.type "super")) (hlim : s.heap.NoLimit) (hx : s.heap.get? x = some (excO C t0)) (hnx : K.lookup x = none) (hroom : A.depth < recursionLimit)
    (hq : ∀ h' tk dx t1, InitEnd f s.heap h' x C dx t1 v → R (.ok (.ret .none)) { s with heap := h', toks := tk }) :
    codeAny (model prog w) A (.call (.ref fI) ⟨[.ref x, v], []⟩) R s := by
  obtain ⟨oc, od, doc, pm, an, cda, ct, osl, p1, p2, a1, a2, a3, a4, a5, a6, q1, q2, q3, q4, cc, cl, cld, csl, ccl, cdd, vs, ccs, file, tf, ho, hcd, hcell, hcode, hvs, hfile, hev⟩ := T.fn
  obtain ⟨pl, hev⟩ := hev s.heap.objs.size
  obtain ⟨xb, xok, veC, sup, nm, q, N, bs, bm, sn, sub, ab, col, dd, k0, k1, k2, k3, k5, hC, hbm⟩ := T.cls
  have hcl : clsIn K C = some { name := nm, bases := bs, mro := .ref C :: bm, ns := N, qualname := q, hasDict := true, slotNames := sn, subclasses := sub, abstract := ab, collection := col, hasDel := false } := by unfold clsIn; rw [hC] <;> rfl
  refine ks_codeAny_call_defAt (binds := [("self", .ref x), (f, v)]) hroom (X _ _ ho) rfl hlim (codeRec_of X hcd) rfl (BindsTo.of_eq (Y.bnd ..)) Y.ncell (fun y hy => ?_) fun h₀ hn kp => ?_
  · rcases List.mem_cons.mp hy with rfl | hy
    · exact Y.slf
    · rcases List.mem_cons.mp hy with rfl | hy
      · exact Y.loc
      · cases hy
  have kC : K.In h₀ := X.keeps kp
  have hx₀ := kp _ _ hx
  have hxC : x ≠ C := fun e => by rw [e, hC] at hnx; cases hnx
  have m1 : (([(PySem.Str.ofString "self", Value.ref x), (f, v)] : List (Str × Value)).reverse.lookup (PySem.Str.ofString "self")) = some (.ref x) := by
    show List.lookup _ [(f, v), (PySem.Str.ofString "self", Value.ref x)] = _
    simp only [List.lookup, Y.nself, beq_self_eq_true]
  have m2 : (([(PySem.Str.ofString "self", Value.ref x), (f, v)] : List (Str × Value)).reverse.lookup f) = some v := by
    show List.lookup _ [(f, v), (PySem.Str.ofString "self", Value.ref x)] = _
    simp only [List.lookup, beq_self_eq_true]
  obtain ⟨mb, hb1, hb2⟩ := hb
  -- super().__init__(f)
  show _root_.PySem.wpAt _ _ _ (execs _ _) _ _ _
  refine ks_wpAt_execs_cons (ks_wpAt_Expr_any (ks_wpAt_MethodCall (pl := pl) ?_ hev))
  refine ks_wpAt_super_base (env := ksEnv qn (iS f) s.heap.objs.size fI (.ref cda) cc) Y.sup Y.cls (by decide) rfl (kC _ _ ho) rfl rfl rfl (kC _ _ hcode) rfl hvs hfile Y.htop ?_
  refine ks_loadName_global rfl Y.sup (loadGlobal_builtin (env := ksEnv qn (iS f) s.heap.objs.size fI (.ref cda) cc) (hg.at fun o e => kp _ _ e) hm (hb1.at fun o e => kp _ _ e) hb2 ⟨rfl, ?_⟩)
  refine wpAny_loadName_free rfl Y.cls (by rfl) ⟨_, kC _ _ hcell, rfl⟩ ?_
  refine wpAny_loadName_local rfl Y.slf hn m1 ?_
  refine ks_wpAny_isType_cls (kC _ _ hC) rfl ⟨rfl, ?_⟩
  refine ks_wpAny_call_super (kC _ _ hC) rfl hx₀ rfl (fun c e => by cases e) (looks_mroIn kC T.mroC) (fun h1 e1 k1 => ?_)
  have kC1 : K.In h1 := kC.keeps k1
  have hx1 := k1 _ _ hx₀
  have hcls1 : Looks (model prog w) h1 (mroOf (.ref C)) (.ref C :: bm) := (looks_clsIn kC1 hcl).andThen .now
  have hI : Looks (model prog w) h1 (isInstance (.ref x) (.type xb.B)) true := (InstAt.type (C := C) (od := none) ⟨hx1, rfl, rfl, trivial⟩).andThen (looks_subIn kC1 veC)
  have hm2 := sup
  unfold ks_superIn at hm2
  rw [hcl] at hm2
  refine kxs_getMethod xok.kx e1 (looks_opaque kC1 T.opq) hcls1 rfl kC1 hm2 hI hxC (by decide) ?_
  refine kxs_callWith (i := xb.ini) (x := x) (by rfl) ?_
  have hmw : (h1.push (kxs_mw xb.ini x)).get? h1.objs.size = some (kxs_mw xb.ini x) := Heap.get?_push_at rfl rfl
  have kk : ∀ b o, h₀.get? b = some o → (h1.push (kxs_mw xb.ini x)).get? b = some o := fun b o e => Heap.get?_push_of_some _ (k1 b o e)
  refine evalArgs_plain ?_
  refine spliced_cons (wpAny_Name (wpAny_loadName_local rfl Y.loc (hn.at fun o e => kk _ _ e) m2 (spliced_nil ⟨hmw, ?_⟩)) Y.dbg)
  refine call_mw xok.eb (kk _ _ (kp _ _ (X _ _ hC))) (kk _ _ hx₀) hmw (one_size v) fun h2 t1 k2 hx2 => ?_
  -- self.f = f
  have hn1 : (h1.push (kxs_mw xb.ini x)).Ns s.heap.objs.size (fun y => ([(PySem.Str.ofString "self", Value.ref x), (f, v)] : List (Str × Value)).reverse.lookup y) := hn.at fun o e => kk _ _ e
  have nL : s.heap.objs.size ≠ x := Nat.ne_of_gt (Heap.lt_size hx)
  have hn2 : h2.Ns s.heap.objs.size (fun y => ([(PySem.Str.ofString "self", Value.ref x), (f, v)] : List (Str × Value)).reverse.lookup y) := hn1.at fun o e => k2 _ _ nL e
  have kC2 : K.In h2 := fun b o e => k2 b o (fun z => by rw [z, hnx] at e; cases e) (kk _ _ (kC _ _ e))
  refine ks_wpAt_execs_cons (ks_wpAt_Assign_Attr ?_)
  refine wpAt_of_wpAny (wpAny_Name (wpAny_loadName_local rfl Y.loc hn2 m2 (wpAny_Name (wpAny_loadName_local rfl Y.slf hn2 m1 ?_) (by decide))) Y.dbg)
  refine set_plain kC2 (ox := excO C t1) (od := none) ⟨hx2, rfl, rfl, trivial⟩ T.sa ?_
  refine osa_b xok kC2 hx2 hcl rfl hbm rfl T.noN (fun h3 tk3 dx k3 dn dne hx3 hn3 => ?_)
  refine wpAt_of_wpAny (wpAny_execs_nil ?_)
  refine hq h3 tk3 dx t1 ⟨fun b o hb e => k3 b o hb (k2 b o hb (kk _ _ (kp _ _ e))), hx3, ?_, dne, hn3⟩
  have z1 : s.heap.objs.size < h2.objs.size := hn2.lt
  exact Nat.le_of_lt (Nat.lt_of_lt_of_le z1 dn)
/-- a made one -/
structure OwnMade (f : Str) (h h' : Heap) (e C d : Addr) (v : Value) : Prop where
  keep : ∀ b o, h.get? b = some o → h'.get? b = some o
  new : h.objs.size ≤ e
  obj : ∃ oe vs, h'.get? e = some oe ∧ oe.cls = .ref C ∧ oe.dict = some d ∧ oe.data = .fields vs ∧ vs[1]? = some .none
  dbig : h.objs.size ≤ d
  dne : d ≠ e
  ns : h'.Ns1 d (fun y => if y = f then some v else none)
theorem made (T : Txt prog K mg qn f C fI) (Y : FOk prog f) {v : Value} (X : K.In s.heap) (hg : s.heap.Ns mainGlobals mg) (hm : mg "super" = none) (hb : ∃ mb, s.heap.Ns builtinsNs mb ∧ mb "super" = some (.type "super")) (hlim : s.heap.NoLimit) (hroom : A.depth + 1 < recursionLimit)
    (hq : ∀ h' tk e d, OwnMade f s.heap h' e C d v → R (.ok (.ret (.ref e))) { s with heap := h', toks := tk }) :
    codeAny (model prog w) A (.call (.ref C) ⟨[v], []⟩) R s := by
  obtain ⟨xb, xok, veC, sup, nm, q, N, bs, bm, sn, sub, ab, col, dd, k0, k1, k2, k3, k5, hC, hbm⟩ := T.cls
  obtain ⟨hp, g, dr, tk, os⟩ := s
  have k : ∀ b o, hp.get? b = some o → ((hp.push (kdv_tup [v])).push (excO C hp.objs.size)).get? b = some o := fun b o e => Heap.get?_push_of_some _ (Heap.get?_push_of_some _ e)
  have hget : ((hp.push (kdv_tup [v])).push (excO C hp.objs.size)).get? (hp.objs.size + 1) = some (excO C hp.objs.size) := by heap_get
  have hnx : K.lookup (hp.objs.size + 1) = none := by
    cases eL : K.lookup (hp.objs.size + 1) with
    | none => rfl
    | some o =>
      have z : hp.get? (hp.objs.size + 1) = some o := X _ _ eL
      exact absurd (Nat.lt_of_succ_lt (Heap.lt_size z)) (Nat.lt_irrefl _)
  obtain ⟨mb, hb1, hb2⟩ := hb
  refine call_own xok.eb (fun X => excTail_contains X bm hbm) (X _ _ hC) (looks_findIn X T.iC) (fun self => bind_fn X self T.tC) (one_size v) ?_
  refine init (s := ⟨(hp.push (kdv_tup [v])).push (excO C hp.objs.size), g, dr, tk, os⟩) T Y (X.keeps k) (hg.at fun o e => k _ _ e) hm ⟨mb, hb1.at fun o e => k _ _ e, hb2⟩ (hlim.keeps k) hget hnx ?_ fun h' tk' dx t1 ⟨k', hx, dn, dne, hns⟩ => ?_
  · show A.depth + 1 < recursionLimit
    exact hroom
  · have old : ∀ b o, hp.get? b = some o → h'.get? b = some o := fun b o e => k' b o (Nat.ne_of_lt (Nat.lt_succ_of_lt (Heap.lt_size e))) (k b o e)
    have z : hp.objs.size + 1 + 1 ≤ dx := by
      first
        | (simpa only [Heap.size_push] using dn)
        | exact dn
        | (have q := dn; rw [Heap.size_push, Heap.size_push] at q; exact q)
    exact ⟨rfl, hq h' tk' (hp.objs.size + 1) dx ⟨old, Nat.le_succ _, ⟨_, _, hx, rfl, rfl, rfl, rfl⟩, Nat.le_trans (Nat.le_trans (Nat.le_succ _) (Nat.le_succ _)) z, dne, hns⟩⟩
end
end SupX
open PySem PySem.Spec L2 PyProof.Rows
theorem relO_one {f : Str} {v : V} {u : Value} (r : RelV v u) (g : Str) : RelO ([(f, v)].lookup g) (if g = f then some u else none) := by
  by_cases hw : g = f
  · subst hw
    rw [if_pos rfl]
    have q : List.lookup g [(g, v)] = some v := by simp [List.lookup]
    rw [q]
    exact r
  · rw [if_neg hw]
    have qw : (g == f) = false := by simpa using hw
    have q2 : List.lookup g [(f, v)] = none := by simp [List.lookup, qw]
    rw [q2]
    trivial
section
variable {X : Cx} {C fI : Addr} {qn f x : Str}
/-- x(e) -/
def tMkX (f : Str) (C : Addr) (ta : TA) : L2.St → Hp → XK → Prop := fun σ H Q => ta σ H fun vs H1 => ∃ v, vs = [v] ∧ ∀ d, H1 d = none → Q (.ref C) (some d) (upd H1 d (.xd [(f, v)]))
theorem pmk_x {a : Expr} {ta : TA} {p pos : Pos} {k : Nat} (T : SupX.Txt X.prog X.K X.mg qn f C fI) (Y : SupX.FOk X.prog f) (hr : Room k X.A) (hk : 2 ≤ k) (gx : X.mg x = some (.ref C)) (ha : PA X [a] ta) (hg : Gl X x)
    (hd : (x == ("__debug__" : Str)) = false := by decide) (he : starEach (a :: []) X.env = (false, eval a X.env) :: starEach [] X.env := by rfl) (hpl : (backTo pos (starEach [] X.env)).any (·.1) = false := by rfl) :
    PMk X (.Call (.Name x p) [a] [] pos) (tMkX f C ta) := by
  intro pins s σ H Q I h
  refine wpAny_Call_Name_kw (ld_glob I hg gx ?_ hd)
  refine PySem.W.callWith_K (h₀ := X.base) I.ok.mod.kin T.kC (thn (ha.run pos pins s σ H _ I h) fun us s1 hh => ?_) he hpl
  obtain ⟨vs, H1, I1, r1, v, ev, q1⟩ := hh
  subst ev
  refine ⟨I1.kIn, ?_⟩
  cases r1 with
  | cons rv rn =>
    rename_i v' us'
    cases rn
    show wpAny _ _ (call (.ref C) [v']) _ _ _
    have hlim := I1.nolimit
    have hgl := I1.mod.glob.keeps I1.bk
    have hsup : X.mg "super" = none := PySem.W.mg_none_of I1.mod.kin I1.mod.glob T.nosup
    obtain ⟨mb, hb1, hb2⟩ := I1.mod.blt
    have hb : ∃ mb, s1.heap.Ns builtinsNs mb ∧ mb "super" = some (.type "super") := ⟨mb, hb1.keeps I1.bk, (hb2 _ (by decide)).trans (by first | rfl | kernel_rfl)⟩
    obtain ⟨hp, g, dr, tk, os⟩ := s1
    refine wpAny_call (SupX.made T Y I1.kIn hgl hsup hb hlim (by have := hr.dp; omega) fun h' tk' e d M => ?_)
    show MkP X pins σ Q (.ref e) ⟨h', g, dr, tk', os⟩
    obtain ⟨oe, fv, hoe, hc, hd, hdat, h1⟩ := M.obj
    have hns := M.ns
    obtain ⟨G', g1, g2⟩ := restrict h' fun b => decide (b ≠ e)
    have gk : ∀ b, b ≠ e → G'.get? b = h'.get? b := fun b hb => g1 b (decide_eq_true hb)
    have ge : G'.get? e = none := g2 e (by simp)
    have old : ∀ b o, hp.get? b = some o → G'.get? b = some o := fun b o q => (gk b (Nat.ne_of_lt (Nat.lt_of_lt_of_le (Heap.lt_size q) M.new))).trans (M.keep b o q)
    have ob : ObjOk X.prog X.w (upd H1 d (.xd [(f, v)])) G' d (.xd [(f, v)]) :=
      ⟨_, hns.at (fun o q => (gk d M.dne).trans q), fun y => relO_one rv y⟩
    have J : Inv X pins σ (upd H1 d (.xd [(f, v)])) ⟨G', g, dr, tk', os⟩ := I1.laid (t' := tk') old M.dbig ob
    refine ⟨e, oe, fv, ⟨G', g, dr, tk', os⟩, _, .ref C, some d, rfl, J, fun b o q => ?_, ge, hoe, ⟨hc, hd⟩, hdat, h1, ?_, rfl, I1.bare, raises_own T.exC T.tyC, q1 d (I1.hok.fresh M.dbig)⟩
    · by_cases hb : b = e
      · have q' : G'.get? b = some o := q
        rw [hb, ge] at q'; cases q'
      · exact (gk b hb).symm.trans q
    · rw [upd_ne (Ne.symm M.dne)]
      exact I1.hok.fresh M.new
/-- raise x(e) -/
def tRaiseX (f : Str) (C : Addr) (W : WX) (ta : TA) : TS := fun _ σ H => tMkX f C ta σ H fun cls d H' => W cls d σ H'
theorem ps_raiseX {a : Expr} {ta : TA} {W : WX} {p pos pos2 : Pos} {k : Nat} (hc : X.calm = true) (T : SupX.Txt X.prog X.K X.mg qn f C fI) (Y : SupX.FOk X.prog f) (hr : Room k X.A) (hk : 2 ≤ k) (tk : Takes X W) (gx : X.mg x = some (.ref C)) (ha : PA X [a] ta) (hg : Gl X x)
    (hd : (x == ("__debug__" : Str)) = false := by decide) (he : starEach (a :: []) X.env = (false, eval a X.env) :: starEach [] X.env := by rfl) (hpl : (backTo pos (starEach [] X.env)).any (·.1) = false := by rfl) :
    PS X (.Raise (some (.Call (.Name x p) [a] [] pos)) none pos2) (tRaiseX f C W ta) := ps_raise hc tk (pmk_x T Y hr hk gx ha hg hd he hpl)
end
end Ep
/-! try with several clauses that note what they caught -/
namespace Ep
open PySem PySem.Spec L2 PyProof.Rows
abbrev HdT := Value × Nat × (Addr → Value → Option Addr → TS)
/-- behind a suite its note is gone -/
def gone (i : Nat) (D : Ends) : Ends := { nx := fun σ H => D.nx (σ.set i none) H, rt := D.rt, bk := fun σ H => D.bk (σ.set i none) H, ct := fun σ H => D.ct (σ.set i none) H }
def wMA (K : PySem.W.Frag) (Wout : WX) (D : Ends) : List HdT → WX
  | [] => Wout
  | p :: r => fun cls d σ H => ∃ b, PySem.W.exmOne K cls p.1 = some b ∧ (b = true → ∀ a, H a = none → p.2.2 a cls d (gone p.2.1 D) (σ.set p.2.1 (some (.ref a))) H) ∧ (b = false → wMA K Wout D r cls d σ H)
inductive HdAs (X : Cx) : List ExceptHandler → List HdT → Prop
  | nil : HdAs X [] []
  | cons {x n : Str} {c : Value} {i : Nat} {ts : Addr → Value → Option Addr → TS} {b₀ : Stmt} {suite : List Stmt} {np pp : Pos} {hds : List ExceptHandler} {l : List HdT} (hc : Names X x c) (hi : X.N[i]? = some n) (hl : X.env.kindOf n = some .local)
      (hsu : ∀ (a : Addr) (oe : Obj) (cls : Value) (d : Option Addr) (pn : List (Addr × Obj)), Zc cls d oe → (∃ vs, oe.data = .fields vs) → PSs (X.suite a ((a, oe) :: pn)) (b₀ :: suite) (ts a cls d)) (r : HdAs X hds l) :
      HdAs X (.ExceptHandler (some (.Name x np)) (some n) (b₀ :: suite) pp :: hds) ((c, i, ts) :: l)
section
variable {X : Cx} {pins : List (Addr × Obj)} {a : Addr} {B : Heap} {sI : Shared} {σ : L2.St} {H : Hp} {cls : Value} {d : Option Addr} {D : Ends} {Wout : WX}
/-- a raised thing is no def's frame -/
theorem no_frame {B h : Heap} {l : List PySem.Env} {o : Obj} {vs : Array Value} (ff : h.FunFrames B l) (at_a : h.get? a = some o) (rec : o.data = .fields vs) : a ∉ frs l := fun of_l => by
  obtain ⟨_, u, at_u, notFields⟩ := ff.mem of_l
  cases at_a.symm.trans at_u
  exact absurd rec (notFields vs)
/-- what is known when an exception has been caught and is looked at -/
structure Got (X : Cx) (pins : List (Addr × Obj)) (a : Addr) (B : Heap) (sI : Shared) (σ : L2.St) (H : Hp) (cls : Value) (d : Option Addr) (s' : Shared) (h3 : Heap) : Prop where
  ok : X.Ok
  J : Inv X pins σ H sI
  nb : ∀ b o, sI.heap.get? b = some o → b ∉ frs X.stack → B.get? b = some o
  up : sI.heap.UpToSlots h3
  fl : HandSPX.FlyingZ B (X.env :: X.outer) a (Zc cls d) h3
  na : H a = none
  os : s'.os = sI.os
  ag : AllBare s'.gens
theorem Got.nfr {s' : Shared} {h3 : Heap} (g : Got X pins a B sI σ H cls d s' h3) : a ∉ frs (X.env :: X.outer) := by
  obtain ⟨oe, vs, he, _, hd⟩ := g.fl.there
  exact no_frame g.fl.2.2.1 he hd
/-- the frames' own list, one deeper -/
theorem frs_deep {e : PySem.Env} {l : List PySem.Env} {b : Addr} (h : b ∈ frs l) : b ∈ frs (e :: l) := by
  cases q : e.frame with
  | none => rw [show frs (e :: l) = frs l from List.filterMap_cons_none q]; exact h
  | some c => rw [show frs (e :: l) = c :: frs l from List.filterMap_cons_some q]; exact List.mem_cons_of_mem _ h
theorem Got.nF {s' : Shared} {h3 : Heap} (g : Got X pins a B sI σ H cls d s' h3) : a ∉ X.fs := fun of_l => g.nfr (frs_deep of_l)
theorem Got.nL {s' : Shared} {h3 : Heap} (g : Got X pins a B sI σ H cls d s' h3) (hf : X.env.frame = some X.env.locals) : a ≠ X.env.locals := fun z => g.nfr (by
  rw [show frs (X.env :: X.outer) = X.env.locals :: frs X.outer from List.filterMap_cons_some hf, z]
  exact List.mem_cons_self)
theorem Got.again {s' : Shared} {h3 h4 : Heap} (g : Got X pins a B sI σ H cls d s' h3) (fl : HandSPX.FlyingZ B (X.env :: X.outer) a (Zc cls d) h4) (up : h3.UpToSlots h4) : Got X pins a B sI σ H cls d s' h4 := ⟨g.ok, g.J, g.nb, g.up.trans up, fl, g.na, g.os, g.ag⟩
theorem Got.inv {s' : Shared} {h3 : Heap} (g : Got X pins a B sI σ H cls d s' h3) : Inv X pins σ H { s' with heap := h3 } := g.J.landed g.nb g.fl.1 g.up g.os g.ag
theorem Got.in_ {s' : Shared} {h3 : Heap} (g : Got X pins a B sI σ H cls d s' h3) (hf : X.env.frame = some X.env.locals) : ∃ (oe : Obj) (vs : Array Value), h3.get? a = some oe ∧ Zc cls d oe ∧ oe.data = .fields vs ∧ Inv (X.suite a ((a, oe) :: (X.pn ++ pins))) [] σ H { s' with heap := h3 } := by
  obtain ⟨oe, vs, he, hz, hd⟩ := g.fl.there
  exact ⟨oe, vs, he, hz, hd, g.inv.suite he hd g.na (g.nL hf) g.nF⟩
/-- no clause takes it: it goes on, its frame noted -/
theorem Got.goes_on {s' : Shared} {h3 : Heap} (g : Got X pins a B sI σ H cls d s' h3) (hs : X.stack = X.env :: X.outer) (hf : X.env.frame = some X.env.locals) (tk : Takes X Wout) (hw : Wout cls d σ H) :
    wpAny (model X.prog X.w) X.A (handleBy (.ref a) X.env []) (SP X pins D) X.xe { s' with heap := h3 } := by
  obtain ⟨_, _, _, oe, vs, T, oT, _, at_a, _, rec, tb, _⟩ := id g.fl
  have thrown : wpAny (model X.prog X.w) X.A (setFlight (.ref a) X.env.frame) (fun _ z => wpAny (model X.prog X.w) X.A (throw (.ref a) : Sem Flow) (SP X pins D) X.xe z) X.xe { s' with heap := h3 } := hf ▸ HandSPX.setFlight_upZ g.fl fun h4 sky up =>
    wpAny_throw (tk _ _ ⟨a, B, sI, pins, σ, H, cls, d, rfl, g.J, g.nb, g.up.trans up, .inr (.inr (hs ▸ sky)), g.na, g.os, g.ag, hw⟩)
  have some_tb : ¬ ((Value.ref T == Value.none) = true) := fun z => nomatch eq_of_beq z
  refine wpAny_handleBy_nil (wpAny_bind (wpAny_field at_a rec tb ?_))
  rw [if_neg some_tb]
  first
    | exact wpAny_bind (wpAny_pure (wpAny_bind thrown))
    | exact wpAny_bind thrown
/-- a clause's class is looked up, and whether the caught one is of it -/
theorem Got.asked {s' : Shared} {h3 : Heap} (g : Got X pins a B sI σ H cls d s' h3) (hf : X.env.frame = some X.env.locals) {x : Str} {c : Value} {np : Pos} {b : Bool} (hc : Names X x c) (one : PySem.W.exmOne X.K cls c = some b) {Q : Bool → Shared → Prop} {E E' : Value → Shared → Prop} (h : Q b { s' with heap := h3 }) :
    wpAny (model X.prog X.w) (X.A.mark (some (.ref a))) (eval (.Name x np) X.env) (fun m s1 => wpAny (model X.prog X.w) (X.A.mark (some (.ref a))) (excMatches (.ref a) m) Q E' s1) E { s' with heap := h3 } := by
  obtain ⟨oe, _, at_a, of_, _, S⟩ := g.in_ hf
  have is_one : PySem.W.Looks (model X.prog X.w) h3 (excMatches (.ref a) c) b := PySem.W.exm_one g.inv.kIn (fun _ _ _ _ keep q => wpAny_typeOf_ref (keep _ _ at_a) (by rw [of_.1]; exact q)) one
  obtain ⟨glob, dbg, mine | ⟨none_, built, nn⟩⟩ := hc
  · exact ld_glob (X := X.suite a ((a, oe) :: (X.pn ++ pins))) S glob mine (is_one.here h) dbg
  · exact ld_blt (X := X.suite a ((a, oe) :: (X.pn ++ pins))) S glob none_ built (is_one.here h) nn dbg
/-- the clause that takes it: its note is laid, the suite runs, the note goes -/
theorem Got.taken {s' : Shared} {h4 : Heap} (g : Got X pins a B sI σ H cls d s' h4) (hf : X.env.frame = some X.env.locals) (hN : X.N.Nodup) {n : Str} {i : Nat} {ts : Addr → Value → Option Addr → TS} {suite : List Stmt} {pp : Pos} (hi : X.N[i]? = some n) (hl : X.env.kindOf n = some .local)
    (hsu : ∀ (a : Addr) (oe : Obj) (cls : Value) (d : Option Addr) (pn : List (Addr × Obj)), Zc cls d oe → (∃ vs, oe.data = .fields vs) → PSs (X.suite a ((a, oe) :: pn)) suite (ts a cls d)) (yes : ts a cls d (gone i D) (σ.set i (some (.ref a))) H) {E1 E2 : Value → Shared → Prop} :
    wpAny (model X.prog X.w) (X.A.mark (some (.ref a))) (storeName X.env n (.ref a)) (fun _ s1 => wpAny (model X.prog X.w) (X.A.mark (some (.ref a))) (execs suite X.env) (fun f s2 => wpAny (model X.prog X.w) X.A (do bindName X.env n .none; unbindBehindTheSuite X.env n pp) (fun _ s3 => SP X pins D f s3) X.xe s2) E2 s1) E1 { s' with heap := h4 } := by
  obtain ⟨oe, vs, _, of_, rec, S⟩ := g.in_ hf
  have behind : ∀ {σ6 : L2.St} {H6 : Hp} {s6 : Shared} {Q : Shared → Prop}, Inv (X.suite a ((a, oe) :: (X.pn ++ pins))) [] σ6 H6 s6 → (∀ s7, Inv X pins (σ6.set i none) H6 s7 → Q s7) → wpAny (model X.prog X.w) X.A (do bindName X.env n .none; unbindBehindTheSuite X.env n pp) (fun _ s7 => Q s7) X.xe s6 :=
    fun S6 q => gone_ok (S6.unsuite g.ok) hN hi hl q
  refine store_ok (X := X.suite a ((a, oe) :: (X.pn ++ pins))) (v := .ref a) S hN hi (.inl hl) rfl (fun s5 S5 => wpAny_mono ((hsu a oe cls d (X.pn ++ pins) of_ ⟨vs, rec⟩).run [] s5 _ H _ S5 yes) (fun f s6 ran => ?_) fun _ _ => False.elim) (.inr hl)
  cases f <;> dsimp only [SP, gone] at ran ⊢
  case ret u =>
    obtain ⟨v, σ6, H6, S6, rel, q⟩ := ran
    exact behind S6 fun s7 J => ⟨v, _, H6, J, rel, q⟩
  all_goals
    obtain ⟨σ6, H6, S6, q⟩ := ran
    exact behind S6 fun s7 J => ⟨_, H6, J, q⟩
theorem clauses {s' : Shared} (hs : X.stack = X.env :: X.outer) (hf : X.env.frame = some X.env.locals) (hN : X.N.Nodup) (tk : Takes X Wout) : ∀ {hds : List ExceptHandler} {l : List HdT}, HdAs X hds l → ∀ {h3 : Heap}, Got X pins a B sI σ H cls d s' h3 → wMA X.K Wout D l cls d σ H →
    wpAny (model X.prog X.w) X.A (handleBy (.ref a) X.env hds) (SP X pins D) X.xe { s' with heap := h3 }
  | _, _, .nil, _, g, hw => g.goes_on hs hf tk hw
  | _, _, .cons hc hi hl hsu r, h3, g, ⟨true, one, yes, _⟩ => by
    refine wpAny_handleBy_cons (codeAny_handlers_test (g.asked hf hc one (codeAny_handlers_suite_as (HandSPX.lands_againZ g.fl fun h4 fl up => ?_)))) (fun q => nomatch q)
    refine (g.again fl up).taken hf hN hi hl hsu (yes rfl a g.na)
  | _, _, .cons hc hi hl hsu r, h3, g, ⟨false, one, _, no⟩ => wpAny_handleBy_cons (codeAny_handlers_test (g.asked hf hc one (clauses hs hf hN tk r g (no rfl)))) (fun q => nomatch q)
/-- a flow out of a try's body is one of the whole statement -/
theorem flow_out {xe : Value → Shared → Prop} (ok : X.Ok) {f : Flow} {s1 : Shared} (h : SP (X.tr (X.pn ++ pins) xe) [] D f s1) : SP X pins D f s1 := by
  cases f <;> dsimp only [SP] at h ⊢
  case ret u => exact h.imp fun _ => Exists.imp fun _ => Exists.imp fun _ => And.imp_left fun J => J.ofTry ok
  all_goals exact h.imp fun _ => Exists.imp fun _ => And.imp_left fun J => J.ofTry ok
theorem ps_tryMA {body : List Stmt} {h₀ : ExceptHandler} {hds : List ExceptHandler} {l : List HdT} {pos : Pos} {tb : WX → TS} (hs : X.stack = X.env :: X.outer) (hf : X.env.frame = some X.env.locals) (hN : X.N.Nodup) (tk : Takes X Wout)
    (hb : ∀ (W : WX) (pn : List (Addr × Obj)) (xe : Value → Shared → Prop), Takes (X.tr pn xe) W → PassesOwn (model X.prog X.w) X.A X.env xe → PSs (X.tr pn xe) body (tb W)) (hh : HdAs X (h₀ :: hds) l) :
    PS X (.Try body (h₀ :: hds) [] [] pos) (fun D σ H => tb (wMA X.K Wout D l) D σ H) := by
  refine ⟨fun pins s σ H D I h => wpAny_Try_except ?_⟩
  have takes : Takes (X.tr (X.pn ++ pins) (fun e s₁ => wpAny (model X.prog X.w) X.A (noteFrame e X.env) (fun _ s₂ => wpAny (model X.prog X.w) X.A (setFlight e none) (fun _ s₃ => wpAny (model X.prog X.w) X.A (handleBy e X.env (h₀ :: hds)) (SP X pins D) X.xe s₃) X.xe s₂) X.xe s₁)) (wMA X.K Wout D l) := by
    rintro _ s' ⟨a, B, sI, pins', σ', H', cls, d, rfl, J, nb, up, sky, na, os, ag, hw⟩
    exact Sky.land Zc.steady (I.ok.frames.trans (congrArg some hs)) hf (hs ▸ sky) fun h3 fl up3 => clauses hs hf hN tk hh (Got.mk I.ok (J.ofTry I.ok) nb (up.trans up3) fl na os ag) hw
  refine wpAny_mono ((hb _ _ _ takes PassesOwn.looking).run [] s σ H D (I.toTry _) h) (fun f s1 ran => ?_) fun _ _ => id
  cases f with
  | next => exact wpAny_execs_nil (flow_out I.ok ran)
  | _ => exact flow_out I.ok ran
end
/-! ### raise -/
def qRaise (c : Nat) (f : Env → M T) : Sm := fun env r => ofM env (fun t r => .exn c t env r) (f env r)
/-- an exception class of the top, by its number -/
structure XcOk (P : Program) (G : Gm) (c : Nat) (fld : Str) : Prop where
  fl : G.fl c = [fld]
  cl : ∃ qn cA fI, G.mg (G.cn c) = some (.ref cA) ∧ SupX.Txt P G.K G.mg qn fld cA fI
  ok : SupX.FOk P fld
theorem ss_raise {X : Cx} {G : Gm} {W : WX} {a : Expr} {f : Env → M T} {c k : Nat} {x fld : Str} {p pos pos2 : Pos} (hc : X.calm = true) (hK : X.K = G.K) (hM : X.mg = G.mg) (tk : Takes X W) (hr : Room k X.A) (hk : 2 ≤ k) (xc : XcOk X.prog G c fld) (hx : x = G.cn c) (he : SE X G W a f) (hg : Gl X x)
    (hd : (x == ("__debug__" : Str)) = false := by decide) (hs : starEach (a :: []) X.env = (false, eval a X.env) :: starEach [] X.env := by rfl) (hpl : (backTo pos (starEach [] X.env)).any (·.1) = false := by rfl) :
    SS X G W (.Raise (some (.Call (.Name x p) [a] [] pos)) none pos2) (qRaise c f) := fun w0 H0 => by
  obtain ⟨qn, cA, fI, h1, h2⟩ := xc.cl
  rw [← hK, ← hM] at h2
  refine ps_imp (ps_raiseX hc h2 xc.ok hr hk tk (by rw [hM, hx]; exact h1) (pa_cons he pa_nil hs) hg hd hs hpl) fun D σ H ⟨w, env, r, a0, h⟩ => ?_
  refine at_e a0 h fun t r1 w1 H1 v a1 d h3 => ⟨v, rfl, fun dd hdd => ?_⟩
  have st : Step w1 H1 w1 (upd H1 dd (.xd [(fld, v)])) := (Step.refl w1 H1).priv hdd
  have g2 : Good G w1 (upd H1 dd (.xd [(fld, v)])) r1 := a1.g.priv (a1.g.nopub hdd) (a1.g.noref hdd) (.inl hdd)
  exact h3 w1 _ σ _ _ (a1.st.trans st) g2 (a1.s.step st) ⟨cA, dd, v, fld, h1, rfl, rfl, xc.fl, upd_same, d⟩
/-! ### what was caught -/
structure EI (G : Gm) (w : Wd) (H : Hp) (c : Nat) (p : T) (cls : Value) (d : Option Addr) : Prop where
  ex : ∃ cA dd v f, G.mg (G.cn c) = some (.ref cA) ∧ cls = .ref cA ∧ d = some dd ∧ G.fl c = [f] ∧ H dd = some (.xd [(f, v)]) ∧ dd ∉ w.R ∧ Den G w v p
theorem ExcIs.ei {G : Gm} {w : Wd} {H : Hp} {r : RS} {c : Nat} {p : T} {cls : Value} {d : Option Addr} (x : ExcIs G w H c p cls d) (g : Good G w H r) : EI G w H c p cls d := by
  obtain ⟨cA, dd, v, f, h1, h2, h3, h4, h5, h6⟩ := x.ex
  refine ⟨cA, dd, v, f, h1, h2, h3, h4, h5, fun hm => ?_, h6⟩
  obtain ⟨vs, e⟩ := g.refs.there hm
  rw [h5] at e
  cases e
theorem EI.step {G : Gm} {w w' : Wd} {H H' : Hp} {c : Nat} {p : T} {cls : Value} {d : Option Addr} (x : EI G w H c p cls d) (s : Step w H w' H') : EI G w' H' c p cls d := by
  obtain ⟨cA, dd, v, f, h1, h2, h3, h4, h5, h6, h7⟩ := x.ex
  exact ⟨cA, dd, v, f, h1, h2, h3, h4, s.fr _ _ h6 h5 (by intro _ e; cases e), s.noR h6 (vs_of h5), h7.mono s.later⟩
abbrev XF : XK := fun _ _ _ => False
theorem OutP.noW {α : Type} {G : Gm} {w : Wd} {H : Hp} {σ : L2.St} {P : α → RS → Wd → Hp → Prop} {o : Out α} (h : OutP G w H (WE0 W0 σ) P o) : OutP G w H XF P o := by
  cases o with
  | ok a r => exact h
  | exn c p r => exact h
  | bad => exact h
abbrev HM (α : Type) := Nat → T → Env → M α
section
variable {X : Cx} {G : Gm} {a : Addr} {cls : Value} {d : Option Addr} {i : Nat} {pos : Pos}
def tHE (G : Gm) (a : Addr) (cls : Value) (d : Option Addr) (i : Nat) (f : HM T) : TE := fun σ H Q => ∃ w H0 env r c p, Good G w H r ∧ Slots G w H0 H σ env ∧ σ[i]? = some (some (.ref a)) ∧ EI G w H c p cls d ∧ OutP G w H XF (fun t _ w' H' => ∀ v, Den G w' v t → Q v H') (f c p env r)
def tHA (G : Gm) (a : Addr) (cls : Value) (d : Option Addr) (i : Nat) (fs : List (HM T)) : TA := fun σ H Q => ∃ w H0 env r c p, Good G w H r ∧ Slots G w H0 H σ env ∧ σ[i]? = some (some (.ref a)) ∧ EI G w H c p cls d ∧ OutP G w H XF (fun ts _ w' H' => ∀ vs, Dens G w' vs ts → ts.length = fs.length → Q vs H') (fAll (fs.map fun f => f c p) env r)
def tHS (G : Gm) (a : Addr) (cls : Value) (d : Option Addr) (i : Nat) (hb : Nat → T → Sm) : TS := fun D σ H => ∃ w0 H0 w env r c p, At G w0 H0 w H σ env r ∧ σ[i]? = some (some (.ref a)) ∧ EI G w H c p cls d ∧ FlowP G W0 w0 H0 D (hb c p env r)
theorem he_of {e : Expr} {f : Env → M T} (h : SE X G W0 e f) : PE X e (tHE G a cls d i fun _ _ => f) := pe_imp h fun σ H Q ⟨w, H0, env, r, c, p, g, s, _, _, h⟩ => ⟨w, H0, env, r, g, s, h⟩
theorem ha_nil : PA X [] (tHA G a cls d i []) := pa_imp pa_nil fun σ H Q ⟨w, H0, env, r, c, p, g, s, _, _, h⟩ => OutP.here g h [] .nil rfl
theorem ha_cons {e : Expr} {es : List Expr} {f : HM T} {fs : List (HM T)} (h1 : PE X e (tHE G a cls d i f)) (h2 : PA X es (tHA G a cls d i fs)) (hs : starEach (e :: es) X.env = (false, eval e X.env) :: starEach es X.env := by rfl) : PA X (e :: es) (tHA G a cls d i (f :: fs)) :=
  pa_imp (pa_cons h1 h2 hs) fun σ H Q ⟨w, H0, env, r, c, p, g, s, e1, ei, h⟩ => by
    have h : OutP G w H XF (fun ts _ w' H' => ∀ vs, Dens G w' vs ts → ts.length = (f :: fs).length → Q vs H') ((f c p env >>= fun x => fAll (fs.map fun f => f c p) env >>= fun xs => pure (x :: xs)) r) := h
    refine ⟨w, H0, env, r, c, p, g, s, e1, ei, h.bind.imp fun t r1 w1 H1 st1 g1 o v dv => ?_⟩
    refine ⟨w1, H0, env, r1, c, p, g1, s.step st1, e1, ei.step st1, o.bind.imp fun ts r2 w2 H2 st2 g2 o2 vs dvs l => ?_⟩
    exact OutP.here g2 o2 (v :: vs) (.cons (dv.mono st2.later) dvs) (by rw [List.length_cons, List.length_cons, l])
theorem he_lst {es : List Expr} {fs : List (HM T)} (ha : PA X es (tHA G a cls d i fs)) (hl : fs.length ≤ 1000 := by decide) : PE X (.List es pos) (tHE G a cls d i fun c p => fLst (fs.map fun f => f c p)) :=
  pe_imp (pe_lst ha) fun σ H Q ⟨w, H0, env, r, c, p, g, s, e1, ei, h⟩ => by
    refine ⟨w, H0, env, r, c, p, g, s, e1, ei, h.bind.imp fun ts r1 w1 H1 st1 g1 o vs d1 l => ?_⟩
    have hz : ts.length ≤ sizeLine := by rw [l]; exact Nat.le_trans hl (by decide)
    refine ⟨by rw [d1.length]; exact hz, fun q hq => ?_⟩
    obtain ⟨st, g2⟩ := g1.new (o := .lst vs) hq
    exact o _ _ st g2 _ (.lst upd_same hz (d1.mono st.later))
theorem he_tup {es : List Expr} {fs : List (HM T)} {j : Nat} (ha : PA X es (tHA G a cls d i fs)) (hl : fs.length ≤ 1000 := by decide) : PE X (.Tuple es j pos) (tHE G a cls d i fun c p => fTup (fs.map fun f => f c p)) :=
  pe_imp (pe_tup ha) fun σ H Q ⟨w, H0, env, r, c, p, g, s, e1, ei, h⟩ => by
    refine ⟨w, H0, env, r, c, p, g, s, e1, ei, h.bind.imp fun ts r1 w1 H1 st1 g1 o vs d1 l => ?_⟩
    have hz : ts.length ≤ sizeLine := by rw [l]; exact Nat.le_trans hl (by decide)
    refine ⟨by rw [d1.length]; exact hz, fun q hq => ?_⟩
    obtain ⟨st, g2⟩ := g1.new (o := .tup vs) hq
    exact o _ _ st g2 _ (.tup (.inl upd_same) hz (d1.mono st.later))
/-- what must be known of a class, that a field of its exceptions be read -/
structure XgOk (G : Gm) (c : Nat) (fld : Str) : Prop where
  fl : G.fl c = [fld]
  ga : ∀ cA, G.mg (G.cn c) = some (.ref cA) → PySem.W.findIn G.K (.ref cA) "__getattribute__" = some (some (.builtin "BaseException.__getattribute__")) ∧ PySem.W.findIn G.K (.ref cA) "__getattr__" = some none ∧ PySem.W.subIn G.K (.ref cA) (.type "BaseException") = some true ∧ PySem.W.hasDictIn G.K cA = true ∧ PySem.W.findIn G.K (.ref cA) fld = some none
def hFld (xf : Nat → Bool) : HM T := fun c p _ => if xf c = true then pure p else M.bad
theorem he_fld {oe : Obj} {pn : List (Addr × Obj)} {n fld : Str} {np : Pos} (hK : X.K = G.K) (hz : Zc cls d oe) (hf : ∃ vs, oe.data = .fields vs) (xf : Nat → Bool) (ok : ∀ c, xf c = true → XgOk G c fld) (hN : X.N[i]? = some n) (hv : Vis X.env.scope n)
    (hb : attributeBase (.Name n np) fld (X.suite a ((a, oe) :: pn)).env (eval (.Name n np) (X.suite a ((a, oe) :: pn)).env) = eval (.Name n np) (X.suite a ((a, oe) :: pn)).env := by rfl) (hd : (n == ("__debug__" : Str)) = false := by decide) (hcd : (n == ("__classdict__" : Str)) = false := by decide) :
    PE (X.suite a ((a, oe) :: pn)) (.Attribute (.Name n np) fld pos) (tHE G a cls d i (hFld xf)) := by
  refine ⟨fun pins s σ H Q I ⟨w, H0, env, r, c, p, g, sl, e1, ei, h⟩ => ?_⟩
  refine attr_of hb (thn ((pe_var (X := X.suite a ((a, oe) :: pn)) (pos := np) (i := i) hN hv hd hcd).run pins s σ H (fun v H1 => v = .ref a ∧ H1 = H) I ⟨.ref a, e1, rfl, rfl⟩) fun u s1 ⟨v, H1, I1, r1, q1⟩ => ?_)
  obtain ⟨ev, eH⟩ := q1
  subst ev
  rw [eH] at I1
  obtain rfl : u = Value.ref a := r1
  unfold hFld at h
  by_cases hx : xf c = true
  · rw [if_pos hx] at h
    obtain ⟨fl, ga⟩ := ok c hx
    obtain ⟨cA, dd, v, f, k1, k2, k3, k4, k5, k6, k7⟩ := ei.ex
    rw [fl] at k4
    cases k4
    obtain ⟨ga1, ga2, ga3, ga4, ga5⟩ := ga cA k1
    rw [← hK] at ga1 ga2 ga3 ga4 ga5
    subst k2
    subst k3
    obtain ⟨ha, _⟩ := I1.pin (a, oe) (List.mem_append_left _ List.mem_cons_self)
    obtain ⟨vs, hd'⟩ := hf
    have hxd : ObjOk X.prog X.w H s1.heap dd (.xd [(fld, v)]) := I1.hok dd _ k5
    obtain ⟨mA, hns, hr⟩ := hxd
    obtain ⟨od, ho, hl⟩ := lookIn_ns hns
    have l : List.lookup fld [(fld, v)] = some v := by simp [List.lookup]
    obtain ⟨u, hu, ru⟩ := RelO.some_of (v := v) (o := mA fld) (by rw [← l]; exact hr fld)
    have J : PySem.W.InstAt s1.heap a oe cA (some od) := ⟨ha, hz.1, by unfold PySem.W.notCls; rw [hd'] <;> rfl, by rw [hz.2]; exact ho⟩
    exact HandSPX.exc_get I1.kIn J ga1 ga2 ga3 (PySem.W.findObj_own ga4 ga5 rfl (by rw [hl, hu])) (handed_of ru) ⟨v, H, I1.tok _, ru, OutP.here g h v k7⟩
  · rw [if_neg hx] at h
    exact h.elim
/-- return e, in a suite -/
def hRet (f : HM T) : Nat → T → Sm := fun c p env r => ofM env (fun t r => .rt t r) (f c p env r)
theorem hs_ret {e : Expr} {f : HM T} (h : PE X e (tHE G a cls d i f)) : PSs X [.Return (some e) pos] (tHS G a cls d i (hRet f)) := pss_imp (pss_one (ps_ret h)) fun D σ H ⟨w0, H0, w, env, r, c, p, a0, e1, ei, hq⟩ => by
  refine ⟨w, H0, env, r, c, p, a0.g, a0.s, e1, ei, ((FlowP.ofM a0 hq).imp fun t r1 w1 H1 _ _ q v dv => ?_).noW⟩
  exact q.2 w1 H1 v q.1.st q.1.g dv
end
end Ep
namespace Ep
open PySem PySem.Spec L2 PyProof.Rows
/-! ### try -/
abbrev HdS := (Nat → Option Bool) × Nat × (Nat → T → Sm)
def unS (i : Nat) : SO → SO
  | .nx env r => .nx (env.set i .un) r
  | .bk env r => .bk (env.set i .un) r
  | .ct env r => .ct (env.set i .un) r
  | .rt t r => .rt t r
  | .exn _ _ _ _ => .bad
  | .bad => .bad
def pickH : List HdS → Nat → T → Sm
  | [], c, p, env, r => .exn c p env r
  | (m, i, hb) :: rest, c, p, env, r => match m c with
    | some true => if i < env.length then unS i (hb c p (env.set i .un) r) else .bad
    | some false => pickH rest c p env r
    | none => .bad
def qTry (g : Sm) (hs : List HdS) : Sm := fun env r => match g env r with
  | .exn c p e r' => pickH hs c p e r'
  | o => o
section
variable {X : Cx} {G : Gm} {W : WX}
/-- clauses compute hs -/
def HG (X : Cx) (G : Gm) (W : WX) (hds : List ExceptHandler) (hs : List HdS) : Prop := ∃ l, HdAs X hds l ∧ ∀ (w0 : Wd) (H0 : Hp) (D : Ends) (c : Nat) (p : T) (env : Env) (r : RS), FlowP G W w0 H0 D (pickH hs c p env r) →
  ∀ w' H' σ' cls d, Step w0 H0 w' H' → Good G w' H' r → Slots G w' H0 H' σ' env → ExcIs G w' H' c p cls d → wMA X.K W D l cls d σ' H'
theorem hg_nil : HG X G W [] [] := ⟨[], .nil, fun w0 H0 D c p env r h => h⟩
/-- the classes that a clause takes -/
structure XmOk (K : PySem.W.Frag) (G : Gm) (u : Value) (m : Nat → Option Bool) : Prop where
  ok : ∀ c cA b, G.mg (G.cn c) = some (.ref cA) → m c = some b → PySem.W.exmOne K (.ref cA) u = some b
theorem unS_gone {w0 : Wd} {H0 : Hp} {D : Ends} {i : Nat} {o : SO} (h : FlowP G W w0 H0 D (unS i o)) : FlowP G W0 w0 H0 (gone i D) o := by
  cases o with
  | nx env r => exact fun w' H' σ' st g s => h w' H' _ st g (s.setUn i)
  | bk env r => exact fun w' H' σ' st g s => h w' H' _ st g (s.setUn i)
  | ct env r => exact fun w' H' σ' st g s => h w' H' _ st g (s.setUn i)
  | rt t r => exact fun w' H' v st g dv => h w' H' v st g dv
  | exn c p e r => exact h.elim
  | bad => exact h.elim
theorem hg_cons {x n : Str} {c : Value} {i : Nat} {b₀ : Stmt} {suite : List Stmt} {np pp : Pos} {hds : List ExceptHandler} {m : Nat → Option Bool} {hb : Nat → T → Sm} {hs : List HdS} (hc : Names X x c) (hi : X.N[i]? = some n) (hl : X.env.kindOf n = some .local) (xm : XmOk X.K G c m)
    (hsu : ∀ (a : Addr) (oe : Obj) (cls : Value) (d : Option Addr) (pn : List (Addr × Obj)), Zc cls d oe → (∃ vs, oe.data = .fields vs) → PSs (X.suite a ((a, oe) :: pn)) (b₀ :: suite) (tHS G a cls d i hb)) (r : HG X G W hds hs) :
    HG X G W (.ExceptHandler (some (.Name x np)) (some n) (b₀ :: suite) pp :: hds) ((m, i, hb) :: hs) := by
  obtain ⟨l, h1, h2⟩ := r
  refine ⟨(c, i, fun a cls d => tHS G a cls d i hb) :: l, .cons hc hi hl hsu h1, fun w0 H0 D k p env r h w' H' σ' cls d st g s ex => ?_⟩
  obtain ⟨cA, dd, v, f, k1, k2, k3⟩ := ex.ex
  have h : FlowP G W w0 H0 D (match m k with
    | some true => if i < env.length then unS i (hb k p (env.set i .un) r) else .bad
    | some false => pickH hs k p env r
    | none => .bad) := h
  cases q : m k with
  | none => rw [q] at h; exact h.elim
  | some b =>
    rw [q] at h
    have hm := xm.ok k cA b k1 q
    rw [← k2] at hm
    refine ⟨b, hm, fun hb1 a na => ?_, fun hb1 => ?_⟩
    · subst hb1
      have h : FlowP G W w0 H0 D (if i < env.length then unS i (hb k p (env.set i .un) r) else .bad) := h
      by_cases hl : i < env.length
      · rw [if_pos hl] at h
        exact ⟨w0, H0, w', env.set i .un, r, k, p, ⟨st, g, s.setUn i⟩, by rw [List.getElem?_set_self (by rw [s.len]; exact hl)], ex.ei g, unS_gone h⟩
      · rw [if_neg hl] at h; exact h.elim
    · subst hb1
      exact h2 w0 H0 D k p env r h w' H' σ' cls d st g s ex
theorem ss_try {body : List Stmt} {h₀ : ExceptHandler} {hds : List ExceptHandler} {hs : List HdS} {pos : Pos} {g : Sm} (hst : X.stack = X.env :: X.outer) (hf : X.env.frame = some X.env.locals) (hN : X.N.Nodup) (tk : Takes X W)
    (hb : ∀ (W' : WX) (pn : List (Addr × Obj)) (xe : Value → Shared → Prop), Takes (X.tr pn xe) W' → PassesOwn (model X.prog X.w) X.A X.env xe → SSs (X.tr pn xe) G W' body g) (hh : HG X G W (h₀ :: hds) hs) :
    SS X G W (.Try body (h₀ :: hds) [] [] pos) (qTry g hs) := fun w0 H0 => by
  obtain ⟨l, h1, h2⟩ := hh
  refine ps_imp (ps_tryMA (tb := fun W' => tSS G W' w0 H0 g) hst hf hN tk (fun W' pn xe t po => hb W' pn xe t po w0 H0) h1) fun D σ H ⟨w, env, r, a, h⟩ => ⟨w, env, r, a, ?_⟩
  unfold qTry at h
  cases q : g env r with
  | exn c p e r' =>
    rw [q] at h
    exact fun w' H' σ' cls d st g' s x => h2 w0 H0 D c p e r' h w' H' σ' cls d st g' s x
  | nx e r' => rw [q] at h; exact h
  | rt t r' => rw [q] at h; exact h
  | bk e r' => rw [q] at h; exact h
  | ct e r' => rw [q] at h; exact h
  | bad => rw [q] at h; exact h
end
/-! ### a lambda handed to a def that tries it -/
/-- a def of n slots that tries what it got, then goes on -/
def heardS (n : Nat) (hs : List HdS) (rest : Sm) (act : M T) : M T := fun r => match qSeq (qTry (fun env r => ofM env (fun _ r => .nx env r) (act r)) hs) rest (List.replicate n .un) r with
  | .nx _ r => .ok .non r
  | .rt t r => .ok t r
  | _ => .bad
abbrev D0 (Q : VK) : Ends := { nx := fun _ H' => Q .non H', rt := Q }
theorem Slots.noneAt {G : Gm} {w : Wd} {H0 H : Hp} {σ : L2.St} (n : Nat) (h : σ.length = n) : Slots G w H0 H σ (List.replicate n .un) :=
  ⟨by rw [h, List.length_replicate], fun _ => 0, fun i s hi => by
    rw [List.eq_of_mem_replicate (List.mem_of_getElem? hi)]; trivial, fun i j s u hi hj ps pu _ => by
    rw [List.eq_of_mem_replicate (List.mem_of_getElem? hi)] at ps; cases ps⟩
/-- what the def that tries makes of the reading of what it got -/
def TTh (G : Gm) (n : Nat) (hs : List HdS) (rest : Sm) : (XK → Hp → VK → Prop) → Hp → VK → Prop := fun tl H Q => ∃ w r, Good G w H r ∧ ∀ (E' : XK) (Q' : VK),
  (∀ cls d H', (∃ w' r' c p, Step w H w' H' ∧ Good G w' H' r' ∧ ExcIs G w' H' c p cls d ∧ FlowP G W0 w H (D0 Q) (match pickH hs c p (List.replicate n .un) r' with | .nx env r => rest env r | o => o)) → E' cls d H') →
  (∀ v H', (∃ w' r', Step w H w' H' ∧ Good G w' H' r' ∧ FlowP G W0 w H (D0 Q) (rest (List.replicate n .un) r')) → Q' v H') → tl E' H Q'
theorem takes_len {X : Cx} {W : WX} (tk : Takes X W) : Takes X (fun cls d σ H => σ.length = X.N.length → W cls d σ H) := fun u s' ⟨a, B, sI, pins, σ, H, cls, d, e, I, nb, up, sky, na, os, ag, w⟩ =>
  tk u s' ⟨a, B, sI, pins, σ, H, cls, d, e, I, nb, up, sky, na, os, ag, w I.len⟩
section
variable {X : Cx} {G : Gm} {Ng : List Str} {x a q : Str} {sg : Scope} {g : Addr} {cdg : Value} {n : Nat} {h₀ : ExceptHandler} {hds : List ExceptHandler} {hs : List HdS} {restB : List Stmt} {rest : Sm} {p1 p2 p3 p4 : Pos}
theorem heard_gives (hn : Ng.length = n) (h1 : 1 ≤ n) (nd : Ng.Nodup)
    (hh : ∀ (A : Around) (outer stk : List PySem.Env) (s : Shared) (H : Hp), HG (cxOf C8.CX0 X.prog X.w X.K X.mg X.base Ng x sg g cdg X.A X.stack s H C8.E0).nox G W0 (h₀ :: hds) hs)
    (hr : ∀ (s : Shared) (H : Hp), SSs (cxOf C8.CX0 X.prog X.w X.K X.mg X.base Ng x sg g cdg X.A X.stack s H C8.E0).nox G W0 restB rest) :
    LamX.GivesTo X Ng x sg g cdg (.Try [.Expr (.Call (.Name a p1) [] [] p2) p3] (h₀ :: hds) [] [] p4 :: restB) a q (TTh G n hs rest) := by
  intro f c' s H Q tl act hc ⟨w, r, gd, ht⟩
  obtain ⟨l, k1, k2⟩ := hh X.A [] [] s H
  refine ⟨_, pss_cons (ps_tryMA (X := (cxOf C8.CX0 X.prog X.w X.K X.mg X.base Ng x sg g cdg X.A X.stack s H C8.E0).nox) (tb := fun W' => fun D σ H => ∃ Ech : XK, (∀ cls d σ' H', Ech cls d H' → σ'.length = Ng.length → W' cls d σ' H') ∧ σ[0]? = some (some (.ref f)) ∧ H c' = some (LamX.CodeO c' q) ∧ tl Ech H fun _ H' => D.nx σ H')
    rfl rfl nd LamX.takes0 (fun W' pn xe tk _ => ?_) k1) (hr s H w H), ?_⟩
  · refine ⟨fun pins s' σ H' D I h' => ?_⟩
    obtain ⟨Ech, hW, e1, e2, e3⟩ := h'
    have hp := act (fun cls d σ' H' => σ'.length = Ng.length → W' cls d σ' H') pn xe Ech p1 p2 (takes_len tk) hW
    exact (pss_one (ps_expr (pos := p3) hp)).run pins s' σ H' D I ⟨e1, e2, e3⟩
  · have st : ∀ f : Addr, (L2.start Ng [V.ref f])[0]? = some (some (V.ref f)) := fun f => by
      unfold L2.start
      rfl
    have sl : ∀ f : Addr, (L2.start Ng [V.ref f]).length = n := fun f => by
      unfold L2.start
      simp
      omega
    refine ⟨fun cls d H' => ∃ w' r' c p, Step w H w' H' ∧ Good G w' H' r' ∧ ExcIs G w' H' c p cls d ∧ FlowP G W0 w H (D0 Q) (match pickH hs c p (List.replicate n .un) r' with | .nx env r => rest env r | o => o), ?_, st f, hc, ht _ _ (fun cls d H' z => z) fun v H' ⟨w', r', s1, g1, hq⟩ => ⟨w', List.replicate n .un, r', ⟨s1, g1, Slots.noneAt n (sl f)⟩, hq⟩⟩
    · rintro cls d σ' H' ⟨w', r', c, p, s1, g1, ex, hq⟩ hl
      refine k2 w H _ c p (List.replicate n .un) r' ?_ w' H' σ' cls d s1 g1 (Slots.noneAt n (hl.trans hn)) ex
      cases o : pickH hs c p (List.replicate n .un) r' with
      | nx env r2 => rw [o] at hq; exact fun w2 H2 σ2 st g s => ⟨w2, env, r2, ⟨st, g, s⟩, hq⟩
      | rt t r2 => rw [o] at hq; exact hq
      | bk e r2 => rw [o] at hq; exact fun w2 H2 σ2 st g s => hq w2 H2 σ2 st g s
      | ct e r2 => rw [o] at hq; exact fun w2 H2 σ2 st g s => hq w2 H2 σ2 st g s
      | exn c2 p2 e r2 => rw [o] at hq; exact hq
      | bad => rw [o] at hq; exact hq
end
section
variable {X : Cx} {G : Gm} {W : WX}
theorem ext_step {w : Wd} {H H1 : Hp} (e : LamX.ExtN H H1) : Step w H w H1 := ⟨Same.refl _, fun a o _ h n => e a o h n, fun a ⟨o, h, n⟩ => ⟨o, e a o h n, n⟩, fun _ _ _ h => h, ⟨[], by simp, by simp⟩, rfl⟩
theorem ext_good {w : Wd} {H H1 : Hp} {r : RS} (g : Good G w H r) (e : LamX.ExtN H H1) (t : LamX.Tabs G.tb H1) : Good G w H1 r := ⟨fun a o h => e a o (g.sub a o h) (g.nt a o h), ⟨g.refs.nd, g.refs.len, g.refs.out, fun k xs hk => by
  obtain ⟨a, vs, h1, h2, h3, h4⟩ := g.refs.at_ k xs hk
  exact ⟨a, vs, h1, e a _ h2 (by intro _ z; cases z), h3, h4⟩⟩, t, g.nt⟩
/-- x(lambda: body), x a def that tries what it got -/
theorem s_lam {Ng : List Str} {x a : Str} {stg : Stmt} {g c P : Addr} {fdg : FuncData} {n k : Nat} {h₀ : ExceptHandler} {hds : List ExceptHandler} {hs : List HdS} {restB : List Stmt} {rest : Sm} {p1 p2 p3 p4 : Pos} {params : Arguments} {body : Expr} {scope : Scope} {f : Env → M T} {p lpos pos : Pos}
    (hK : X.K = G.K) (hM : X.mg = G.mg) (hg : Gl X x) (hm : G.mg x = some (.ref g)) (F : FunD G.K x x (defArgs stg) (defBody stg) (defScope stg) [] [] g fdg) (hb : L2.Binds G.K fdg [a] []) (Sg : FnScope Ng [a] (defScope stg)) (hNg : Ng[0]? = some a) (hva : Vis (defScope stg) a)
    (eb : defBody stg = .Try [.Expr (.Call (.Name a p1) [] [] p2) p3] (h₀ :: hds) [] [] p4 :: restB) (hn : Ng.length = n) (h1 : 1 ≤ n)
    (hh : ∀ (cdg : Value) (s : Shared) (H : Hp), HG (cxOf C8.CX0 X.prog X.w X.K X.mg X.base Ng x (defScope stg) g cdg X.A X.stack s H C8.E0).nox G W0 (h₀ :: hds) hs)
    (hr : ∀ (cdg : Value) (s : Shared) (H : Hp), SSs (cxOf C8.CX0 X.prog X.w X.K X.mg X.base Ng x (defScope stg) g cdg X.A X.stack s H C8.E0).nox G W0 restB rest)
    (TB : LamX.TabB X.base X.mg c P) (hcode : X.env.code = .ref c) (hmT : (P, X.env.qual ++ "<lambda>") ∈ G.tb) (hu : ∀ p ∈ G.tb, p.1 = P → p.2 = X.env.qual ++ "<lambda>") (rm : Room (k + 2) X.A) (L : LamX.LamS X.env.scope scope) (tk : Takes X W)
    (hbody : ∀ (A : Around) (outer : List PySem.Env) (s : Shared) (H : Hp) (E : XK) (f' c' : Addr), Room k (A.deeper (LamX.lamEnv X scope s.heap.objs.size f' c')) → SE (LamX.lamCx X A outer s H E scope f' c') G (WD E) body f)
    (hdef : defaultsOf params X.env = ([], []) := by rfl) (hbind : ∀ (q : Str) (cl : List (Str × Addr)) (pm cv ctv : Value), bindArgs (PySem.W.kla_fn "<lambda>" q params body scope cl pm cv ctv) ⟨[], []⟩ = pure [] := by intros; rfl)
    (hdb : (x == ("__debug__" : Str)) = false := by decide) (hd : (a == ("__debug__" : Str)) = false := by decide) (hcd : (a == ("__classdict__" : Str)) = false := by decide) :
    SE X G W (.Call (.Name x p) [.Lambda params body scope lpos] [] pos) (fun env => heardS n hs rest (f env)) := by
  obtain ⟨oc, od, dV, kV, doc, pm, an, cdg, ct, osl, efd, lk, hcg, _, _⟩ := F.ex
  rw [← hK] at lk hcg
  subst efd
  have hb' : L2.Binds X.K (PySem.W.fnOf x x (defArgs stg) (defBody stg) (defScope stg) dV kV doc pm an cdg ct) [a] [] := by rw [hK]; exact hb
  rw [eb] at lk hb'
  refine pe_imp (LamX.pe_lamcall (T := G.tb) (TT := TTh G n hs rest) (t := fun E => tS G (WD E) f) hg (by rw [hM]; exact hm) (by rw [hK]; exact F.kp) lk hcg hb' Sg hNg hva (heard_gives hn h1 Sg.nd (fun A outer stk s H => hh cdg s H) (fun s H => hr cdg s H)) TB hcode hmT hu rm L hdef hbind
    (fun A outer s H E f' c' hr' => hbody A outer s H E f' c' hr') hdb hd hcd) fun σ H Q ⟨w, H0, env, r, gd, sl, h⟩ => ?_
  refine ⟨gd.tabs, fun H1 eN T1 => ⟨w, r, ext_good gd eN T1, fun E' Q' hE hQ => ⟨w, H0, env, r, ext_good gd eN T1, sl.step (ext_step eN), ?_⟩⟩⟩
  have h2 : OutP G w H1 (WE0 W σ) (fun t _ w' H' => ∀ v, Den G w' v t → Q v H') (heardS n hs rest (f env) r) := h.mono (ext_step (w := w) eN)
  unfold heardS at h2
  -- what ends, as a flow
  have key : ∀ so : SO, OutP G w H1 (WE0 W σ) (fun t _ w' H' => ∀ v, Den G w' v t → Q v H') (match so with | .nx _ r => .ok .non r | .rt t r => .ok t r | _ => .bad) → FlowP G W0 w H1 (D0 Q) so := fun so z => by
    cases so with
    | nx e r2 => exact fun w' H' σ' st g _ => z w' H' st g _ .non
    | rt t r2 => exact fun w' H' v st g d => z w' H' st g v d
    | bk e r2 => exact z.elim
    | ct e r2 => exact z.elim
    | exn c p e r2 => exact z.elim
    | bad => exact z.elim
  have e0 : (fun env' r => ofM env' (fun _ r => SO.nx env' r) (f env r)) (List.replicate n Slot.un) r = ofM (List.replicate n Slot.un) (fun _ r => SO.nx (List.replicate n Slot.un) r) (f env r) := rfl
  cases q : f env r with
  | ok t r1 =>
    have e : qSeq (qTry (fun env' r => ofM env' (fun _ r => .nx env' r) (f env r)) hs) rest (List.replicate n .un) r = rest (List.replicate n .un) r1 := by
      unfold qSeq qTry
      rw [e0, q]
      rfl
    rw [e] at h2
    exact fun w' H' st g' v d => hQ v H' ⟨w', r1, st, g', key _ h2⟩
  | exn c0 p0 r1 =>
    have e : qSeq (qTry (fun env' r => ofM env' (fun _ r => .nx env' r) (f env r)) hs) rest (List.replicate n .un) r = (match pickH hs c0 p0 (List.replicate n .un) r1 with | .nx env r => rest env r | o => o) := by
      unfold qSeq qTry
      rw [e0, q]
      show (match pickH hs c0 p0 (List.replicate n .un) r1 with | .nx env r => rest env r | o => o) = _
      rfl
    rw [e] at h2
    exact fun w' H' cls d st g' x => hE cls d H' ⟨w', r1, c0, p0, st, g', x, key _ h2⟩
  | bad =>
    have e : qSeq (qTry (fun env' r => ofM env' (fun _ r => .nx env' r) (f env r)) hs) rest (List.replicate n .un) r = .bad := by
      unfold qSeq qTry
      rw [e0, q]
      rfl
    rw [e] at h2
    exact h2.elim
end
/-! ### a def that makes lambdas: its code's address -/
def cdOf (K : PySem.W.Frag) (f : Addr) : Value := match K.lookup f with
  | some ⟨_, _, .func fd, _⟩ => fd.code
  | _ => .none
section
variable {P : Program} {wd : World} {base : Heap} {G : Gm} {k : Nat} {x qual : Str} {st : Stmt} {f : Addr} {fd : FuncData} {N ps : List Str} {n m : Nat} {g : Sm} {dv : List V} {kw : List (Str × V)}
theorem fn_runC (F : FunD G.K x qual (defArgs st) (defBody st) (defScope st) dv kw f fd) (S : FnScope N ps (defScope st)) (hps : ps.length = n) (hm : N.length - n = m)
    (hb : ∀ cdv A outer s H E, cdv = cdOf G.K f → Room k (A.deeper (envOfC qual (defScope st) s.heap.objs.size f cdv)) → SSs (cxB P wd G base N qual st f cdv A outer s H E) G (WD E) (defBody st) g) :
    FnOk P wd G.K G.mg base (L2.CX P wd) (k + 1) f fd ps (spF G n (fnS m g)) := by
  have hcd : ∀ cdv, (∃ oc od dV kV doc pm an ct osl, G.K.lookup f = some ⟨oc, od, .func (PySem.W.fnOf x qual (defArgs st) (defBody st) (defScope st) dV kV doc pm an cdv ct), osl⟩) → cdv = cdOf G.K f := fun cdv ⟨oc, od, dV, kV, doc, pm, an, ct, osl, e⟩ => by
    unfold cdOf
    rw [e]
  obtain ⟨oc, od, dV, kV, doc, pm, an, cdv, ct, osl, efd, lk, hc, hD, hK⟩ := F.ex
  subst efd
  have ec := hcd cdv ⟨oc, od, dV, kV, doc, pm, an, ct, osl, lk⟩
  refine fn_of (CX := L2.CX P wd) lk hc S (spF_len hps) fun A outer s H vs Q E hr ⟨w, r, ts, gd, d, l, h⟩ => ?_
  refine ⟨_, hb cdv A outer s H E ec hr w H, w, _, r, ⟨Step.refl _ _, gd, start_slots d m (by rw [d.length, l]; exact hm)⟩, ?_⟩
  have h : OutP G w H E (fun t _ w' H' => ∀ v, Den G w' v t → Q v H') (fnS m g ts r) := h
  unfold fnS at h
  cases o : g (envOf m ts) r with
  | nx env' r' => rw [o] at h; exact fun w' H' σ' st g' _ => h w' H' st g' _ .non
  | rt t r' => rw [o] at h; exact fun w' H' v st g' dv => h w' H' st g' v dv
  | bk e r' => rw [o] at h; exact h.elim
  | ct e r' => rw [o] at h; exact h.elim
  | exn c p e r' => rw [o] at h; exact fun w' H' σ' cls dd st g' _ x => h w' H' cls dd st g' x
  | bad => rw [o] at h; exact h.elim
end
/-! ### the end, with tables -/
theorem law_endT {l : PySem.W.OpenLaw} {q : Program} {loose : List Str} {XP : (Str → Option Value) → Heap → Prop} {YP : World → Heap → Prop} {d : DefRec} {K : Params → PySem.W.Frag} {x : Str} (k : Nat) (xs : List Str) (hn : l.most = some 63) (hdf : d.params.defaults = []) (hr : Room k callerA)
    (hY : ∀ (w : World) (h : Heap), YP w h → (K w.params).In h)
    (hx : ∀ y ∈ xs, ((recsOf q).find? fun e => e.name == y).isSome = true)
    (F : ∀ (w : World) (mg : Str → Option Value) (fa : Addr) (h : Heap), (K w.params).In h → h.Ns mainGlobals mg → mg d.name = some (.ref fa) → ∃ (G : Gm) (f : List T → M T) (fd : FuncData) (cs : List (Addr × Addr)), G.K = K w.params ∧ G.mg = mg ∧ (∀ (s : Shared) (u : Value), BindsTo s fd ⟨[u], []⟩ [(x, u)]) ∧
      (∀ p ∈ cs, ∃ y ∈ xs, PySem.W.tabIn (K w.params) y = some p) ∧ (∀ p ∈ cs, (K w.params).lookup p.2 = none) ∧ (∀ t ∈ G.tb, ∃ c, (c, t.1) ∈ cs) ∧
      (∀ ns : List Int, ns.length ≤ 63 → (∀ z ∈ ns, Builtin.Int.intBits z ≤ 1048576) → ∃ r, f [.kls (ns.map T.int)] [] = .ok (.bl true) r) ∧ ∀ base : Heap, (K w.params).In base → base.Ns mainGlobals mg → (∀ p ∈ cs, LamX.TabB base mg p.1 p.2) → FnOk l.prog w G.K G.mg base (L2.CX l.prog w) k fa fd [x] (spF G 1 f)) :
    PySem.W.WalkO q loose XP YP l.row.toRowW d []
      (fun f vs => PySem.call f vs) :=
  by
  refine Att.attach_callB hn hdf fun w s₀ s₁ mg mb fa o pm cd doc a vs ns G Y ho hd hcd hmg hobj hints hlen hbits hg => ?_
  have KX := hY w _ Y
  obtain ⟨G', f, fd, cs, e1, e2, hb, t1, t2, t4, hv, hF⟩ := F w mg fa _ KX G.T.g hmg
  have hT : ∀ p ∈ cs, PySem.W.CodeHd s₁.heap p.1 p.2 ∧ s₁.heap.get? p.2 = some { cls := .none, data := .fields #[] } := fun p hp => by
    obtain ⟨y, hy, ey⟩ := t1 p hp
    cases e : (recsOf q).find? fun e => e.name == y with
    | none => have := hx y hy; rw [e] at this; cases this
    | some dr => exact PySem.W.tab_of G.T KX e ey
  refine LamX.law_callTs (k := k) (x := x) (CX := L2.CX l.prog w) (sp := spF G' 1 f) KX G.T.g G.T.b G.T.builtins G.T.nolimit hg (fun p hp => (hT p hp).2) t2 (fun p hp => (hT p hp).1) G.T.bmain hobj hints (Nat.le_trans hlen (by decide)) hr (fun base KB NB hTB => ?_) hb (fun H hH hS => ?_) fun H e s' ⟨_, _, _, _, _, _, _, _, _, _, _, _, z⟩ => z
  · have := hF base KB NB hTB
    rw [e1, e2] at this
    exact this
  · obtain ⟨r, er⟩ := hv ns hlen hbits
    have dint : ∀ (ns : List Int) (w : Wd), Dens G' w (ns.map V.int) (ns.map T.int) := fun ns w => by
      induction ns with
      | nil => exact .nil
      | cons n ns ih => exact .cons (.int n) ih
    refine ⟨⟨noTb H, [], ⟨0, 0, 0⟩⟩, [], [.kls (ns.map T.int)], ⟨fun b o e => (noTb_of e).1, ⟨List.nodup_nil, rfl, fun a h => (by cases h), fun k xs h => (by cases h)⟩, fun p hp => ?_, fun b o e => (noTb_of e).2⟩, .cons (.kls (by rw [e1]; exact noTb_seq hS) (by rw [List.length_map, sizeLine_eq]; omega) (dint ns _)) .nil, rfl, ?_⟩
    · obtain ⟨c, hc⟩ := t4 p hp
      exact LamX.TabS.nil (hH _ hc)
    · rw [er]
      intro w' H' st g v d
      cases d
      rfl
end Ep
namespace Ep
open PySem PySem.Spec L2 PyProof.Rows
/-! ### own __contains__; own comparisons with what is no instance; names of several classes -/
def own2c (C : Nat) (F : List T → M T) : T → T → M T := fun x y => own2 C F y x >>= fun z => match z with
  | .bl b => pure (.bl b)
  | _ => M.bad
def own2nc (C : Nat) (F : List T → M T) : T → T → M T := fun x y => own2 C F y x >>= negB
theorem bool_ne {m : M T} {k : T → M T} (hm : ∀ r c p r', m r ≠ .exn c p r') (hk : ∀ t r c p r', k t r ≠ .exn c p r') (r : RS) (c : Nat) (p : T) (r' : RS) : (m >>= k) r ≠ .exn c p r' := by
  show M.bind m k r ≠ _
  unfold M.bind
  cases o : m r with
  | ok a r2 => exact hk a r2 c p r'
  | exn c' p' r2 => exact absurd o (hm r c' p' r2)
  | bad => simp
theorem own2c_ne {C : Nat} {F : List T → M T} (t u : T) (r : RS) (c : Nat) (p : T) (r' : RS) : own2c C F t u r ≠ .exn c p r' :=
  bool_ne (fun r c p r' => own2_ne u t r c p r') (fun z r c p r' => by cases z <;> simp [M.bad, pure, M.pure]) r c p r'
theorem own2nc_ne {C : Nat} {F : List T → M T} (t u : T) (r : RS) (c : Nat) (p : T) (r' : RS) : own2nc C F t u r ≠ .exn c p r' :=
  bool_ne (fun r c p r' => own2_ne u t r c p r') (fun z r c p r' => by cases z <;> simp [negB, M.bad, pure, M.pure]) r c p r'
section
variable {X : Cx} {G : Gm} {W : WX} {pos : Pos} {a b : Expr} {f g : Env → M T} {C j k : Nat} {F : List T → M T} {m : Str}
/-- turned: the instance is the second operand -/
theorem r2_turn {x y : V} {H : Hp} {Q : VK} {kk : T → M T} {kb : Bool → T} (hk : ∀ z r o, kk z r = o → (∀ b, z = .bl b → o = .ok (kb b) r) ∧ ((∀ b, z ≠ .bl b) → o = .bad)) (h : r2own G C (fun x y => own2 C F y x >>= kk) x y H Q) : r2own G C (own2 C F) y x H (fun v H' => ∃ b, v = .bl b ∧ ∀ v', (∀ w, Den G w v' (kb b)) → Q v' H') := by
  obtain ⟨w, r, t, u, g0, d1, d2, h⟩ := h
  refine ⟨w, r, u, t, g0, d2, d1, ?_⟩
  have h : OutP G w H (fun _ _ _ => False) (fun t _ w' H' => ∀ v, Den G w' v t → Q v H') (M.bind (own2 C F u t) kk r) := h
  unfold M.bind at h
  cases o : own2 C F u t r with
  | ok z r2 =>
    rw [o] at h
    have h : OutP G w H (fun _ _ _ => False) (fun t _ w' H' => ∀ v, Den G w' v t → Q v H') (kk z r2) := h
    obtain ⟨h1, h2⟩ := hk z r2 _ rfl
    intro w' H' st g' v d
    cases d with
    | bl b =>
      rw [h1 b rfl] at h
      exact ⟨b, rfl, fun v' dv => h w' H' st g' v' (dv w')⟩
    | _ => rw [h2 (by intro b e; cases e)] at h; exact h.elim
  | exn c p r2 => exact absurd o (own2_ne u t r c p r2)
  | bad => rw [o] at h; exact h.elim
theorem op_ownIn (D : MethOk X.prog X.w X.base G k C "__contains__" 2 [] F) (hK : X.K = G.K) (hM : X.mg = G.mg) (hr : Room j X.A) (hk : k ≤ j) : OpR X (compareOp .In) (r2own G C (own2c C F)) := by
  intro pins s σ H x y v u Q I rx ry h
  have h := r2_turn (kb := fun b => .bl b) (fun z r o e => ⟨fun b eb => by subst eb; exact e.symm, fun n => by cases z <;> first | exact e.symm | exact absurd rfl (n _)⟩) h
  obtain ⟨p, cA, fn, od, rfl, c, J, fi, ff, run⟩ := own_args D hK hM hr hk I ry rx h
  obtain ⟨mm, hF⟩ := I.fr
  refine PySem.W.in_K hF I.ok.mod.kin J fi ff (wpAny_mono (run X.A (hr.mono hk) I.env0) (fun w s' z => ?_) fun _ _ e => e)
  obtain ⟨z', H', I', rz, b, eb, q⟩ := z
  subst eb
  obtain rfl : w = Value.bool b := rz
  exact wpAny_truthy_bool ⟨.bl b, H', I', rfl, q _ fun w => .bl b⟩
theorem op_ownNin (D : MethOk X.prog X.w X.base G k C "__contains__" 2 [] F) (hK : X.K = G.K) (hM : X.mg = G.mg) (hr : Room j X.A) (hk : k ≤ j) : OpR X (compareOp .NotIn) (r2own G C (own2nc C F)) := by
  intro pins s σ H x y v u Q I rx ry h
  have h := r2_turn (kb := fun b => .bl !b) (fun z r o e => ⟨fun b eb => by subst eb; exact e.symm, fun n => by cases z <;> first | exact e.symm | exact absurd rfl (n _)⟩) h
  obtain ⟨p, cA, fn, od, rfl, c, J, fi, ff, run⟩ := own_args D hK hM hr hk I ry rx h
  obtain ⟨mm, hF⟩ := I.fr
  refine PySem.W.notIn_K hF I.ok.mod.kin J fi ff (wpAny_mono (run X.A (hr.mono hk) I.env0) (fun w s' z => ?_) fun _ _ e => e)
  obtain ⟨z', H', I', rz, b, eb, q⟩ := z
  subst eb
  obtain rfl : w = Value.bool b := rz
  exact wpAny_truthy_bool ⟨.bl !b, H', I', rfl, q _ fun w => .bl !b⟩
theorem s_ownIn (D : MethOk X.prog X.w X.base G k C "__contains__" 2 [] F) (hK : X.K = G.K) (hM : X.mg = G.mg) (hr : Room j X.A) (hk : k ≤ j) (ha : SE X G W a f) (hb : SE X G W b g) (hm : behindInMarks .In b = false) :
    SE X G W (.Compare a [.In] [b] pos) (fun env => f env >>= fun x => g env >>= fun y => own2c C F x y) := pe_imp (pe_cmpR (op_ownIn D hK hM hr hk) ha hb hm) fun σ H Q hq => own_use own2c_ne hq
theorem s_ownNin (D : MethOk X.prog X.w X.base G k C "__contains__" 2 [] F) (hK : X.K = G.K) (hM : X.mg = G.mg) (hr : Room j X.A) (hk : k ≤ j) (ha : SE X G W a f) (hb : SE X G W b g) (hm : behindInMarks .NotIn b = false) :
    SE X G W (.Compare a [.NotIn] [b] pos) (fun env => f env >>= fun x => g env >>= fun y => own2nc C F x y) := pe_imp (pe_cmpR (op_ownNin D hK hM hr hk) ha hb hm) fun σ H Q hq => own_use own2nc_ne hq
theorem b_ownIn (D : MethOk X.prog X.w X.base G k C "__contains__" 2 [] F) (hK : X.K = G.K) (hM : X.mg = G.mg) (hr : Room j X.A) (hk : k ≤ j) (ha : SE X G W a f) (hb : SE X G W b g) (hm : behindInMarks .In b = false) :
    SB X G W (.Compare a [.In] [b] pos) (fToB fun env => f env >>= fun x => g env >>= fun y => own2c C F x y) := pt_imp (pt_cmpR (op_ownIn D hK hM hr hk) ha hb hm) fun σ H Q hq => own_use own2c_ne (tob_read hq)
theorem b_ownNin (D : MethOk X.prog X.w X.base G k C "__contains__" 2 [] F) (hK : X.K = G.K) (hM : X.mg = G.mg) (hr : Room j X.A) (hk : k ≤ j) (ha : SE X G W a f) (hb : SE X G W b g) (hm : behindInMarks .NotIn b = false) :
    SB X G W (.Compare a [.NotIn] [b] pos) (fToB fun env => f env >>= fun x => g env >>= fun y => own2nc C F x y) := pt_imp (pt_cmpR (op_ownNin D hK hM hr hk) ha hb hm) fun σ H Q hq => own_use own2nc_ne (tob_read hq)
/-- compared with a text, a number, nothing, a list, a tuple -/
def plainT : T → Option String
  | .str _ => some "str"
  | .int _ => some "int"
  | .bl _ => some "bool"
  | .non => some "NoneType"
  | .lst _ => some "list"
  | .kls _ => some "list"
  | .tup _ => some "tuple"
  | _ => none
def own2x (C : Nat) (F : List T → M T) : T → T → M T := fun x y => if (plainT y).isSome = true then own2 C F x y else own2s C F x y
theorem own2x_ne {C : Nat} {F : List T → M T} (t u : T) (r : RS) (c : Nat) (p : T) (r' : RS) : own2x C F t u r ≠ .exn c p r' := by
  unfold own2x
  split
  · exact own2_ne _ _ _ _ _ _
  · exact own2s_ne _ _ _ _ _ _
/-- no class above the builtin one -/
structure PxOk (G : Gm) (C : Nat) : Prop where
  ok : ∀ cA, G.mg (G.cn C) = some (.ref cA) → PySem.W.notFirst G.K cA (.type "str") = true ∧ PySem.W.notFirst G.K cA (.type "int") = true ∧ PySem.W.notFirst G.K cA (.type "bool") = true ∧ PySem.W.notFirst G.K cA (.type "NoneType") = true ∧
    PySem.W.notFirst G.K cA (.type "list") = true ∧ PySem.W.notFirst G.K cA (.type "tuple") = true
theorem op_ownX {op : CmpOp} (hop : ∀ a b, compareOp op a b = richCompare op a b) (px : PxOk G C) (D : MethOk X.prog X.w X.base G k C (cmpInfo op).2.1 2 [] F) (hK : X.K = G.K) (hM : X.mg = G.mg) (hr : Room j X.A) (hk : k ≤ j) : OpR X (compareOp op) (r2own G C (own2x C F)) := by
  intro pins s σ H x y v u Q I rx ry h
  obtain ⟨w, r, t, u', g0, d1, d2, h⟩ := h
  unfold own2x at h
  by_cases hp : (plainT u').isSome = true
  · rw [if_pos hp] at h
    obtain ⟨p, cA, fn, od, rfl, c, J, fi, ff, run⟩ := own_args D hK hM hr hk I rx ry ⟨w, r, t, u', g0, d1, d2, h⟩
    obtain ⟨mm, hF⟩ := I.fr
    obtain ⟨n1, n2, n3, n4, n5, n6⟩ := px.ok cA c
    rw [← hK] at n1 n2 n3 n4 n5 n6
    rw [hop]
    have fin : ∀ {w' : Value} {s' : Shared}, EP X pins σ Q w' s' → PySem.W.CmpBack (EP X pins σ Q) w' s' := fun {w' s'} z => by
      obtain ⟨z', H', I', rz, qz⟩ := z
      exact SlX.cmpback rz ⟨z', H', I', rz, qz⟩
    cases d2 with
    | str x =>
      obtain ⟨tk, rfl⟩ := ry
      exact PySem.W.cmp_K (op := op) (tb := .type "str") hr.units0 hF I.ok.mod.kin J (PySem.W.Looks.of_pure rfl) n1 fi ff (wpAny_mono (run X.A (hr.mono hk) I.env0) (fun w s' z => fin z) fun _ _ e => e)
    | int i =>
      obtain ⟨tk, rfl⟩ := ry
      exact PySem.W.cmp_K (op := op) (tb := .type "int") hr.units0 hF I.ok.mod.kin J (PySem.W.Looks.of_pure rfl) n2 fi ff (wpAny_mono (run X.A (hr.mono hk) I.env0) (fun w s' z => fin z) fun _ _ e => e)
    | bl b =>
      obtain rfl : u = Value.bool b := ry
      exact PySem.W.cmp_K (op := op) (tb := .type "bool") hr.units0 hF I.ok.mod.kin J (PySem.W.Looks.of_pure rfl) n3 fi ff (wpAny_mono (run X.A (hr.mono hk) I.env0) (fun w s' z => fin z) fun _ _ e => e)
    | non =>
      obtain rfl : u = Value.none := ry
      exact PySem.W.cmp_K (op := op) (tb := .type "NoneType") hr.units0 hF I.ok.mod.kin J (PySem.W.Looks.of_pure rfl) n4 fi ff (wpAny_mono (run X.A (hr.mono hk) I.env0) (fun w s' z => fin z) fun _ _ e => e)
    | @lst qa qvs qts hq z dd =>
      have hl : SqL X.K H qa qvs := by rw [hK]; exact g0.sub.seq (.inl (.inl hq))
      obtain ⟨its, _, pl, _⟩ := I.list hl
      obtain rfl := ry
      obtain ⟨o, n, ho, hc, _, _⟩ := pl
      have LT : PySem.W.Looks (model X.prog X.w) s.heap (typeOf (.ref qa)) o.cls := (PySem.W.Looks.ld ho).andThen .now
      rw [hc] at LT
      exact PySem.W.cmp_K (op := op) (tb := .type "list") hr.units0 hF I.ok.mod.kin J LT n5 fi ff (wpAny_mono (run X.A (hr.mono hk) I.env0) (fun w s' z => fin z) fun _ _ e => e)
    | @kls qa qvs qts hq z dd =>
      have hl : SqL X.K H qa qvs := by rw [hK]; exact g0.sub.seq hq
      obtain ⟨its, _, pl, _⟩ := I.list hl
      obtain rfl := ry
      obtain ⟨o, n, ho, hc, _, _⟩ := pl
      have LT : PySem.W.Looks (model X.prog X.w) s.heap (typeOf (.ref qa)) o.cls := (PySem.W.Looks.ld ho).andThen .now
      rw [hc] at LT
      exact PySem.W.cmp_K (op := op) (tb := .type "list") hr.units0 hF I.ok.mod.kin J LT n5 fi ff (wpAny_mono (run X.A (hr.mono hk) I.env0) (fun w s' z => fin z) fun _ _ e => e)
    | @tup qa qvs qts hq z dd =>
      have hl : SqT X.K H qa qvs := by rw [hK]; exact tup_sq g0.sub hq
      obtain ⟨its, _, pl, _⟩ := I.tuple hl
      obtain rfl := ry
      obtain ⟨o, ho, hc, _⟩ := pl
      have LT : PySem.W.Looks (model X.prog X.w) s.heap (typeOf (.ref qa)) o.cls := (PySem.W.Looks.ld ho).andThen .now
      rw [hc] at LT
      exact PySem.W.cmp_K (op := op) (tb := .type "tuple") hr.units0 hF I.ok.mod.kin J LT n6 fi ff (wpAny_mono (run X.A (hr.mono hk) I.env0) (fun w s' z => fin z) fun _ _ e => e)
    | _ => cases hp
  · rw [if_neg hp] at h
    exact op_ownC hop D hK hM hr hk pins s σ H x y v u Q I rx ry ⟨w, r, t, u', g0, d1, d2, h⟩
theorem s_ownX {op : CmpOp} (hop : ∀ a b, compareOp op a b = richCompare op a b) (px : PxOk G C) (D : MethOk X.prog X.w X.base G k C (cmpInfo op).2.1 2 [] F) (hK : X.K = G.K) (hM : X.mg = G.mg) (hr : Room j X.A) (hk : k ≤ j) (ha : SE X G W a f) (hb : SE X G W b g) (hm : behindInMarks op b = false) :
    SE X G W (.Compare a [op] [b] pos) (fun env => f env >>= fun x => g env >>= fun y => own2x C F x y) := pe_imp (pe_cmpR (op_ownX hop px D hK hM hr hk) ha hb hm) fun σ H Q hq => own_use own2x_ne hq
theorem b_ownX {op : CmpOp} (hop : ∀ a b, compareOp op a b = richCompare op a b) (px : PxOk G C) (D : MethOk X.prog X.w X.base G k C (cmpInfo op).2.1 2 [] F) (hK : X.K = G.K) (hM : X.mg = G.mg) (hr : Room j X.A) (hk : k ≤ j) (ha : SE X G W a f) (hb : SE X G W b g) (hm : behindInMarks op b = false) :
    SB X G W (.Compare a [op] [b] pos) (fToB fun env => f env >>= fun x => g env >>= fun y => own2x C F x y) := pt_imp (pt_cmpR (op_ownX hop px D hK hM hr hk) ha hb hm) fun σ H Q hq => own_use own2x_ne (tob_read hq)
end
/-! ### a list taken apart -/
def hTupL (n : Nat) (hs : List T → Env → Option Env) : T → Env → Option Env := fun t env => match t with
  | .tup ts => if ts.length = n then hs ts env else none
  | .lst ts => if ts.length = n then hs ts env else none
  | _ => none
theorem g_lst {X : Cx} {G : Gm} {pos : Pos} {us : List Nat} {es : List Expr} {k n : Nat} {hs : List T → Env → Option Env} (hc : X.calm = true) (hK : X.K = G.K) (h : SGs X G us es hs) (hn : (assignEach es X.env).length = n := by rfl) (hst : (assignEach es X.env).findIdx? (·.1) = none := by rfl) :
    ∀ w0 H0, PG X (.Tuple es k pos) (fun v σ H Q => ∃ w env r t env', At G w0 H0 w H σ env r ∧ Den G w v t ∧ (∃ ts, t = .lst ts ∧ ts.length = n ∧ hs ts env = some env') ∧ ∀ σ', Slots G w H0 H σ' env' → But us σ σ' → Q σ' H) := fun w0 H0 =>
  pg_imp (pg_lst hc (h w0 H0) hn hst) fun v σ H Q ⟨w, env, r, t, env', a, d, ⟨ts, et, hl, e⟩, q⟩ => by
    subst et
    cases d with
    | @lst p vs ts hh z dd =>
      rw [hK]
      exact ⟨p, vs, rfl, SqL.of (a.g.sub _ _ hh), by rw [dd.length]; exact hl, w, env, r, ts, env', a, dd, e, q⟩
/-- a target that takes tuples or lists -/
theorem pg_or {X : Cx} {tg : Expr} {t1 t2 : TG} (h1 : PG X tg t1) (h2 : PG X tg t2) : PG X tg (fun v σ H Q => t1 v σ H Q ∨ t2 v σ H Q) := ⟨fun pins s σ H v u Q I r q => by
  rcases q with q | q
  · exact h1.run pins s σ H v u Q I r q
  · exact h2.run pins s σ H v u Q I r q⟩
theorem g_tl {X : Cx} {G : Gm} {pos : Pos} {us : List Nat} {es : List Expr} {k n : Nat} {hs : List T → Env → Option Env} (hc : X.calm = true) (hK : X.K = G.K) (h : SGs X G us es hs) (hn : (assignEach es X.env).length = n := by rfl) (hst : (assignEach es X.env).findIdx? (·.1) = none := by rfl) : SG X G us (.Tuple es k pos) (hTupL n hs) := fun w0 H0 =>
  pg_imp (pg_or (g_tup (k := k) (pos := pos) hc hK h hn hst w0 H0) (g_lst (k := k) (pos := pos) hc hK h hn hst w0 H0)) fun v σ H Q ⟨w, env, r, t, env', a, d, e, q⟩ => by
    cases t with
    | tup ts => exact .inl ⟨w, env, r, _, env', a, d, e, q⟩
    | lst ts =>
      have e : (if ts.length = n then hs ts env else none) = some env' := e
      by_cases hl : ts.length = n
      · rw [if_pos hl] at e; exact .inr ⟨w, env, r, _, env', a, d, ⟨ts, rfl, hl, e⟩, q⟩
      · rw [if_neg hl] at e; cases e
    | _ => cases e
theorem Bd.tl {X : Cx} {G : Gm} {W : WX} {j : Nat} {pos : Pos} {es : List Expr} (B : Bd X G W j) {us : List Nat} {kk : Nat} {hs : List T → Env → Option Env} (n : Nat) (h : SGs X G us es hs) (hn : (assignEach es X.env).length = n := by rfl) (hst : (assignEach es X.env).findIdx? (·.1) = none := by rfl) : SG X G us (.Tuple es kk pos) (hTupL n hs) := g_tl B.calm B.eK h hn hst
end Ep
namespace Ep
open PySem PySem.Spec L2 PyProof.Rows
/-! ### comprehensions with two clauses -/
/-- a walk by an invariant, for any turn -/
theorem walk_it {J : It} {n : Nat} {Gd : Hp → Prop} {Y : Nat → Hp → V → Hp → Prop} (w : Walk J n Gd Y) {turn : V → Hp → (Hp → Prop) → Prop} {H : Hp} {Qd : Hp → Prop} (Pv : Nat → Hp → Prop) (h0 : Pv 0 H) (hG : ∀ i H, i ≤ n → Pv i H → Gd H)
    (hs : ∀ i x H H', i < n → Pv i H → Y i H x H' → turn x H' (Pv (i + 1))) (hd : ∀ H, Pv n H → Qd H) :
    ∃ W : Nat → Nat → Hp → Prop, (∃ m, W 0 m H) ∧ ∀ i m H, W i m H → (J.stop i H ∧ Qd H) ∨ (J.go i H ∧ ∃ Nx : Hp → Prop, (∀ H', Nx H' → ∃ m', m' < m ∧ W (i + 1) m' H') ∧ ∀ x H', J.yld i H x H' → turn x H' Nx) := by
  refine ⟨fun i m H => m = n - i ∧ i ≤ n ∧ Pv i H, ⟨n, rfl, Nat.zero_le _, h0⟩, ?_⟩
  rintro i m H ⟨rfl, hi, p⟩
  have q := hG i H hi p
  rcases Nat.lt_or_eq_of_le hi with hlt | e
  · exact .inr ⟨w.goes i H hlt q, Pv (i + 1), fun H' p' => ⟨n - (i + 1), by omega, rfl, hlt, p'⟩, fun x H' y => hs i x H H' hlt p (w.yields i H x H' hlt q y)⟩
  · subst e
    exact .inl ⟨w.stops H q, hd H p⟩
/-- the new list at D holds acc -/
structure CS (G : Gm) (D : Addr) (w1 : Wd) (H1 : Hp) (acc : List T) (w' : Wd) (H' : Hp) (r' : RS) : Prop where
  st : Step w1 H1 w' H'
  g : Good G w' H' r'
  hP : w'.P D = none
  hR : D ∉ w'.R
  at_ : ∃ vs, H' D = some (.lst vs) ∧ Dens G w' vs acc
  z : acc.length ≤ sizeLine
theorem CS.step {G : Gm} {D : Addr} {w1 w' w2 : Wd} {H1 H' H2 : Hp} {acc : List T} {r' r2 : RS} (c : CS G D w1 H1 acc w' H' r') (s : Step w' H' w2 H2) (g : Good G w2 H2 r2) : CS G D w1 H1 acc w2 H2 r2 := by
  obtain ⟨vs, h1, h2⟩ := c.at_
  exact ⟨c.st.trans s, g, s.hid D c.hR (vs_of h1) c.hP, s.noR c.hR (vs_of h1), ⟨vs, s.fr D _ c.hR h1 (by intro _ e; cases e), h2.mono s.later⟩, c.z⟩
theorem CS.app {G : Gm} {D : Addr} {w1 w' : Wd} {H1 H' : Hp} {acc : List T} {r' : RS} {v : V} {t : T} (c : CS G D w1 H1 acc w' H' r') (hD : ¬ Vs H1 D) (d : Den G w' v t) (hl : acc.length < sizeLine) : ∃ vs, H' D = some (.lst vs) ∧ vs.length < sizeLine ∧ CS G D w1 H1 (acc ++ [t]) w' (upd H' D (.lst (vs ++ [v]))) r' := by
  obtain ⟨vs, h1, h2⟩ := c.at_
  exact ⟨vs, h1, by rw [h2.length]; exact hl, c.st.chg hD, c.g.priv c.hP c.hR (.inr ⟨_, h1, ⟨fun _ e => (by cases e), fun _ e => (by cases e)⟩⟩), c.hP, c.hR, ⟨_, upd_same, h2.append (.cons d .nil)⟩, by rw [List.length_append, List.length_singleton]; exact hl⟩
/-- without D -/
def wo (H : Hp) (D : Addr) : Hp := fun b => if b = D then none else H b
theorem wo_ne {H : Hp} {D b : Addr} (h : b ≠ D) : wo H D b = H b := if_neg h
theorem wo_of {H : Hp} {D b : Addr} {o : HO} (h : wo H D b = some o) : b ≠ D ∧ H b = some o := by
  by_cases e : b = D
  · unfold wo at h; rw [if_pos e] at h; cases h
  · exact ⟨e, by rw [wo_ne e] at h; exact h⟩
theorem wo_upd {H : Hp} {D : Addr} {o : HO} : wo (upd H D o) D = wo H D := by
  funext b
  by_cases e : b = D
  · unfold wo; rw [if_pos e, if_pos e]
  · rw [wo_ne e, wo_ne e, upd_ne e]
theorem Step.wo {w w' : Wd} {H H' : Hp} {D : Addr} (s : Step w H w' H') : Step w (wo H D) w' (Ep.wo H' D) := ⟨s.pub, fun a o h1 h2 h3 => by
    obtain ⟨e, h⟩ := wo_of h2
    rw [wo_ne e]
    exact s.fr a o h1 h h3, fun a ⟨o, h1, h2⟩ => by
    obtain ⟨e, h⟩ := wo_of h1
    obtain ⟨u, h3, h4⟩ := s.keep a ⟨o, h, h2⟩
    exact ⟨u, by rw [wo_ne e]; exact h3, h4⟩, fun a h1 ⟨o, h2, h3⟩ h4 => s.hid a h1 ⟨o, (wo_of h2).2, h3⟩ h4, by
    obtain ⟨m, e, hm⟩ := s.refs
    exact ⟨m, e, fun a ha ⟨o, h2, h3⟩ => hm a ha ⟨o, (wo_of h2).2, h3⟩⟩, s.me⟩
theorem Slots.wo {G : Gm} {w : Wd} {Hb H : Hp} {σ : L2.St} {env : Env} {D : Addr} (s : Slots G w Hb H σ env) (h : Vs Hb D) : Slots G w Hb (wo H D) σ env := by
  obtain ⟨oa, h1, h2⟩ := s.ex
  refine ⟨s.len, oa, fun i u hi => ?_, h2⟩
  have := h1 i u hi
  cases u with
  | un => trivial
  | val t => exact this
  | pv q =>
    obtain ⟨a1, a2, a3, a4, o, a5, a6⟩ := this
    exact ⟨a1, a2, a3, a4, o, by rw [wo_ne (fun e => a4 (by rw [e]; exact h))]; exact a5, a6⟩
theorem Slots.ow {G : Gm} {w : Wd} {Hb H : Hp} {σ : L2.St} {env : Env} {D : Addr} (s : Slots G w Hb (Ep.wo H D) σ env) : Slots G w Hb H σ env := by
  obtain ⟨oa, h1, h2⟩ := s.ex
  refine ⟨s.len, oa, fun i u hi => ?_, h2⟩
  have := h1 i u hi
  cases u with
  | un => trivial
  | val t => exact this
  | pv q =>
    obtain ⟨a1, a2, a3, a4, o, a5, a6⟩ := this
    exact ⟨a1, a2, a3, a4, o, (wo_of a5).2, a6⟩
open Classical in
/-- another base, in which D is seen -/
theorem Slots.rebaseD {G : Gm} {w : Wd} {H0 H : Hp} {σ : L2.St} {env : Env} {r : RS} {D : Addr} (s : Slots G w H0 (Ep.wo H D) σ env) (g : Good G w H r) (hD : Vs H D) : ∃ Hb, At G w Hb w H σ env r ∧ Vs Hb D := by
  obtain ⟨oa, h1, h2⟩ := s.ex
  let own : Addr → Prop := fun b => ∃ i sl, env[i]? = some sl ∧ Slot.priv sl = true ∧ oa i = b
  have ownD : ¬ own D := fun ⟨i, sl, e1, p1, e2⟩ => by
    have := h1 i sl e1
    cases sl with
    | un => cases p1
    | val _ => cases p1
    | pv o =>
      obtain ⟨_, _, _, _, o, a5, _⟩ := this
      exact (wo_of a5).1 e2
  let Hb : Hp := fun b => if own b then none else H b
  have b1 : ∀ b, own b → Hb b = none := fun b h => if_pos h
  have b2 : ∀ b, ¬ own b → Hb b = H b := fun b h => if_neg h
  have b3 : ∀ b o, Hb b = some o → H b = some o := fun b o e => by
    by_cases q : own b
    · rw [b1 b q] at e; cases e
    · rw [b2 b q] at e; exact e
  refine ⟨Hb, ⟨⟨Same.refl _, fun b o _ e _ => b3 b o e, fun b ⟨o, e, n⟩ => ⟨o, b3 b o e, n⟩, fun _ _ _ e => e, ⟨[], by simp, by simp⟩, rfl⟩, g, s.len, oa, fun i sl hi => ?_, h2⟩, ?_⟩
  · have := h1 i sl hi
    cases sl with
    | un => trivial
    | val t => exact this
    | pv q =>
      obtain ⟨a1, a2, a3, a4, o, a5, a6⟩ := this
      exact ⟨a1, a2, a3, nvs (b1 _ ⟨i, _, hi, rfl, rfl⟩), o, (wo_of a5).2, a6⟩
  · obtain ⟨o, e, n⟩ := hD
    exact ⟨o, by rw [b2 D ownD]; exact e, n⟩
section
variable {G : Gm} {w w1 : Wd} {Hb H1 : Hp} {σ : L2.St} {D : Addr} {f : Env → M T} {p : Env → M Bool} {h : T → Env → Option Env} {us vs : List Nat}
/-- the loop of one clause, whatever follows it -/
theorem one_use {E : XK} {β : Type} {P : β → RS → Wd → Hp → Prop} {k : List T → M β} {J : It} {ys acc : List T} {env : Env} {w4 : Wd} {H4 : Hp} {r4 : RS} (hu : ∀ j ∈ us, j ∈ vs) (hD : ¬ Vs H1 D) (it : ItOk G w4 J ys) (cs : CS G D w1 H1 acc w4 H4 r4) (sl : Slots G w4 Hb H4 σ env) (hb : Vs Hb D)
    (ho : OutP G w1 H1 E P ((compF vs h p f ys acc env >>= k) r4)) :
    ∃ W : Nat → Nat → Hp → Prop, (∃ m, W 0 m H4) ∧ ∀ i m H, W i m H → (J.stop i H ∧ ∃ acc' w5 r5, CS G D w1 H1 acc' w5 H r5 ∧ OutP G w1 H1 E P (k acc' r5)) ∨ (J.go i H ∧ ∃ Nx : Hp → Prop, (∀ H', Nx H' → ∃ m', m' < m ∧ W (i + 1) m' H') ∧
      ∀ x H', J.yld i H x H' → tGx G us h x (wipe σ vs) H' fun σ2 H2 => wipe σ2 vs = wipe σ vs ∧ tSB G W0 p σ2 H2 fun b H3 => if b = true then tS G W0 f σ2 H3 fun y H4 => ∃ acc, H4 D = some (.lst acc) ∧ acc.length < sizeLine ∧ Nx (upd H4 D (.lst (acc ++ [y]))) else Nx H3) := by
  obtain ⟨Gd, Y, wk, hG, hY⟩ := it
  refine walk_it wk (turn := fun x H' Nx => tGx G us h x (wipe σ vs) H' fun σ2 H2 => wipe σ2 vs = wipe σ vs ∧ tSB G W0 p σ2 H2 fun b H3 => if b = true then tS G W0 f σ2 H3 fun y H4 => ∃ acc, H4 D = some (.lst acc) ∧ acc.length < sizeLine ∧ Nx (upd H4 D (.lst (acc ++ [y]))) else Nx H3)
    (fun i H' => ∃ acc' w' r', CS G D w1 H1 acc' w' H' r' ∧ Step w4 (wo H4 D) w' (wo H' D) ∧ OutP G w1 H1 E P ((compF vs h p f (ys.drop i) acc' env >>= k) r')) ⟨acc, w4, r4, cs, Step.refl _ _, ho⟩ (fun i H' _ ⟨acc', w', r', c, s, _⟩ => hG w' H' r' s.later c.g) ?_ ?_
  · rintro i x H2 H3 hlt ⟨acc', w', r', c, s, ho⟩ y
    obtain ⟨t, w2, ht, st2, g2, dx⟩ := hY i H2 x H3 w' r' s.later c.g hlt y
    have c2 := c.step st2 g2
    have s2 := s.trans st2.wo
    have sl2 := (((sl.wo hb).step s2).ow).wiped vs
    obtain ⟨Hc, aB, _⟩ := sl2.rebase g2
    have ed : ys.drop i = t :: ys.drop (i + 1) := by
      rw [List.drop_eq_getElem_cons hlt]
      rw [List.getElem?_eq_getElem hlt] at ht
      cases ht
      rfl
    rw [ed] at ho
    have ho : OutP G w1 H1 E P (M.bind (compF vs h p f (t :: ys.drop (i + 1)) acc' env) k r') := ho
    unfold compF at ho
    cases q : h t (wipeE env vs) with
    | none => rw [q] at ho; exact ho.elim
    | some env1 =>
      rw [q] at ho
      have ho : OutP G w1 H1 E P (M.bind (noEx (p env1) >>= fun b => if b = true then noEx (f env1) >>= fun y => if acc'.length < sizeLine then compF vs h p f (ys.drop (i + 1)) (acc' ++ [y]) env else M.bad else compF vs h p f (ys.drop (i + 1)) acc' env) k r') := ho
      rw [show ∀ (m : M Bool) (kk : Bool → M (List T)), M.bind (m >>= kk) k r' = (m >>= fun b => kk b >>= k) r' from fun m kk => by
        show M.bind (M.bind m kk) k r' = M.bind m (fun b => M.bind (kk b) k) r'
        unfold M.bind
        cases m r' <;> rfl] at ho
      refine ⟨w2, Hc, w2, _, r', t, env1, aB, dx, q, fun σ2 sl b => ⟨wipe_but b hu, ?_⟩⟩
      refine ⟨w2, Hc, env1, r', g2, sl, (noEx_use ho).imp fun b r3 w3 H5 st3 g3 ho => ?_⟩
      have c3 := c2.step st3 g3
      have s3 := s2.trans st3.wo
      cases b with
      | false => exact ⟨acc', w3, r3, c3, s3, ho⟩
      | true =>
        have ho : OutP G w1 H1 E P (M.bind (noEx (f env1) >>= fun y => if acc'.length < sizeLine then compF vs h p f (ys.drop (i + 1)) (acc' ++ [y]) env else M.bad) k r3) := ho
        rw [show ∀ (m : M T) (kk : T → M (List T)), M.bind (m >>= kk) k r3 = (m >>= fun b => kk b >>= k) r3 from fun m kk => by
          show M.bind (M.bind m kk) k r3 = M.bind m (fun b => M.bind (kk b) k) r3
          unfold M.bind
          cases m r3 <;> rfl] at ho
        refine ⟨w3, Hc, env1, r3, g3, sl.step st3, (noEx_use ho).imp fun z r6 w6 H6 st6 g6 ho v dv => ?_⟩
        have c6 := c3.step st6 g6
        have s6 := s3.trans st6.wo
        by_cases hl : acc'.length < sizeLine
        · rw [if_pos hl] at ho
          obtain ⟨vs', e1, e2, c7⟩ := c6.app hD dv hl
          exact ⟨vs', e1, e2, acc' ++ [z], w6, r6, c7, by rw [wo_upd]; exact s6, ho⟩
        · rw [if_neg hl] at ho
          exact ho.elim
  · rintro H2 ⟨acc', w', r', c, s, ho⟩
    rw [List.drop_length] at ho
    exact ⟨acc', w', r', c, ho⟩
/-- two clauses -/
def comp2F (vs vs1 : List Nat) (h : T → Env → Option Env) (p : Env → M Bool) (fi1 : Env → M (List T)) (h1 : T → Env → Option Env) (p1 : Env → M Bool) (f : Env → M T) : List T → List T → Env → M (List T)
  | [], acc, _ => pure acc
  | x :: xs, acc, env => match h x (wipeE env vs) with
    | none => M.bad
    | some env1 => noEx (p env1) >>= fun b => if b = true then noEx (fi1 env1) >>= fun ys => compF vs1 h1 p1 f ys acc env1 >>= fun acc' => comp2F vs vs1 h p fi1 h1 p1 f xs acc' env else comp2F vs vs1 h p fi1 h1 p1 f xs acc env
def fComp2 (vs vs1 : List Nat) (h : T → Env → Option Env) (p : Env → M Bool) (fi1 : Env → M (List T)) (h1 : T → Env → Option Env) (p1 : Env → M Bool) (f : Env → M T) (fi : Env → M (List T)) : Env → M (List T) := fun env => fi env >>= fun xs => comp2F vs vs1 h p fi1 h1 p1 f xs [] env
theorem comp2_use {W : WX} {us1 vs1 : List Nat} {h1 : T → Env → Option Env} {p1 : Env → M Bool} {fi fi1 : Env → M (List T)} {H : Hp} {Q : VK} (hu : ∀ j ∈ us, j ∈ vs) (hu1 : ∀ j ∈ us1, j ∈ vs1) (hq : tSL G W (fComp2 vs vs1 h p fi1 h1 p1 f fi) σ H Q) :
    tLc2 (tSI G W fi) (tGx G us h) (tSB G W0 p) (tSI G W0 fi1) (tGx G us1 h1) (tSB G W0 p1) (tS G W0 f) vs vs1 σ H Q := by
  obtain ⟨w, H0, env, r, g, s, hq⟩ := hq
  refine seqI g s hq fun xs r1 w1 H1 J g1 s1 st1 it ho0 => ?_
  intro D hD
  obtain ⟨Gd, Y, wk, hG, hY⟩ := it
  have hD0 : ¬ Vs H D := st1.before hD
  have stD : Step w1 H1 w1 (upd H1 D (.lst [])) := (Step.refl w1 H1).priv hD
  refine walk_it wk (turn := fun x H' Nx => tGx G us h x (wipe σ vs) H' fun σ2 H2 => wipe σ2 vs = wipe σ vs ∧ tSB G W0 p σ2 H2 fun b H3 =>
    if b = true then tSI G W0 fi1 σ2 H3 fun J1 H4 => ∃ W1 : Nat → Nat → Hp → Prop, (∃ m, W1 0 m H4) ∧ ∀ j k H, W1 j k H →
      (J1.stop j H ∧ Nx H) ∨ (J1.go j H ∧ ∃ Nx1 : Hp → Prop, (∀ H', Nx1 H' → ∃ k', k' < k ∧ W1 (j + 1) k' H') ∧ ∀ x H', J1.yld j H x H' → tGx G us1 h1 x (wipe σ2 vs1) H' fun σ3 H5 => wipe σ3 vs1 = wipe σ2 vs1 ∧ tSB G W0 p1 σ3 H5 fun b H6 =>
        if b = true then tS G W0 f σ3 H6 fun y H7 => ∃ acc, H7 D = some (.lst acc) ∧ acc.length < sizeLine ∧ Nx1 (upd H7 D (.lst (acc ++ [y]))) else Nx1 H6)
    else Nx H3)
    (fun i H' => ∃ acc' w' r', CS G D w1 H1 acc' w' H' r' ∧ OutP G w1 H1 (WE0 W σ) (fun xs _ w' H' => ∀ p vs, ¬ Vs H p → w'.P p = none → p ∉ w'.R → H' p = some (.lst vs) → Dens G w' vs xs → xs.length ≤ sizeLine → Q (.ref p) H') (comp2F vs vs1 h p fi1 h1 p1 f (xs.drop i) acc' env r'))
    ⟨[], w1, r1, ⟨stD, g1.priv (g1.nopub hD) (g1.noref hD) (.inl hD), g1.nopub hD, g1.noref hD, ⟨[], upd_same, .nil⟩, Nat.zero_le _⟩, ho0⟩ (fun i H' _ ⟨acc', w', r', c, _⟩ => hG w' H' r' c.st.later c.g) ?_ ?_
  · rintro i x H2 H3 hlt ⟨acc', w', r', c, ho⟩ y
    obtain ⟨t, w2, ht, st2, g2, dx⟩ := hY i H2 x H3 w' r' c.st.later c.g hlt y
    have c2 := c.step st2 g2
    have eD : wo H1 D = H1 := by
      funext b
      by_cases e : b = D
      · unfold wo; rw [if_pos e, e, hD]
      · exact wo_ne e
    have sl2 := (Slots.step (by rw [eD]; exact s1) c2.st.wo).wiped vs
    obtain ⟨vs0, e0, _⟩ := c2.at_
    obtain ⟨Hc, aB, hVc⟩ := sl2.rebaseD g2 (vs_of e0)
    have ed : xs.drop i = t :: xs.drop (i + 1) := by
      rw [List.drop_eq_getElem_cons hlt]
      rw [List.getElem?_eq_getElem hlt] at ht
      cases ht
      rfl
    rw [ed] at ho
    unfold comp2F at ho
    cases q : h t (wipeE env vs) with
    | none => rw [q] at ho; exact ho.elim
    | some env1 =>
      rw [q] at ho
      refine ⟨w2, Hc, w2, _, r', t, env1, aB, dx, q, fun σ2 sl b => ⟨wipe_but b hu, ?_⟩⟩
      refine ⟨w2, Hc, env1, r', g2, sl, (noEx_use ho).imp fun b r3 w3 H5 st3 g3 ho => ?_⟩
      have c3 := c2.step st3 g3
      cases b with
      | false => exact ⟨acc', w3, r3, c3, ho⟩
      | true =>
        refine ⟨w3, Hc, env1, r3, g3, sl.step st3, (noEx_use ho).imp fun ys r6 w6 H6 st6 g6 ho J1 it1 => ?_⟩
        have c6 := c3.step st6 g6
        obtain ⟨W1, k1, k2⟩ := one_use hu1 (nvs hD) it1 c6 ((sl.step st3).step st6) hVc ho
        exact ⟨W1, k1, fun j m H z => (k2 j m H z).imp_left fun ⟨z1, acc2, w5, r5, z2, z3⟩ => ⟨z1, acc2, w5, r5, z2, z3⟩⟩
  · rintro H2 ⟨acc', w', r', c, ho⟩
    rw [List.drop_length] at ho
    obtain ⟨vs', e1, e2⟩ := c.at_
    exact ho w' H2 c.st c.g D vs' hD0 c.hP c.hR e1 e2 c.z
theorem l_comp2 {X : Cx} {W : WX} {us us1 : List Nat} {h1 : T → Env → Option Env} {p1 : Env → M Bool} {fi fi1 : Env → M (List T)} {elt tg iter tg1 iter1 : Expr} {ifs ifs1 : List Expr} {scope : Scope} {own own1 : List (Str × Nat)} {pos : Pos} (hc : X.calm = true) (hN : X.N.Nodup) (hi : SI X G W tg iter fi) (ok : BlkOk X.N X.env.scope scope own) (hu : ∀ j ∈ us, j ∈ own.map (·.2)) (hu1 : ∀ j ∈ us1, j ∈ own1.map (·.2)) (hv : ∀ j ∈ own1.map (·.2), j ∈ own.map (·.2))
    (hg : ∀ (s : Shared) (H : Hp) (C : Addr) (cl : List (Str × Addr)) (fp : List Addr), SG (X.blk s H scope (compEnvC scope cl C X.env) fp) G us tg h) (ht : ∀ (s : Shared) (H : Hp) (C : Addr) (cl : List (Str × Addr)) (fp : List Addr), STs (X.blk s H scope (compEnvC scope cl C X.env) fp) G ifs p)
    (hi1 : ∀ (s : Shared) (H : Hp) (C : Addr) (cl : List (Str × Addr)) (fp : List Addr), SI (X.blk s H scope (compEnvC scope cl C X.env) fp) G W0 tg1 iter1 fi1)
    (hg1 : ∀ (s : Shared) (H : Hp) (C : Addr) (cl : List (Str × Addr)) (fp : List Addr), SG (X.blk s H scope (compEnvC scope cl C X.env) fp) G us1 tg1 h1) (ht1 : ∀ (s : Shared) (H : Hp) (C : Addr) (cl : List (Str × Addr)) (fp : List Addr), STs (X.blk s H scope (compEnvC scope cl C X.env) fp) G ifs1 p1)
    (he : ∀ (s : Shared) (H : Hp) (C : Addr) (cl : List (Str × Addr)) (fp : List Addr), SE (X.blk s H scope (compEnvC scope cl C X.env) fp) G W0 elt f) (hs : ∀ x, foldedSetIterable iter X.env x = pure x := by intro _; rfl) (hs1 : ∀ env x, foldedSetIterable iter1 env x = pure x := by intro _ _; rfl) :
    SL X G W (.ListComp elt [⟨tg, iter, ifs, 0⟩, ⟨tg1, iter1, ifs1, 0⟩] scope pos) (fComp2 (own.map (·.2)) (own1.map (·.2)) h p fi1 h1 p1 f fi) :=
  pe_imp (pe_lc2 hc hN hi ok hv (fun s H C cl fp => pg_x (hg s H C cl fp)) ht hi1 (fun s H C cl fp => pg_x (hg1 s H C cl fp)) ht1 he hs hs1) fun σ H Q q => comp2_use hu hu1 q
theorem Bd.comp2 {X : Cx} {W : WX} {jj : Nat} (B : Bd X G W jj) {us us1 : List Nat} {h1 : T → Env → Option Env} {p1 : Env → M Bool} {fi fi1 : Env → M (List T)} {elt tg iter tg1 iter1 : Expr} {ifs ifs1 : List Expr} {scope : Scope} {pos : Pos} (own own1 : List (Str × Nat)) (hi : SI X G W tg iter fi)
    (hg : ∀ (s : Shared) (H : Hp) (C : Addr) (cl : List (Str × Addr)) (fp : List Addr), SG (X.blk s H scope (compEnvC scope cl C X.env) fp) G us tg h) (ht : ∀ (s : Shared) (H : Hp) (C : Addr) (cl : List (Str × Addr)) (fp : List Addr), STs (X.blk s H scope (compEnvC scope cl C X.env) fp) G ifs p)
    (hi1 : ∀ (s : Shared) (H : Hp) (C : Addr) (cl : List (Str × Addr)) (fp : List Addr), SI (X.blk s H scope (compEnvC scope cl C X.env) fp) G W0 tg1 iter1 fi1)
    (hg1 : ∀ (s : Shared) (H : Hp) (C : Addr) (cl : List (Str × Addr)) (fp : List Addr), SG (X.blk s H scope (compEnvC scope cl C X.env) fp) G us1 tg1 h1) (ht1 : ∀ (s : Shared) (H : Hp) (C : Addr) (cl : List (Str × Addr)) (fp : List Addr), STs (X.blk s H scope (compEnvC scope cl C X.env) fp) G ifs1 p1)
    (he : ∀ (s : Shared) (H : Hp) (C : Addr) (cl : List (Str × Addr)) (fp : List Addr), SE (X.blk s H scope (compEnvC scope cl C X.env) fp) G W0 elt f) (ok : blkC X.N X.env.scope scope own = true := by kernel_rfl) (hu : ∀ j ∈ us, j ∈ own.map (·.2) := by decide) (hu1 : ∀ j ∈ us1, j ∈ own1.map (·.2) := by decide) (hv : ∀ j ∈ own1.map (·.2), j ∈ own.map (·.2) := by decide) (hs : ∀ x, foldedSetIterable iter X.env x = pure x := by intro _; rfl) (hs1 : ∀ env x, foldedSetIterable iter1 env x = pure x := by intro _ _; rfl) :
    SL X G W (.ListComp elt [⟨tg, iter, ifs, 0⟩, ⟨tg1, iter1, ifs1, 0⟩] scope pos) (fComp2 (own.map (·.2)) (own1.map (·.2)) h p fi1 h1 p1 f fi) := l_comp2 B.calm B.nd hi (blkOk_by ok) hu hu1 hv hg ht hi1 hg1 ht1 he hs hs1
end
end Ep
namespace Ep
open PySem PySem.Spec L2 PyProof.Rows He
/-! ### what the head tells of own exceptions -/
abbrev SupW : Type := Option (Str × Str × Arguments × FuncBody × Scope × Addr × Addr)
def supW (K : PySem.W.Frag) (f : Addr) : SupW := match K.lookup f with
  | some ⟨_, _, .func fd, _⟩ => some (fd.name, fd.qualname, fd.params, fd.body, fd.scope, fd.globals, fd.builtins)
  | _ => none
def supV (qn : Str) (st : Stmt) : SupW := some ("__init__", qn, defArgs st, .stmts (defBody st), defScope st, mainGlobals, builtinsNs)
/-- the class at C is written below b: its order of classes begins with itself, the built-in's follow; its maker is b's; its instances have a dict -/
def excCdB (b : SupX.XB) (C : Addr) (cd : ClassData) : Bool := cd.hasDict && (!cd.hasDel && (cd.mro.head? == some (.ref C) && PySem.W.excTail b.tl cd.mro.tail))
def excSlB (b : SupX.XB) (sl : List (Option Value)) : Bool := sl.length == 6 && sl[4]? == some (some (.builtin b.nw))
def excClsB (b : SupX.XB) (K : PySem.W.Frag) (C : Addr) : Bool := match K.lookup C with
  | some o => match o.cls, o.data with
    | .type n, .cls cd => n == "type" && (excSlB b o.slots.toList && excCdB b C cd)
    | _, _ => false
  | none => false
theorem excSlB_ok {b : SupX.XB} : ∀ {sl : Array (Option Value)}, excSlB b sl.toList = true → ∃ k0 k1 k2 k3 k5, sl = #[k0, k1, k2, k3, some (.builtin b.nw), k5]
  | ⟨l⟩, q => by
    obtain ⟨six, fifth⟩ := Bool.and_eq_true_iff.mp q
    match l, six, fifth with
    | [k0, k1, k2, k3, k4, k5], _, fifth => exact ⟨k0, k1, k2, k3, k5, by rw [Option.some.inj (eq_of_beq fifth)]⟩
theorem excCdB_ok {b : SupX.XB} {C : Addr} : ∀ {cd : ClassData}, excCdB b C cd = true → ∃ nm bs bm N qq sn sub ab col, cd = ⟨nm, bs, .ref C :: bm, N, qq, true, sn, sub, ab, col, false⟩ ∧ PySem.W.excTail b.tl bm = true
  | ⟨_, _, _, _, _, false, _, _, _, _, _⟩, q => absurd q Bool.false_ne_true
  | ⟨_, _, _, _, _, true, _, _, _, _, true⟩, q => absurd q Bool.false_ne_true
  | ⟨_, _, [], _, _, true, _, _, _, _, false⟩, q => absurd q Bool.false_ne_true
  | ⟨nm, bs, own :: bm, N, qq, true, sn, sub, ab, col, false⟩, q => by
    obtain ⟨first, tail⟩ := Bool.and_eq_true_iff.mp (show ((some own == some (Value.ref C)) && PySem.W.excTail b.tl bm) = true from q)
    cases Option.some.inj (eq_of_beq first)
    exact ⟨nm, bs, bm, N, qq, sn, sub, ab, col, rfl, tail⟩
theorem excClsB_ok {b : SupX.XB} {K : PySem.W.Frag} {C : Addr} (q : excClsB b K C = true) : ∃ nm qq N bs bm sn sub ab col dd k0 k1 k2 k3 k5, K.lookup C = some (excClassObj nm qq C N bs bm true sn sub ab col dd k0 k1 k2 k3 k5 b.nw) ∧ PySem.W.excTail b.tl bm = true := by
  unfold excClsB at q
  cases look : K.lookup C with
  | none => rw [look] at q; exact absurd q Bool.false_ne_true
  | some o =>
    rw [look] at q
    obtain ⟨ty, dd, dat, sl⟩ := o
    dsimp only at q
    split at q
    · obtain ⟨isT, q⟩ := Bool.and_eq_true_iff.mp q
      obtain ⟨six, q⟩ := Bool.and_eq_true_iff.mp q
      obtain ⟨k0, k1, k2, k3, k5, es⟩ := excSlB_ok six
      obtain ⟨nm, bs, bm, N, qq, sn, sub, ab, col, ec, tail⟩ := excCdB_ok q
      cases eq_of_beq isT
      cases es
      cases ec
      exact ⟨nm, qq, N, bs, bm, sn, sub, ab, col, dd, k0, k1, k2, k3, k5, rfl, tail⟩
    · exact absurd q Bool.false_ne_true
/-- the parts of __init__ that differ from program to program -/
def supFn (P : Program) (K : PySem.W.Frag) (C f : Addr) (qn : Str) : Bool := match K.lookup f with
  | some ⟨_, _, .func fd, _⟩ => decide (fd.defaults = .none) && (decide (fd.kwdefaults = .none) && (PySem.W.codeIn K fd.code qn && ((match fd.closure with
    | [(x, cc)] => decide (x = "__class__") && (match K.lookup cc with
      | some ⟨_, _, .cell (some (.ref D)), _⟩ => D == C
      | _ => false)
    | _ => false) && (match fd.code with
    | .ref cda => (match K.lookup cda with
      | some ⟨_, _, .fields vs, _⟩ => (match (vs[2]? : Option Value) with
        | some (Value.str file _) => (P.main.file : Str) == file
        | _ => false)
      | _ => false)
    | _ => false))))
  | _ => false
def supL (b : SupX.XB) (P : Program) (K : PySem.W.Frag) (C : Addr) (qn f : Str) : List Bool := [excClsB b K C, eqO (PySem.W.findIn K (.ref C) "__setattr__") (some (some (.builtin "object.__setattr__"))), eqO (PySem.W.findIn K (.ref C) f) (some none), eqO (PySem.W.findIn K (.ref C) "__init__") (some (some (.ref (ma K C "__init__")))),
  decide (PySem.W.typeIn K (.ref (ma K C "__init__")) = some (.type "function")), PySem.W.keepIn K (.ref C), decide (PySem.W.subIn K (.ref C) (.type "BaseException") = some true), decide (PySem.W.subIn K (.ref C) (.type b.B) = some true), decide (PySem.W.typeIn K (.ref C) = some (.type "type")),
  eqO (PySem.W.ks_superIn K C C "__init__") (some (some (.builtin b.ini))), decide (PySem.W.mroIn K C (.ref C) = some true), eqO (PySem.W.nsIn K mainGlobals "super") (some none), eqO (PySem.W.nsIn K cStatics "thirdparty.any") (some none), supFn P K C (ma K C "__init__") qn]
theorem all_at {l : List Bool} (h : l.all id = true) (i : Nat) {b : Bool} (e : l[i]? = some b) : b = true := List.all_eq_true.mp h b (List.mem_of_getElem? e)
/-- the text of such an __init__ -/
structure SupT (f : Str) (st : Stmt) : Prop where
  ar : ∃ p1 p2, defArgs st = SupX.iA f p1 p2
  sc : defScope st = SupX.iS f
  bd : ∃ a1 a2 a3 a4 a5 a6 q1 q2 q3 q4, defBody st = SupX.iB f a1 a2 a3 a4 a5 a6 q1 q2 q3 q4 ∧ ∀ (qn : Str) (L fI cc : Addr) (cdv : Value), ∃ pl : Sem Bool, eval (.Call (.Attribute (.Call (.Name "super" a1) [] [] a2) "__init__" a3) [.Name f a4] [] a5) (PySem.W.ksEnv qn (SupX.iS f) L fI cdv cc) = (do
      let ov ← attributeBase (.Call (.Name "super" a1) [] [] a2) "__init__" (PySem.W.ksEnv qn (SupX.iS f) L fI cdv cc) (eval (.Call (.Name "super" a1) [] [] a2) (PySem.W.ksEnv qn (SupX.iS f) L fI cdv cc))
      standAt a3.atName
      let (g, first) ← holding [ov] (getMethod ov "__init__" pl)
      callWith a5 g first (backTo a5 (starEach [.Name f a4] (PySem.W.ksEnv qn (SupX.iS f) L fI cdv cc))) [])
theorem txt_of {P : Program} {K : PySem.W.Frag} {mg : Str → Option Value} {qn f : Str} {C : Addr} {st : Stmt} (e : supW K (ma K C "__init__") = supV qn st) {xb : SupX.XB} (ok : xb.Ok) (b : (supL xb P K C qn f).all id = true) (t : SupT f st) : SupX.Txt P K mg qn f C (ma K C "__init__") := by
  have rest := all_at b 13 rfl
  refine ⟨⟨xb, ok, of_decide_eq_true (all_at b 7 rfl), eqO_ok (all_at b 9 rfl), excClsB_ok (all_at b 0 rfl)⟩, eqO_ok (all_at b 1 rfl), eqO_ok (all_at b 2 rfl), eqO_ok (all_at b 3 rfl), of_decide_eq_true (all_at b 4 rfl), all_at b 5 rfl, of_decide_eq_true (all_at b 6 rfl), of_decide_eq_true (all_at b 8 rfl),
    of_decide_eq_true (all_at b 10 rfl), eqO_ok (all_at b 11 rfl), eqO_ok (all_at b 12 rfl), ?_⟩
  unfold supW supV at e
  unfold supFn at rest
  cases look : K.lookup (ma K C "__init__") with
  | none => rw [look] at e; cases e
  | some o =>
    obtain ⟨oc, od, dat, osl⟩ := o
    rw [look] at e rest
    cases dat with
    | func fd =>
      obtain ⟨nm, qual, par, body, sc, glb, clo, dfl, kwd, doc, pm, an, code, ct, blt⟩ := fd
      have said : (nm, qual, par, body, sc, glb, blt) = (PySem.Str.ofString "__init__", qn, defArgs st, FuncBody.stmts (defBody st), defScope st, mainGlobals, builtinsNs) := Option.some.inj e
      clear e
      cases said
      obtain ⟨noD, rest⟩ := ba rest
      obtain ⟨noK, rest⟩ := ba rest
      obtain ⟨code_ok, rest⟩ := ba rest
      obtain ⟨cell_ok, file_ok⟩ := ba rest
      obtain rfl : dfl = .none := of_decide_eq_true noD
      obtain rfl : kwd = .none := of_decide_eq_true noK
      obtain ⟨p1, p2, ea⟩ := t.ar
      obtain ⟨a1, a2, a3, a4, a5, a6, q1, q2, q3, q4, eb, hev⟩ := t.bd
      have es := t.sc
      split at cell_ok
      · rename_i x cc ecl
        obtain ⟨isCls, cell_ok⟩ := ba cell_ok
        obtain rfl : x = "__class__" := of_decide_eq_true isCls
        dsimp only at ecl
        subst ecl
        split at cell_ok
        · rename_i u1 u2 D u3 lcc
          obtain rfl : D = C := by simpa using cell_ok
          split at file_ok
          · rename_i cda ecd
            dsimp only at ecd
            subst ecd
            split at file_ok
            · rename_i w1 w2 vs w3 lcd
              split at file_ok
              · rename_i file tf hvs
                exact ⟨oc, od, doc, pm, an, cda, ct, osl, p1, p2, a1, a2, a3, a4, a5, a6, q1, q2, q3, q4, cc, _, _, _, _, _, vs, _, file, tf, (by rw [ea, eb, es]), code_ok, lcc, lcd, hvs, file_ok, fun L => hev _ L _ cc _⟩
              · cases file_ok
            · cases file_ok
          · cases file_ok
        · cases cell_ok
      · cases cell_ok
    | _ => cases e
theorem xc_of {P : Program} {G : Gm} {c : Nat} {f qn : Str} {st : Stmt} {C : Addr} (fl : G.fl c = [f]) (hc : G.mg (G.cn c) = some (.ref C)) (e : supW G.K (ma G.K C "__init__") = supV qn st) {xb : SupX.XB} (ok : xb.Ok) (b : (supL xb P G.K C qn f).all id = true) (t : SupT f st) (y : SupX.FOk P f) : XcOk P G c f := ⟨fl, ⟨qn, C, _, hc, txt_of e ok b t⟩, y⟩
/-- reading a field -/
def xgL (K : PySem.W.Frag) (C : Addr) (f : Str) : List Bool := [eqO (PySem.W.findIn K (.ref C) "__getattribute__") (some (some (.builtin "BaseException.__getattribute__"))), eqO (PySem.W.findIn K (.ref C) "__getattr__") (some none), decide (PySem.W.subIn K (.ref C) (.type "BaseException") = some true), PySem.W.hasDictIn K C, eqO (PySem.W.findIn K (.ref C) f) (some none)]
theorem xg_of {G : Gm} {c : Nat} {f : Str} {C : Addr} (fl : G.fl c = [f]) (hc : ∀ cA, G.mg (G.cn c) = some (.ref cA) → cA = C) (b : (xgL G.K C f).all id = true) : XgOk G c f := ⟨fl, fun cA h => by
  have := hc cA h
  subst this
  exact ⟨eqO_ok (all_at b 0 rfl), eqO_ok (all_at b 1 rfl), of_decide_eq_true (all_at b 2 rfl), all_at b 3 rfl, eqO_ok (all_at b 4 rfl)⟩⟩
/-- a clause -/
def xmB (K : PySem.W.Frag) (cn : Nat → Str) (x : Str) (rows : List (Nat × Bool)) : Bool := rows.all fun p => decide (PySem.W.exmOne K (.ref (ga K (cn p.1))) (.ref (ga K x)) = some p.2)
def xmF (rows : List (Nat × Bool)) (c : Nat) : Option Bool := rows.lookup c
theorem mem_lk {α β : Type} [BEq α] [LawfulBEq α] : ∀ {l : List (α × β)} {a : α} {b : β}, l.lookup a = some b → (a, b) ∈ l
  | [], _, _, h => by cases h
  | (x, y) :: r, a, b, h => by
    rw [List.lookup_cons] at h
    cases e : a == x with
    | true => rw [e] at h; cases h; rw [eq_of_beq e]; exact List.mem_cons_self
    | false => rw [e] at h; exact List.mem_cons_of_mem _ (mem_lk h)
theorem xm_of {K : PySem.W.Frag} {G : Gm} {x : Str} {rows : List (Nat × Bool)} (hc : ∀ c cA, G.mg (G.cn c) = some (.ref cA) → cA = ga K (G.cn c)) (b : xmB K G.cn x rows = true) : XmOk K G (.ref (ga K x)) (xmF rows) := ⟨fun c cA z h e => by
  have := hc c cA h
  subst this
  exact of_decide_eq_true (List.all_eq_true.mp b (c, z) (mem_lk e))⟩
/-! ### tables of code -/
def tabW (K : PySem.W.Frag) (x : Str) : Addr × Addr := (PySem.W.tabIn K x).getD (0, 0)
def tabC (K : PySem.W.Frag) (x : Str) : Bool := decide (PySem.W.tabIn K x = some (tabW K x)) && (decide (K.lookup (tabW K x).2 = none) && decide (cdOf K (ga K x) = .ref (tabW K x).1))
end Ep
namespace Ep
open PySem PySem.Spec L2 PyProof.Rows He
/-! ### words for the generator -/
def qWhile (n : Env → RS → Nat) (p : Env → M Bool) (g : Sm) : Sm := fun env r => whileF p g (n env r) env r
/-- how often a while may turn: the integer of a slot, and one more -/
def fuI (i : Nat) : Env → RS → Nat := fun env _ => match env[i]? with
  | some (.val (.int k)) => k.natAbs + 1
  | _ => 0
/-- the same for a tuple that begins with the integer -/
def fuT (i : Nat) : Env → RS → Nat := fun env _ => match env[i]? with
  | some (.val (.tup (.int k :: _))) => k.natAbs + 1
  | _ => 0
theorem Bd.tr {X : Cx} {G : Gm} {W W' : WX} {j : Nat} {pn : List (Addr × Obj)} {xe : Value → Shared → Prop} (B : Bd X G W j) (tk : Takes (X.tr pn xe) W') : Bd (X.tr pn xe) G W' j := ⟨B.eK, B.eM, tk, B.rm, B.nd, B.calm⟩
theorem bd_lam {X : Cx} {G : Gm} {A : Around} {outer : List PySem.Env} {s : Shared} {H : Hp} {E : XK} {scope : Scope} {f c : Addr} {j : Nat} (nd : X.N.Nodup) (eK : X.K = G.K) (eM : X.mg = G.mg) (hr : Room j (A.deeper (LamX.lamEnv X scope s.heap.objs.size f c))) : Bd (LamX.lamCx X A outer s H E scope f c) G (WD E) j :=
  ⟨eK, eM, takes_of rfl rfl rfl rfl, hr, nd, rfl⟩
theorem tb_un {tb : List (Addr × Str)} {P : Addr} {q : Str} (nd : (tb.map (·.1)).Nodup) (hm : (P, q) ∈ tb) : ∀ p ∈ tb, p.1 = P → p.2 = q := by
  induction tb with
  | nil => cases hm
  | cons x r ih =>
    intro p hp e
    rw [List.map_cons, List.nodup_cons] at nd
    have aux : ∀ (a b : Addr × Str), a ∈ r → b.1 = a.1 → x = b → False := fun a b ha e1 e2 => nd.1 (by rw [e2, e1]; exact List.mem_map_of_mem ha)
    rcases List.mem_cons.mp hm with h1 | h1
    · rcases List.mem_cons.mp hp with h2 | h2
      · rw [h2, ← h1]
      · exact (aux p x h2 (by rw [← h1, e]) rfl).elim
    · rcases List.mem_cons.mp hp with h2 | h2
      · exact (aux _ x h1 (by rw [← h2, e]) rfl).elim
      · exact ih nd.2 h1 p h2 e
theorem he_never {X : Cx} {G : Gm} {a : Addr} {cls : Value} {d : Option Addr} {i : Nat} {e : Expr} : PE X e (tHE G a cls d i fun _ _ _ => M.bad) := ⟨fun _ _ _ _ _ _ ⟨_, _, _, _, _, _, _, _, _, _, h⟩ => h.elim⟩
theorem hs_never {X : Cx} {G : Gm} {a : Addr} {cls : Value} {d : Option Addr} {i : Nat} {st : List Stmt} : PSs X st (tHS G a cls d i fun _ _ _ _ => .bad) := ⟨fun _ _ _ _ _ _ ⟨_, _, _, _, _, _, _, _, _, _, h⟩ => h.elim⟩
def hdsOf : List Stmt → List ExceptHandler
  | .Try _ h _ _ _ :: _ => h
  | _ => []
def restOf : List Stmt → List Stmt
  | _ :: r => r
  | [] => []
theorem px_of {G : Gm} {C : Nat} {c : Addr} (hc : ∀ cA, G.mg (G.cn C) = some (.ref cA) → cA = c) (h1 : PySem.W.notFirst G.K c (.type "str") = true) (h2 : PySem.W.notFirst G.K c (.type "int") = true) (h3 : PySem.W.notFirst G.K c (.type "bool") = true) (h4 : PySem.W.notFirst G.K c (.type "NoneType") = true)
    (h5 : PySem.W.notFirst G.K c (.type "list") = true) (h6 : PySem.W.notFirst G.K c (.type "tuple") = true) : PxOk G C := ⟨fun cA h => by
  have := hc cA h
  subst this
  exact ⟨h1, h2, h3, h4, h5, h6⟩⟩
theorem tab_ok {K : PySem.W.Frag} {x : Str} (h : tabC K x = true) : PySem.W.tabIn K x = some (tabW K x) ∧ K.lookup (tabW K x).2 = none ∧ cdOf K (ga K x) = .ref (tabW K x).1 := by
  obtain ⟨h1, h2⟩ := ba h
  obtain ⟨h3, h4⟩ := ba h2
  exact ⟨of_decide_eq_true h1, of_decide_eq_true h3, of_decide_eq_true h4⟩
/-- s_lam, the def's name by itself -/
theorem s_lamQ {X : Cx} {G : Gm} {W : WX} {Ng : List Str} {x a : Str} {stg : Stmt} {g c P : Addr} {fdg : FuncData} {n k : Nat} {h₀ : ExceptHandler} {hds : List ExceptHandler} {hs : List HdS} {restB : List Stmt} {rest : Sm} {p1 p2 p3 p4 : Pos} {params : Arguments} {body : Expr} {scope : Scope} {f : Env → M T} {p lpos pos : Pos} (qn : Str)
    (hK : X.K = G.K) (hM : X.mg = G.mg) (hg : Gl X x) (hm : G.mg x = some (.ref g)) (F : FunD G.K x x (defArgs stg) (defBody stg) (defScope stg) [] [] g fdg) (hb : L2.Binds G.K fdg [a] []) (Sg : FnScope Ng [a] (defScope stg)) (hNg : Ng[0]? = some a) (hva : Vis (defScope stg) a)
    (eb : defBody stg = .Try [.Expr (.Call (.Name a p1) [] [] p2) p3] (h₀ :: hds) [] [] p4 :: restB) (hn : Ng.length = n) (h1 : 1 ≤ n)
    (hh : ∀ (cdg : Value) (s : Shared) (H : Hp), HG (cxOf C8.CX0 X.prog X.w X.K X.mg X.base Ng x (defScope stg) g cdg X.A X.stack s H C8.E0).nox G W0 (hdsOf (defBody stg)) hs)
    (hr : ∀ (cdg : Value) (s : Shared) (H : Hp), SSs (cxOf C8.CX0 X.prog X.w X.K X.mg X.base Ng x (defScope stg) g cdg X.A X.stack s H C8.E0).nox G W0 (restOf (defBody stg)) rest)
    (TB : LamX.TabB X.base X.mg c P) (hcode : X.env.code = .ref c) (hqn : X.env.qual = qn) (hmT : (P, qn ++ "<lambda>") ∈ G.tb) (hu : (G.tb.map (·.1)).Nodup) (rm : Room (k + 2) X.A) (L : LamX.lamSB X.env.scope scope = true) (tk : Takes X W)
    (hbody : ∀ (A : Around) (outer : List PySem.Env) (s : Shared) (H : Hp) (E : XK) (f' c' : Addr), Room k (A.deeper (LamX.lamEnv X scope s.heap.objs.size f' c')) → SE (LamX.lamCx X A outer s H E scope f' c') G (WD E) body f)
    (hdef : defaultsOf params X.env = ([], []) := by rfl) (hbind : ∀ (q : Str) (cl : List (Str × Addr)) (pm cv ctv : Value), bindArgs (PySem.W.kla_fn "<lambda>" q params body scope cl pm cv ctv) ⟨[], []⟩ = pure [] := by intros; rfl)
    (hdb : (x == ("__debug__" : Str)) = false := by decide) (hd : (a == ("__debug__" : Str)) = false := by decide) (hcd : (a == ("__classdict__" : Str)) = false := by decide) :
    SE X G W (.Call (.Name x p) [.Lambda params body scope lpos] [] pos) (fun env => heardS n hs rest (f env)) := by
  subst hqn
  rw [eb] at hh hr
  exact s_lam hK hM hg hm F hb Sg hNg hva eb hn h1 hh hr TB hcode hmT (tb_un hu hmT) rm (LamX.lamS_by L) tk hbody hdef hbind hdb hd hcd
end Ep
namespace Ep
open PySem PySem.Spec L2
/-! ### texts: join, count, str and repr of an integer -/
def seqS : T → Option (List T)
  | .lst xs => some xs
  | .kls xs => some xs
  | .tup xs => some xs
  | _ => none
def joinT (a : Str) (t : T) : Option T := (seqS t).bind fun xs => (strsT xs).bind fun ys => if (ys.map (·.length)).sum + ys.length * a.length ≤ 16777216 then some (.str (Txt.join a ys)) else none
def fStr1 (h : Str → T → Option T) (f g : Env → M T) : Env → M T := fun env => f env >>= fun x => match x with
  | .str a => g env >>= fun y => M.lift (h a y)
  | _ => M.bad
def countT (a : Str) : T → Option T
  | .str b => some (.int (Txt.count a b))
  | _ => none
def startT (a : Str) : T → Option T
  | .str b => some (.bl (Txt.startswith a b))
  | _ => none
def strI (_ : RS) : T → Option T
  | .int i => if i.natAbs.log2 < 1920 then some (.str (toString i)) else none
  | _ => none
section
variable {X : Cx} {G : Gm} {W : WX} {pos apos : Pos} {a b : Expr} {f g : Env → M T}
theorem str1_use {r : V → List V → Hp → VK → Prop} {h : Str → T → Option T} (hu : ∀ w H rs v t a z Q, Good G w H rs → Den G w v t → h a t = some z → (∀ v', Den G w v' z → Q v' H) → r (.str a) [v] H Q)
    {σ : L2.St} {H : Hp} {Q : VK} (q : tS G W (fStr1 h f g) σ H Q) : tM1 r (tS G W f) (tS G W g) σ H Q := by
  obtain ⟨w, H0, env, rs, g0, s, h0⟩ := q
  refine seqE g0 s h0 fun t r1 w1 H1 x g1 s1 st1 d1 h1 => ?_
  cases d1 with
  | str a =>
    refine ⟨⟨a, rfl⟩, seqE g1 s1 h1 fun u r2 w2 H2 y g2 s2 st2 d2 h2 => ?_⟩
    obtain ⟨z, ez, h3⟩ := liftP h2
    exact hu w2 H2 r2 y u a z Q g2 d2 ez fun v' d => h3 w2 H2 (Step.refl _ _) g2 v' d
  | _ => exact h1.elim
theorem s_join (hK : X.K = G.K) (ha : SE X G W a f) (he : SE X G W b g) (hs : starEach [b] X.env = [(false, eval b X.env)] := by rfl) (hbase : attributeBase a "join" X.env (eval a X.env) = eval a X.env := by rfl) (hline : (apos.endLine == pos.line) = true := by rfl) :
    SE X G W (.Call (.Attribute a "join" apos) [b] [] pos) (fStr1 joinT f g) :=
  pe_imp (pe_join ha he hs hbase hline) fun σ H Q q => str1_use (fun w H rs v t a z Q gd d e k => by
    unfold joinT at e
    cases q1 : seqS t with
    | none => rw [q1] at e; cases e
    | some xs =>
      rw [q1] at e
      have e : (strsT xs).bind (fun ys => if (ys.map (·.length)).sum + ys.length * a.length ≤ 16777216 then some (T.str (Txt.join a ys)) else none) = some z := e
      cases q2 : strsT xs with
      | none => rw [q2] at e; cases e
      | some ys =>
        rw [q2] at e
        have e : (if (ys.map (·.length)).sum + ys.length * a.length ≤ 16777216 then some (T.str (Txt.join a ys)) else none) = some z := e
        by_cases h : (ys.map (·.length)).sum + ys.length * a.length ≤ 16777216
        · rw [if_pos h] at e
          cases e
          have hp : ∃ p us, v = .ref p ∧ (SqL X.K H p us ∨ SqT X.K H p us) ∧ Dens G w us xs := by
            rw [hK]
            cases d with
            | lst hh z d => cases q1; exact ⟨_, _, rfl, .inl (SqL.of (gd.sub _ _ hh)), d⟩
            | kls hh z d => cases q1; exact ⟨_, _, rfl, .inl (gd.sub.seq hh), d⟩
            | tup hh z d =>
              cases q1
              rcases hh with hh | hh
              · exact ⟨_, _, rfl, .inr (.inl (Rd.of (gd.sub _ _ hh))), d⟩
              · exact ⟨_, _, rfl, .inr (.inr hh), d⟩
            | _ => cases q1
          obtain ⟨p, us, rfl, hq, ds⟩ := hp
          have := strs_of ds q2
          subst this
          exact ⟨a, p, ys, rfl, rfl, hq, h, k _ (.str _)⟩
        · rw [if_neg h] at e; cases e) q
theorem s_count (ha : SE X G W a f) (he : SE X G W b g) (hs : starEach [b] X.env = [(false, eval b X.env)] := by rfl) (hbase : attributeBase a "count" X.env (eval a X.env) = eval a X.env := by rfl) (hline : (apos.endLine == pos.line) = true := by rfl) :
    SE X G W (.Call (.Attribute a "count" apos) [b] [] pos) (fStr1 countT f g) :=
  pe_imp (pe_m1 PySem.F.slot_str_count PySem.F.type_str_count mt_count ha he hs hbase hline) fun σ H Q q => str1_use (fun w H rs v t a z Q gd d e k => by
    cases d with
    | str b => cases e; exact ⟨a, b, rfl, rfl, k _ (.int _)⟩
    | _ => cases e) q
theorem v_strI : B1 G (fun xs H Q => ∃ i, xs = [.int i] ∧ i.natAbs.log2 < 1920 ∧ Q (.str (toString i)) H) strI := fun w H r v t z Q g d e q => by
  cases t with
  | int i =>
    have e : (if i.natAbs.log2 < 1920 then some (T.str (toString i)) else none) = some z := e
    by_cases h : i.natAbs.log2 < 1920
    · rw [if_pos h] at e; cases e
      exact ⟨i, by rw [d.int], h, q _ w H (Step.refl _ _) g (.str _)⟩
    · rw [if_neg h] at e; cases e
  | _ => cases e
theorem Bd.strI {j : Nat} (B : Bd X G W j) {p : Pos} (m : G.mg "str" = none) (ha : SK X G W a f) (hg : Gl X "str" := by rfl) (hs : starEach [a] X.env = (false, eval a X.env) :: starEach [] X.env := by rfl) : SE X G W (.Call (.Name "str" p) [a] [] pos) (fB1 Ep.strI f) := s_t1 call_str_int v_strI hg (by rw [B.eM]; exact m) rfl ha hs
theorem Bd.reprI {j : Nat} (B : Bd X G W j) {p : Pos} (m : G.mg "repr" = none) (ha : SK X G W a f) (hg : Gl X "repr" := by rfl) (hs : starEach [a] X.env = (false, eval a X.env) :: starEach [] X.env := by rfl) : SE X G W (.Call (.Name "repr" p) [a] [] pos) (fB1 Ep.strI f) := s_b1 SkE.call_repr_int v_strI hg (by rw [B.eM]; exact m) rfl ha hs
end
end Ep
namespace Ep
open PySem PySem.Spec L2
/-! ### isinstance(e, C) in a handler, e of an own class with a dict -/
structure XiOk (G : Gm) (c C : Nat) (b : Bool) : Prop where
  ex : ∀ cA, G.mg (G.cn c) = some (.ref cA) → ∃ CA, G.mg (G.cn C) = some (.ref CA) ∧ PySem.W.kitOne G.K (.ref cA) (.ref CA) = some b ∧ (PySem.W.clsIn G.K cA).isSome = true ∧ PySem.W.findIn G.K (.ref cA) "__getattribute__" = some (some (.builtin "BaseException.__getattribute__")) ∧ PySem.W.findIn G.K (.ref cA) "__getattr__" = some none ∧
    PySem.W.subIn G.K (.ref cA) (.type "BaseException") = some true ∧ PySem.W.findIn G.K (.ref cA) "__class__" = some (some (.builtin "object.__class__")) ∧ PySem.W.specialIn G.K (.builtin "object.__class__") "__get__" = some (some (.builtin "getset_descriptor.__get__")) ∧ PySem.W.takesIn G.K (.builtin "object.__class__") = some true ∧ PySem.W.mroIn G.K cA (.type "object") = some true
def hIsi (xi : Nat → Option Bool) : HM T := fun c _ _ => match xi c with
  | some b => pure (.bl b)
  | none => M.bad
/-- the call, for the exception that the suite holds -/
theorem call_isX {X : Cx} {a cA dd : Addr} {oe : Obj} {pn : List (Addr × Obj)} {CA : Addr} {b : Bool} {f : Str} {v0 : V} (hz : Zc (.ref cA) (some dd) oe) (hf : ∃ vs, oe.data = .fields vs)
    (k1 : (PySem.W.clsIn X.K cA).isSome = true) (k2 : PySem.W.findIn X.K (.ref cA) "__getattribute__" = some (some (.builtin "BaseException.__getattribute__"))) (k3 : PySem.W.findIn X.K (.ref cA) "__getattr__" = some none) (k4 : PySem.W.subIn X.K (.ref cA) (.type "BaseException") = some true)
    (k5 : PySem.W.findIn X.K (.ref cA) "__class__" = some (some (.builtin "object.__class__"))) (k6 : PySem.W.specialIn X.K (.builtin "object.__class__") "__get__" = some (some (.builtin "getset_descriptor.__get__"))) (k7 : PySem.W.takesIn X.K (.builtin "object.__class__") = some true) (k8 : PySem.W.mroIn X.K cA (.type "object") = some true)
    (k9 : PySem.W.kitOne X.K (.ref cA) (.ref CA) = some b) : CallR (X.suite a ((a, oe) :: pn)) (.builtin "isinstance") (fun xs H Q => xs = [.ref a, .ref CA] ∧ H dd = some (.xd [(f, v0)]) ∧ Q (.bl b) H) := by
  intro pins s σ H xs us Q I r h
  obtain ⟨rfl, hd, q⟩ := h
  cases r with
  | cons rx rr =>
    cases rr with
    | cons rt rr =>
      cases rr
      cases rx
      cases rt
      obtain ⟨hget, _⟩ := I.pin (a, oe) (List.mem_append.mpr (.inl List.mem_cons_self))
      obtain ⟨vs, hv⟩ := hf
      have hxd : ObjOk X.prog X.w H s.heap dd (.xd [(f, v0)]) := I.hok dd _ hd
      obtain ⟨mA, hns, hr⟩ := hxd
      obtain ⟨od, ho, hl⟩ := lookIn_ns hns
      have J : PySem.W.InstAt s.heap a oe cA (some od) := ⟨hget, hz.1, by unfold PySem.W.notCls; rw [hv] <;> rfl, by rw [hz.2]; exact ho⟩
      exact PySem.W.kia_one (PySem.W.kitx_exc k1 k2 k3 k4 k5 k6 k7 k8) I.kIn J k9 (fun z => nomatch z) fun tk => ⟨.bl b, H, I.kept (t' := tk) fun _ _ z => z, rfl, q⟩
section
variable {X : Cx} {G : Gm} {a : Addr} {cls : Value} {d : Option Addr} {i : Nat} {pos : Pos}
theorem he_isi {oe : Obj} {pn : List (Addr × Obj)} {n x : Str} {C : Nat} {p np cp : Pos} {CA0 : Addr} (hK : X.K = G.K) (hM : X.mg = G.mg) (hz : Zc cls d oe) (hf : ∃ vs, oe.data = .fields vs) (xi : Nat → Option Bool) (ok : ∀ c b, xi c = some b → XiOk G c C b) (hx : G.cn C = x) (hcC : G.mg x = some (.ref CA0)) (hN : X.N[i]? = some n) (hv : Vis X.env.scope n)
    (hi : X.mg "isinstance" = none) (hgi : Gl (X.suite a ((a, oe) :: pn)) "isinstance" := by rfl) (hgC : Gl (X.suite a ((a, oe) :: pn)) x := by rfl)
    (hs : starEach [.Name n np, .Name x cp] (X.suite a ((a, oe) :: pn)).env = (false, eval (.Name n np) (X.suite a ((a, oe) :: pn)).env) :: starEach [.Name x cp] (X.suite a ((a, oe) :: pn)).env := by rfl)
    (hs2 : starEach [.Name x cp] (X.suite a ((a, oe) :: pn)).env = (false, eval (.Name x cp) (X.suite a ((a, oe) :: pn)).env) :: starEach [] (X.suite a ((a, oe) :: pn)).env := by rfl)
    (hpl : (backTo pos (starEach [.Name x cp] (X.suite a ((a, oe) :: pn)).env)).any (·.1) = false := by rfl) (hd : (n == ("__debug__" : Str)) = false := by decide) (hcd : (n == ("__classdict__" : Str)) = false := by decide) (hdC : (x == ("__debug__" : Str)) = false := by decide) :
    PE (X.suite a ((a, oe) :: pn)) (.Call (.Name "isinstance" p) [.Name n np, .Name x cp] [] pos) (tHE G a cls d i (hIsi xi)) := by
  refine ⟨fun pins s σ H Q I ⟨w, H0, env, r, c, pl, g, sl, e1, ei, h⟩ => ?_⟩
  unfold hIsi at h
  cases hxi : xi c with
  | none => rw [hxi] at h; exact h.elim
  | some b =>
    rw [hxi] at h
    obtain ⟨cA, dd, v, f, k1, k2, k3, k4, k5, k6, k7⟩ := ei.ex
    obtain ⟨CA, m1, m2, m3, m4, m5, m6, m7, m8, m9, m10⟩ := (ok c b hxi).ex cA k1
    rw [← hK] at m2 m3 m4 m5 m6 m7 m8 m9 m10
    subst k2
    subst k3
    have eCA : CA0 = CA := by
      rw [hx] at m1
      exact Value.ref.inj (Option.some.inj (hcC.symm.trans m1))
    subst eCA
    exact (pe_callB (call_isX (f := f) (v0 := v) hz hf m3 m4 m5 m6 m7 m8 m9 m10 m2) hgi hi rfl (pa_cons (pe_var (X := X.suite a ((a, oe) :: pn)) (pos := np) (i := i) hN hv hd hcd) (pa_cons (pe_glob (X := X.suite a ((a, oe) :: pn)) (v := .ref CA0) (pos := cp) hgC (by show X.mg x = _; rw [hM]; exact hcC) rfl hdC) pa_nil hs2) hs) (by decide) (by decide) hs hpl).run pins s σ H Q I ⟨.ref a, e1, rfl, k5, OutP.here g h (.bl b) (.bl b)⟩
/-- if e: return g, then the rest of the suite -/
def hIfRet (f g : HM T) (k : Nat → T → Sm) : Nat → T → Sm := fun c p env r => ofM env (fun t r => match t with
  | .bl true => hRet g c p env r
  | .bl false => k c p env r
  | _ => .bad) (f c p env r)
theorem hs_nil : PSs X [] (tHS G a cls d i fun _ _ => qNil) := pss_imp pss_nil fun D σ H ⟨w0, H0, w, env, r, c, p, a0, e1, ei, h⟩ => h w H σ a0.st a0.g a0.s
theorem hs_ifret {e1 e2 : Expr} {rest : List Stmt} {f g : HM T} {k : Nat → T → Sm} {p1 p2 : Pos} (h1 : PE X e1 (tHE G a cls d i f)) (h2 : PE X e2 (tHE G a cls d i g)) (h3 : PSs X rest (tHS G a cls d i k))
    (he : ∀ whole, isTrue e1 X.env whole = (do let v ← whole; standAt e1.pos; holding [v] (truthy v)) := by intro _; rfl) : PSs X (.If e1 [.Return (some e2) p1] [] p2 :: rest) (tHS G a cls d i (hIfRet f g k)) :=
  pss_imp (pss_cons (ps_if (pt_val h1 he) (pss_one (ps_ret h2)) pss_nil) h3) fun D σ H ⟨w0, H0, w, env, r, c, p, a0, s1, ei, hq⟩ => by
    refine ⟨w, H0, env, r, c, p, a0.g, a0.s, s1, ei, ((FlowP.ofM a0 hq).imp fun t r1 w1 H1 st1 g1 q v dv => ?_).noW⟩
    obtain ⟨a1, h⟩ := q
    cases dv with
    | bl b =>
      refine ⟨b, rfl, ?_⟩
      cases b with
      | true =>
        rw [if_pos rfl]
        have h : FlowP G W0 w0 H0 D (hRet g c p env r1) := h
        exact ⟨w1, H0, env, r1, c, p, a1.g, a1.s, s1, ei.step st1, ((FlowP.ofM a1 h).imp fun t r2 w2 H2 _ _ q v dv => q.2 w2 H2 v q.1.st q.1.g dv).noW⟩
      | false =>
        rw [if_neg (by decide)]
        exact ⟨w0, H0, w1, env, r1, c, p, a1, s1, ei.step st1, h⟩
    | _ => exact h.elim
end
end Ep
namespace Ep
open PySem PySem.Spec L2
/-! ### repr of None, True, an integer, a text -/
def reprV : V → Option Str
  | .int i => if i.natAbs.log2 < 1920 then some (toString i) else none
  | .str x => if (reprText x).length ≤ 16777216 then some (reprText x) else none
  | .bl b => some (if b then "True" else "False")
  | .non => some "None"
  | _ => none
def reprS : T → Option Str
  | .int i => if i.natAbs.log2 < 1920 then some (toString i) else none
  | .str x => if (reprText x).length ≤ 16777216 then some (reprText x) else none
  | .bl b => some (if b then "True" else "False")
  | .non => some "None"
  | _ => none
def reprT (_ : RS) (t : T) : Option T := (reprS t).map .str
theorem call_reprA {X : Cx} : CallR X (.builtin "repr") (fun xs H Q => ∃ v z, xs = [v] ∧ reprV v = some z ∧ Q (.str z) H) := by
  intro pins s σ H xs us Q I r h
  obtain ⟨v, z, rfl, e, q⟩ := h
  obtain ⟨u, rfl, r1⟩ := vals1 r
  cases v with
  | int i =>
    obtain ⟨t, rfl⟩ := r1
    have e : (if i.natAbs.log2 < 1920 then some (toString i : Str) else none) = some z := e
    by_cases h : i.natAbs.log2 < 1920
    · rw [if_pos h] at e; cases e
      exact PySem.P.repr_of_int h ⟨.str _, H, I.tok _, ⟨_, rfl⟩, q⟩
    · rw [if_neg h] at e; cases e
  | str x =>
    obtain ⟨t, rfl⟩ := r1
    have e : (if (reprText x).length ≤ 16777216 then some (reprText x) else none) = some z := e
    by_cases h : (reprText x).length ≤ 16777216
    · rw [if_pos h] at e; cases e
      exact PySem.P.repr_of_str ⟨.str _, H, I.tok _, ⟨_, rfl⟩, q⟩ (by rw [sizeLine_eq]; exact h)
    · rw [if_neg h] at e; cases e
  | bl b =>
    cases r1
    cases e
    exact PySem.P.repr_of_bool ⟨.str _, H, I.tok _, ⟨_, rfl⟩, q⟩
  | non =>
    cases r1
    cases e
    exact PySem.P.repr_of_none ⟨.str _, H, I.tok _, ⟨_, rfl⟩, q⟩
  | _ => cases e
theorem repr_den {G : Gm} {w : Wd} {v : V} {t : T} {z : Str} (d : Den G w v t) (e : reprS t = some z) : reprV v = some z := by
  cases d <;> first | exact e | cases e
theorem v_repr {G : Gm} : B1 G (fun xs H Q => ∃ v z, xs = [v] ∧ reprV v = some z ∧ Q (.str z) H) reprT := fun w H r v t z Q g d e q => by
  unfold reprT at e
  cases hs : reprS t with
  | none => rw [hs] at e; cases e
  | some y =>
    rw [hs] at e
    cases e
    rcases d with d | ⟨p, us, ys, e1, e2, _⟩
    · exact ⟨v, y, rfl, repr_den d hs, q _ w H (Step.refl _ _) g (.str _)⟩
    · subst e2; cases hs
section
variable {X : Cx} {G : Gm} {W : WX} {a : Addr} {cls : Value} {d : Option Addr} {i j : Nat} {pos p : Pos} {e : Expr} {f : Env → M T} {h : HM T}
theorem Bd.reprA (B : Bd X G W j) (m : G.mg "repr" = none) (ha : SK X G W e f) (hg : Gl X "repr" := by rfl) (hs : starEach [e] X.env = (false, eval e X.env) :: starEach [] X.env := by rfl) : SE X G W (.Call (.Name "repr" p) [e] [] pos) (fB1 reprT f) := s_b1 call_reprA v_repr hg (by rw [B.eM]; exact m) rfl ha hs
theorem he_repr (h1 : PE X e (tHE G a cls d i h)) (hm : X.mg "repr" = none) (hg : Gl X "repr" := by rfl) (hs : starEach [e] X.env = (false, eval e X.env) :: starEach [] X.env := by rfl) (hpl : (backTo pos (starEach [] X.env)).any (·.1) = false := by rfl) :
    PE X (.Call (.Name "repr" p) [e] [] pos) (tHE G a cls d i fun c q => fB1 reprT (h c q)) :=
  pe_imp (pe_callB call_reprA hg hm rfl (pa_cons h1 pa_nil hs) (by decide) (by decide) hs hpl) fun σ H Q ⟨w, H0, env, r, c, q, g, s, e1, ei, ho⟩ => by
    refine ⟨w, H0, env, r, c, q, g, s, e1, ei, ho.bind.imp fun t r1 w1 H1 st1 g1 o v dv => ?_⟩
    have o : OutP G w1 H1 XF (fun t _ w' H' => ∀ v, Den G w' v t → Q v H') (M.lift (reprT r1 t) r1) := o
    cases hs : reprS t with
    | none => rw [show reprT r1 t = none by unfold reprT; rw [hs]; rfl] at o; exact o.elim
    | some y =>
      rw [show reprT r1 t = some (.str y) by unfold reprT; rw [hs]; rfl] at o
      exact ⟨v, y, rfl, repr_den dv hs, OutP.here g1 o (.str y) (.str y)⟩
end
/-! ### isinstance of a caught exception, by the head -/
def xiL (K : PySem.W.Frag) (cA CA : Addr) (b : Bool) : List Bool := [decide (PySem.W.kitOne K (.ref cA) (.ref CA) = some b), (PySem.W.clsIn K cA).isSome, decide (PySem.W.findIn K (.ref cA) "__getattribute__" = some (some (.builtin "BaseException.__getattribute__"))), decide (PySem.W.findIn K (.ref cA) "__getattr__" = some none),
  decide (PySem.W.subIn K (.ref cA) (.type "BaseException") = some true), decide (PySem.W.findIn K (.ref cA) "__class__" = some (some (.builtin "object.__class__"))), decide (PySem.W.specialIn K (.builtin "object.__class__") "__get__" = some (some (.builtin "getset_descriptor.__get__"))), decide (PySem.W.takesIn K (.builtin "object.__class__") = some true), decide (PySem.W.mroIn K cA (.type "object") = some true)]
theorem xi_of {G : Gm} {K : PySem.W.Frag} {c C : Nat} {cA CA : Addr} {b : Bool} (hK : G.K = K) (hA : ∀ x, G.mg (G.cn c) = some (.ref x) → x = cA) (hC : G.mg (G.cn C) = some (.ref CA)) (q : (xiL K cA CA b).all id = true) : XiOk G c C b := by
  subst hK
  have at_ : ∀ (i : Nat) {y : Bool}, (xiL G.K cA CA b)[i]? = some y → y = true := fun i y e => List.all_eq_true.mp q y (List.mem_of_getElem? e)
  exact ⟨fun x hx => by
    have e := hA x hx
    subst e
    exact ⟨CA, hC, of_decide_eq_true (at_ 0 rfl), at_ 1 rfl, of_decide_eq_true (at_ 2 rfl), of_decide_eq_true (at_ 3 rfl), of_decide_eq_true (at_ 4 rfl), of_decide_eq_true (at_ 5 rfl), of_decide_eq_true (at_ 6 rfl), of_decide_eq_true (at_ 7 rfl), of_decide_eq_true (at_ 8 rfl)⟩⟩
end Ep
namespace Ep
open PySem PySem.Spec L2
/-! ### list(e) as a new list of the def's own, or a changed one -/
def fSeqL (f : Env → M T) : Env → M (List T) := fun env => f env >>= fun t => fun r => M.lift (seqT r t) r
theorem new_own {G : Gm} {w1 : Wd} {H1 : Hp} {r1 : RS} {l : Addr} {vs : List V} (g1 : Good G w1 H1 r1) (hp : H1 l = none) : Good G w1 (upd H1 l (.lst vs)) r1 :=
  ⟨fun a o e => by
    have := ne_of_none (g1.sub a o e) hp
    rw [upd_ne this]
    exact g1.sub a o e, ⟨g1.refs.nd, g1.refs.len, g1.refs.out, fun k xs hk => by
    obtain ⟨a, us, h1, h2, h3, h4⟩ := g1.refs.at_ k xs hk
    have := ne_of_none h2 hp
    exact ⟨a, us, h1, by rw [upd_ne this]; exact h2, h3, h4⟩⟩, tabs_put g1.tabs (.inl hp), g1.nt⟩
theorem l_list {X : Cx} {G : Gm} {W : WX} {a : Expr} {f : Env → M T} {p pos : Pos} (hK : X.K = G.K) (m : X.mg "list" = none) (ha : SK X G W a f) (hg : Gl X "list" := by rfl) (hs : starEach [a] X.env = (false, eval a X.env) :: starEach [] X.env := by rfl) (hpl : (backTo pos (starEach [] X.env)).any (·.1) = false := by rfl) :
    SL X G W (.Call (.Name "list" p) [a] [] pos) (fSeqL f) :=
  pe_imp (pe_callTy call_list_of hg m rfl (pa_cons ha pa_nil hs) (by decide) (by decide) hs hpl) fun σ H Q ⟨w, H0, env, r, g0, s, h0⟩ => by
    refine seqK g0 s h0 fun t r1 w1 H1 x g1 s1 st1 d1 h1 => ?_
    obtain ⟨xs, ez, h2⟩ := liftP h1
    obtain ⟨q, rfl, sd⟩ := seq_of g1 d1 ez
    have fin : ∀ (vs : List V), Dens G w1 vs xs → xs.length ≤ sizeLine → ∀ l, H1 l = none → Q (.ref l) (upd H1 l (.lst vs)) := fun vs dd zz l hl => by
      have st2 : Step w1 H1 w1 (upd H1 l (.lst vs)) := (Step.refl w1 H1).priv hl
      exact h2 w1 _ st2 (new_own g1 hl) l vs (fun z => nvs hl (st1.keep l z)) (g1.nopub hl) (g1.noref hl) upd_same dd zz
    cases sd with
    | l vs h dd zz => exact ⟨q, vs, rfl, .inl (by rw [hK]; exact h), fin vs dd zz⟩
    | t vs h dd zz => exact ⟨q, vs, rfl, .inr (by rw [hK]; exact h), fin vs dd zz⟩
/-- the truth of a changed list -/
def truR (r : RS) : T → Option Bool
  | .ref k => r[k]?.map fun xs => !xs.isEmpty
  | _ => none
def fTruR (f : Env → M T) : Env → M Bool := fun env => f env >>= fun x => fun r => M.lift (truR r x) r
theorem s_truR {X : Cx} {G : Gm} {W : WX} {a : Expr} {f : Env → M T} (hK : X.K = G.K) (ha : SE X G W a f) (he : ∀ whole, isTrue a X.env whole = (do let v ← whole; standAt a.pos; holding [v] (truthy v)) := by intro _; rfl) : SB X G W a (fTruR f) :=
  pt_imp (pt_truth ha he) fun σ H Q ⟨w, H0, env, r, g0, s, h0⟩ => by
    refine seqE g0 s h0 fun t r1 w1 H1 x g1 s1 st1 d1 h1 => ?_
    obtain ⟨z, ez, h2⟩ := liftP h1
    refine ⟨z, ?_, h2 w1 H1 (Step.refl _ _) g1⟩
    cases d1 with
    | @ref k p hr =>
      have ez : (r1[k]?).map (fun xs => !xs.isEmpty) = some z := ez
      cases q : r1[k]? with
      | none => rw [q] at ez; cases ez
      | some xs =>
        rw [q] at ez
        cases ez
        obtain ⟨b, vs, e1, e2, e3, _⟩ := g1.refs.at_ k xs q
        rw [hr] at e1
        cases e1
        rw [hK]
        exact .inl ⟨_, SqL.of e2, by rw [e3.emp]⟩
    | _ => cases ez
/-! ### own lists that become values ahead of a statement -/
def qFrz (is : List Nat) (g : Sm) : Sm := fun env r => g (frz is env) r
theorem ss_frzq {X : Cx} {G : Gm} {W : WX} {st : Stmt} {g : Sm} (is : List Nat) (h : SS X G W st g) : SS X G W st (qFrz is g) := ss_frz is h
theorem n_frz {is : List Nat} {g : Sm} {env : Env} {r : RS} {so : SO} (h : g (frz is env) r = so) : qFrz is g env r = so := h
end Ep
namespace Ep
open PySem PySem.Spec L2
/-! ### {} -/
def fDisp0 : Env → M (List Key × List T) := fun _ => pure ([], [])
theorem n_disp0 {X : Cx} {G : Gm} {W : WX} {pos : Pos} : SN X G W (.Dict [] [] pos) fDisp0 := pe_imp pe_dnewK fun σ H Q ⟨w, H0, env, r, g0, s, h⟩ => by
  intro p hp
  have st0 : Step w H w (upd H p (.dK [])) := (Step.refl w H).priv hp
  have g1 : Good G w (upd H p (.dK [])) r := g0.priv (g0.nopub hp) (g0.noref hp) (.inl hp)
  exact h w _ st0 g1 p [] (nvs hp) (g0.nopub hp) (g0.noref hp) upd_same rfl (Nat.zero_le _) .nil
end Ep
namespace Ep
open PySem PySem.Spec L2 PyProof.Rows
/-! ### e[::-1] of a text or a list -/
def revS (z : Str) : Str := ⟨z.cps.toList.reverse.toArray⟩
theorem fm_map {α β : Type} {g : α → Option β} {f : α → β} : ∀ {l : List α}, (∀ a ∈ l, g a = some (f a)) → l.filterMap g = l.map f
  | [], _ => rfl
  | a :: l, h => by
    rw [List.filterMap_cons, h a List.mem_cons_self, List.map_cons, fm_map fun b hb => h b (List.mem_cons_of_mem _ hb)]
theorem range_back : ∀ (l : List Nat) (n : Nat), l.length = n → ((List.range n).map (fun k => n - 1 - k)).filterMap (l[·]?) = l.reverse := fun l n h => by
  refine List.ext_getElem? fun i => ?_
  have e : ((List.range n).map (fun k => n - 1 - k)).filterMap (l[·]?) = (List.range n).map (fun k => (l[n - 1 - k]?).getD 0) := by
    rw [List.filterMap_map]
    refine fm_map fun k hk => ?_
    have hk := List.mem_range.mp hk
    simp only [Function.comp]
    rw [List.getElem?_eq_getElem (by omega)]
    rfl
  rw [e]
  by_cases hi : i < n
  · rw [List.getElem?_map, List.getElem?_range hi, List.getElem?_reverse (by omega), h]
    simp only [Option.map_some]
    rw [List.getElem?_eq_getElem (by omega)]
    rfl
  · rw [List.getElem?_eq_none (by simp; omega), List.getElem?_eq_none (by simp; omega)]
theorem sidx_back (n : Nat) : Builtin.Str.strSliceIndices none none (-1) n = (List.range n).map (fun k => n - 1 - k) := by
  unfold Builtin.Str.strSliceIndices sliceRange
  simp only [show ¬ ((-1 : Int) > 0) from by decide, if_false]
  by_cases h : 0 < n
  · have e : (((n : Int) - 1 - (-1) - (-1) - 1) / (- -1)).toNat = n := by
      rw [show (- (-1 : Int)) = 1 from rfl, Int.ediv_one]; omega
    rw [if_pos (by omega), e]
    refine List.map_congr_left fun k hk => ?_
    have := List.mem_range.mp hk
    omega
  · have : n = 0 := by omega
    subst this
    rfl
def tRevA (K : PySem.W.Frag) (te : TE) : TE := fun σ H Q => te σ H fun x H1 => (∃ z, x = .str z ∧ z.length ≤ sizeLine ∧ Q (.str (revS z)) H1) ∨ (∃ a xs, x = .ref a ∧ SqL K H1 a xs ∧ ∀ p, H1 p = none → Q (.ref p) (upd H1 p (.lst xs.reverse)))
/-- the bounds of [::-1] as the slice's object holds them -/
structure Back (h : Heap) (p : Addr) (l u m : Value) : Prop where
  obj : h.IsSliceOf p l u m
  lo : IsPart l none
  up : IsPart u none
  by_ : IsPart m (some (-1))
/-- the slice of [::-1], evaluated -/
theorem back_slice {X : Cx} {pins : List (Addr × Obj)} {σ : L2.St} {H0 : Hp} {s : Shared} {k : Nat} {p1 p2 p3 : Pos} {Q : Value → Shared → Prop} (I : Inv X pins σ H0 s)
    (h : ∀ s1 l u m, Inv X pins σ H0 s1 → Back s1.heap (s1.heap.objs.size - 1) l u m → Q (.ref (s1.heap.objs.size - 1)) s1) : wpAny (model X.prog X.w) X.A (eval (.Slice none none (some (.UnaryOp .USub (.Constant (.int 1) k p1) p2)) p3) X.env) Q X.xe s := by
  have minus : PO X (some (.UnaryOp .USub (.Constant (.int 1) k p1) p2)) (tPart (tUn (rU fun i => .int (-i)) (tC (.int 1)))) := po_some (pe_un un_neg pe_int)
  refine wpAny_Slice (thn (po_none.run pins s σ H0 (fun o H' => o = none ∧ H' = H0) I ⟨rfl, rfl⟩) ?_)
  rintro l s1 ⟨_, H1, I1, lo, rfl, eH⟩
  rw [eH] at I1
  refine thn (po_none.run pins s1 σ H0 (fun o H' => o = none ∧ H' = H0) I1 ⟨rfl, rfl⟩) ?_
  rintro u s2 ⟨_, H2, I2, up, rfl, eH⟩
  rw [eH] at I2
  refine thn (minus.run pins s2 σ H0 (fun o H' => o = some (-1) ∧ H' = H0) I2 ⟨1, rfl, -1, rfl, rfl, rfl⟩) ?_
  rintro m s3 ⟨_, H3, I3, by_, rfl, eH⟩
  rw [eH] at I3
  have far : (s3.heap.push { cls := .type "slice", data := .fields #[l, u, m] }).objs.size - 1 = s3.heap.objs.size := by rw [Heap.size_push, Nat.add_sub_cancel]
  have told := h { s3 with heap := s3.heap.push { cls := .type "slice", data := .fields #[l, u, m] } } l u m (I3.kept (t' := s3.toks) fun _ _ => Heap.get?_push_of_some _) ⟨by dsimp only; rw [far]; exact Heap.IsSliceOf.new _ l u m, lo, up, by_⟩
  dsimp only at told
  rw [far] at told
  exact told
/-- a text, backwards -/
theorem str_back (z : Str) : (⟨((Builtin.Str.strSliceIndices none none (-1) z.length).filterMap (z.cps[·]?)).toArray⟩ : Str) = revS z := by
  have at_ : (fun i => z.cps[i]?) = fun i => z.cps.toList[i]? := funext fun i => Array.getElem?_toList.symm
  unfold revS
  rw [sidx_back, at_, range_back z.cps.toList z.length rfl]
theorem pe_revA {X : Cx} {e : Expr} {te : TE} {k : Nat} {p1 p2 p3 pos : Pos} (he : PE X e te) : PE X (.Subscript e (.Slice none none (some (.UnaryOp .USub (.Constant (.int 1) k p1) p2)) p3) pos) (tRevA X.K te) := by
  refine ⟨fun pins s σ H Q I h => Subscript_ (thn (he.run pins s σ H _ I h) fun v s1 ⟨x, H1, I1, rel, kinds⟩ => back_slice I1 fun s2 l u m I2 back => ?_)⟩
  rcases kinds with ⟨z, rfl, few, q⟩ | ⟨a, xs, rfl, hq, q⟩
  · obtain ⟨tk, rfl⟩ := rel
    obtain ⟨vl, rfl, el⟩ := IsPart.raw back.lo
    obtain ⟨vu, rfl, eu⟩ := IsPart.raw back.up
    obtain ⟨vm, rfl, em⟩ := IsPart.raw back.by_
    have picked : slicePicked z vl vu vm = Builtin.Str.strSliceIndices none none (-1) z.length := by unfold slicePicked; rw [el, eu, em]; rfl
    refine tail_any (T := "str") (ops := [.str z tk, .ref (s2.heap.objs.size - 1)]) (typeIs_str _ _ _) F.slot_str_getitem.lookup (wpAny_getItem_str_slice back.obj (by rw [em]; rfl) ?_) (by with_unfolding_all rfl)
    unfold sliceMade
    rw [picked, em, if_neg (by simp), str_back]
    exact ⟨by show z.cps.toList.reverse.toArray.size ≤ _; rw [List.size_toArray, List.length_reverse]; exact few, .str _, _, I2.tok _, ⟨_, rfl⟩, q⟩
  · cases rel
    obtain ⟨its, rels, at_a, few⟩ := I2.list hq
    refine tail_any (ops := [.ref a, .ref (s2.heap.objs.size - 1)]) at_a.isList.typeIs PySem.slot_list_getitem.lookup (wpAny_getItem_list_slice at_a.isList back.obj back.lo back.up back.by_ (by decide) ?_ (by rw [List.size_toArray, ← rels.length]; exact few)) (by with_unfolding_all rfl)
    rw [PySem.W.krv_pick]
    have put := I2.laid (t' := s2.toks) (o := .lst xs.reverse) (h' := s2.heap.push { cls := .type "list", data := .seq its.reverse.toArray }) (fun _ _ z => Heap.get?_push_of_some _ z) (Nat.le_refl _) ⟨(List.length_reverse (as := xs)).symm ▸ few, its.reverse, 0, rels.reverse, Heap.get?_push_size _ rfl⟩
    exact ⟨.ref s2.heap.objs.size, _, put, rfl, q _ (I2.hok.fresh (Nat.le_refl _))⟩
def revT : T → Option T
  | .str z => if z.length ≤ 100000 then some (.str (revS z)) else none
  | .lst xs => some (.lst xs.reverse)
  | .kls xs => some (.lst xs.reverse)
  | _ => none
def fRev (f : Env → M T) : Env → M T := fun env => f env >>= fun x => M.lift (revT x)
theorem Dens.rev {G : Gm} {w : Wd} : ∀ {vs : List V} {ts : List T}, Dens G w vs ts → Dens G w vs.reverse ts.reverse
  | _, _, .nil => .nil
  | _, _, .cons a d => by
    rw [List.reverse_cons, List.reverse_cons]
    exact (Dens.rev d).append (.cons a .nil)
theorem s_rev {X : Cx} {G : Gm} {W : WX} {a : Expr} {f : Env → M T} {k : Nat} {p1 p2 p3 pos : Pos} (hK : X.K = G.K) (ha : SE X G W a f) : SE X G W (.Subscript a (.Slice none none (some (.UnaryOp .USub (.Constant (.int 1) k p1) p2)) p3) pos) (fRev f) :=
  pe_imp (pe_revA ha) fun σ H Q ⟨w, H0, env, r, g0, s, h0⟩ => by
    refine seqE g0 s h0 fun t r1 w1 H1 x g1 s1 st1 d1 h1 => ?_
    obtain ⟨z, ez, h2⟩ := liftP h1
    have go : ∀ (a : Addr) (vs : List V) (xs : List T), x = .ref a → SqL G.K H1 a vs → Dens G w1 vs xs → xs.length ≤ sizeLine → z = .lst xs.reverse → ∃ a xs, x = .ref a ∧ SqL X.K H1 a xs ∧ ∀ p, H1 p = none → Q (.ref p) (upd H1 p (.lst xs.reverse)) := fun a vs xs ex h d zz e => ⟨a, vs, ex, by rw [hK]; exact h, fun p hp => by
      obtain ⟨st, g2⟩ := g1.new (o := .lst vs.reverse) hp
      subst e
      exact h2 _ _ st g2 _ (.lst upd_same (by rw [List.length_reverse]; exact zz) (d.rev.mono st.later))⟩
    cases d1 with
    | str zz =>
      have e : (if zz.length ≤ 100000 then some (T.str (revS zz)) else none) = some z := ez
      by_cases hz : zz.length ≤ 100000
      · rw [if_pos hz] at e
        cases e
        exact .inl ⟨zz, rfl, Nat.le_trans hz (by decide), h2 w1 H1 (Step.refl _ _) g1 _ (.str _)⟩
      · rw [if_neg hz] at e; cases e
    | lst h zz d => cases ez; exact .inr (go _ _ _ rfl (SqL.of (g1.sub _ _ h)) d zz rfl)
    | kls h zz d => cases ez; exact .inr (go _ _ _ rfl (g1.sub.seq h) d zz rfl)
    | _ => cases ez
end Ep
namespace Ep
open PySem PySem.Spec L2
/-! ### a, b, c = [], e, e' with a a list of the def's own -/
def qPar3o (i j k : Nat) (fs : List (Env → M T)) : Sm := fun env r => ofM env (fun ts r => match ts with
  | [u, v] => .nx (((env.set i (.own [])).set j (.val u)).set k (.val v)) r
  | _ => .bad) (fAll fs env r)
section
variable {X : Cx} {G : Gm} {W : WX} {pos : Pos}
theorem ss_par3o {i j l : Nat} {x y z : Str} {e2 e3 : Expr} {f2 f3 : Env → M T} {px py pz pt pl : Pos} {kt k2 pt2} (hc : X.calm = true) (hN : X.N.Nodup) (hi : X.N[i]? = some x) (hj : X.N[j]? = some y) (hl : X.N[l]? = some z) (hij : i ≠ j) (hil : i ≠ l) (hjl : j ≠ l)
    (hx : X.env.scope.names.lookup x = some .local) (hy : X.env.scope.names.lookup y = some .local) (hz : X.env.scope.names.lookup z = some .local) (ha : SA X G W [e2, e3] [f2, f3])
    (hw : swappedStores [.Tuple [.Name x px, .Name y py, .Name z pz] kt pt] (.Tuple [.List [] pl, e2, e3] k2 pt2) X.env = pure (some [x, y, z]))
    (hs : swapsWithSole [.Tuple [.Name x px, .Name y py, .Name z pz] kt pt] (.Tuple [.List [] pl, e2, e3] k2 pt2) pos.line X.env = pure false := by rfl)
    (he : starEach (.List [] pl :: [e2, e3]) X.env = (false, eval (.List [] pl) X.env) :: starEach [e2, e3] X.env := by rfl) :
    SS X G W (.Assign [.Tuple [.Name x px, .Name y py, .Name z pz] kt pt] (.Tuple [.List [] pl, e2, e3] k2 pt2) pos) (qPar3o i j l [f2, f3]) := fun w0 H0 => ps_imp (ps_par3 hc hN hi hj hl hij hil hjl hx hy hz (pa_cons (pe_lst pa_nil) ha he) hw hs) fun D σ H ⟨w, env, r, a, h⟩ => by
  refine ⟨Nat.zero_le _, fun p hp => ?_⟩
  have st0 : Step w H w (upd H p (.lst [])) := (Step.refl w H).priv hp
  have g1 : Good G w (upd H p (.lst [])) r := a.g.priv (a.g.nopub hp) (a.g.noref hp) (.inl hp)
  have a' : At G w0 H0 w (upd H p (.lst [])) σ env r := a.step st0 g1
  refine ⟨w, H0, env, r, a'.g, a'.s, (FlowP.ofM a' h).imp fun ts r1 w1 H1 st g2 q vs d ll => ?_⟩
  obtain ⟨a1, h1⟩ := q
  have hh : H1 p = some (.lst []) := st.fr _ _ (a.g.noref hp) upd_same (by intro _ e; cases e)
  have hP := st.hid p (a.g.noref hp) (vs_of upd_same) (a.g.nopub hp)
  have hR := st.noR (a.g.noref hp) (vs_of upd_same)
  cases d with
  | nil => cases ll
  | cons d2 d =>
    cases d with
    | nil => cases ll
    | cons d3 d =>
      cases d with
      | cons _ _ => cases ll
      | nil =>
        have s2 := a1.s.setOwn i (fun j sl b hj pj hb => a.notNew hj pj hb (nvs hp)) hP hR (fun z => nvs hp (a.st.keep _ z)) hh (.lst (Nat.zero_le _) .nil)
        exact ⟨_, _, _, rfl, h1 w1 H1 _ a1.st a1.g ((s2.setVal j d2).setVal l d3)⟩
theorem Bd.par3o {jj : Nat} (B : Bd X G W jj) (i l m : Nat) {x y z : Str} {e2 e3 : Expr} {f2 f3 : Env → M T} {px py pz pt pl : Pos} {kt k2 pt2} (ha : SA X G W [e2, e3] [f2, f3]) (hi : X.N[i]? = some x := by rfl) (hj : X.N[l]? = some y := by rfl) (hl : X.N[m]? = some z := by rfl) (hij : i ≠ l := by decide) (hil : i ≠ m := by decide) (hjl : l ≠ m := by decide)
    (hx : X.env.scope.names.lookup x = some .local := by rfl) (hy : X.env.scope.names.lookup y = some .local := by rfl) (hz : X.env.scope.names.lookup z = some .local := by rfl)
    (hw : swappedStores [.Tuple [.Name x px, .Name y py, .Name z pz] kt pt] (.Tuple [.List [] pl, e2, e3] k2 pt2) X.env = pure (some [x, y, z]) := by rfl)
    (hs : swapsWithSole [.Tuple [.Name x px, .Name y py, .Name z pz] kt pt] (.Tuple [.List [] pl, e2, e3] k2 pt2) pos.line X.env = pure false := by rfl)
    (he : starEach (.List [] pl :: [e2, e3]) X.env = (false, eval (.List [] pl) X.env) :: starEach [e2, e3] X.env := by rfl) :
    SS X G W (.Assign [.Tuple [.Name x px, .Name y py, .Name z pz] kt pt] (.Tuple [.List [] pl, e2, e3] k2 pt2) pos) (qPar3o i l m [f2, f3]) := ss_par3o B.calm B.nd hi hj hl hij hil hjl hx hy hz ha hw hs he
end
end Ep
namespace Ep
namespace EnT
open PySem PySem.Spec L2 PyProof.Rows
section
variable {prog : Program} {w : World} {A : Around} {E : Value → Shared → Prop} {s : Shared} {v : Value} {o : Obj} {HB : Heap → Prop}
/-- enumerate's object, over the iterator at it -/
def eObj (it : Addr) : Obj := { cls := .type "enumerate", data := .fields #[.none, .bool false, .ref it, rawInt 0, .none, .none] }
/-- enumerate.__new__ of one thing that begins to be walked (Begins) -/
theorem new_one (B : Begins v o HB) (now : HB s.heap) {Q : Fin → Shared → Prop} (told : Q (.done (.ret (.ref (s.heap.push o).objs.size))) { s with heap := (s.heap.push o).push (eObj s.heap.objs.size) }) :
    wpAny (model prog w) A (Builtin.«enumerate.__new__» ⟨[.type "enumerate", v], []⟩) Q E s := by
  have cls : Builtin.SmallTypes.newClass "enumerate" ⟨[.type "enumerate", v], []⟩ = pure (.type "enumerate", [v]) := by
    unfold Builtin.SmallTypes.newClass
    show (isSubtype (.type "enumerate") (.type "enumerate") >>= fun b => _) = _
    rw [sub_enumerate]
    rfl
  unfold Builtin.«enumerate.__new__»
  refine wpAny_bind (wpAny_of_eq cls ?_)
  have last : wpAny (model prog w) A (pyIter v >>= fun i => Builtin.SmallTypes.newRecord (.type "enumerate") (Builtin.SmallTypes.ownedTupleFields ++ [i, rawInt 0, .none, .none]) >>= fun r => PySem.ret r) Q E s := by
    refine wpAny_bind (B.iter prog w A E s _ now ?_)
    show wpAny _ A (newObj (.type "enumerate") (.fields #[.none, .bool false, .ref s.heap.objs.size, rawInt 0, .none, .none]) >>= fun r => PySem.ret r) Q E _
    exact wpAny_bind (wpAny_newObj_type (wpAny_pure told))
  dsimp only
  rw [if_pos (beq_self_eq_true _)]
  have how : wpAny (model prog w) A (Builtin.SmallTypes.calledThroughType (.type "enumerate")) (fun _ z => z = s) E s := wpAny_bind (wpAny_stack_any fun _ => wpAny_pure rfl)
  refine wpAny_bind (wpAny_mono how (fun short z same => ?_) fun _ _ => id)
  subst same
  cases short with
  | false => exact last
  | true => exact last
/-- .. and the call of the class -/
theorem call_one (B : Begins v o HB) (now : HB s.heap) {Q : Value → Shared → Prop} (told : ∀ h', IsEnum h' (s.heap.objs.size + 1) s.heap.objs.size 0 .none → h'.get? s.heap.objs.size = some o → (∀ b z, s.heap.get? b = some z → h'.get? b = some z) → Q (.ref (s.heap.objs.size + 1)) { s with heap := h' }) :
    wpAny (model prog w) A (call (.type "enumerate") [v]) Q E s := by
  have one_on : (s.heap.push o).objs.size = s.heap.objs.size + 1 := Heap.size_push ..
  have at_e := Heap.get?_push_size (s.heap.push o) (o := eObj s.heap.objs.size) rfl
  refine callType_new (S := fun _ R z => HB z.heap ∧ R (.ok (.ret (.ref (z.heap.push o).objs.size))) { z with heap := (z.heap.push o).push (eObj z.heap.objs.size) }) F.called_enumerate (by decide) (F.typeCall_enumerate_1 _) (F.newCall_enumerate_1 _) (fun obj => F.args_object_init_2 obj _) F.entry_enumerate_new
    (fun prog w A R z both => new_one B both.1 both.2) ⟨now, ?_⟩
  rw [one_on] at at_e
  show _ ∧ _
  rw [one_on]
  exact ⟨⟨_, at_e, rfl⟩, told _ at_e (Heap.get?_push_of_some _ (Heap.get?_push_size _ B.free)) fun b z q => Heap.get?_push_of_some _ (Heap.get?_push_of_some _ q)⟩
end
/-- the tuple at a as it stands at each turn, each item in a new pair -/
def IteT (K : PySem.W.Frag) (a : Addr) : It :=
  ⟨fun i H => ∃ (xs : List V) (x : V), SqT K H a xs ∧ xs[i]? = some x, fun i H v H' => ∃ T x, v = .ref T ∧ H T = none ∧ H' = upd H T (.tup [.int (i : Nat), x]) ∧ ∀ xs, SqT K H a xs → xs[i]? = some x, fun i H => ∃ xs : List V, SqT K H a xs ∧ xs.length = i⟩
/-- the two records stand, i turns done -/
def At (a e it : Addr) (i : Nat) (h : Heap) : Prop := (∃ old, IsEnum h e it ((i : Nat) : Int) old) ∧ h.IsTupleIter it a i ∧ e ≠ it
theorem apart {h : Heap} {a b : Addr} {S T : String} (x : ∃ o, h.get? a = some o ∧ o.cls = .type S) (y : ∃ o, h.get? b = some o ∧ o.cls = .type T) (n : S ≠ T) : a ≠ b := by
  rintro rfl
  obtain ⟨o, p, c⟩ := x
  obtain ⟨o', p', c'⟩ := y
  cases p.symm.trans p'
  exact n (Value.type.inj (c.symm.trans c'))
/-- as long as the tuple stands, its walk is the library's (Draws.tuple, WalksT.enumerateD) -/
theorem walks {X : Cx} {pins : List (Addr × Obj)} {s : Shared} {σ : L2.St} {H : Hp} {a e it : Addr} {i : Nat} {xs : List V} (hc : X.calm = true) (I : Inv X pins σ H s) (st : At a e it i s.heap) (hq : SqT X.K H a xs) : ∃ its : List Value, Vals xs its ∧ s.heap.IsTuple a its.toArray ∧
    WalksT X.prog X.w X.A e (e :: [it, a]) [e, it] its.toArray.size (fun i vals => ∃ t x, its.toArray[i]? = some x ∧ vals = #[.int i t, x]) (fun i h => (∃ old, IsEnum h e it i old) ∧ h.IsTupleIter it a i ∧ h.IsTuple a its.toArray)
      (fun i T h => (∃ x, IsEnumOut h e it ((i : Int) + 1) x T) ∧ (h.IsTupleIter it a (i + 1) ∧ h.IsTuple a its.toArray) ∧ T ≠ e ∧ T ≠ it) := by
  obtain ⟨⟨old, at_e⟩, at_it, ne⟩ := st
  obtain ⟨its, vals, at_a, _⟩ := I.tuple hq
  have ca : ∃ o, s.heap.get? a = some o ∧ o.cls = .type "tuple" := at_a.imp fun _ z => ⟨z.1, z.2.1⟩
  have ci : ∃ o, s.heap.get? it = some o ∧ o.cls = .type "tuple_iterator" := at_it.imp fun _ z => ⟨z.1, z.2.1⟩
  have ce : ∃ o, s.heap.get? e = some o ∧ o.cls = .type "enumerate" := ⟨_, at_e, rfl⟩
  have nea := apart ce ca (by decide)
  exact ⟨its, vals, at_a, .enumerateD (.tuple (show X.A.in1.handled = none from I.ok.hd hc) it a (apart ca ci (by decide)) its.toArray) e ne (by simp [ne, nea]) (by simp)⟩
theorem at_obj {a e it : Addr} {i : Nat} {h : Heap} (st : At a e it i h) {b : Addr} (of_ : b ∈ [e, it]) : ∃ o, h.get? b = some o ∧ ∀ v, o.data ≠ .cell v := by
  obtain ⟨⟨old, at_e⟩, ⟨o, at_it, _, rec⟩, _⟩ := st
  rcases List.mem_cons.mp of_ with rfl | of_
  · exact ⟨_, at_e, fun _ z => nomatch z⟩
  · cases List.mem_singleton.mp of_
    exact ⟨o, at_it, fun _ z => nomatch rec.symm.trans z⟩
theorem turn {P : Program} {w : World} {K : PySem.W.Frag} {elts : List Expr} {kk : Nat} {tpos : Pos} (a e it : Addr) : Turn P w K (.Tuple elts kk tpos) (IteT K a) [e, it] e (At a e it) where
  mem := List.mem_cons_self
  obj i h st b of_ := at_obj st of_
  keep i h h' st same := ⟨st.1.imp fun _ z => same e (by simp) _ z, st.2.1.at fun o z => same it (by simp) o z, st.2.2⟩
  self A i s Q E st q := st.1.elim fun _ z => wpAny_pyIter_enum z q
  done := by
    rintro X rfl rfl rfl hc i pins s σ H E I hf st ⟨xs, hq, rfl⟩
    obtain ⟨its, vals, at_a, W⟩ := walks hc I st hq
    refine W.done s _ E (by rw [List.size_toArray, ← vals.length]; exact ⟨st.1, st.2.1, at_a⟩) fun h' tk same => ⟨rfl, I.turnedL same hf⟩
  item := by
    rintro X rfl rfl rfl hc i pins s σ H E I hf st ⟨xs, x, hq, hx⟩
    obtain ⟨its, vals, at_a, W⟩ := walks hc I st hq
    obtain ⟨u, at_u, rel⟩ := vals.get hx
    have now : i < its.toArray.size := by simpa using (List.getElem?_eq_some_iff.mp at_u).1
    refine W.item i s _ E now ⟨st.1, st.2.1, at_a⟩ fun T _ h' tk ⟨t, y, at_y, ev⟩ new at_T mid same => ⟨_, rfl, W.go elts kk tpos i T _ _ _ mid fun h'' st' same' => ?_⟩
    subst ev
    obtain rfl : y = u := by
      rw [show its.toArray[i]? = its[i]? from by simp, at_u] at at_y
      exact (Option.some.inj at_y).symm
    have put : h''.IsTuple T #[.int i t, y] := at_T.at fun o z => same' T o (W.apart i T h' mid) z
    have pair : ObjOk X.prog X.w (upd H T (.tup [.int (i : Nat), x])) h'' T (.tup [.int (i : Nat), x]) := ⟨show 2 ≤ sizeLine by decide, [.int i t, y], .cons ⟨t, rfl⟩ (.cons rel .nil), put⟩
    refine ⟨.ref T, _, I.turnedNew (fun b o out z => same' b o out (same b o out z)) hf new pair, rfl, ⟨T, x, rfl, I.hok.fresh new, rfl, fun ys hy => by rw [I.tuple_inj hy hq]; exact hx⟩, ⟨st'.1, st'.2.1, st.2.2⟩, fun b of_ => ?_⟩
    have before : b < s.heap.objs.size := (at_obj st of_).elim fun _ z => Heap.lt_size z.1
    rw [upd_ne (Nat.ne_of_lt (Nat.lt_of_lt_of_le before new))]
    exact (hf b of_).1
/-- enumerate of a list or a tuple -/
def iEnumA (K : PySem.W.Frag) (ta : TA) : TI := fun σ H R => ta σ H fun vs H1 => ∃ a xs, vs = [.ref a] ∧ ((SqL K H1 a xs ∧ R (Ite K a) H1) ∨ (SqT K H1 a xs ∧ R (IteT K a) H1))
theorem pi_enumA {X : Cx} {e : Expr} {ta : TA} {p pos tpos : Pos} {elts : List Expr} {kk : Nat} (hg : Gl X "enumerate") (hm : X.mg "enumerate" = none) (ha : PA X [e] ta) (hs : starEach [e] X.env = [(false, eval e X.env)] := by rfl) :
    PI X (.Tuple elts kk tpos) (.Call (.Name "enumerate" p) [e] [] pos) (iEnumA X.K ta) := by
  have laid : ∀ {pins : List (Addr × Obj)} {s1 : Shared} {H1 : Hp} {σ : L2.St}, Inv X pins σ H1 s1 → ∀ b ∈ [s1.heap.objs.size + 1, s1.heap.objs.size], FpOk X pins H1 b := fun {pins s1 H1 σ} I1 b hb => by
    have new : s1.heap.objs.size ≤ b := by
      rcases List.mem_cons.mp hb with rfl | hb
      · exact Nat.le_succ _
      · exact Nat.le_of_eq (List.mem_singleton.mp hb).symm
    exact I1.fpOk new (I1.hok.fresh new)
  refine ⟨fun pins s σ H R I h => Call_ (ld_blt I hg hm boot_enumerate (PyProof.Rows.callWith_type1 (thn (ha.run pos pins s σ H _ I h) fun us s1 came => ?_) hs rfl))⟩
  obtain ⟨_, H1, I1, rels, a, xs, rfl, q⟩ := came
  cases rels with
  | cons rel none_ =>
    cases none_
    cases rel
    rcases q with ⟨hq, q⟩ | ⟨hq, q⟩
    · obtain ⟨its, _, at_a, _⟩ := I1.list hq
      exact call_enumerate_list at_a.isList fun h' at_e at_it _ same => wpAny_pyIter_enum at_e ⟨_, _, _, _, H1, rfl, I1.kept (t' := s1.toks) same, turn_enum a _ s1.heap.objs.size, ⟨⟨.none, at_e⟩, at_it, Nat.succ_ne_self _⟩, laid I1, q⟩
    · obtain ⟨its, _, at_a, _⟩ := I1.tuple hq
      exact call_one (begins_tuple a its.toArray) at_a fun h' at_e at_it same => wpAny_pyIter_enum at_e ⟨_, _, _, _, H1, rfl, I1.kept (t' := s1.toks) same, turn a _ s1.heap.objs.size, ⟨⟨.none, at_e⟩, ⟨_, at_it, rfl, rfl⟩, Nat.succ_ne_self _⟩, laid I1, q⟩
theorem walk {K : PySem.W.Frag} {a : Addr} {xs : List V} : Walk (IteT K a) xs.length (fun H => SqT K H a xs) (YPair (fun i => some (.int (i : Nat))) (fun i => xs[i]?)) where
  goes i H lt hq := ⟨xs, _, hq, List.getElem?_eq_getElem lt⟩
  stops H hq := ⟨xs, hq, rfl⟩
  yields i H v H' lt hq := fun ⟨p, x, ev, new, eH, item⟩ => ⟨p, .int (i : Nat), x, ev, new, eH, rfl, item xs hq⟩
end EnT
open PySem PySem.Spec L2
section
variable {X : Cx} {G : Gm} {W : WX} {f : Env → M T} {pos : Pos}
theorem it_eT {w : Wd} {a : Addr} {vs : List V} {xs : List T} (h : TupAt G.K w.P a vs) (d : Dens G w vs xs) : ItOk G w (EnT.IteT G.K a) (enumL 0 xs) := by
  refine ⟨_, _, by rw [enumL_len, ← d.length]; exact EnT.walk (xs := vs), fun w' H' r' L g => tup_sq g.sub (h.mono L.pub), fun i H1 v H2 w1 r1 L g hi y => ?_⟩
  obtain ⟨p, x, y, ev, hp, e2, ex, ey⟩ := y
  subst ev
  cases ex
  obtain ⟨t, ht, hd⟩ := d.getV ey
  obtain ⟨w2, st, g2, d2⟩ := pair_new g hp e2 (.int (i : Nat)) (hd.mono L)
  exact ⟨_, w2, by rw [enumL_at xs 0 i t ht, Nat.zero_add], st, g2, d2⟩
def EnTlt : T → Option (List T)
  | .lst xs => some xs
  | .kls xs => some xs
  | .tup xs => some xs
  | _ => none
def fEnumA (f : Env → M T) : Env → M (List T) := fun env => fAll [f] env >>= fun ts => M.lift (match ts with
  | [t] => (EnTlt t).map (enumL 0)
  | _ => none)
theorem i_enumA {a : Expr} {p tpos : Pos} {elts : List Expr} {kk : Nat} (hK : X.K = G.K) (hg : Gl X "enumerate") (hm : X.mg "enumerate" = none) (ha : SE X G W a f) (hs : starEach [a] X.env = [(false, eval a X.env)] := by rfl) :
    SI X G W (.Tuple elts kk tpos) (.Call (.Name "enumerate" p) [a] [] pos) (fEnumA f) :=
  pi_imp (EnT.pi_enumA hg hm (a_cons ha a_nil hs) hs) fun σ H R ⟨w, H0, env, r, g, s, h⟩ => by
    refine seqA g s h fun ts r1 w1 H1 vs g1 s1 st1 d1 l h1 => ?_
    obtain ⟨xs, e1, h2⟩ := liftP h1
    have h3 := h2 w1 H1 (Step.refl _ _) g1
    cases d1 with
    | nil => cases e1
    | @cons v vs t ts d d' =>
      cases d' with
      | cons _ _ => cases l
      | nil =>
        have e1 : (EnTlt t).map (enumL 0) = some xs := e1
        rw [hK]
        cases d with
        | lst h z dd => cases e1; exact ⟨_, _, rfl, .inl ⟨g1.sub.seq (.inl (.inl h)), h3 _ (it_e (.inl (.inl h)) dd)⟩⟩
        | kls h z dd => cases e1; exact ⟨_, _, rfl, .inl ⟨g1.sub.seq h, h3 _ (it_e h dd)⟩⟩
        | tup h z dd => cases e1; exact ⟨_, _, rfl, .inr ⟨tup_sq g1.sub h, h3 _ (it_eT h dd)⟩⟩
        | _ => cases e1
end
end Ep
namespace Ep
open PySem PySem.Spec L2
/-! ### self.f in an __init__, of the fields that are there already -/
def fFldS (m : Nat → Option Nat) (i : Nat) : Env → M T := fun env => match env[i]? with
  | some (.pv (.ins C vs)) => M.lift ((m C).bind fun j => vs[j]?)
  | some (.val (.obj C vs)) => M.lift ((m C).bind fun j => vs[j]?)
  | _ => M.bad
theorem find_take {p : Str → Bool} : ∀ {l : List Str} {n j : Nat}, l.findIdx? p = some j → j < n → (l.take n).findIdx? p = some j
  | [], _, _, h, _ => by simp at h
  | x :: l, 0, _, _, hn => by omega
  | x :: l, n + 1, j, h, hn => by
    rw [List.findIdx?_cons] at h
    rw [List.take_succ_cons, List.findIdx?_cons]
    by_cases c : p x = true
    · rw [if_pos c] at h ⊢; exact h
    · rw [if_neg c] at h ⊢
      cases q : l.findIdx? p with
      | none => rw [q] at h; cases h
      | some k =>
        rw [q] at h
        have hk : k + 1 = j := by simpa using h
        rw [find_take q (by omega)]
        simp [hk]
theorem s_fldS {X : Cx} {G : Gm} {W : WX} {pos p : Pos} {name x : Str} (hK : X.K = G.K) (i : Nat) (m : Nat → Option Nat) (ok : ∀ C j, m C = some j → FldOk G name C j) (hN : X.N[i]? = some x) (hv : Vis X.env.scope x)
    (hb : attributeBase (.Name x p) name X.env (eval (.Name x p) X.env) = eval (.Name x p) X.env := by rfl) (hd : (x == ("__debug__" : Str)) = false := by decide) (hcd : (x == ("__classdict__" : Str)) = false := by decide) : SE X G W (.Attribute (.Name x p) name pos) (fFldS m i) :=
  pe_imp (pe_fld (pe_var hN hv hd hcd) hb) fun σ H Q ⟨w, H0, env, r, g, s, h⟩ => by
    unfold fFldS at h
    cases e : env[i]? with
    | none => rw [e] at h; exact h.elim
    | some sl =>
      rw [e] at h
      obtain ⟨oa, k1, k2⟩ := s.ex
      have := k1 i sl e
      cases sl with
      | un => exact h.elim
      | val t =>
        obtain ⟨v, e1, d1⟩ := this
        cases d1 with
        | @obj p cA dx C vs ts c h0 l d =>
          obtain ⟨z, ez, h2⟩ := liftP h
          cases q : m C with
          | none => rw [q] at ez; cases ez
          | some j =>
            rw [q] at ez
            have o := ok C j q
            obtain ⟨v, e3, e2⟩ := d.get (i := j) ez
            refine ⟨_, e1, p, cA, dx, _, v, rfl, g.sub _ _ h0, ?_, ?_, by rw [lookup_zip o.at_ l]; exact e3, h2 w H (Step.refl _ _) g v e2⟩
            · rw [hK]; exact (o.cl cA c).1
            · rw [hK]; exact (o.cl cA c).2
        | _ => exact h.elim
      | pv q =>
        cases q with
        | ins C ts =>
          obtain ⟨e1, a2, a3, a4, u, a6, a7⟩ := this
          cases a7 with
          | @ins C cA dx vs ts hm c l d =>
            obtain ⟨z, ez, h2⟩ := liftP h
            cases q : m C with
            | none => rw [q] at ez; cases ez
            | some j =>
              rw [q] at ez
              have o := ok C j q
              obtain ⟨v, e3, e2⟩ := d.get (i := j) ez
              have hj : j < ts.length := (List.getElem?_eq_some_iff.mp ez).1
              refine ⟨_, e1, oa i, cA, dx, _, v, rfl, a6, ?_, ?_, by rw [lookup_zip (find_take o.at_ hj) (by rw [d.length, List.length_take]; omega)]; exact e3, h2 w H (Step.refl _ _) g v e2⟩
              · rw [hK]; exact (o.cl cA c).1
              · rw [hK]; exact (o.cl cA c).2
        | _ => exact h.elim
end Ep
namespace Ep
open PySem PySem.Spec L2
/-! ### a, b = e, e' where one of both is a new list of the def's own -/
def qPar2ov (i j : Nat) (f : Env → M (List T)) (g : Env → M T) : Sm := fun env r => ofM env (fun xs r => ofM env (fun u r => .nx ((env.set i (.own xs)).set j (.val u)) r) (g env r)) (f env r)
def qPar2vo (i j : Nat) (f : Env → M T) (g : Env → M (List T)) : Sm := fun env r => ofM env (fun u r => ofM env (fun xs r => .nx ((env.set j (.own xs)).set i (.val u)) r) (g env r)) (f env r)
section
variable {X : Cx} {G : Gm} {W : WX} {pos : Pos}
theorem set_comm {α : Type} (l : List α) {i j : Nat} (h : i ≠ j) (a b : α) : (l.set i a).set j b = (l.set j b).set i a := List.set_comm a b h
theorem ss_par2ov {i j : Nat} {x y : Str} {e1 e2 : Expr} {f : Env → M (List T)} {g : Env → M T} {px py pt : Pos} {kt k2 pt2} (hc : X.calm = true) (hN : X.N.Nodup) (hi : X.N[i]? = some x) (hj : X.N[j]? = some y) (hij : i ≠ j)
    (hx : X.env.scope.names.lookup x = some .local) (hy : X.env.scope.names.lookup y = some .local) (h1 : SL X G W e1 f) (h2 : SE X G W e2 g)
    (hw : swappedStores [.Tuple [.Name x px, .Name y py] kt pt] (.Tuple [e1, e2] k2 pt2) X.env = pure (some [x, y]))
    (hs : swapsWithSole [.Tuple [.Name x px, .Name y py] kt pt] (.Tuple [e1, e2] k2 pt2) pos.line X.env = pure false)
    (a1 : starEach [e1, e2] X.env = (false, eval e1 X.env) :: starEach [e2] X.env) (a2 : starEach [e2] X.env = (false, eval e2 X.env) :: starEach [] X.env) :
    SS X G W (.Assign [.Tuple [.Name x px, .Name y py] kt pt] (.Tuple [e1, e2] k2 pt2) pos) (qPar2ov i j f g) := fun w0 H0 => ps_imp (ps_par hc hN hi hj hij hx hy (pa_cons h1 (pa_cons h2 pa_nil a2) a1) hw hs) fun D σ H ⟨w, env, r, a, h⟩ => by
  refine ⟨w, H0, env, r, a.g, a.s, (FlowP.ofM a h).imp fun xs r1 w1 H1 st g1 q p vs hp hP hR hh d z => ?_⟩
  obtain ⟨b1, h1⟩ := q
  refine ⟨w1, H0, env, r1, b1.g, b1.s, (FlowP.ofM b1 h1).imp fun t r2 w2 H2 st2 g2 q v dv => ?_⟩
  obtain ⟨b2, h2⟩ := q
  have hh2 : H2 p = some (.lst vs) := st2.fr _ _ hR hh (by intro _ e; cases e)
  have hP2 := st2.hid p hR (vs_of hh) hP
  have hR2 := st2.noR hR (vs_of hh)
  have s2 := b2.s.setOwn i (fun j sl b hj pj hb => a.notNew hj pj hb hp) hP2 hR2 (fun z => hp (a.st.keep _ z)) hh2 (.lst z (d.mono st2.later))
  exact ⟨_, _, rfl, h2 w2 H2 _ b2.st b2.g (s2.setVal j dv)⟩
theorem ss_par2vo {i j : Nat} {x y : Str} {e1 e2 : Expr} {f : Env → M T} {g : Env → M (List T)} {px py pt : Pos} {kt k2 pt2} (hc : X.calm = true) (hN : X.N.Nodup) (hi : X.N[i]? = some x) (hj : X.N[j]? = some y) (hij : i ≠ j)
    (hx : X.env.scope.names.lookup x = some .local) (hy : X.env.scope.names.lookup y = some .local) (h1 : SE X G W e1 f) (h2 : SL X G W e2 g)
    (hw : swappedStores [.Tuple [.Name x px, .Name y py] kt pt] (.Tuple [e1, e2] k2 pt2) X.env = pure (some [x, y]))
    (hs : swapsWithSole [.Tuple [.Name x px, .Name y py] kt pt] (.Tuple [e1, e2] k2 pt2) pos.line X.env = pure false)
    (a1 : starEach [e1, e2] X.env = (false, eval e1 X.env) :: starEach [e2] X.env) (a2 : starEach [e2] X.env = (false, eval e2 X.env) :: starEach [] X.env) :
    SS X G W (.Assign [.Tuple [.Name x px, .Name y py] kt pt] (.Tuple [e1, e2] k2 pt2) pos) (qPar2vo i j f g) := fun w0 H0 => ps_imp (ps_par hc hN hi hj hij hx hy (pa_cons h1 (pa_cons h2 pa_nil a2) a1) hw hs) fun D σ H ⟨w, env, r, a, h⟩ => by
  refine ⟨w, H0, env, r, a.g, a.s, (FlowP.ofM a h).imp fun t r1 w1 H1 st g1 q v dv => ?_⟩
  obtain ⟨b1, h1⟩ := q
  refine ⟨w1, H0, env, r1, b1.g, b1.s, (FlowP.ofM b1 h1).imp fun xs r2 w2 H2 st2 g2 q p vs hp hP hR hh d z => ?_⟩
  obtain ⟨b2, h2⟩ := q
  have s2 := b2.s.setOwn j (fun j sl b hj pj hb => b1.notNew hj pj hb hp) hP hR (fun z => hp (b1.st.keep _ z)) hh (.lst z d)
  refine ⟨_, _, rfl, ?_⟩
  rw [set_comm _ hij]
  exact h2 w2 H2 _ b2.st b2.g (s2.setVal i (dv.mono st2.later))
theorem Bd.par2ov {jj : Nat} (B : Bd X G W jj) (i j : Nat) {x y : Str} {e1 e2 : Expr} {f : Env → M (List T)} {g : Env → M T} {px py pt : Pos} {kt k2 pt2} (h1 : SL X G W e1 f) (h2 : SE X G W e2 g) (hi : X.N[i]? = some x := by rfl) (hj : X.N[j]? = some y := by rfl) (hij : i ≠ j := by decide)
    (hx : X.env.scope.names.lookup x = some .local := by rfl) (hy : X.env.scope.names.lookup y = some .local := by rfl)
    (hw : swappedStores [.Tuple [.Name x px, .Name y py] kt pt] (.Tuple [e1, e2] k2 pt2) X.env = pure (some [x, y]) := by rfl)
    (hs : swapsWithSole [.Tuple [.Name x px, .Name y py] kt pt] (.Tuple [e1, e2] k2 pt2) pos.line X.env = pure false := by rfl)
    (a1 : starEach [e1, e2] X.env = (false, eval e1 X.env) :: starEach [e2] X.env := by rfl) (a2 : starEach [e2] X.env = (false, eval e2 X.env) :: starEach [] X.env := by rfl) :
    SS X G W (.Assign [.Tuple [.Name x px, .Name y py] kt pt] (.Tuple [e1, e2] k2 pt2) pos) (qPar2ov i j f g) := ss_par2ov B.calm B.nd hi hj hij hx hy h1 h2 hw hs a1 a2
theorem Bd.par2vo {jj : Nat} (B : Bd X G W jj) (i j : Nat) {x y : Str} {e1 e2 : Expr} {f : Env → M T} {g : Env → M (List T)} {px py pt : Pos} {kt k2 pt2} (h1 : SE X G W e1 f) (h2 : SL X G W e2 g) (hi : X.N[i]? = some x := by rfl) (hj : X.N[j]? = some y := by rfl) (hij : i ≠ j := by decide)
    (hx : X.env.scope.names.lookup x = some .local := by rfl) (hy : X.env.scope.names.lookup y = some .local := by rfl)
    (hw : swappedStores [.Tuple [.Name x px, .Name y py] kt pt] (.Tuple [e1, e2] k2 pt2) X.env = pure (some [x, y]) := by rfl)
    (hs : swapsWithSole [.Tuple [.Name x px, .Name y py] kt pt] (.Tuple [e1, e2] k2 pt2) pos.line X.env = pure false := by rfl)
    (a1 : starEach [e1, e2] X.env = (false, eval e1 X.env) :: starEach [e2] X.env := by rfl) (a2 : starEach [e2] X.env = (false, eval e2 X.env) :: starEach [] X.env := by rfl) :
    SS X G W (.Assign [.Tuple [.Name x px, .Name y py] kt pt] (.Tuple [e1, e2] k2 pt2) pos) (qPar2vo i j f g) := ss_par2vo B.calm B.nd hi hj hij hx hy h1 h2 hw hs a1 a2
end
end Ep
namespace Ep
open PySem PySem.Spec L2
/-! ### a walk through a list that is changed by several defs, as long as it stays as it is -/
def chkR (c : Option (Nat × List T)) (r : RS) : Prop := match c with
  | none => True
  | some (k, ys) => r[k]? = some ys
open Classical in
noncomputable def loopG (c : Option (Nat × List T)) (h : T → Env → Option Env) (g : Sm) : List T → Sm
  | [], env, r => if chkR c r then .nx env r else .bad
  | x :: xs, env, r => if chkR c r then (match h x env with
    | none => .bad
    | some env1 => match g env1 r with
      | .nx e r' => loopG c h g xs e r'
      | .ct e r' => loopG c h g xs e r'
      | .bk e r' => .nx e r'
      | .rt t r' => .rt t r'
      | .exn c p e r' => .exn c p e r'
      | .bad => .bad) else .bad
noncomputable def qForG (f : Env → M (List T × Option (Nat × List T))) (h : T → Env → Option Env) (g : Sm) : Sm := fun env r => ofM env (fun p r => loopG p.2 h g p.1 env r) (f env r)
theorem loopG_nil {c : Option (Nat × List T)} {h : T → Env → Option Env} {g : Sm} {env : Env} {r : RS} (hc : chkR c r) : loopG c h g [] env r = .nx env r := by unfold loopG; rw [if_pos hc]
theorem loopG_cons {c : Option (Nat × List T)} {h : T → Env → Option Env} {g : Sm} {x : T} {xs : List T} {env : Env} {r : RS} (hc : chkR c r) : loopG c h g (x :: xs) env r = (match h x env with
    | none => .bad
    | some env1 => match g env1 r with
      | .nx e r' => loopG c h g xs e r'
      | .ct e r' => loopG c h g xs e r'
      | .bk e r' => .nx e r'
      | .rt t r' => .rt t r'
      | .exn c p e r' => .exn c p e r'
      | .bad => .bad) := by rw [loopG, if_pos hc]
theorem loopG_chk {G : Gm} {W : WX} {w0 : Wd} {H0 : Hp} {D : Ends} {c : Option (Nat × List T)} {h : T → Env → Option Env} {g : Sm} : ∀ {xs : List T} {env : Env} {r : RS}, FlowP G W w0 H0 D (loopG c h g xs env r) → chkR c r
  | [], env, r, q => by
    unfold loopG at q
    by_cases hc : chkR c r
    · exact hc
    · rw [if_neg hc] at q; exact q.elim
  | x :: xs, env, r, q => by
    rw [loopG] at q
    by_cases hc : chkR c r
    · exact hc
    · rw [if_neg hc] at q; exact q.elim
def ItOkG (G : Gm) (w : Wd) (J : It) (xs : List T) (c : Option (Nat × List T)) : Prop := ∃ Gd Y, Walk J xs.length Gd Y ∧ (∀ w' H' r', Later w w' → Good G w' H' r' → chkR c r' → Gd H') ∧
  ∀ i H1 v H2 w1 r1, Later w w1 → Good G w1 H1 r1 → chkR c r1 → i < xs.length → Y i H1 v H2 → ∃ t w2, xs[i]? = some t ∧ Step w1 H1 w2 H2 ∧ Good G w2 H2 r1 ∧ Den G w2 v t
theorem ItOk.g {G : Gm} {w : Wd} {J : It} {xs : List T} (h : ItOk G w J xs) (c : Option (Nat × List T)) : ItOkG G w J xs c := by
  obtain ⟨Gd, Y, h1, h2, h3⟩ := h
  exact ⟨Gd, Y, h1, fun w' H' r' a b _ => h2 w' H' r' a b, fun i H1 v H2 w1 r1 a b _ => h3 i H1 v H2 w1 r1 a b⟩
def tSIG (G : Gm) (W : WX) (f : Env → M (List T × Option (Nat × List T))) : TI := fun σ H R => ∃ w H0 env r, Good G w H r ∧ Slots G w H0 H σ env ∧ OutP G w H (WE0 W σ) (fun p _ w' H' => ∀ J, ItOkG G w' J p.1 p.2 → R J H') (f env r)
abbrev SIG (X : Cx) (G : Gm) (W : WX) (tg e : Expr) (f : Env → M (List T × Option (Nat × List T))) : Prop := PI X tg e (tSIG G W f)
section
variable {X : Cx} {G : Gm} {W : WX} {pos : Pos}
theorem ss_forG {us : List Nat} {iter tg : Expr} {body : List Stmt} {f : Env → M (List T × Option (Nat × List T))} {h : T → Env → Option Env} {g : Sm} (hp : PassesOwn (model X.prog X.w) X.A X.env X.xe) (hc : X.calm = true) (hi : SIG X G W tg iter f) (hg : SG X G us tg h) (hb : SSs X G W body g)
    (hs : ∀ x, foldedSetIterable iter X.env x = pure x := by intro _; rfl) : SS X G W (.For tg iter body [] pos) (qForG f h g) := by
  intro w0 H0
  refine ⟨fun pins s σ H D I ⟨w, env, r, a, hq⟩ => ?_⟩
  refine (ps_for hp hc hi (pg_x hg) (pss_x hb) hs).run pins s σ H D I ?_
  refine ⟨w, H0, env, r, a.g, a.s, (FlowP.ofM a hq).imp fun xc r1 w1 H1 st1 g1 q J it => ?_⟩
  obtain ⟨xs, c⟩ := xc
  obtain ⟨a1, hf⟩ := q
  obtain ⟨Gd, Y, wk, hG, hY⟩ := it
  obtain ⟨Hc, stc, ac⟩ := a1.rebase
  have hf : FlowP G W w0 H0 D (loopG c h g xs env r1) := hf
  refine for_it wk (fun i σ H => ∃ w' env r, At G w1 Hc w' H σ env r ∧ FlowP G W w1 Hc D (loopG c h g (xs.drop i) env r)) ⟨w1, env, r1, ac, hf.base stc⟩ (fun i σ' H' _ ⟨w', env', r', a', hl⟩ => hG w' H' r' a'.st.later a'.g (loopG_chk hl)) ?_ ?_
  · rintro i x σ' H2 H3 hlt ⟨w', env', r', a', hl⟩ y
    have ck := loopG_chk hl
    obtain ⟨t, w2, ht, st2, g2, d⟩ := hY i H2 x H3 w' r' a'.st.later a'.g ck hlt y
    have a2 := a'.step st2 g2
    have ed : xs.drop i = t :: xs.drop (i + 1) := by
      rw [List.drop_eq_getElem_cons hlt]
      rw [List.getElem?_eq_getElem hlt] at ht
      cases ht
      rfl
    rw [ed, loopG_cons ck] at hl
    cases q : h t env' with
    | none => rw [q] at hl; exact hl.elim
    | some env1 =>
      rw [q] at hl
      refine ⟨w1, Hc, w2, env', r', t, env1, a2, d, q, fun σ2 s2 _ => ⟨w1, Hc, w2, env1, r', ⟨a2.st, a2.g, s2⟩, ?_⟩⟩
      simp only at hl
      cases o : g env1 r' with
      | nx e r2 => rw [o] at hl; exact fun w3 H4 σ3 st g s => ⟨w3, e, r2, ⟨st, g, s⟩, hl⟩
      | ct e r2 => rw [o] at hl; exact fun w3 H4 σ3 st g s => ⟨w3, e, r2, ⟨st, g, s⟩, hl⟩
      | bk e r2 => rw [o] at hl; exact hl
      | rt u r2 => rw [o] at hl; exact hl
      | exn c p e r2 => rw [o] at hl; exact hl
      | bad => rw [o] at hl; exact hl
  · rintro σ' H2 ⟨w', env', r', a', hl⟩
    have hl : FlowP G W w1 Hc D (loopG c h g (xs.drop xs.length) env' r') := hl
    rw [List.drop_length] at hl
    have ck := loopG_chk hl
    rw [loopG_nil ck] at hl
    exact hl w' H2 σ' a'.st a'.g a'.s
theorem walk_enumR {K : PySem.W.Frag} {a : Addr} {n : Nat} : Walk (Ite K a) n (fun H => ∃ vs : List V, vs.length = n ∧ SqL K H a vs) (fun i H v H' => ∃ (T : Addr) (x : V), v = .ref T ∧ H T = none ∧ H' = upd H T (.tup [.int (i : Nat), x]) ∧ ∀ vs, SqL K H a vs → vs[i]? = some x) := by
  refine ⟨fun i H hi q => ?_, fun H q => ?_, fun i H v H' _ q y => ?_⟩
  · obtain ⟨vs, hl, h⟩ := q
    exact ⟨vs, vs[i], h, by simp [hl, hi]⟩
  · obtain ⟨vs, hl, h⟩ := q
    exact ⟨vs, h, by omega⟩
  · obtain ⟨T, x, h1, h2, h3, h4⟩ := y
    exact ⟨T, x, h1, h2, h3, h4⟩
theorem it_eR {w : Wd} {a : Addr} {k : Nat} {ys : List T} (hk : w.R[k]? = some a) : ItOkG G w (Ite G.K a) (enumL 0 ys) (some (k, ys)) := by
  have same : ∀ w' H' r', Later w w' → Good G w' H' r' → r'[k]? = some ys → ∃ vs, H' a = some (.lst vs) ∧ Dens G w' vs ys := fun w' H' r' L g c => by
    obtain ⟨a', vs, h1, h2, h3, h4⟩ := g.refs.at_ k ys c
    obtain ⟨more, e⟩ := L.refs
    have : w'.R[k]? = some a := by
      rw [e, List.getElem?_append_left (List.getElem?_eq_some_iff.mp hk).1]; exact hk
    rw [this] at h1
    cases h1
    exact ⟨vs, h2, h3⟩
  refine ⟨_, _, by rw [enumL_len]; exact walk_enumR, fun w' H' r' L g c => ?_, fun i H1 v H2 w1 r1 L g c hi y => ?_⟩
  · obtain ⟨vs, h1, h2⟩ := same w' H' r' L g c
    exact ⟨vs, h2.length, SqL.of h1⟩
  · obtain ⟨p, x, ev, hp, e2, hx⟩ := y
    subst ev
    obtain ⟨vs, h1, h2⟩ := same w1 H1 r1 L g c
    have ey := hx vs (SqL.of h1)
    obtain ⟨t, ht, hd⟩ := h2.getV ey
    obtain ⟨w2, st, g2, d2⟩ := pair_new g hp e2 (.int (i : Nat)) hd
    exact ⟨_, w2, by rw [enumL_at ys 0 i t ht, Nat.zero_add], st, g2, d2⟩
def EnTltR (r : RS) : T → Option (List T × Option (Nat × List T))
  | .lst xs => some (xs, none)
  | .kls xs => some (xs, none)
  | .tup xs => some (xs, none)
  | .ref k => (r[k]?).map fun ys => (ys, some (k, ys))
  | _ => none
def fEnumG (f : Env → M T) : Env → M (List T × Option (Nat × List T)) := fun env => f env >>= fun t => fun r => M.lift ((EnTltR r t).map fun p => (enumL 0 p.1, p.2)) r
theorem i_enumG {a : Expr} {f : Env → M T} {p tpos : Pos} {elts : List Expr} {kk : Nat} (hK : X.K = G.K) (hg : Gl X "enumerate") (hm : X.mg "enumerate" = none) (ha : SE X G W a f) (hs : starEach [a] X.env = [(false, eval a X.env)] := by rfl) :
    SIG X G W (.Tuple elts kk tpos) (.Call (.Name "enumerate" p) [a] [] pos) (fEnumG f) :=
  pi_imp (EnT.pi_enumA hg hm (pa_cons ha pa_nil hs) hs) fun σ H R ⟨w, H0, env, r, g, s, h⟩ => by
    refine seqE g s h fun t r1 w1 H1 v g1 s1 st1 d h1 => ?_
    have h1 : OutP G w1 H1 (WE0 W σ) (fun p _ w' H' => ∀ J, ItOkG G w' J p.1 p.2 → R J H') (M.lift ((EnTltR r1 t).map fun p => (enumL 0 p.1, p.2)) r1) := h1
    show ∃ a xs, [v] = [V.ref a] ∧ _
    rw [hK]
    cases d with
    | lst h z dd => exact ⟨_, _, rfl, .inl ⟨g1.sub.seq (.inl (.inl h)), OutP.here g1 h1 _ ((it_e (.inl (.inl h)) dd).g _)⟩⟩
    | kls h z dd => exact ⟨_, _, rfl, .inl ⟨g1.sub.seq h, OutP.here g1 h1 _ ((it_e h dd).g _)⟩⟩
    | tup h z dd => exact ⟨_, _, rfl, .inr ⟨tup_sq g1.sub h, OutP.here g1 h1 _ ((it_eT h dd).g _)⟩⟩
    | @ref k b h =>
      cases q : r1[k]? with
      | none =>
        have e : EnTltR r1 (.ref k) = none := by show (r1[k]?).map _ = none; rw [q]; rfl
        rw [e] at h1
        exact h1.elim
      | some ys =>
        have e : EnTltR r1 (.ref k) = some (ys, some (k, ys)) := by show (r1[k]?).map _ = _; rw [q]; rfl
        rw [e] at h1
        obtain ⟨b', vs, k1, k2, k3, k4⟩ := g1.refs.at_ k ys q
        rw [h] at k1
        cases k1
        exact ⟨_, _, rfl, .inl ⟨SqL.of k2, OutP.here g1 h1 _ (it_eR h)⟩⟩
    | _ => exact h1.elim
end
end Ep
/-! int of a whole number, a truth or a short text of figures -/
namespace Ep
open PySem PySem.Spec L2 PyProof.Rows
def intTS (r : RS) (t : T) : Option T := match t with
  | .str z => if z.length ≤ 640 then (PySem.intText? z).map .int else none
  | t => intT r t
section
variable {X : Cx} {G : Gm} {W : WX} {pos : Pos} {a : Expr} {f : Env → M T}
abbrev rIntTS : List V → Hp → VK → Prop := fun xs H Q => ((∃ i, xs = [.int i] ∧ Q (.int i) H) ∨ ∃ k, xs = [.bl k] ∧ Q (.int (if k then 1 else 0)) H) ∨ ∃ a n, xs = [.str a] ∧ PySem.intText? a = some n ∧ a.length ≤ 640 ∧ Q (.int n) H
theorem v_intTS : B1 G rIntTS intTS := fun w H r v t z Q g d e q => by
  cases t with
  | str y =>
    obtain rfl : v = .str y := d.str
    have e : (if y.length ≤ 640 then (PySem.intText? y).map T.int else none) = some z := e
    by_cases short : y.length ≤ 640
    · rw [if_pos short] at e
      obtain ⟨n, en, rfl⟩ := Option.map_eq_some_iff.mp e
      exact .inr ⟨y, n, rfl, en, short, q _ w H (Step.refl _ _) g (.int _)⟩
    · rw [if_neg short] at e; cases e
  | _ => exact .inl (v_int w H r v _ z Q g d e q)
theorem Bd.intTS {j : Nat} (B : Bd X G W j) {p : Pos} (m : G.mg "int" = none) (ha : SK X G W a f) (hg : Gl X "int" := by rfl) (hs : starEach [a] X.env = (false, eval a X.env) :: starEach [] X.env := by rfl) : SE X G W (.Call (.Name "int" p) [a] [] pos) (fB1 Ep.intTS f) :=
  s_t1 (call_int1.or call_int_str) v_intTS hg (by rw [B.eM]; exact m) rfl ha hs
end
end Ep
namespace Ep
open PySem PySem.Spec L2
/-! ### steps, for the walker (wk.hd) -/
section
variable {f g k : Env → M T} {p q : Env → M Bool} {env env' env2 e : Env} {r r1 r2 r3 : RS} {x y z t u : T} {s s' : Sm} {so : SO} {b c : Bool} {n C : Nat} {F : List T → M T} {ts vs us : List T} {fs : List (Env → M T)}
theorem x_call {o : Out T} (h1 : fAll fs env r = .ok ts r1) (h2 : F ts r1 = o) : fCall F [] fs env r = o := bind_ok h1 (by rw [List.append_nil]; exact h2)
theorem x_make {F : List T → M (List T)} (h1 : fAll fs env r = .ok ts r1) (h2 : F ts r1 = .ok us r2) : fMake C F [] fs env r = .ok (.obj C us) r2 := bind_ok h1 (by rw [List.append_nil]; exact bind_ok h2 rfl)
theorem x_meth {o : Out T} (h1 : f env r = .ok (.obj C vs) r1) (h2 : fAll fs env r1 = .ok ts r2) (h3 : F (.obj C vs :: ts) r2 = o) : fMeth C F [] f fs env r = o := e_meth h1 h2 (by rw [List.append_nil]; exact h3)
theorem x_fld {m : Nat → Option Nat} {j : Nat} (h1 : f env r = .ok (.obj C vs) r1) (h2 : m C = some j) (h3 : vs[j]? = some t) : fFld m f env r = .ok t r1 := bind_ok h1 (by
  show M.lift ((m C).bind fun j => vs[j]?) r1 = _
  rw [h2]
  show M.lift (vs[j]?) r1 = _
  rw [h3]; rfl)
theorem x_exn {α β : Type} {m : M α} {k : α → M β} {c : Nat} {p : T} (h1 : m r = .exn c p r1) : (m >>= k) r = .exn c p r1 := by
  show M.bind m k r = _
  unfold M.bind
  rw [h1]
theorem x_makeX {F : List T → M (List T)} {c : Nat} {p : T} (h1 : fAll fs env r = .ok ts r1) (h2 : F ts r1 = .exn c p r2) : fMake C F [] fs env r = .exn c p r2 := bind_ok h1 (by rw [List.append_nil]; exact x_exn h2)
theorem x_exprX {c : Nat} {p : T} (h : f env r = .exn c p r1) : qExpr f env r = .exn c p env r1 := by unfold qExpr ofM; rw [h]
theorem x_retX {c : Nat} {p : T} (h : f env r = .exn c p r1) : qRet f env r = .exn c p env r1 := by unfold qRet ofM; rw [h]
theorem x_setX {i c : Nat} {p : T} (h : f env r = .exn c p r1) : qSet i f env r = .exn c p env r1 := by unfold qSet ofM; rw [h]
theorem x_expr (h : f env r = .ok t r1) : qExpr f env r = .nx env r1 := by unfold qExpr ofM; rw [h]
theorem x_seqX {c : Nat} {p : T} (h : s env r = .exn c p e r1) : qSeq s s' env r = .exn c p e r1 := by unfold qSeq; rw [h]
theorem x_fnX {m c : Nat} {p : T} (h : s (envOf m ts) r = .exn c p e r1) : fnS m s ts r = .exn c p r1 := by unfold fnS; rw [h]
theorem x_raise {i : Nat} (h : f env r = .ok t r1) : qRaise i f env r = .exn i t env r1 := by unfold qRaise ofM; rw [h]
theorem x_own {i : Nat} {f : Env → M (List T)} {xs : List T} (h : f env r = .ok xs r1) : qOwn i f env r = .nx (env.set i (.own xs)) r1 := by unfold qOwn ofM; rw [h]
theorem x_app {i : Nat} {xs : List T} (h : f env r = .ok t r1) (he : env[i]? = some (.own xs)) (hl : xs.length < 100000) : qApp i f env r = .nx (env.set i (.own (xs ++ [t]))) r1 := by
  have e1 : isMut env i = true := by unfold isMut; rw [he]
  have e2 : mutGet env i r1 = some xs := by unfold mutGet; rw [he]
  have e3 : mutSet env i r1 (xs ++ [t]) = .nx (env.set i (.own (xs ++ [t]))) r1 := by unfold mutSet; rw [he]
  unfold qApp
  rw [if_pos e1, h]
  show (match mutGet env i r1 with
    | some xs => if xs.length < 100000 then mutSet env i r1 (xs ++ [t]) else .bad
    | none => .bad) = _
  rw [e2]
  show (if xs.length < 100000 then mutSet env i r1 (xs ++ [t]) else .bad) = _
  rw [if_pos hl, e3]
theorem x_notF (h1 : p env r = .ok true r1) : fNotB p env r = .ok false r1 := e_notB h1
theorem x_notT (h1 : p env r = .ok false r1) : fNotB p env r = .ok true r1 := e_notB h1
theorem x_nvF (h1 : f env r = .ok (.bl true) r1) : fNot f env r = .ok (.bl false) r1 := e_not h1
theorem x_nvT (h1 : f env r = .ok (.bl false) r1) : fNot f env r = .ok (.bl true) r1 := e_not h1
theorem x_ref {f : Env → M (List T)} {xs : List T} (h : f env r = .ok xs r1) : fRef f env r = .ok (.ref r1.length) (r1 ++ [xs]) := by
  unfold fRef; rw [h]
theorem x_seqL {xs : List T} (h : f env r = .ok t r1) (h2 : seqT r1 t = some xs) : fSeqL f env r = .ok xs r1 := bind_ok h (by
  show M.lift (seqT r1 t) r1 = _
  rw [h2]; rfl)
theorem x_it {xs : List T} (h : f env r = .ok t r1) (h2 : iterT t = some xs) : fIter f env r = .ok xs r1 := bind_ok h (by rw [h2]; rfl)
theorem x_sl2 {i j : Int} (h1 : f env r = .ok x r1) (h2 : g env r1 = .ok (.int i) r2) (h3 : k env r2 = .ok (.int j) r3) (h4 : slT r3 x (some i) (some j) = some y) : fSl f (some g) (some k) env r = .ok y r3 := by
  refine bind_ok h1 (bind_ok (a := some i) (r1 := r2) (bind_ok h2 rfl) (bind_ok (a := some j) (r1 := r3) (bind_ok h3 rfl) ?_))
  show M.lift (slT r3 x (some i) (some j)) r3 = _
  rw [h4]; rfl
theorem x_sl0 {j : Int} (h1 : f env r = .ok x r1) (h3 : k env r1 = .ok (.int j) r2) (h4 : slT r2 x none (some j) = some y) : fSl f none (some k) env r = .ok y r2 := by
  refine bind_ok h1 (bind_ok (a := none) (r1 := r1) rfl (bind_ok (a := some j) (r1 := r2) (bind_ok h3 rfl) ?_))
  show M.lift (slT r2 x none (some j)) r2 = _
  rw [h4]; rfl
theorem x_sl1 {j : Int} (h1 : f env r = .ok x r1) (h3 : k env r1 = .ok (.int j) r2) (h4 : slT r2 x (some j) none = some y) : fSl f (some k) none env r = .ok y r2 := by
  refine bind_ok h1 (bind_ok (a := some j) (r1 := r2) (bind_ok h3 rfl) (bind_ok (a := none) (r1 := r2) rfl ?_))
  show M.lift (slT r2 x (some j) none) r2 = _
  rw [h4]; rfl
theorem x_sl {r2 : RS} (h1 : f env r = .ok x r1) (h4 : slT r1 x none none = some y) : fSl f none none env r = .ok y r1 := by
  refine bind_ok h1 (bind_ok (a := none) (r1 := r1) rfl (bind_ok (a := none) (r1 := r1) rfl ?_))
  show M.lift (slT r1 x none none) r1 = _
  rw [h4]; rfl
theorem x_str1 {h : Str → T → Option T} {a : Str} (h1 : f env r = .ok (.str a) r1) (h2 : g env r1 = .ok y r2) (h3 : h a y = some z) : fStr1 h f g env r = .ok z r2 := bind_ok h1 (bind_ok h2 (by rw [h3]; rfl))
theorem x_comp {ws : List Nat} {h : T → Env → Option Env} {fi : Env → M (List T)} {xs ys : List T} (h1 : fi env r = .ok xs r1) (h2 : compF ws h p f xs [] env r1 = .ok ys r2) : fComp ws h p f fi env r = .ok ys r2 := bind_ok h1 h2
theorem x_rng1 {xs : List T} (h1 : f env r = .ok x r1) (h2 : rng1T [x] = some xs) : fRng1 f env r = .ok xs r1 := bind_ok (e_cons h1 e_nil) (by rw [h2]; rfl)
theorem x_rng2 {xs : List T} (h1 : f env r = .ok x r1) (h2 : g env r1 = .ok y r2) (h3 : rng2T [x, y] = some xs) : fRng2 f g env r = .ok xs r2 := bind_ok (e_cons h1 (e_cons h2 e_nil)) (by rw [h3]; rfl)
theorem x_par3 {i j l : Nat} (h : fAll fs env r = .ok [x, y, z] r1) : qPar3 i j l fs env r = .nx (((env.set i (.val x)).set j (.val y)).set l (.val z)) r1 := by
  unfold qPar3 ofM; rw [h]
theorem x_chain {h h' : T → T → Option Bool} (h1 : f env r = .ok x r1) (h2 : g env r1 = .ok y r2) (h3 : h x y = some true) (h4 : k env r2 = .ok z r3) (h5 : h' y z = some b) : fChain h h' f g k env r = .ok (.bl b) r3 :=
  bind_ok h1 (bind_ok h2 (bind_ok (a := true) (r1 := r2) (by rw [h3]; rfl) (by rw [if_pos rfl]; exact bind_ok h4 (by rw [h5]; rfl))))
theorem x_chainF {h h' : T → T → Option Bool} (h1 : f env r = .ok x r1) (h2 : g env r1 = .ok y r2) (h3 : h x y = some false) : fChain h h' f g k env r = .ok (.bl false) r2 :=
  bind_ok h1 (bind_ok h2 (bind_ok (a := false) (r1 := r2) (by rw [h3]; rfl) rfl))
theorem x_chainB {h h' : T → T → Option Bool} (h1 : f env r = .ok x r1) (h2 : g env r1 = .ok y r2) (h3 : h x y = some true) (h4 : k env r2 = .ok z r3) (h5 : h' y z = some b) : fChainB h h' f g k env r = .ok b r3 :=
  bind_ok h1 (bind_ok h2 (bind_ok (a := true) (r1 := r2) (by rw [h3]; rfl) (by rw [if_pos rfl]; exact bind_ok h4 (by rw [h5]; rfl))))
theorem x_chainBF {h h' : T → T → Option Bool} (h1 : f env r = .ok x r1) (h2 : g env r1 = .ok y r2) (h3 : h x y = some false) : fChainB h h' f g k env r = .ok false r2 :=
  bind_ok h1 (bind_ok h2 (bind_ok (a := false) (r1 := r2) (by rw [h3]; rfl) rfl))
/-! own comparisons -/
theorem x_own2s {o : Out T} (h1 : f env r = .ok x r1) (h2 : g env r1 = .ok y r2) (h3 : own2s C F x y r2 = o) : (f env >>= fun x => g env >>= fun y => own2s C F x y) r = o := bind_ok h1 (bind_ok h2 h3)
theorem x_own2n {o : Out T} (h1 : f env r = .ok x r1) (h2 : g env r1 = .ok y r2) (h3 : own2n C F x y r2 = o) : (f env >>= fun x => g env >>= fun y => own2n C F x y) r = o := bind_ok h1 (bind_ok h2 h3)
theorem x_own2x {o : Out T} (h1 : f env r = .ok x r1) (h2 : g env r1 = .ok y r2) (h3 : own2x C F x y r2 = o) : (f env >>= fun x => g env >>= fun y => own2x C F x y) r = o := bind_ok h1 (bind_ok h2 h3)
theorem x_own2c {o : Out T} (h1 : f env r = .ok x r1) (h2 : g env r1 = .ok y r2) (h3 : own2c C F x y r2 = o) : (f env >>= fun x => g env >>= fun y => own2c C F x y) r = o := bind_ok h1 (bind_ok h2 h3)
theorem x_own2nc {o : Out T} (h1 : f env r = .ok x r1) (h2 : g env r1 = .ok y r2) (h3 : own2nc C F x y r2 = o) : (f env >>= fun x => g env >>= fun y => own2nc C F x y) r = o := bind_ok h1 (bind_ok h2 h3)
theorem y_own2 (h : F [.obj C vs, y] r = .ok t r1) : own2 C F (.obj C vs) y r = .ok t r1 := by
  show (if C = C then noEx (F [.obj C vs, y]) else M.bad : M T) r = _
  rw [if_pos rfl]
  unfold noEx
  rw [h]
theorem y_own2s (h : F [.obj C vs, .obj C us] r = .ok t r1) : own2s C F (.obj C vs) (.obj C us) r = .ok t r1 := by
  unfold own2s
  rw [if_pos (show sameT C (.obj C vs) (.obj C us) = true from decide_eq_true rfl)]
  exact y_own2 h
theorem y_own2n (h : F [.obj C vs, .obj C us] r = .ok (.bl b) r1) : own2n C F (.obj C vs) (.obj C us) r = .ok (.bl !b) r1 := bind_ok (y_own2s h) rfl
theorem y_own2nT (h : F [.obj C vs, .obj C us] r = .ok (.bl true) r1) : own2n C F (.obj C vs) (.obj C us) r = .ok (.bl false) r1 := y_own2n h
theorem y_own2nF (h : F [.obj C vs, .obj C us] r = .ok (.bl false) r1) : own2n C F (.obj C vs) (.obj C us) r = .ok (.bl true) r1 := y_own2n h
theorem y_own2c (h : F [.obj C vs, x] r = .ok (.bl b) r1) : own2c C F x (.obj C vs) r = .ok (.bl b) r1 := bind_ok (y_own2 h) rfl
theorem y_own2nc (h : F [.obj C vs, x] r = .ok (.bl b) r1) : own2nc C F x (.obj C vs) r = .ok (.bl !b) r1 := bind_ok (y_own2 h) rfl
end
/-! loops, by what stands of the slots -/
theorem x_pass {h : T → Env → Option Env} {s : Sm} {P : Env → Prop} {r : RS} : ∀ (xs : List T) (env : Env), P env → (∀ x ∈ xs, ∀ env, P env → ∃ e1 e2, h x env = some e1 ∧ s e1 r = .nx e2 r ∧ P e2) → ∃ e2, loopF h s xs env r = .nx e2 r ∧ P e2
  | [], env, f, _ => ⟨env, rfl, f⟩
  | x :: xs, env, f, G => by
    obtain ⟨e1, e2, h1, h2, f2⟩ := G x List.mem_cons_self env f
    obtain ⟨e3, h3, f3⟩ := x_pass xs e2 f2 fun y hy => G y (List.mem_cons_of_mem _ hy)
    exact ⟨e3, n_loop h1 h2 h3, f3⟩
theorem x_passR {h : T → Env → Option Env} {s : Sm} {P : Env → RS → Prop} : ∀ (xs : List T) (env : Env) (r : RS), P env r → (∀ x ∈ xs, ∀ env r, P env r → ∃ e1 e2 r2, h x env = some e1 ∧ s e1 r = .nx e2 r2 ∧ P e2 r2) → ∃ e2 r2, loopF h s xs env r = .nx e2 r2 ∧ P e2 r2
  | [], env, r, f, _ => ⟨env, r, rfl, f⟩
  | x :: xs, env, r, f, G => by
    obtain ⟨e1, e2, r2, h1, h2, f2⟩ := G x List.mem_cons_self env r f
    obtain ⟨e3, r3, h3, f3⟩ := x_passR xs e2 r2 f2 fun y hy => G y (List.mem_cons_of_mem _ hy)
    exact ⟨e3, r3, n_loop h1 h2 h3, f3⟩
theorem n_forP {fi : Env → M (List T)} {h : T → Env → Option Env} {s : Sm} {env : Env} {r : RS} {xs : List T} (P : Env → Prop) (h1 : fi env r = .ok xs r) (hp : P env) (st : ∀ x ∈ xs, ∀ env, P env → ∃ e1 e2, h x env = some e1 ∧ s e1 r = .nx e2 r ∧ P e2) : ∃ e2, qFor fi h s env r = .nx e2 r ∧ P e2 := by
  obtain ⟨e2, l, p⟩ := x_pass xs env hp st
  exact ⟨e2, n_for h1 l, p⟩
theorem n_forR {fi : Env → M (List T)} {h : T → Env → Option Env} {s : Sm} {env : Env} {r r1 : RS} {xs : List T} (P : Env → RS → Prop) (h1 : fi env r = .ok xs r1) (hp : P env r1) (st : ∀ x ∈ xs, ∀ env r, P env r → ∃ e1 e2 r2, h x env = some e1 ∧ s e1 r = .nx e2 r2 ∧ P e2 r2) : ∃ e2 r2, qFor fi h s env r = .nx e2 r2 ∧ P e2 r2 := by
  obtain ⟨e2, r2, l, p⟩ := x_passR xs env r1 hp st
  exact ⟨e2, r2, n_for h1 l, p⟩
theorem n_seqP {s s' : Sm} {env : Env} {r r1 : RS} {so : SO} {P : Env → Prop} (h1 : ∃ e2, s env r = .nx e2 r1 ∧ P e2) (h2 : ∀ e2, P e2 → s' e2 r1 = so) : qSeq s s' env r = so := by
  obtain ⟨e2, l, p⟩ := h1
  exact n_seq l (h2 e2 p)
theorem n_seqE {s s' : Sm} {env : Env} {r : RS} {P : Env → RS → Prop} {Q : SO → Prop} (h1 : ∃ e2 r2, s env r = .nx e2 r2 ∧ P e2 r2) (h2 : ∀ e2 r2, P e2 r2 → ∃ so, s' e2 r2 = so ∧ Q so) : ∃ so, qSeq s s' env r = so ∧ Q so := by
  obtain ⟨e2, r2, l, p⟩ := h1
  obtain ⟨so, e, q⟩ := h2 e2 r2 p
  exact ⟨so, n_seq l e, q⟩
/-! what holds of a run's end -/
def Ho (Q : SO → Prop) (so : SO) : Prop := Q so
section
variable {s s' : Sm} {env env' : Env} {r r1 : RS} {t : T} {Q : SO → Prop}
theorem ho_seq (h1 : s env r = .nx env' r1) (h2 : Ho Q (s' env' r1)) : Ho Q (qSeq s s' env r) := by unfold Ho at h2 ⊢; rw [n_seq h1 rfl]; exact h2
theorem ho_ret (h1 : s env r = .rt t r1) (h2 : Q (.rt t r1)) : Ho Q (qSeq s s' env r) := by unfold Ho; rw [n_seqR h1]; exact h2
theorem ho_nil (h : Q (.nx env r)) : Ho Q (qNil env r) := h
theorem ho_if {p : Env → M Bool} {b : Bool} {sa sb s' : Sm} (h1 : p env r = .ok b r1) (h2 : b = true → Ho Q (qSeq sa s' env r1)) (h3 : b = false → Ho Q (qSeq sb s' env r1)) : Ho Q (qSeq (qIf p sa sb) s' env r) := by
  cases b with
  | true =>
    have e : qIf p sa sb env r = sa env r1 := n_ifT h1 rfl
    have := h2 rfl
    unfold Ho qSeq at this ⊢
    rw [e]; exact this
  | false =>
    have e : qIf p sa sb env r = sb env r1 := n_ifF h1 rfl
    have := h3 rfl
    unfold Ho qSeq at this ⊢
    rw [e]; exact this
/-- a loop by what stands behind each turn -/
theorem ho_for {fi : Env → M (List T)} {h : T → Env → Option Env} {g : Sm} {xs : List T} (P : Env → RS → Prop) (h1 : fi env r = .ok xs r1) (hp : P env r1) (st : ∀ x ∈ xs, ∀ env r, P env r → ∃ e1, h x env = some e1 ∧ Ho (fun so => ∃ e2 r2, so = .nx e2 r2 ∧ P e2 r2) (g e1 r))
    (h2 : ∀ env r, P env r → Ho Q (s' env r)) : Ho Q (qSeq (qFor fi h g) s' env r) := by
  obtain ⟨e2, r2, l, p⟩ := n_forR (s := g) (h := h) P h1 hp fun x hx env r p => by
    obtain ⟨e1, a1, e2, r2, a2, a3⟩ := st x hx env r p
    exact ⟨e1, e2, r2, a1, a2, a3⟩
  exact ho_seq l (h2 e2 r2 p)
/-- by what is left and what was done -/
theorem ho_fori {fi : Env → M (List T)} {h : T → Env → Option Env} {g : Sm} {xs : List T} (P : List T → Env → RS → Prop) (h1 : fi env r = .ok xs r1) (hp : P xs env r1) (st : ∀ x ys env r, P (x :: ys) env r → ∃ e1, h x env = some e1 ∧ Ho (fun so => ∃ e2 r2, so = .nx e2 r2 ∧ P ys e2 r2) (g e1 r))
    (h2 : ∀ env r, P [] env r → Ho Q (s' env r)) : Ho Q (qSeq (qFor fi h g) s' env r) := by
  obtain ⟨e2, r2, l, p⟩ := loop_inv (s := g) (h := h) P (fun x ys env r p => by
    obtain ⟨e1, a1, e2, r2, a2, a3⟩ := st x ys env r p
    exact ⟨e1, e2, r2, a1, a2, a3⟩) xs env r1 hp
  exact ho_seq (n_for h1 l) (h2 e2 r2 p)
theorem ho_fn {m : Nat} {ts : List T} {P : T → RS → Prop} (h : Ho (fun so => ∃ t r', so = .rt t r' ∧ P t r') (s (envOf m ts) r)) : ∃ t r', fnS m s ts r = .ok t r' ∧ P t r' := by
  obtain ⟨t, r', e, p⟩ := h
  exact ⟨t, r', n_fn e, p⟩
theorem ho_fnB {m : Nat} {ts : List T} {P : RS → Prop} (h : Ho (fun so => ∃ r', so = .rt (.bl true) r' ∧ P r') (s (envOf m ts) r)) : ∃ r', fnS m s ts r = .ok (.bl true) r' ∧ P r' := by
  obtain ⟨r', e, p⟩ := h
  exact ⟨r', n_fn e, p⟩
end
/-! leaves -/
theorem lf_lt {i j : Int} (h : i < j) : ltT (.int i) (.int j) = some true := by show some (decide (i < j)) = _; rw [decide_eq_true h]
theorem lf_ltF {i j : Int} (h : ¬ i < j) : ltT (.int i) (.int j) = some false := by show some (decide (i < j)) = _; rw [decide_eq_false h]
theorem lf_le {i j : Int} (h : i ≤ j) : leT (.int i) (.int j) = some true := by show some (decide (i ≤ j)) = _; rw [decide_eq_true h]
theorem lf_leF {i j : Int} (h : ¬ i ≤ j) : leT (.int i) (.int j) = some false := by show some (decide (i ≤ j)) = _; rw [decide_eq_false h]
theorem lf_gt {i j : Int} (h : j < i) : gtT (.int i) (.int j) = some true := by show some (decide (j < i)) = _; rw [decide_eq_true h]
theorem lf_gtF {i j : Int} (h : ¬ j < i) : gtT (.int i) (.int j) = some false := by show some (decide (j < i)) = _; rw [decide_eq_false h]
theorem lf_ge {i j : Int} (h : j ≤ i) : geT (.int i) (.int j) = some true := by show some (decide (j ≤ i)) = _; rw [decide_eq_true h]
theorem lf_geF {i j : Int} (h : ¬ j ≤ i) : geT (.int i) (.int j) = some false := by show some (decide (j ≤ i)) = _; rw [decide_eq_false h]
theorem lf_eq {i j : Int} (h : i = j) : eqT (.int i) (.int j) = some true := by show some (i == j) = _; rw [h, beq_self_eq_true]
theorem lf_eqF {i j : Int} (h : i ≠ j) : eqT (.int i) (.int j) = some false := by show some (i == j) = _; rw [beq_eq_false_iff_ne.mpr h]
theorem lf_ne {i j : Int} (h : i ≠ j) : neT (.int i) (.int j) = some true := by show some (!(i == j)) = _; rw [beq_eq_false_iff_ne.mpr h]; rfl
theorem lf_neF {i j : Int} (h : i = j) : neT (.int i) (.int j) = some false := by show some (!(i == j)) = _; rw [h, beq_self_eq_true]; rfl
theorem lf_mulR {i j : Int} (h : -(2 ^ 64) < j ∧ j < 2 ^ 64) : mulT (.int i) (.int j) = some (.int (i * j)) := by
  show (if mulOk i j = true then some (T.int (i * j)) else none) = _
  rw [if_pos]
  unfold mulOk
  rw [decide_eq_true h.1, decide_eq_true h.2]
  simp
theorem lf_mulL {i j : Int} (h : -(2 ^ 64) < i ∧ i < 2 ^ 64) : mulT (.int i) (.int j) = some (.int (i * j)) := by
  show (if mulOk i j = true then some (T.int (i * j)) else none) = _
  rw [if_pos]
  unfold mulOk
  rw [decide_eq_true h.1, decide_eq_true h.2]
  simp
theorem lf_mod {i j : Int} (h : 0 < j) : modT (.int i) (.int j) = some (.int (i % j)) := if_pos h
theorem lf_div {i j : Int} (h : 0 < j) (h2 : j.natAbs < 2 ^ 1000) : divT (.int i) (.int j) = some (.int (i / j)) := by
  refine if_pos ⟨h, ?_⟩
  have := (Nat.log2_lt (by omega : j.natAbs ≠ 0)).mpr h2
  omega
end Ep
local macro_rules | `(tactic| infer_instance) => `(tactic| first
  | with_reducible assumption
  | with_reducible exact Ep.e_nil
  | (with_reducible apply Ep.e_cons) <;> infer_instance
  | (with_reducible apply Ep.e_bin) <;> infer_instance
  | (with_reducible apply Ep.e_un) <;> infer_instance
  | (with_reducible apply Ep.e_b1) <;> infer_instance
  | (with_reducible apply Ep.e_ix) <;> infer_instance
  | (with_reducible apply Ep.e_tup) <;> infer_instance
  | (with_reducible apply Ep.e_lst) <;> infer_instance
  | (with_reducible apply Ep.e_own) <;> infer_instance
  | (with_reducible apply Ep.x_call) <;> infer_instance
  | (with_reducible apply Ep.x_make) <;> infer_instance
  | (with_reducible apply Ep.x_meth) <;> infer_instance
  | (with_reducible apply Ep.x_fld) <;> infer_instance
  | (with_reducible apply Ep.e_cmpB) <;> infer_instance
  | (with_reducible apply Ep.e_cmp) <;> infer_instance
  | (with_reducible apply Ep.e_tru) <;> infer_instance
  | (with_reducible apply Ep.e_toB) <;> infer_instance
  | (with_reducible apply Ep.x_ref) <;> infer_instance
  | (with_reducible apply Ep.x_seqL) <;> infer_instance
  | (with_reducible apply Ep.x_it) <;> infer_instance
  | (with_reducible apply Ep.x_sl2) <;> infer_instance
  | (with_reducible apply Ep.x_sl1) <;> infer_instance
  | (with_reducible apply Ep.x_sl0) <;> infer_instance
  | (with_reducible apply Ep.x_str1) <;> infer_instance
  | (with_reducible apply Ep.x_rng1) <;> infer_instance
  | (with_reducible apply Ep.x_rng2) <;> infer_instance
  | exact rfl)
local macro_rules | `(tactic| infer_instance) => `(tactic| first
  | (with_reducible apply Ep.x_own2s) <;> infer_instance
  | (with_reducible apply Ep.x_own2n) <;> infer_instance
  | (with_reducible apply Ep.x_own2x) <;> infer_instance
  | (with_reducible apply Ep.x_own2c) <;> infer_instance
  | (with_reducible apply Ep.x_own2nc) <;> infer_instance
  | (with_reducible apply Ep.x_notF) <;> infer_instance
  | (with_reducible apply Ep.x_notT) <;> infer_instance
  | (with_reducible apply Ep.x_nvF) <;> infer_instance
  | (with_reducible apply Ep.x_nvT) <;> infer_instance
  | (with_reducible apply Ep.e_notB) <;> infer_instance
  | (with_reducible apply Ep.e_not) <;> infer_instance
  | (with_reducible apply Ep.e_orBF) <;> infer_instance
  | (with_reducible apply Ep.e_orBT) <;> infer_instance
  | (with_reducible apply Ep.e_andBF) <;> infer_instance
  | (with_reducible apply Ep.e_andBT) <;> infer_instance
  | (with_reducible apply Ep.e_orF) <;> infer_instance
  | (with_reducible apply Ep.e_orT) <;> infer_instance
  | (with_reducible apply Ep.e_andF) <;> infer_instance
  | (with_reducible apply Ep.e_andT) <;> infer_instance
  | (with_reducible apply Ep.e_ifF) <;> infer_instance
  | (with_reducible apply Ep.e_ifT) <;> infer_instance
  | (with_reducible apply Ep.x_chain) <;> infer_instance
  | (with_reducible apply Ep.x_chainF) <;> infer_instance
  | (with_reducible apply Ep.x_chainB) <;> infer_instance
  | (with_reducible apply Ep.x_chainBF) <;> infer_instance)
local macro_rules | `(tactic| infer_instance) => `(tactic| first
  | (with_reducible apply Ep.n_set) <;> infer_instance
  | (with_reducible apply Ep.n_par2) <;> infer_instance
  | (with_reducible apply Ep.x_par3) <;> infer_instance
  | (with_reducible apply Ep.n_asg) <;> infer_instance
  | (with_reducible apply Ep.x_expr) <;> infer_instance
  | (with_reducible apply Ep.n_ret) <;> infer_instance
  | (with_reducible apply Ep.x_own) <;> infer_instance
  | (with_reducible apply Ep.x_app) <;> infer_instance
  | (with_reducible apply Ep.x_raise) <;> infer_instance
  | (with_reducible apply Ep.n_ifF) <;> infer_instance
  | (with_reducible apply Ep.n_ifT) <;> infer_instance
  | (with_reducible apply Ep.n_seqR) <;> infer_instance
  | (with_reducible apply Ep.n_seq) <;> infer_instance
  | (with_reducible apply Ep.x_seqX) <;> infer_instance)
local macro_rules | `(tactic| infer_instance) => `(tactic| first
  | (with_reducible apply Ep.lf_lt); omega
  | (with_reducible apply Ep.lf_ltF); omega
  | (with_reducible apply Ep.lf_le); omega
  | (with_reducible apply Ep.lf_leF); omega
  | (with_reducible apply Ep.lf_gt); omega
  | (with_reducible apply Ep.lf_gtF); omega
  | (with_reducible apply Ep.lf_ge); omega
  | (with_reducible apply Ep.lf_geF); omega
  | (with_reducible apply Ep.lf_eq); omega
  | (with_reducible apply Ep.lf_eqF); omega
  | (with_reducible apply Ep.lf_ne); omega
  | (with_reducible apply Ep.lf_neF); omega
  | (with_reducible apply Ep.lf_mulL); omega
  | (with_reducible apply Ep.lf_mulR); omega
  | (with_reducible apply Ep.lf_mod); omega
  | (with_reducible apply Ep.lf_div) <;> omega)
namespace Ep
open PySem PySem.Spec L2
/-! ### == and != where a changed list stands on a side -/
def pyR (r : RS) (t : T) : Option PyData := match t with
  | .ref k => (r[k]?).bind fun xs => (pyTs xs).map PyData.list
  | t => pyT t
def eqR (r : RS) (t u : T) : Option Bool := match pyR r t, pyR r u with
  | some d, some e => if (SeqAt.shaped d && SeqAt.shaped e) = true then some (PyData.eqv d e) else none
  | _, _ => none
def neR (r : RS) (t u : T) : Option Bool := (eqR r t u).map (!·)
section
variable {X : Cx} {G : Gm} {W : WX} {j : Nat} {pos : Pos} {a b : Expr} {f g : Env → M T}
theorem pyR_dp {w : Wd} {H : Hp} {r : RS} {v : V} {t : T} {d : PyData} (gd : Good G w H r) (h : DenB G w H v t) (e : pyR r t = some d) : Dp G.K H v d := by
  cases t with
  | ref k =>
    rcases h with h | ⟨_, _, _, _, e2, _⟩
    · cases h with
      | ref ha =>
        have e : ((r[k]?).bind fun xs => (pyTs xs).map PyData.list) = some d := e
        cases q : r[k]? with
        | none => rw [q] at e; simp at e
        | some xs =>
          obtain ⟨c, vs, h1, h2, h3, h4⟩ := gd.refs.at_ k xs q
          rw [ha] at h1
          cases h1
          rw [q] at e
          have e : (pyTs xs).map PyData.list = some d := e
          cases q2 : pyTs xs with
          | none => rw [q2] at e; simp at e
          | some ds =>
            rw [q2] at e
            obtain rfl := Option.some.inj e
            exact .lst (SqL.of h2) (pyTs_dp gd.sub xs vs ds h3 q2)
    · cases e2
  | _ => exact denB_dp gd h e
theorem eqR_use {w : Wd} {H : Hp} {r : RS} {x y : V} {t u : T} {z : Bool} (gd : Good G w H r) (d1 : DenB G w H x t) (d2 : DenB G w H y u) (e : eqR r t u = some z) : ∃ d e, Dp G.K H x d ∧ Dp G.K H y e ∧ SeqAt.shaped d = true ∧ SeqAt.shaped e = true ∧ z = PyData.eqv d e := by
  unfold eqR at e
  cases q1 : pyR r t with
  | none => rw [q1] at e; simp at e
  | some d =>
    cases q2 : pyR r u with
    | none => rw [q1, q2] at e; simp at e
    | some d' =>
      rw [q1, q2] at e
      have e : (if (SeqAt.shaped d && SeqAt.shaped d') = true then some (PyData.eqv d d') else none) = some z := e
      by_cases h : (SeqAt.shaped d && SeqAt.shaped d') = true
      · rw [if_pos h] at e
        obtain rfl := Option.some.inj e
        have hh := Bool.and_eq_true_iff.mp h
        exact ⟨d, d', pyR_dp gd d1 q1, pyR_dp gd d2 q2, hh.1, hh.2, rfl⟩
      · rw [if_neg h] at e; simp at e
def fCmpR (h : RS → T → T → Option Bool) (f g : Env → M T) : Env → M Bool := fun env => f env >>= fun x => g env >>= fun y => fun r => M.lift (h r x y) r
theorem Bd.neR (B : Bd X G W j) (ha : SK X G W a f) (hb : SK X G W b g) (hm : behindInMarks .NotEq b = false := by rfl) : SB X G W (.Compare a [.NotEq] [b] pos) (fCmpR neR f g) :=
  pt_imp (pt_cmpR (op_neD B.rm.units) ha hb hm) fun σ H Q ⟨w, H0, env, r, g0, s, h0⟩ => by
    refine seqK g0 s h0 fun t r1 w1 H1 x g1 s1 st1 d1 h1 => ?_
    refine seqK g1 s1 h1 fun u r2 w2 H2 y g2 s2 st2 d2 h2 => ?_
    have h2 : OutP G w2 H2 (WE0 W σ) _ (M.lift (Ep.neR r2 t u) r2) := h2
    obtain ⟨z, ez, hz⟩ := liftP h2
    unfold Ep.neR at ez
    cases q : eqR r2 t u with
    | none => rw [q] at ez; simp at ez
    | some b =>
      rw [q] at ez
      obtain rfl := Option.some.inj ez
      obtain ⟨d, d', k1, k2, k3, k4, e⟩ := eqR_use g2 (d1.step st2) d2 q
      subst e
      rw [B.eK]
      exact ⟨d, d', k1, k2, k3, k4, _, rfl, hz w2 H2 (Step.refl _ _) g2⟩
theorem e_neR {env : Env} {r r1 r2 : RS} {x y : T} {b : Bool} (h1 : f env r = .ok x r1) (h2 : g env r1 = .ok y r2) (h3 : Ep.neR r2 x y = some b) : fCmpR Ep.neR f g env r = .ok b r2 := bind_ok h1 (bind_ok h2 (by
  show M.lift (Ep.neR r2 x y) r2 = _
  rw [h3]; rfl))
end
/-! ### [x] * n and xs + ys as new lists -/
def OpL (G : Gm) (r2 : R2) (h : T → T → Option (List T)) : Prop := ∀ w H r x y t u z Q, Good G w H r → Den G w x t → Den G w y u → h t u = some z → (∀ l vs, H l = none → Dens G w vs z → z.length ≤ sizeLine → Q (.ref l) (upd H l (.lst vs))) → r2 x y H Q
def fBinL (h : T → T → Option (List T)) (f g : Env → M T) : Env → M (List T) := fun env => f env >>= fun x => g env >>= fun y => M.lift (h x y)
section
variable {X : Cx} {G : Gm} {W : WX} {pos : Pos} {a b : Expr} {f g : Env → M T}
theorem l_bin {op : Operator} {r2 : R2} {h : T → T → Option (List T)} (ho : OpR X (binaryOp op) r2) (hv : OpL G r2 h) (ha : SE X G W a f) (hb : SE X G W b g) : SL X G W (.BinOp a op b pos) (fBinL h f g) :=
  pe_imp (pe_op ho ha hb) fun σ H Q ⟨w, H0, env, r, g0, s, h0⟩ => by
    refine seqE g0 s h0 fun t r1 w1 H1 x g1 s1 st1 d1 h1 => ?_
    refine seqE g1 s1 h1 fun u r2 w2 H2 y g2 s2 st2 d2 h2 => ?_
    obtain ⟨z, ez, h3⟩ := liftP h2
    refine hv w2 H2 r2 x y t u z Q g2 (d1.mono st2.later) d2 ez fun l vs hl dd zz => ?_
    have st3 : Step w2 H2 w2 (upd H2 l (.lst vs)) := (Step.refl w2 H2).priv hl
    exact h3 w2 _ st3 (new_own g2 hl) l vs (fun z => nvs hl (st1.trans st2 |>.keep l z)) (g2.nopub hl) (g2.noref hl) upd_same dd zz
def repL (t u : T) : Option (List T) := match t, u with
  | .lst xs, .int k => if 0 ≤ k ∧ k ≤ 100000 ∧ xs.length * k.toNat ≤ 100000 then some (List.replicate k.toNat xs).flatten else none
  | _, _ => none
def catL (t u : T) : Option (List T) := match t, u with
  | .lst xs, .lst ys => if xs.length + ys.length ≤ 100000 then some (xs ++ ys) else none
  | _, _ => none
theorem v_repL : OpL G rRep repL := fun w H r x y t u z Q gd d1 d2 e q => by
  cases d1 with
  | @lst p vs ts h1 z1 dd =>
    cases d2 with
    | int k =>
      have e : (if 0 ≤ k ∧ k ≤ 100000 ∧ ts.length * k.toNat ≤ 100000 then some (List.replicate k.toNat ts).flatten else none) = some z := e
      by_cases h : 0 ≤ k ∧ k ≤ 100000 ∧ ts.length * k.toNat ≤ 100000
      · rw [if_pos h] at e
        obtain rfl := Option.some.inj e
        exact ⟨p, k, vs, rfl, rfl, gd.sub _ _ h1, by omega, by omega, by rw [dd.length]; exact le_size h.2.2, fun l hl => q l _ hl (dens_rep dd _) (by rw [len_rep]; exact le_size h.2.2)⟩
      · rw [if_neg h] at e; simp at e
    | _ => simp [repL] at e
  | _ => simp [repL] at e
theorem v_catL : OpL G rCat catL := fun w H r x y t u z Q gd d1 d2 e q => by
  cases d1 with
  | @lst p vs ts h1 z1 dd =>
    cases d2 with
    | @lst p2 vs2 ts2 h2 z2 dd2 =>
      have e : (if ts.length + ts2.length ≤ 100000 then some (ts ++ ts2) else none) = some z := e
      by_cases h : ts.length + ts2.length ≤ 100000
      · rw [if_pos h] at e
        obtain rfl := Option.some.inj e
        exact ⟨p, p2, vs, vs2, rfl, rfl, gd.sub _ _ h1, gd.sub _ _ h2, by rw [dd.length, dd2.length]; exact le_size h, fun l hl => q l _ hl (dd.append dd2) (by rw [List.length_append]; exact le_size h)⟩
      · rw [if_neg h] at e; simp at e
    | _ => simp [catL] at e
  | _ => simp [catL] at e
theorem l_rep (ha : SE X G W a f) (hb : SE X G W b g) : SL X G W (.BinOp a .Mult b pos) (fBinL repL f g) := l_bin op_rep v_repL ha hb
theorem l_cat (ha : SE X G W a f) (hb : SE X G W b g) : SL X G W (.BinOp a .Add b pos) (fBinL catL f g) := l_bin op_cat v_catL ha hb
theorem x_binL {env : Env} {r r1 r2 : RS} {h : T → T → Option (List T)} {x y : T} {z : List T} (h1 : f env r = .ok x r1) (h2 : g env r1 = .ok y r2) (h3 : h x y = some z) : fBinL h f g env r = .ok z r2 := bind_ok h1 (bind_ok h2 (by rw [h3]; rfl))
end
end Ep
namespace Ep
open PySem PySem.Spec L2
/-! ### a def called on instances of several classes; x += an integer -/
def fMethP (Cs : List Nat) (F : List T → M T) (ds : List T) (f : Env → M T) (fs : List (Env → M T)) : Env → M T := fun env => f env >>= fun x => match x with
  | .obj C' vs => if C' ∈ Cs then fAll fs env >>= fun ts => F (.obj C' vs :: (ts ++ ds)) else M.bad
  | _ => M.bad
def qAug (i : Nat) (f : Env → M T) : Sm := fun env r => match env[i]? with
  | some (.val (.int a)) => ofM env (fun t r => match t with
    | .int b => .nx (env.set i (.val (.int (a + b)))) r
    | _ => .bad) (f env r)
  | _ => .bad
section
variable {X : Cx} {G : Gm} {W : WX} {pos apos : Pos} {e : Expr} {es : List Expr} {f : Env → M T} {fs : List (Env → M T)} {ds : List T} {j k n : Nat} {Cs : List Nat}
theorem s_methP {F : List T → M T} {m : Str} {o : Expr} {pl : Sem Bool} (D : ∀ C ∈ Cs, MethOk X.prog X.w X.base G k C m n ds F) (hK : X.K = G.K) (hM : X.mg = G.mg) (tk : Takes X W) (hr : Room j X.A) (hk : k ≤ j) (ho : SE X G W o f) (ha : SA X G W (e :: es) fs) (hn : fs.length + ds.length + 1 = n := by rfl)
    (hst : starEach (e :: es) X.env = (false, eval e X.env) :: starEach es X.env := by rfl) (hpl : (backTo pos (starEach es X.env)).any (·.1) = false := by rfl)
    (ht : eval (.Call (.Attribute o m apos) (e :: es) [] pos) X.env = (do let ov ← eval o X.env; standAt apos.atName; let (f, first) ← holding [ov] (getMethod ov m pl); callWith pos f first (backTo pos (starEach (e :: es) X.env)) (backToKw pos (keywordEach [] X.env))) := by rfl) : SE X G W (.Call (.Attribute o m apos) (e :: es) [] pos) (fMethP Cs F ds f fs) := by
  refine ⟨fun pins s σ H Q I ⟨w, H0, env, r, g0, s0, h0⟩ => ?_⟩
  refine PySem.W.methodCall_KW (pl := pl) (thn (ho.run pins s σ H _ I (seqE g0 s0 h0 fun t r1 w1 H1 x g1 s1 st1 d1 h1 => show (∃ w1 r1 t, Good G w1 H1 r1 ∧ Slots G w1 H0 H1 σ env ∧ Den G w1 x t ∧ OutP G w1 H1 (WE0 W σ) (fun t x w' H' => ∀ (v : V), Den G w' v t → Q v H') ((match t with | .obj C' vs => if C' ∈ Cs then fAll fs env >>= fun ts => F (.obj C' vs :: (ts ++ ds)) else M.bad | _ => M.bad : M T) r1)) from ⟨w1, r1, t, g1, s1, d1, h1⟩)) fun u s1 ⟨v, H1, I1, rv, w1, r1, t, g1, sl1, d1, h2⟩ => ?_) ht
  cases d1 with
  | @obj q cA' dx C' vs ts c h l d =>
    by_cases hC : C' ∈ Cs
    · obtain ⟨cA, fn, fd, ps, dvs, dus, c1, c2, c3, h1, h4, h5, h6⟩ := (D C' hC).ex
      rw [← hK, ← hM] at h1
      rw [c1] at c
      obtain rfl : cA = cA' := Value.ref.inj (Option.some.inj c)
      obtain rfl : u = Value.ref q := rv
      have h2 : OutP G w1 H1 (WE0 W σ) (fun t x w' H' => ∀ (v : V), Den G w' v t → Q v H') ((fAll fs env >>= fun us => F (.obj C' ts :: (us ++ ds))) r1) := by simpa [hC] using h2
      refine getmeth_ok I1 (g1.sub _ _ h) (by rw [hK]; exact c2) (by rw [hK]; exact c3) (lookup_zip_none (D C' hC).nof) ?_
      refine PySem.W.callWith_K (first := [.ref q]) (h₀ := X.base) I.ok.mod.kin (by rw [hK]; exact c3.kp) (thn (ha.run pos pins s1 σ H1 _ I1 (seqA g1 sl1 h2 fun us r2 w2 H2 ws g2 s2 st2 d2 l2 h3 => show (∃ w2 r2 us, Good G w2 H2 r2 ∧ Dens G w2 (.ref q :: (ws ++ dvs)) (.obj C' ts :: (us ++ ds)) ∧ us.length = fs.length ∧ OutP G w2 H2 (WE0 W σ) (fun t x w' H' => ∀ (v : V), Den G w' v t → Q v H') (F (.obj C' ts :: (us ++ ds)) r2)) from ⟨w2, r2, us, g2, .cons ((Den.obj c1 h l d).mono st2.later) (d2.append (h6 w2)), l2, h3⟩)) fun us s2 ⟨ws, H2, I2, rw2, w2, r2, us', g2, d2, l2, h3⟩ => ⟨I2.kIn, ?_⟩) hst hpl
      exact run_fnSD (us := .ref q :: us) (vs := .ref q :: ws) h1 (hr.mono hk) (by rw [hK]; exact h4) h5 (passAt tk σ) I2 (.cons rfl rw2) ⟨w2, r2, _, g2, d2, by rw [List.length_cons, List.length_append, l2, ← hn], h3⟩
    · have h2 : OutP G w1 H1 (WE0 W σ) (fun t x w' H' => ∀ (v : V), Den G w' v t → Q v H') ((M.bad : M T) r1) := by simpa [hC] using h2
      exact h2.elim
  | _ => exact h2.elim
theorem s_methP0 {F : List T → M T} {m : Str} {o : Expr} {pl : Sem Bool} (D : ∀ C ∈ Cs, MethOk X.prog X.w X.base G k C m n ds F) (hK : X.K = G.K) (hM : X.mg = G.mg) (tk : Takes X W) (hr : Room j X.A) (hk : k ≤ j) (ho : SE X G W o f) (hn : ds.length + 1 = n := by rfl)
    (ht : eval (.Call (.Attribute o m apos) [] [] pos) X.env = (do let ov ← eval o X.env; standAt apos.atName; let (f, first) ← holding [ov] (getMethod ov m pl); callWith pos f first (backTo pos (starEach [] X.env)) (backToKw pos (keywordEach [] X.env))) := by rfl) : SE X G W (.Call (.Attribute o m apos) [] [] pos) (fMethP Cs F ds f []) := by
  refine ⟨fun pins s σ H Q I ⟨w, H0, env, r, g0, s0, h0⟩ => ?_⟩
  refine PySem.W.methodCall_KW (pl := pl) (thn (ho.run pins s σ H _ I (seqE g0 s0 h0 fun t r1 w1 H1 x g1 s1 st1 d1 h1 => show (∃ w1 r1 t, Good G w1 H1 r1 ∧ Slots G w1 H0 H1 σ env ∧ Den G w1 x t ∧ OutP G w1 H1 (WE0 W σ) (fun t x w' H' => ∀ (v : V), Den G w' v t → Q v H') ((match t with | .obj C' vs => if C' ∈ Cs then fAll [] env >>= fun ts => F (.obj C' vs :: (ts ++ ds)) else M.bad | _ => M.bad : M T) r1)) from ⟨w1, r1, t, g1, s1, d1, h1⟩)) fun u s1 ⟨v, H1, I1, rv, w1, r1, t, g1, sl1, d1, h2⟩ => ?_) ht
  cases d1 with
  | @obj q cA' dx C' vs ts c h l d =>
    by_cases hC : C' ∈ Cs
    · obtain ⟨cA, fn, fd, ps, dvs, dus, c1, c2, c3, h1, h4, h5, h6⟩ := (D C' hC).ex
      rw [← hK, ← hM] at h1
      rw [c1] at c
      obtain rfl : cA = cA' := Value.ref.inj (Option.some.inj c)
      obtain rfl : u = Value.ref q := rv
      have h2 : OutP G w1 H1 (WE0 W σ) (fun t x w' H' => ∀ (v : V), Den G w' v t → Q v H') (F (.obj C' ts :: ([] ++ ds)) r1) := by
        have h2 : OutP G w1 H1 (WE0 W σ) (fun t x w' H' => ∀ (v : V), Den G w' v t → Q v H') ((if C' ∈ Cs then (fAll [] env >>= fun us => F (.obj C' ts :: (us ++ ds))) else M.bad : M T) r1) := h2
        rw [if_pos hC] at h2
        exact h2
      refine getmeth_ok I1 (g1.sub _ _ h) (by rw [hK]; exact c2) (by rw [hK]; exact c3) (lookup_zip_none (D C' hC).nof) ?_
      exact PySem.W.callWith_K0 (first := [.ref q]) I1.kIn (by rw [hK]; exact c3.kp) (run_fnSD (us := [.ref q]) (vs := [.ref q]) h1 (hr.mono hk) (by rw [hK]; exact h4) h5 (passAt tk σ) I1 (.cons rfl .nil) ⟨w1, r1, _, g1, .cons (.obj c1 h l d) (h6 w1), by simpa using hn, h2⟩)
    · have h2 : OutP G w1 H1 (WE0 W σ) (fun t x w' H' => ∀ (v : V), Den G w' v t → Q v H') ((M.bad : M T) r1) := by simpa [hC] using h2
      exact h2.elim
  | _ => exact h2.elim
theorem ss_aug {i : Nat} {x : Str} {pos' : Pos} (hN : X.N.Nodup) (hi : X.N[i]? = some x) (hx : Loc X.env.scope x) (he : SE X G W e f) (hf : X.fn x = true ∨ X.env.scope.names.lookup x = some .local := by first | exact .inl rfl | exact .inr rfl | assumption) :
    SS X G W (.AugAssign (.Name x pos') .Add e pos) (qAug i f) := fun w0 H0 => ps_imp (ps_aug hN hi hx he ip_add hf) fun D σ H ⟨w, env, r, a, h⟩ => by
  unfold qAug at h
  obtain ⟨oa, hs, _⟩ := a.s.ex
  cases q : env[i]? with
  | none => rw [q] at h; exact h.elim
  | some sl =>
    rw [q] at h
    cases sl with
    | val t =>
      obtain ⟨v, e1, d⟩ := hs i _ q
      cases d with
      | int z =>
        refine ⟨.int z, e1, at_e a h fun t r1 w1 H1 v a1 d1 h1 => ?_⟩
        cases d1 with
        | int b => exact ⟨z, b, rfl, rfl, h1 w1 H1 _ a1.st a1.g (a1.s.setVal i (.int _))⟩
        | _ => exact h1.elim
      | _ => exact h.elim
    | _ => exact h.elim
end
theorem Bd.aug {X : Cx} {G : Gm} {W : WX} {pos pos' : Pos} {e : Expr} {f : Env → M T} {j : Nat} {x : Str} (B : Bd X G W j) (i : Nat) (he : SE X G W e f) (hi : X.N[i]? = some x := by rfl) (hx : Loc X.env.scope x := by first | exact Or.inl rfl | exact Or.inr rfl)
    (hf : X.fn x = true ∨ X.env.scope.names.lookup x = some .local := by first | exact .inl rfl | exact .inr rfl | assumption) : SS X G W (.AugAssign (.Name x pos') .Add e pos) (qAug i f) := ss_aug B.nd hi hx he hf
theorem x_aug {env : Env} {r r1 : RS} {i : Nat} {f : Env → M T} {a b : Int} (h : f env r = .ok (.int b) r1) (he : env[i]? = some (.val (.int a))) : qAug i f env r = .nx (env.set i (.val (.int (a + b)))) r1 := by
  unfold qAug; rw [he]
  show ofM env _ (f env r) = _
  rw [h]; rfl
theorem x_methP {env : Env} {r r1 r2 : RS} {Cs : List Nat} {C : Nat} {F : List T → M T} {f : Env → M T} {fs : List (Env → M T)} {vs ts : List T} {o : Out T} (h1 : f env r = .ok (.obj C vs) r1) (hC : C ∈ Cs) (h2 : fAll fs env r1 = .ok ts r2) (h3 : F (.obj C vs :: ts) r2 = o) : fMethP Cs F [] f fs env r = o := bind_ok h1 (by
  show (if C ∈ Cs then (fAll fs env >>= fun ts => F (.obj C vs :: (ts ++ []))) else M.bad : M T) r1 = o
  rw [if_pos hC]
  exact bind_ok h2 (by rw [List.append_nil]; exact h3))
end Ep
/-! zip of two sources of any kind: lists, tuples, texts. -/
namespace Ep
open PySem PySem.Spec PyProof.Rows L2
theorem vals_back {xs : List V} {us : List Value} (rel : Vals xs us) {i : Nat} {v : Value} (e : us[i]? = some v) : ∃ x, xs[i]? = some x ∧ RelV x v := by
  have lt : i < xs.length := by rw [rel.length]; exact (List.getElem?_eq_some_iff.mp e).1
  obtain ⟨u, eu, r⟩ := rel.get (List.getElem?_eq_getElem lt)
  rw [e] at eu
  cases eu
  exact ⟨_, List.getElem?_eq_getElem lt, r⟩
inductive Src where
  | l (a : Addr)
  | t (a : Addr)
  | s (z : Str) (tk : Tok)
namespace Src
def val : Src → Value
  | .l a => .ref a
  | .t a => .ref a
  | .s z tk => .str z tk
def fp (it : Addr) : Src → List Addr
  | .l a => [it, a]
  | .t a => [it, a]
  | .s _ _ => [it]
def At (K : PySem.W.Frag) (H : Hp) : Src → List V → Prop
  | .l a, xs => SqL K H a xs
  | .t a, xs => SqT K H a xs
  | .s z _, xs => xs = z.cps.toList.map fun c => V.str ⟨#[c]⟩
def Cur (it : Addr) : Src → Nat → Heap → Prop
  | .l a, i, h => h.IsListIter it a i
  | .t a, i, h => h.IsTupleIter it a i
  | .s z tk, i, h => h.IsStrIter it (strIterType z) z tk i
def ob : Src → Obj
  | .l a => { cls := .type "list_iterator", data := .fields #[.ref a, .int 0 0] }
  | .t a => { cls := .type "tuple_iterator", data := .fields #[.ref a, .int 0 0] }
  | .s z tk => { cls := .type (strIterType z), data := .fields #[.str z tk, .int 0 0] }
theorem cur_ob : ∀ (o : Src) {it : Addr} {i : Nat} {h : Heap}, o.Cur it i h → ∃ b, h.get? it = some b ∧ ∀ v, b.data ≠ .cell v
  | .l _, _, _, _, ⟨b, e, _, d⟩ => ⟨b, e, fun v q => by rw [d] at q; nomatch q⟩
  | .t _, _, _, _, ⟨b, e, _, d⟩ => ⟨b, e, fun v q => by rw [d] at q; nomatch q⟩
  | .s _ _, _, _, _, ⟨b, e, _, d⟩ => ⟨b, e, fun v q => by rw [d] at q; nomatch q⟩
theorem cur_keep : ∀ (o : Src) {it : Addr} {i : Nat} {h h' : Heap}, o.Cur it i h → (∀ b, h.get? it = some b → h'.get? it = some b) → o.Cur it i h'
  | .l _, _, _, _, _, ⟨b, e, r⟩, k => ⟨b, k b e, r⟩
  | .t _, _, _, _, _, ⟨b, e, r⟩, k => ⟨b, k b e, r⟩
  | .s _ _, _, _, _, _, ⟨b, e, r⟩, k => ⟨b, k b e, r⟩
theorem cur_new : ∀ (o : Src) {it : Addr} {h : Heap}, h.get? it = some o.ob → o.Cur it 0 h
  | .l _, _, _, e => ⟨_, e, rfl, rfl⟩
  | .t _, _, _, e => ⟨_, e, rfl, rfl⟩
  | .s _ _, _, _, e => ⟨_, e, rfl, rfl⟩
variable {s : Shared} {H : Hp} {σ : L2.St} {X : Cx} {pins : List (Addr × Obj)}
theorem at_one (I : Inv X pins σ H s) : ∀ {o : Src} {xs ys : List V}, o.At X.K H xs → o.At X.K H ys → xs = ys
  | .l _, _, _, h, h' => I.list_inj h h'
  | .t _, _, _, h, h' => I.tuple_inj h h'
  | .s _ _, _, _, h, h' => h.trans h'.symm
theorem draws {A : Around} (hh : A.handled = none) (I : Inv X pins σ H s) (it : Addr) : ∀ {o : Src} {xs : List V}, o.At X.K H xs → (∀ a, o.val = .ref a → a ≠ it) →
    ∃ Pd Sd, Draws X.prog X.w A it (o.fp it) xs.length Pd Sd ∧ (∀ i v, Pd i v → ∃ x, xs[i]? = some x ∧ RelV x v) ∧ (∀ i h, Sd i h → o.Cur it i h) ∧ ∀ i, o.Cur it i s.heap → Sd i s.heap
  | .l a, xs, h, ne => by
    obtain ⟨us, rel, pl, _⟩ := I.list h
    have D := Draws.list (prog := X.prog) (w := X.w) hh it a (ne a rfl) us.toArray
    rw [show us.toArray.size = xs.length by rw [rel.length]; rfl] at D
    exact ⟨_, _, D, fun i v q => vals_back rel (by simpa using q), fun i h q => q.1, fun i q => ⟨q, pl.isList⟩⟩
  | .t a, xs, h, ne => by
    obtain ⟨us, rel, pl, _⟩ := I.tuple h
    have D := Draws.tuple (prog := X.prog) (w := X.w) hh it a (ne a rfl) us.toArray
    rw [show us.toArray.size = xs.length by rw [rel.length]; rfl] at D
    exact ⟨_, _, D, fun i v q => vals_back rel (by simpa using q), fun i h q => q.1, fun i q => ⟨q, pl⟩⟩
  | .s z tk, xs, h, _ => by
    have D := Draws.text (prog := X.prog) (w := X.w) hh it z tk
    have h : xs = z.cps.toList.map fun c => V.str ⟨#[c]⟩ := h
    rw [show z.cps.size = xs.length by rw [h]; simp] at D
    exact ⟨_, _, D, fun i v ⟨c, u, e, ev⟩ => ⟨.str ⟨#[c]⟩, by rw [h]; simp [e], u, ev⟩, fun _ _ q => q, fun _ q => q⟩
theorem begins (I : Inv X pins σ H s) : ∀ {o : Src} {xs : List V}, o.At X.K H xs → ∃ Hb, Begins o.val o.ob Hb ∧ Hb s.heap
  | .l a, xs, h => by
    obtain ⟨us, rel, pl, _⟩ := I.list h
    exact ⟨_, begins_list a us.toArray, pl.isList⟩
  | .t a, xs, h => by
    obtain ⟨us, rel, pl, _⟩ := I.tuple h
    exact ⟨_, begins_tuple a us.toArray, pl⟩
  | .s z tk, _, _ => ⟨_, begins_text z tk, trivial⟩
end Src
def Itq (K : PySem.W.Frag) (o p : Src) : It where
  go i H := ∃ xs ys, o.At K H xs ∧ p.At K H ys ∧ i < xs.length ∧ i < ys.length
  yld i H v H' := ∃ q x y, v = .ref q ∧ H q = none ∧ H' = upd H q (.tup [x, y]) ∧ (∀ xs, o.At K H xs → xs[i]? = some x) ∧ ∀ ys, p.At K H ys → ys[i]? = some y
  stop i H := ∃ xs ys, o.At K H xs ∧ p.At K H ys ∧ i = min xs.length ys.length
section
variable {P : Program} {w : World} {K : PySem.W.Frag} {elts : List Expr} {kk : Nat} {tpos : Pos}
structure Five (o p : Src) (z TI TO i1 i2 : Addr) : Prop where
  sep : ZipSep2 z TI TO i1 i2 (o.fp i1) (p.fp i2)
  ne1 : ∀ a, o.val = .ref a → a ≠ i1
  ne2 : ∀ a, p.val = .ref a → a ≠ i2
def Stand (o p : Src) (z TI TO i1 i2 : Addr) (i : Nat) (h : Heap) : Prop := IsZip h z TI TO .none ∧ IsTupOf2 h TI (.ref i1) (.ref i2) ∧ (∃ a1 a2, IsTupOf2 h TO a1 a2) ∧ o.Cur i1 i h ∧ p.Cur i2 i h
theorem turn_q {o p : Src} {z TI TO i1 i2 : Addr} (F : Five o p z TI TO i1 i2) : Turn P w K (.Tuple elts kk tpos) (Itq K o p) [z, TI, TO, i1, i2] z (Stand o p z TI TO i1 i2) := by
  have five : ∀ {i h}, Stand o p z TI TO i1 i2 i h → ∀ c ∈ [z, TI, TO, i1, i2], ∃ b, h.get? c = some b ∧ ∀ v, b.data ≠ .cell v := by
    rintro i h ⟨hz, hTI, ⟨a1, a2, hTO⟩, c1, c2⟩ c hc
    simp only [List.mem_cons, List.not_mem_nil, or_false] at hc
    rcases hc with rfl | rfl | rfl | rfl | rfl
    · exact ⟨_, hz, fun _ q => nomatch q⟩
    · exact ⟨_, hTI, fun _ q => nomatch q⟩
    · exact ⟨_, hTO, fun _ q => nomatch q⟩
    · exact o.cur_ob c1
    · exact p.cur_ob c2
  refine ⟨List.mem_cons_self .., fun i h st => five st, ?_, ?_, ?_, fun A i s Q E st q => wpAny_pyIter_zip st.1 q⟩
  · rintro i h h' ⟨hz, hTI, ⟨a1, a2, hTO⟩, c1, c2⟩ k
    exact ⟨k z (by simp) _ hz, k TI (by simp) _ hTI, ⟨a1, a2, k TO (by simp) _ hTO⟩, o.cur_keep c1 (k i1 (by simp)), p.cur_keep c2 (k i2 (by simp))⟩
  · rintro X rfl rfl rfl hc i pins s σ H E I free st ⟨xs, ys, hx, hy, lx, ly⟩
    obtain ⟨P1, S1, D1, v1, o1, n1⟩ := Src.draws (A := X.A.in1) (I.ok.hd hc) I i1 hx F.ne1
    obtain ⟨P2, S2, D2, v2, o2, n2⟩ := Src.draws (A := X.A.in1) (I.ok.hd hc) I i2 hy F.ne2
    have Z := WalksT.zipD2 (A := X.A) F.sep D1 D2
    have lts : ∀ c ∈ [z, TI, TO, i1, i2], c < s.heap.objs.size := fun c hcm => let ⟨_, e, _⟩ := five st c hcm; Heap.lt_size e
    obtain ⟨hz, hTI, hTO, c1, c2⟩ := st
    refine Z.item i s _ E (Nat.lt_min.mpr ⟨lx, ly⟩) ⟨hz, hTI, hTO, n1 _ c1, n2 _ c2⟩ fun q us h' tk pt hq hT mid kept => ⟨_, rfl, Z.go elts kk tpos i q ⟨h', s.gens, s.drawn, tk, s.os⟩ _ E mid fun h2 st2 kept2 => ?_⟩
    obtain ⟨u1, u2, pu1, pu2, rfl⟩ := pt
    obtain ⟨x, ex, rx⟩ := v1 i u1 pu1
    obtain ⟨y, ey, ry⟩ := v2 i u2 pu2
    obtain ⟨bT, gT, cT, nT, dT⟩ := hT
    have new : ObjOk X.prog X.w (upd H q (.tup [x, y])) h2 q (.tup [x, y]) :=
      ⟨by rw [sizeLine_eq]; exact Nat.le_of_lt (by simp), [u1, u2], .cons rx (.cons ry .nil), bT, kept2 q bT (Z.apart i q h' mid) gT, cT, nT, dT⟩
    have sub : ∀ c, c ∈ [z, TO, i1, i2] → c ∈ [z, TI, TO, i1, i2] := fun c hcm => by simp at hcm ⊢; rcases hcm with h | h | h | h <;> simp [h]
    have I2 := I.turnedNew (t' := tk) (ch := [z, TI, TO, i1, i2]) (h' := h2) (T := q) (fun c ob hb e => kept2 c ob (fun m => hb (sub c m)) (kept c ob (fun m => hb (sub c m)) e)) free hq new
    obtain ⟨sz, sTI, sTO, s1, s2⟩ := st2
    exact ⟨.ref q, _, I2, rfl, ⟨q, x, y, rfl, I.hok.fresh hq, rfl, fun l hl => by rw [Src.at_one I hl hx]; exact ex, fun l hl => by rw [Src.at_one I hl hy]; exact ey⟩,
      ⟨sz, sTI, sTO, o1 _ _ s1, o2 _ _ s2⟩, fun c hcm => by rw [upd_ne (Nat.ne_of_lt (Nat.lt_of_lt_of_le (lts c hcm) hq))]; exact (free c hcm).1⟩
  · rintro X rfl rfl rfl hc i pins s σ H E I free ⟨hz, hTI, hTO, c1, c2⟩ ⟨xs, ys, hx, hy, rfl⟩
    obtain ⟨P1, S1, D1, v1, o1, n1⟩ := Src.draws (A := X.A.in1) (I.ok.hd hc) I i1 hx F.ne1
    obtain ⟨P2, S2, D2, v2, o2, n2⟩ := Src.draws (A := X.A.in1) (I.ok.hd hc) I i2 hy F.ne2
    have sub : ∀ c, c ∈ [z, TO, i1, i2] → c ∈ [z, TI, TO, i1, i2] := fun c hcm => by simp at hcm ⊢; rcases hcm with h | h | h | h <;> simp [h]
    exact (WalksT.zipD2 (A := X.A) F.sep D1 D2).done s _ E ⟨hz, hTI, hTO, n1 _ c1, n2 _ c2⟩ fun h' tk kept => ⟨rfl, I.turnedL (t' := tk) (ch := [z, TI, TO, i1, i2]) (fun c ob hb e => kept c ob (fun m => hb (sub c m)) e) free⟩
theorem Src.fp_cases : ∀ {o : Src} {it c : Addr}, c ∈ o.fp it → c = it ∨ o.val = .ref c
  | .l a, it, c, h => by simp [Src.fp] at h; exact h.imp id fun e => by rw [e]; rfl
  | .t a, it, c, h => by simp [Src.fp] at h; exact h.imp id fun e => by rw [e]; rfl
  | .s _ _, it, c, h => by simp [Src.fp] at h; exact .inl h
theorem Src.fp_mem : ∀ (o : Src) (it : Addr), it ∈ o.fp it
  | .l _, _ => List.mem_cons_self ..
  | .t _, _ => List.mem_cons_self ..
  | .s _ _, _ => List.mem_cons_self ..
theorem Src.below {X : Cx} {pins : List (Addr × Obj)} {σ : L2.St} {H : Hp} {s : Shared} (I : Inv X pins σ H s) : ∀ {o : Src} {xs : List V} {a : Addr}, o.At X.K H xs → o.val = .ref a → a < s.heap.objs.size
  | .l _, _, _, h, e => by cases e; obtain ⟨_, _, pl, _⟩ := I.list h; exact pl.lt
  | .t _, _, _, h, e => by cases e; obtain ⟨_, _, ⟨_, q, _⟩, _⟩ := I.tuple h; exact Heap.lt_size q
  | .s _ _, _, _, _, e => nomatch e
theorem five_new {o p : Src} {n : Nat} (h : ∀ a, o.val = .ref a → a < n) (h' : ∀ a, p.val = .ref a → a < n) : Five o p (n + 4) (n + 2) (n + 3) n (n + 1) := by
  have no : ∀ {q : Src} {it c : Addr}, (∀ a, q.val = .ref a → a < n) → c ≠ it → n ≤ c → c ∉ q.fp it := fun hq ne le m => by
    rcases Src.fp_cases m with e | e
    · exact ne e
    · exact absurd (hq _ e) (Nat.not_lt.mpr le)
  have k : ∀ i j : Nat, i ≠ j → (n + i : Nat) ≠ n + j := fun i j ne e => ne (Nat.add_left_cancel e)
  have le : ∀ i : Nat, n ≤ (n + i : Nat) := Nat.le_add_right n
  exact ⟨{ TIz := k 2 4 (by decide), TOz := k 3 4 (by decide), TITO := k 2 3 (by decide), TIi1 := k 2 0 (by decide), TIi2 := k 2 1 (by decide), mem1 := o.fp_mem n, mem2 := p.fp_mem (n + 1)
           zf1 := no h (k 4 0 (by decide)) (le 4), Tf1 := no h (k 3 0 (by decide)) (le 3), zf2 := no h' (k 4 1 (by decide)) (le 4), Tf2 := no h' (k 3 1 (by decide)) (le 3)
           sep1_2 := no h' (k 0 1 (by decide)) (Nat.le_refl _), sep2_1 := no h (k 1 0 (by decide)) (le 1) }, fun a e => Nat.ne_of_lt (h a e), fun a e => Nat.ne_of_lt (Nat.lt_succ_of_lt (h' a e))⟩
structure SrcOf (K : PySem.W.Frag) (H : Hp) (x : V) (xs : List V) (o : Tok → Src) : Prop where
  val : ∀ u, RelV x u → ∃ tk, u = (o tk).val
  at_ : ∀ tk, (o tk).At K H xs
def iZipQ (K : PySem.W.Frag) (ta : TA) : TI := fun σ H R => ta σ H fun vs H1 => ∃ x y xs ys o p, vs = [x, y] ∧ SrcOf K H1 x xs o ∧ SrcOf K H1 y ys p ∧ ∀ tk tk', R (Itq K (o tk) (p tk')) H1
theorem pi_zipQ {X : Cx} {e e2 : Expr} {ta : TA} {np pos : Pos} (hg : Gl X "zip") (hm : X.mg "zip" = none) (ha : PA X [e, e2] ta)
    (hs : starEach [e, e2] X.env = (false, eval e X.env) :: starEach [e2] X.env) (hpl : (backTo pos (starEach [e2] X.env)).any (·.1) = false) :
    PI X (.Tuple elts kk tpos) (.Call (.Name "zip" np) [e, e2] [] pos) (iZipQ X.K ta) where
  run pins s σ H R I h := Call_ (ld_blt I hg hm PyProof.Rows.boot_zip (PyProof.Rows.callWith_type1 (thn (ha.run pos pins s σ H _ I h) fun us s1 ⟨vs, H1, I1, r1, x, y, xs, ys, o, p, ev, sx, sy, q⟩ => by
    subst ev
    obtain ⟨u1, rest, rfl, rx, r2⟩ : ∃ u1 rest, us = u1 :: rest ∧ RelV x u1 ∧ Vals [y] rest := by cases r1 with | cons a b => exact ⟨_, _, rfl, a, b⟩
    obtain ⟨u2, rfl, ry⟩ := vals1 r2
    obtain ⟨k1, rfl⟩ := sx.val u1 rx
    obtain ⟨k2, rfl⟩ := sy.val u2 ry
    obtain ⟨_, B1, b1⟩ := Src.begins I1 (sx.at_ k1)
    obtain ⟨_, B2, b2⟩ := Src.begins I1 (sy.at_ k2)
    refine zip_begins2 B1 B2 b1 b2 fun h' hz hTI hTO g1 g2 _ kept => wpAny_pyIter_zip hz ⟨s1.heap.objs.size + 4, _, _, _, H1, rfl, I1.kept (t' := s1.toks) kept, turn_q (five_new (fun a e => Src.below I1 (sx.at_ k1) e) (fun a e => Src.below I1 (sy.at_ k2) e)), ⟨hz, hTI, ⟨_, _, hTO⟩, Src.cur_new _ g1, Src.cur_new _ g2⟩, fun c hcm => ?_, q k1 k2⟩
    have le : s1.heap.objs.size ≤ c := by
      simp only [List.mem_cons, List.not_mem_nil, or_false] at hcm
      rcases hcm with rfl | rfl | rfl | rfl | rfl <;> first | exact Nat.le_refl _ | exact Nat.le_add_right _ _
    exact I1.fpOk le (I1.hok.fresh le)) hs hpl))
end
def srcL : T → Option (List T)
  | .tup xs => some xs
  | .str z => some (chrT z)
  | t => lstOnly t
def zipQT : List T → Option (List T)
  | [t, u] => (srcL t).bind fun xs => (srcL u).map (zipL xs)
  | _ => none
def fZipQ (f f' : Env → M T) : Env → M (List T) := fun env => fAll [f, f'] env >>= fun ts => M.lift (zipQT ts)
section
variable {X : Cx} {G : Gm} {W : WX} {pos : Pos} {f : Env → M T}
theorem src_of {w : Wd} {H : Hp} {r : RS} {v : V} {t : T} {xs : List T} (g : Good G w H r) (d : Den G w v t) (e : srcL t = some xs) : ∃ vs o, SrcOf G.K H v vs o ∧ Dens G w vs xs ∧ ∀ w' H' r', Later w w' → Good G w' H' r' → ∀ tk, (o tk).At G.K H' vs := by
  have lst : lstOnly t = some xs → ∃ vs o, SrcOf G.K H v vs o ∧ Dens G w vs xs ∧ ∀ w' H' r', Later w w' → Good G w' H' r' → ∀ tk, (o tk).At G.K H' vs := fun e => by
    obtain ⟨a, vs, rfl, hq, dd⟩ := lst_pub d e
    exact ⟨vs, fun _ => .l a, ⟨fun u ru => ⟨0, by cases ru; rfl⟩, fun _ => g.sub.seq hq⟩, dd, fun w' H' r' L g' _ => g'.sub.seq (L.pub.seq hq)⟩
  cases d with
  | tup h z dd =>
    cases e
    exact ⟨_, fun _ => .t _, ⟨fun u ru => ⟨0, by cases ru; rfl⟩, fun _ => tup_sq g.sub h⟩, dd, fun w' H' r' L g' _ => tup_sq g'.sub (h.mono L.pub)⟩
  | str z =>
    cases e
    refine ⟨_, fun tk => .s z tk, ⟨fun u ⟨tk, eu⟩ => ⟨tk, eu⟩, fun _ => rfl⟩, ?_, fun _ _ _ _ _ _ => rfl⟩
    show Dens G w (z.cps.toList.map _) (z.cps.toList.map _)
    generalize z.cps.toList = cs
    induction cs with
    | nil => exact .nil
    | cons c cs ih => exact .cons (.str _) ih
  | _ => exact lst e
theorem it_q {w : Wd} {o p : Src} {us vs : List V} {xs ys : List T} (d : Dens G w us xs) (d' : Dens G w vs ys) (h : ∀ w' H' r', Later w w' → Good G w' H' r' → o.At G.K H' us) (h' : ∀ w' H' r', Later w w' → Good G w' H' r' → p.At G.K H' vs) :
    ItOk G w (Itq G.K o p) (zipL xs ys) := by
  have len : (zipL xs ys).length = min us.length vs.length := by rw [zipL_len, d.length, d'.length]
  refine ⟨fun H => o.At G.K H us ∧ p.At G.K H vs, YPair (fun i => us[i]?) (fun i => vs[i]?), ?_, fun w' H' r' L g => ⟨h w' H' r' L g, h' w' H' r' L g⟩, fun i H1 v H2 w1 r1 L g _ y => it_zY d d' L g y⟩
  rw [len]
  exact ⟨fun i H lt q => ⟨us, vs, q.1, q.2, (Nat.lt_min.mp lt).1, (Nat.lt_min.mp lt).2⟩, fun H q => ⟨us, vs, q.1, q.2, rfl⟩, fun i H v H' _ q ⟨a, x, y, ev, new, eH, fx, fy⟩ => ⟨a, x, y, ev, new, eH, fx us q.1, fy vs q.2⟩⟩
theorem i_zipQ {a b : Expr} {f' : Env → M T} {np tpos : Pos} {elts : List Expr} {kk : Nat} (hK : X.K = G.K) (hg : Gl X "zip") (hm : X.mg "zip" = none) (ha : SE X G W a f) (hb : SE X G W b f')
    (hs : starEach [a, b] X.env = (false, eval a X.env) :: starEach [b] X.env := by rfl) (hs2 : starEach [b] X.env = (false, eval b X.env) :: starEach [] X.env := by rfl) (hpl : (backTo pos (starEach [b] X.env)).any (·.1) = false := by rfl) :
    SI X G W (.Tuple elts kk tpos) (.Call (.Name "zip" np) [a, b] [] pos) (fZipQ f f') :=
  pi_imp (pi_zipQ hg hm (a_cons ha (a_cons hb a_nil hs2) hs) hs hpl) fun σ H R ⟨w, H0, env, r, g, s, h⟩ => by
    refine seqA g s h fun ts r1 w1 H1 us g1 s1 st1 d1 l h1 => ?_
    obtain ⟨xs, e1, h2⟩ := liftP h1
    have h3 := h2 w1 H1 (Step.refl _ _) g1
    rw [hK]
    obtain ⟨t1, t2, rfl⟩ : ∃ t1 t2, ts = [t1, t2] := by
      unfold zipQT at e1
      split at e1
      · exact ⟨_, _, rfl⟩
      · nomatch e1
    obtain ⟨v1, v2, rfl, da, db⟩ : ∃ v1 v2, us = [v1, v2] ∧ Den G w1 v1 t1 ∧ Den G w1 v2 t2 := by
      cases d1 with
      | cons da d1 => cases d1 with
        | cons db d1 => cases d1; exact ⟨_, _, rfl, da, db⟩
    have e1 : ((srcL t1).bind fun xs => (srcL t2).map (zipL xs)) = some xs := e1
    obtain ⟨as, ea, e1⟩ := Option.bind_eq_some_iff.mp e1
    obtain ⟨bs, eb, rfl⟩ := Option.map_eq_some_iff.mp e1
    obtain ⟨va, o, so, dda, ka⟩ := src_of g1 da ea
    obtain ⟨vb, p, sp, ddb, kb⟩ := src_of g1 db eb
    exact ⟨v1, v2, va, vb, o, p, rfl, so, sp, fun tk tk' => h3 _ (it_q dda ddb (fun w' H' r' L g => ka w' H' r' L g tk) (fun w' H' r' L g => kb w' H' r' L g tk'))⟩
end
/-! e[::-1] of a tuple -/
section
variable {s : Shared} {w : World} {prog : Program} {E : Value → Shared → Prop} {A : Around}
theorem back_places (n : Nat) : Builtin.Slice.sliceAdjust none none (-1) (n : Int) = ((n : Int) - 1, -1) ∧ Builtin.Slice.slicePlaces ((n : Int) - 1) (-1) (-1) = n := by
  refine ⟨?_, ?_⟩
  · unfold Builtin.Slice.sliceAdjust
    simp
  · unfold Builtin.Slice.slicePlaces
    rw [if_neg (by decide), show (- -1 : Int) = 1 from rfl, Int.ediv_one]
    split <;> omega
theorem back_cut {sl : Addr} {l u m : Value} (b : Back s.heap sl l u m) (n : Nat) {Q : Int × Int × Nat → Shared → Prop} (h : Q ((n : Int) - 1, -1, n) s) : wpAny (model prog w) A (Builtin.Slice.sliceApplied (.ref sl) (pure (n : Int))) Q E s := by
  obtain ⟨⟨os, at_sl, _, parts⟩, lo, up, step⟩ := b
  have read : wpAny (model prog w) A (Builtin.Slice.sliceFields (.ref sl)) (fun r s' => s' = s ∧ r = (l, u, m)) E s := by
    unfold Builtin.Slice.sliceFields
    exact wpAny_bind (wpAny_field at_sl parts (x := l) rfl (wpAny_bind (wpAny_field at_sl parts (x := u) rfl (wpAny_bind (wpAny_field at_sl parts (x := m) rfl (wpAny_pure ⟨rfl, rfl⟩))))))
  have part : ∀ {v : Value} {o : Option Int} {R : Option Int → Shared → Prop}, IsPart v o → R o s → wpAny (model prog w) A (Builtin.Slice.slicePartIndex v) R E s := fun pv r => by
    cases pv with
    | none => exact slicePart_none r
    | int i t => exact slicePart_int r
  obtain ⟨e1, e2⟩ := back_places n
  have told : wpAny (model prog w) A (pure ((n : Int) - 1, (-1 : Int), n)) Q E s := wpAny_pure h
  unfold Builtin.Slice.sliceApplied
  refine wpAny_bind (wpAny_mono read ?_ fun _ _ e => e)
  rintro r s' ⟨rfl, rfl⟩
  refine wpAny_bind (part step ?_)
  dsimp only [Option.getD]
  rw [if_neg (by decide)]
  refine wpAny_bind (part lo (wpAny_bind (part up (wpAny_bind (wpAny_pure ?_)))))
  rw [e1]
  dsimp only
  rw [e2]
  exact told
theorem tuple_back {t sl : Addr} {l u m : Value} {items : Array Value} {Q : Value → Shared → Prop} (ht : IsTup s.heap t items) (b : Back s.heap sl l u m) (few : items.size ≤ sizeLine)
    (h : Q (.ref s.heap.objs.size) { s with heap := s.heap.push { cls := .type "tuple", data := .seq items.toList.reverse.toArray } }) : wpAny (model prog w) A (getItem (.ref t) (.ref sl)) Q E s := by
  have size : items.toList.reverse.toArray.size ≤ sizeLine := by simpa using few
  have picked : ((List.range items.size).filterMap fun (k : Nat) => items[(((items.size : Int) - 1) + (k : Int) * -1).toNat]?).toArray = items.toList.reverse.toArray := by
    rw [← PySem.W.krv_pick]
    unfold slicePick
    rw [PySem.W.krv_bounds]
    dsimp only
    rw [PySem.W.krv_sliceRange, List.filterMap_map]
    refine congrArg List.toArray (congrArg (fun f => List.filterMap f (List.range items.size)) (funext fun k => ?_))
    show items[((items.size : Int) - 1 + (k : Int) * -1).toNat]? = items[items.size - 1 - k]?
    rw [show ((items.size : Int) - 1 + (k : Int) * -1).toNat = items.size - 1 - k by omega]
  have kind : s.TypeIs (.ref sl) "slice" := let ⟨os, at_sl, c, _⟩ := b.obj; ⟨os, at_sl, c⟩
  unfold getItem
  refine wpAny_holding (wpAny_bind (wpAny_sequenceKey ht.typeIs (by decide) (wpAny_bind (wpAny_callSpecial?_slot (name := Str.ofString "__getitem__") ht.typeIs slot_tuple_getitem (wpAny_call_entry slot_tuple_getitem ht.typeIs entry_tuple_getitem ?_ (args_tuple_getitem _ _))))))
  refine wpAny_bind (m := Builtin.Tuple.tupleItemsOf (.ref t)) (tupleItemsOf_ ht (wpAny_bind (wpAny_typeOf kind ?_)))
  rw [if_pos (by decide)]
  refine wpAny_bind (back_cut b items.size ?_)
  dsimp only
  rw [if_neg (by simp)]
  rw [picked]
  refine wpAny_bind (m := Builtin.Tuple.tupleExact _) (wpAny_newObj_type (wpAny_pure ⟨_, rfl, wpAny_pure h⟩) size)
end
def tRevB (K : PySem.W.Frag) (te : TE) : TE := fun σ H Q => te σ H fun x H1 => ∃ a xs, x = .ref a ∧ SqT K H1 a xs ∧ ∀ p, H1 p = none → Q (.ref p) (upd H1 p (.tup xs.reverse))
theorem pe_revB {X : Cx} {e : Expr} {te : TE} {k : Nat} {p1 p2 p3 pos : Pos} (he : PE X e te) : PE X (.Subscript e (.Slice none none (some (.UnaryOp .USub (.Constant (.int 1) k p1) p2)) p3) pos) (tRevB X.K te) where
  run pins s σ H Q I h := Subscript_ (thn (he.run pins s σ H _ I h) fun v s1 ⟨x, H1, I1, rel, a, xs, ex, hq, q⟩ => back_slice I1 fun s2 l u m I2 back => by
    subst ex
    cases rel
    obtain ⟨its, rels, at_a, few⟩ := I2.tuple hq
    have few' : its.toArray.size ≤ sizeLine := by rw [List.size_toArray, ← rels.length]; exact few
    refine tail_any (ops := [.ref a, .ref (s2.heap.objs.size - 1)]) at_a.typeIs slot_tuple_getitem.lookup (tuple_back at_a back few' ?_) (by with_unfolding_all rfl)
    have put := I2.laid (t' := s2.toks) (o := .tup xs.reverse) (h' := s2.heap.push { cls := .type "tuple", data := .seq its.reverse.toArray }) (fun _ _ z => Heap.get?_push_of_some _ z) (Nat.le_refl _) ⟨by rw [List.length_reverse]; exact few, its.reverse, rels.reverse, _, Heap.get?_push_size _ rfl, rfl, _, rfl⟩
    exact ⟨.ref s2.heap.objs.size, _, put, rfl, q _ (I2.hok.fresh (Nat.le_refl _))⟩)
def revTT : T → Option T
  | .tup xs => some (.tup xs.reverse)
  | _ => none
def fRevT (f : Env → M T) : Env → M T := fun env => f env >>= fun x => M.lift (revTT x)
theorem s_revT {X : Cx} {G : Gm} {W : WX} {a : Expr} {f : Env → M T} {k : Nat} {p1 p2 p3 pos : Pos} (hK : X.K = G.K) (ha : SE X G W a f) : SE X G W (.Subscript a (.Slice none none (some (.UnaryOp .USub (.Constant (.int 1) k p1) p2)) p3) pos) (fRevT f) :=
  pe_imp (pe_revB ha) fun σ H Q ⟨w, H0, env, r, g0, s, h0⟩ => by
    refine seqE g0 s h0 fun t r1 w1 H1 x g1 s1 st1 d1 h1 => ?_
    obtain ⟨z, ez, h2⟩ := liftP h1
    cases d1 with
    | @tup a vs xs h zz d =>
      cases ez
      refine ⟨a, vs, rfl, by rw [hK]; exact tup_sq g1.sub h, fun p hp => ?_⟩
      obtain ⟨st, g2⟩ := g1.new (o := .tup vs.reverse) hp
      exact h2 _ _ st g2 _ (.tup (.inl upd_same) (by rw [List.length_reverse]; exact zz) (d.rev.mono st.later))
    | _ => cases ez
theorem x_zipQ {f g : Env → M T} {env : Env} {r r1 r2 : RS} {x y : T} {xs : List T} (h1 : f env r = .ok x r1) (h2 : g env r1 = .ok y r2) (h3 : zipQT [x, y] = some xs) : fZipQ f g env r = .ok xs r2 := bind_ok (e_cons h1 (e_cons h2 e_nil)) (by rw [h3]; rfl)
theorem x_revT {f : Env → M T} {env : Env} {r r1 : RS} {xs : List T} (h : f env r = .ok (.tup xs) r1) : fRevT f env r = .ok (.tup xs.reverse) r1 := bind_ok h rfl
theorem x_revL {f : Env → M T} {env : Env} {r r1 : RS} {xs : List T} (h : f env r = .ok (.lst xs) r1) : fRev f env r = .ok (.lst xs.reverse) r1 := bind_ok h rfl
theorem x_revS {f : Env → M T} {env : Env} {r r1 : RS} {z : Str} (h : f env r = .ok (.str z) r1) (hz : z.length ≤ 100000) : fRev f env r = .ok (.str (revS z)) r1 := bind_ok h (by show Ep.M.lift (if z.length ≤ 100000 then _ else _) _ = _; rw [if_pos hz]; rfl)
end Ep
namespace K62
open PySem PySem.Spec L2 He Ep
/-! ### the text by places -/
def top (i : Nat) : Stmt := PySem.Challenge.pw_endlessplane_k62_whole_closed_walks.main.body.getD i (.Pass ⟨0, 0, 0, 0⟩)
def cn : Nat → Str
  | 0 => "BadPart"
  | 1 => "BadNumber"
  | 2 => "BadIndex"
  | 3 => "NotSo"
  | 4 => "Walk"
  | 5 => "MadeWalk"
  | _ => "BadPart"
def fl : Nat → List Str
  | 0 => ["part"]
  | 1 => ["number"]
  | 2 => ["index"]
  | 3 => ["word"]
  | 4 => ["cell", "parts"]
  | 5 => ["cell", "parts"]
  | _ => []
abbrev PW : Program := PySem.Challenge.pw_endlessplane_k62_whole_closed_walks
def tb (K : PySem.W.Frag) : List (Addr × Str) := []
abbrev GG (K : PySem.W.Frag) (mg : Str → Option Value) : Gm := ⟨K, mg, cn, fl, tb K⟩
abbrev s_BadIndex_init : Stmt := inClass (top 14) 0
theorem supt_BadIndex : SupT "index" s_BadIndex_init := ⟨⟨_, _, rfl⟩, rfl, ⟨_, _, _, _, _, _, _, _, _, _, rfl, fun _ _ _ _ _ => ⟨_, rfl⟩⟩⟩
theorem fok_BadIndex : SupX.FOk PW "index" := ⟨by kernel_rfl, by decide, by decide, by decide, rfl, rfl, rfl, rfl, by decide, by intros; rfl⟩
abbrev s_BadNumber_init : Stmt := inClass (top 13) 0
theorem supt_BadNumber : SupT "number" s_BadNumber_init := ⟨⟨_, _, rfl⟩, rfl, ⟨_, _, _, _, _, _, _, _, _, _, rfl, fun _ _ _ _ _ => ⟨_, rfl⟩⟩⟩
theorem fok_BadNumber : SupX.FOk PW "number" := ⟨by kernel_rfl, by decide, by decide, by decide, rfl, rfl, rfl, rfl, by decide, by intros; rfl⟩
abbrev s_BadPart_init : Stmt := inClass (top 12) 0
theorem supt_BadPart : SupT "part" s_BadPart_init := ⟨⟨_, _, rfl⟩, rfl, ⟨_, _, _, _, _, _, _, _, _, _, rfl, fun _ _ _ _ _ => ⟨_, rfl⟩⟩⟩
theorem fok_BadPart : SupX.FOk PW "part" := ⟨by kernel_rfl, by decide, by decide, by decide, rfl, rfl, rfl, rfl, by decide, by intros; rfl⟩
abbrev s_NotSo_init : Stmt := inClass (top 15) 0
theorem supt_NotSo : SupT "word" s_NotSo_init := ⟨⟨_, _, rfl⟩, rfl, ⟨_, _, _, _, _, _, _, _, _, _, rfl, fun _ _ _ _ _ => ⟨_, rfl⟩⟩⟩
theorem fok_NotSo : SupX.FOk PW "word" := ⟨by kernel_rfl, by decide, by decide, by decide, rfl, rfl, rfl, rfl, by decide, by intros; rfl⟩
def m_cell : Nat → Option Nat
  | 4 => some 0
  | 5 => some 0
  | _ => none
def m_parts : Nat → Option Nat
  | 4 => some 1
  | 5 => some 1
  | _ => none
def d_OPPOSITE : List (Str × Option T) := [("E", some (.str "W")), ("N", some (.str "S")), ("W", some (.str "E")), ("S", some (.str "N"))]
def tabR : List (Kd × Cl × Bool) := [(.b "int", .ty "int", true), (.b "int", .ty "bool", false), (.b "bool", .ty "int", true), (.b "bool", .ty "bool", true), (.b "tuple", .ty "tuple", true), (.b "list", .ty "list", true), (.b "tuple", .ty "list", false), (.b "str", .ty "str", true), (.o 4, .cl 4, true), (.o 5, .cl 4, true)]
def tab : Kd → Cl → Option Bool := tabF tabR
abbrev s__law_area : Stmt := (top 52)
abbrev s__law_led : Stmt := (top 47)
abbrev s__law_corners : Stmt := (top 50)
abbrev s__law_draw : Stmt := (top 45)
abbrev s__law_pick : Stmt := (top 46)
abbrev s__law_word_drawn : Stmt := (top 48)
abbrev s__law_loop_parts : Stmt := (top 49)
abbrev s__law_pool : Stmt := (top 44)
abbrev s__law_reach_due : Stmt := (top 53)
abbrev s__law_uprights : Stmt := (top 51)
abbrev s_check_walk_closed : Stmt := (top 33)
abbrev s_check_walk_walks : Stmt := (top 27)
abbrev s_MadeWalk_init : Stmt := (inClass (top 26) 0)
abbrev s_shifted : Stmt := (top 9)
abbrev s_step_of : Stmt := (top 8)
abbrev s_path_of : Stmt := (top 20)
abbrev s_Walk_goal : Stmt := (inClass (top 25) 5)
abbrev s_turned_back : Stmt := (top 31)
abbrev s_backwards : Stmt := (top 37)
abbrev s_check_closed : Stmt := (top 35)
abbrev s_is_word : Stmt := (top 7)
abbrev s_check_word : Stmt := (top 21)
abbrev s_offsets_of : Stmt := (top 22)
abbrev s_progression_sum : Stmt := (top 40)
abbrev s_part_enclosed : Stmt := (top 41)
abbrev s_Walk_legs : Stmt := (inClass (top 25) 2)
abbrev s_Walk_begins : Stmt := (inClass (top 25) 3)
abbrev s_enclosed : Stmt := (top 42)
abbrev s_is_closed : Stmt := (top 36)
abbrev s_part_corners : Stmt := (top 38)
abbrev s_reach : Stmt := (top 39)
abbrev s_is_integer : Stmt := (top 3)
abbrev s_is_cell : Stmt := (top 6)
abbrev s_is_list : Stmt := (top 5)
abbrev s_is_count : Stmt := (top 4)
abbrev s_is_part : Stmt := (top 23)
abbrev s_Walk_init : Stmt := (inClass (top 25) 0)
abbrev s_check_moment : Stmt := (top 24)
abbrev s_Walk_part_at : Stmt := (inClass (top 25) 6)
abbrev s_Walk_at : Stmt := (inClass (top 25) 7)
abbrev s_law : Stmt := (top 54)
/-! ### what the head has told -/
structure Tx (base : Heap) (wd : World) (K : PySem.W.Frag) (mg : Str → Option Value) : Prop where
  m_abs : mg "abs" = none
  m_all : mg "all" = none
  m_bool : mg "bool" = none
  m_enumerate : mg "enumerate" = none
  m_int : mg "int" = none
  m_isinstance : mg "isinstance" = none
  m_len : mg "len" = none
  m_list : mg "list" = none
  m_max : mg "max" = none
  m_min : mg "min" = none
  m_range : mg "range" = none
  m_str : mg "str" = none
  m_sum : mg "sum" = none
  m_tuple : mg "tuple" = none
  m_zip : mg "zip" = none
  c_BadIndex : mg "BadIndex" = some (.ref (ga K "BadIndex"))
  c_BadNumber : mg "BadNumber" = some (.ref (ga K "BadNumber"))
  c_BadPart : mg "BadPart" = some (.ref (ga K "BadPart"))
  c_MadeWalk : mg "MadeWalk" = some (.ref (ga K "MadeWalk"))
  c_NotSo : mg "NotSo" = some (.ref (ga K "NotSo"))
  c_Walk : mg "Walk" = some (.ref (ga K "Walk"))
  hc : ∀ C cA, mg (cn C) = some (.ref cA) → cA = ga K (cn C)
  tab : TabOk (GG K mg) tab
  d_OPPOSITE : GgOk wd (GG K mg) "OPPOSITE" (fun z => d_OPPOSITE.lookup z)
  i_MOST_LETTERS : ∃ t, mg "MOST_LETTERS" = some (.int 24 t)
  i_MOST_PARTS : ∃ t, mg "MOST_PARTS" = some (.int 6 t)
  z_STEPS : ∃ t, mg "STEPS" = some (.str "ENWS" t)
  f_cell : ∀ C j, m_cell C = some j → FldOk (GG K mg) "cell" C j
  f_parts : ∀ C j, m_parts C = some j → FldOk (GG K mg) "parts" C j
  n_MadeWalk_cell : NthFld (GG K mg) 5 0 "cell"
  n_MadeWalk_parts : NthFld (GG K mg) 5 1 "parts"
  n_Walk_cell : NthFld (GG K mg) 4 0 "cell"
  n_Walk_parts : NthFld (GG K mg) 4 1 "parts"
  k_MadeWalk : Cls K (ga K "MadeWalk")
  k_Walk : Cls K (ga K "Walk")
  mk_MadeWalk : Mk K (ga K "MadeWalk") (ma K (ga K "MadeWalk") "__init__")
  mk_Walk : Mk K (ga K "Walk") (ma K (ga K "Walk") "__init__")
  x_BadIndex : XcOk PW (GG K mg) 2 "index"
  x_BadNumber : XcOk PW (GG K mg) 1 "number"
  x_BadPart : XcOk PW (GG K mg) 0 "part"
  x_NotSo : XcOk PW (GG K mg) 3 "word"
  c__law_area : mg "_law_area" = some (.ref (ga K "_law_area"))
  D__law_area : ∃ fd, FunD K "_law_area" "_law_area" (defArgs s__law_area) (defBody s__law_area) (defScope s__law_area) ([].map (Dv.v K)) [] (fAd K ("_law_area", none)) fd
  c__law_led : mg "_law_led" = some (.ref (ga K "_law_led"))
  D__law_led : ∃ fd, FunD K "_law_led" "_law_led" (defArgs s__law_led) (defBody s__law_led) (defScope s__law_led) ([].map (Dv.v K)) [] (fAd K ("_law_led", none)) fd
  c__law_corners : mg "_law_corners" = some (.ref (ga K "_law_corners"))
  D__law_corners : ∃ fd, FunD K "_law_corners" "_law_corners" (defArgs s__law_corners) (defBody s__law_corners) (defScope s__law_corners) ([].map (Dv.v K)) [] (fAd K ("_law_corners", none)) fd
  c__law_draw : mg "_law_draw" = some (.ref (ga K "_law_draw"))
  D__law_draw : ∃ fd, FunD K "_law_draw" "_law_draw" (defArgs s__law_draw) (defBody s__law_draw) (defScope s__law_draw) ([].map (Dv.v K)) [] (fAd K ("_law_draw", none)) fd
  c__law_pick : mg "_law_pick" = some (.ref (ga K "_law_pick"))
  D__law_pick : ∃ fd, FunD K "_law_pick" "_law_pick" (defArgs s__law_pick) (defBody s__law_pick) (defScope s__law_pick) ([].map (Dv.v K)) [] (fAd K ("_law_pick", none)) fd
  c__law_word_drawn : mg "_law_word_drawn" = some (.ref (ga K "_law_word_drawn"))
  D__law_word_drawn : ∃ fd, FunD K "_law_word_drawn" "_law_word_drawn" (defArgs s__law_word_drawn) (defBody s__law_word_drawn) (defScope s__law_word_drawn) ([].map (Dv.v K)) [] (fAd K ("_law_word_drawn", none)) fd
  c__law_loop_parts : mg "_law_loop_parts" = some (.ref (ga K "_law_loop_parts"))
  D__law_loop_parts : ∃ fd, FunD K "_law_loop_parts" "_law_loop_parts" (defArgs s__law_loop_parts) (defBody s__law_loop_parts) (defScope s__law_loop_parts) ([].map (Dv.v K)) [] (fAd K ("_law_loop_parts", none)) fd
  c__law_pool : mg "_law_pool" = some (.ref (ga K "_law_pool"))
  D__law_pool : ∃ fd, FunD K "_law_pool" "_law_pool" (defArgs s__law_pool) (defBody s__law_pool) (defScope s__law_pool) ([].map (Dv.v K)) [] (fAd K ("_law_pool", none)) fd
  c__law_reach_due : mg "_law_reach_due" = some (.ref (ga K "_law_reach_due"))
  D__law_reach_due : ∃ fd, FunD K "_law_reach_due" "_law_reach_due" (defArgs s__law_reach_due) (defBody s__law_reach_due) (defScope s__law_reach_due) ([].map (Dv.v K)) [] (fAd K ("_law_reach_due", none)) fd
  c__law_uprights : mg "_law_uprights" = some (.ref (ga K "_law_uprights"))
  D__law_uprights : ∃ fd, FunD K "_law_uprights" "_law_uprights" (defArgs s__law_uprights) (defBody s__law_uprights) (defScope s__law_uprights) ([].map (Dv.v K)) [] (fAd K ("_law_uprights", none)) fd
  c_check_walk_closed : mg "check_walk_closed" = some (.ref (ga K "check_walk_closed"))
  D_check_walk_closed : ∃ fd, FunD K "check_walk" "check_walk" (defArgs s_check_walk_closed) (defBody s_check_walk_closed) (defScope s_check_walk_closed) ([].map (Dv.v K)) [] (fAd K ("check_walk_closed", none)) fd
  c_check_walk_walks : mg "check_walk_walks" = some (.ref (ga K "check_walk_walks"))
  D_check_walk_walks : ∃ fd, FunD K "check_walk" "check_walk" (defArgs s_check_walk_walks) (defBody s_check_walk_walks) (defScope s_check_walk_walks) ([].map (Dv.v K)) [] (fAd K ("check_walk_walks", none)) fd
  D_MadeWalk_init : ∃ fd, FunD K "__init__" "MadeWalk.__init__" (defArgs s_MadeWalk_init) (defBody s_MadeWalk_init) (defScope s_MadeWalk_init) ([].map (Dv.v K)) [] (fAd K ("MadeWalk", some "__init__")) fd
  c_shifted : mg "shifted" = some (.ref (ga K "shifted"))
  D_shifted : ∃ fd, FunD K "shifted" "shifted" (defArgs s_shifted) (defBody s_shifted) (defScope s_shifted) ([.int 1].map (Dv.v K)) [] (fAd K ("shifted", none)) fd
  c_step_of : mg "step_of" = some (.ref (ga K "step_of"))
  D_step_of : ∃ fd, FunD K "step_of" "step_of" (defArgs s_step_of) (defBody s_step_of) (defScope s_step_of) ([].map (Dv.v K)) [] (fAd K ("step_of", none)) fd
  c_path_of : mg "path_of" = some (.ref (ga K "path_of"))
  D_path_of : ∃ fd, FunD K "path_of" "path_of" (defArgs s_path_of) (defBody s_path_of) (defScope s_path_of) ([].map (Dv.v K)) [] (fAd K ("path_of", none)) fd
  h_Walk_goal : Meth K (ga K "Walk") "goal" (ma K (ga K "Walk") "goal")
  hm_MadeWalk_Walk_goal : Meth K (ga K "MadeWalk") "goal" (ma K (ga K "Walk") "goal")
  D_Walk_goal : ∃ fd, FunD K "goal" "Walk.goal" (defArgs s_Walk_goal) (defBody s_Walk_goal) (defScope s_Walk_goal) ([].map (Dv.v K)) [] (fAd K ("Walk", some "goal")) fd
  c_turned_back : mg "turned_back" = some (.ref (ga K "turned_back"))
  D_turned_back : ∃ fd, FunD K "turned_back" "turned_back" (defArgs s_turned_back) (defBody s_turned_back) (defScope s_turned_back) ([].map (Dv.v K)) [] (fAd K ("turned_back", none)) fd
  c_backwards : mg "backwards" = some (.ref (ga K "backwards"))
  D_backwards : ∃ fd, FunD K "backwards" "backwards" (defArgs s_backwards) (defBody s_backwards) (defScope s_backwards) ([].map (Dv.v K)) [] (fAd K ("backwards", none)) fd
  c_check_closed : mg "check_closed" = some (.ref (ga K "check_closed"))
  D_check_closed : ∃ fd, FunD K "check_closed" "check_closed" (defArgs s_check_closed) (defBody s_check_closed) (defScope s_check_closed) ([].map (Dv.v K)) [] (fAd K ("check_closed", none)) fd
  c_is_word : mg "is_word" = some (.ref (ga K "is_word"))
  D_is_word : ∃ fd, FunD K "is_word" "is_word" (defArgs s_is_word) (defBody s_is_word) (defScope s_is_word) ([].map (Dv.v K)) [] (fAd K ("is_word", none)) fd
  c_check_word : mg "check_word" = some (.ref (ga K "check_word"))
  D_check_word : ∃ fd, FunD K "check_word" "check_word" (defArgs s_check_word) (defBody s_check_word) (defScope s_check_word) ([].map (Dv.v K)) [] (fAd K ("check_word", none)) fd
  c_offsets_of : mg "offsets_of" = some (.ref (ga K "offsets_of"))
  D_offsets_of : ∃ fd, FunD K "offsets_of" "offsets_of" (defArgs s_offsets_of) (defBody s_offsets_of) (defScope s_offsets_of) ([].map (Dv.v K)) [] (fAd K ("offsets_of", none)) fd
  c_progression_sum : mg "progression_sum" = some (.ref (ga K "progression_sum"))
  D_progression_sum : ∃ fd, FunD K "progression_sum" "progression_sum" (defArgs s_progression_sum) (defBody s_progression_sum) (defScope s_progression_sum) ([].map (Dv.v K)) [] (fAd K ("progression_sum", none)) fd
  c_part_enclosed : mg "part_enclosed" = some (.ref (ga K "part_enclosed"))
  D_part_enclosed : ∃ fd, FunD K "part_enclosed" "part_enclosed" (defArgs s_part_enclosed) (defBody s_part_enclosed) (defScope s_part_enclosed) ([].map (Dv.v K)) [] (fAd K ("part_enclosed", none)) fd
  h_Walk_legs : Meth K (ga K "Walk") "legs" (ma K (ga K "Walk") "legs")
  hm_MadeWalk_Walk_legs : Meth K (ga K "MadeWalk") "legs" (ma K (ga K "Walk") "legs")
  D_Walk_legs : ∃ fd, FunD K "legs" "Walk.legs" (defArgs s_Walk_legs) (defBody s_Walk_legs) (defScope s_Walk_legs) ([].map (Dv.v K)) [] (fAd K ("Walk", some "legs")) fd
  h_Walk_begins : Meth K (ga K "Walk") "begins" (ma K (ga K "Walk") "begins")
  hm_MadeWalk_Walk_begins : Meth K (ga K "MadeWalk") "begins" (ma K (ga K "Walk") "begins")
  D_Walk_begins : ∃ fd, FunD K "begins" "Walk.begins" (defArgs s_Walk_begins) (defBody s_Walk_begins) (defScope s_Walk_begins) ([].map (Dv.v K)) [] (fAd K ("Walk", some "begins")) fd
  c_enclosed : mg "enclosed" = some (.ref (ga K "enclosed"))
  D_enclosed : ∃ fd, FunD K "enclosed" "enclosed" (defArgs s_enclosed) (defBody s_enclosed) (defScope s_enclosed) ([].map (Dv.v K)) [] (fAd K ("enclosed", none)) fd
  c_is_closed : mg "is_closed" = some (.ref (ga K "is_closed"))
  D_is_closed : ∃ fd, FunD K "is_closed" "is_closed" (defArgs s_is_closed) (defBody s_is_closed) (defScope s_is_closed) ([].map (Dv.v K)) [] (fAd K ("is_closed", none)) fd
  c_part_corners : mg "part_corners" = some (.ref (ga K "part_corners"))
  D_part_corners : ∃ fd, FunD K "part_corners" "part_corners" (defArgs s_part_corners) (defBody s_part_corners) (defScope s_part_corners) ([].map (Dv.v K)) [] (fAd K ("part_corners", none)) fd
  c_reach : mg "reach" = some (.ref (ga K "reach"))
  D_reach : ∃ fd, FunD K "reach" "reach" (defArgs s_reach) (defBody s_reach) (defScope s_reach) ([].map (Dv.v K)) [] (fAd K ("reach", none)) fd
  c_is_integer : mg "is_integer" = some (.ref (ga K "is_integer"))
  D_is_integer : ∃ fd, FunD K "is_integer" "is_integer" (defArgs s_is_integer) (defBody s_is_integer) (defScope s_is_integer) ([].map (Dv.v K)) [] (fAd K ("is_integer", none)) fd
  c_is_cell : mg "is_cell" = some (.ref (ga K "is_cell"))
  D_is_cell : ∃ fd, FunD K "is_cell" "is_cell" (defArgs s_is_cell) (defBody s_is_cell) (defScope s_is_cell) ([].map (Dv.v K)) [] (fAd K ("is_cell", none)) fd
  c_is_list : mg "is_list" = some (.ref (ga K "is_list"))
  D_is_list : ∃ fd, FunD K "is_list" "is_list" (defArgs s_is_list) (defBody s_is_list) (defScope s_is_list) ([].map (Dv.v K)) [] (fAd K ("is_list", none)) fd
  c_is_count : mg "is_count" = some (.ref (ga K "is_count"))
  D_is_count : ∃ fd, FunD K "is_count" "is_count" (defArgs s_is_count) (defBody s_is_count) (defScope s_is_count) ([].map (Dv.v K)) [] (fAd K ("is_count", none)) fd
  c_is_part : mg "is_part" = some (.ref (ga K "is_part"))
  D_is_part : ∃ fd, FunD K "is_part" "is_part" (defArgs s_is_part) (defBody s_is_part) (defScope s_is_part) ([].map (Dv.v K)) [] (fAd K ("is_part", none)) fd
  D_Walk_init : ∃ fd, FunD K "__init__" "Walk.__init__" (defArgs s_Walk_init) (defBody s_Walk_init) (defScope s_Walk_init) ([.adr (dflAt ("Walk", some "__init__") 0)].map (Dv.v K)) [] (fAd K ("Walk", some "__init__")) fd
  v_Walk_init_0 : taB K (dflAt ("Walk", some "__init__") 0 K) [] = true
  c_check_moment : mg "check_moment" = some (.ref (ga K "check_moment"))
  D_check_moment : ∃ fd, FunD K "check_moment" "check_moment" (defArgs s_check_moment) (defBody s_check_moment) (defScope s_check_moment) ([].map (Dv.v K)) [] (fAd K ("check_moment", none)) fd
  h_Walk_part_at : Meth K (ga K "Walk") "part_at" (ma K (ga K "Walk") "part_at")
  hm_MadeWalk_Walk_part_at : Meth K (ga K "MadeWalk") "part_at" (ma K (ga K "Walk") "part_at")
  D_Walk_part_at : ∃ fd, FunD K "part_at" "Walk.part_at" (defArgs s_Walk_part_at) (defBody s_Walk_part_at) (defScope s_Walk_part_at) ([].map (Dv.v K)) [] (fAd K ("Walk", some "part_at")) fd
  h_Walk_at : Meth K (ga K "Walk") "at" (ma K (ga K "Walk") "at")
  hm_MadeWalk_Walk_at : Meth K (ga K "MadeWalk") "at" (ma K (ga K "Walk") "at")
  D_Walk_at : ∃ fd, FunD K "at" "Walk.at" (defArgs s_Walk_at) (defBody s_Walk_at) (defScope s_Walk_at) ([].map (Dv.v K)) [] (fAd K ("Walk", some "at")) fd
  c_law : mg "law" = some (.ref (ga K "law"))
  D_law : ∃ fd, FunD K "law" "law" (defArgs s_law) (defBody s_law) (defScope s_law) ([].map (Dv.v K)) [] (fAd K ("law", none)) fd
section
variable {wd : World} {base : Heap} {K : PySem.W.Frag} {mg : Str → Option Value}
/-! _law_area -/
def g__law_area : Sm := (qSeq (qRet (fB1 sumT (fOwn (fComp [1] (hName 1) fYes (fBin mulT (fIx (fVar 1) (fC (.int 3))) (fIx (fVar 1) (fC (.int 5)))) (fIter (fVar 0))))))
    qNil)
def F__law_area : List T → M T := fnS 1 g__law_area
theorem sc__law_area : FnScope ["_law_ups", "_law_row"] ["_law_ups"] (defScope s__law_area) := ⟨rfl, rfl, rfl, by decide +kernel, rfl, by decide +kernel, by decide +kernel⟩
theorem run__law_area (T : Tx base wd K mg) {f : Addr} {fd : FuncData} {dv : List V} {kw : List (Str × V)} (F : FunD K "_law_area" "_law_area" (defArgs s__law_area) (defBody s__law_area) (defScope s__law_area) dv kw f fd) : FnOk PW wd K mg base (L2.CX PW wd) 1 f fd ["_law_ups"] (spF (GG K mg) 1 (fnS 1 g__law_area)) :=
  fn_run (G := GG K mg) (k := 0) F sc__law_area rfl rfl fun cdv A outer s H E hr => by
    have B := bd_of (P := PW) (wd := wd) (G := GG K mg) (base := base) (cdv := cdv) (outer := outer) (H := H) (E := E) sc__law_area hr
    exact (ss_cons (ss_ret (B.sum T.m_sum (k_of (s_own (B.comp [("_law_row", 1)] (i_seq B.eK (vr 0)) (fun _ _ _ _ _ => ((B.blk _ _ _ _ _).nm 1)) (fun _ _ _ _ _ => ts_nil) (fun _ _ _ _ _ => ((B.blk _ _ _ _ _).mul ((B.blk _ _ _ _ _).ix (k_of (vr 1)) s_int) ((B.blk _ _ _ _ _).ix (k_of (vr 1)) s_int))))))))
    ss_nil)
theorem d__law_area (T : Tx base wd K mg) : DefOk PW wd base (GG K mg) 1 "_law_area" 1 [] F__law_area := by
  obtain ⟨fd, F⟩ := T.D__law_area
  exact ⟨_, fd, ["_law_ups"], [], [], run__law_area T F, T.c__law_area, F.kp, (F.bindsN fun _ _ _ _ _ _ us hl => match us, hl with | [_], _ => rfl), .nil, fun _ => .nil⟩
/-! _law_led -/
def g__law_led : Sm := (qSeq (qRet (fDget (fD (fNewD (fDisp [((fC (.str "E")), (fTup [(fC (.int 1)), (fC (.int 0))])), ((fC (.str "N")), (fTup [(fC (.int 0)), (fC (.int 1))])), ((fC (.str "W")), (fTup [(fUn negT (fC (.int 1))), (fC (.int 0))])), ((fC (.str "S")), (fTup [(fC (.int 0)), (fUn negT (fC (.int 1)))]))]))) (fVar 0)))
    qNil)
def F__law_led : List T → M T := fnS 0 g__law_led
theorem sc__law_led : FnScope ["_law_letter"] ["_law_letter"] (defScope s__law_led) := ⟨rfl, rfl, rfl, by decide +kernel, rfl, by decide +kernel, by decide +kernel⟩
theorem run__law_led (T : Tx base wd K mg) {f : Addr} {fd : FuncData} {dv : List V} {kw : List (Str × V)} (F : FunD K "_law_led" "_law_led" (defArgs s__law_led) (defBody s__law_led) (defScope s__law_led) dv kw f fd) : FnOk PW wd K mg base (L2.CX PW wd) 1 f fd ["_law_letter"] (spF (GG K mg) 1 (fnS 0 g__law_led)) :=
  fn_run (G := GG K mg) (k := 0) F sc__law_led rfl rfl fun cdv A outer s H E hr => by
    have B := bd_of (P := PW) (wd := wd) (G := GG K mg) (base := base) (cdv := cdv) (outer := outer) (H := H) (E := E) sc__law_led hr
    exact (ss_cons (ss_ret (B.dget (d_of (s_newD (n_disp (sp_cons s_str (s_tup (a_cons s_int (a_cons s_int a_nil))) (sp_cons s_str (s_tup (a_cons s_int (a_cons s_int a_nil))) (sp_cons s_str (s_tup (a_cons (B.neg s_int) (a_cons s_int a_nil))) (sp_cons s_str (s_tup (a_cons s_int (a_cons (B.neg s_int) a_nil))) sp_nil)))) rfl rfl (by simp) (by decide) (by decide)))) (vr 0)))
    ss_nil)
theorem d__law_led (T : Tx base wd K mg) : DefOk PW wd base (GG K mg) 1 "_law_led" 1 [] F__law_led := by
  obtain ⟨fd, F⟩ := T.D__law_led
  exact ⟨_, fd, ["_law_letter"], [], [], run__law_led T F, T.c__law_led, F.kp, (F.bindsN fun _ _ _ _ _ _ us hl => match us, hl with | [_], _ => rfl), .nil, fun _ => .nil⟩
/-! _law_corners -/
def g__law_corners : Sm := (qSeq (qOwn 2 (fAll [(fVar 0)]))
    (qSeq (qFor (fIter (fVar 1)) (hTupL 2 (hCons (hName 3) (hCons (hName 4) hNil))) (qSeq (qFor (fRng1 (fVar 4)) (hName 5) (qSeq (qFor (fIter (fVar 3)) (hName 6) (qSeq (qSet 7 (fCall F__law_led [] [(fVar 6)]))
    (qSeq (qApp 2 (fTup [(fBin addT (fIx (fIx (fBor 2) (fUn negT (fC (.int 1)))) (fC (.int 0))) (fIx (fVar 7) (fC (.int 0)))), (fBin addT (fIx (fIx (fBor 2) (fUn negT (fC (.int 1)))) (fC (.int 1))) (fIx (fVar 7) (fC (.int 1))))]))
    qNil)))
    qNil))
    qNil))
    (qSeq (qFrz [2] (qRet (fVar 2)))
    qNil)))
def F__law_corners : List T → M T := fnS 6 g__law_corners
theorem sc__law_corners : FnScope ["_law_start", "_law_parts", "_law_found", "_law_word", "_law_times", "_law_turn", "_law_letter", "_law_step"] ["_law_start", "_law_parts"] (defScope s__law_corners) := ⟨rfl, rfl, rfl, by decide +kernel, rfl, by decide +kernel, by decide +kernel⟩
theorem run__law_corners (T : Tx base wd K mg) {f : Addr} {fd : FuncData} {dv : List V} {kw : List (Str × V)} (F : FunD K "_law_corners" "_law_corners" (defArgs s__law_corners) (defBody s__law_corners) (defScope s__law_corners) dv kw f fd) : FnOk PW wd K mg base (L2.CX PW wd) 2 f fd ["_law_start", "_law_parts"] (spF (GG K mg) 2 (fnS 6 g__law_corners)) :=
  fn_run (G := GG K mg) (k := 1) F sc__law_corners rfl rfl fun cdv A outer s H E hr => by
    have B := bd_of (P := PW) (wd := wd) (G := GG K mg) (base := base) (cdv := cdv) (outer := outer) (H := H) (E := E) sc__law_corners hr
    exact (ss_cons (B.own 2 (l_lst (a_cons (vr 0) a_nil)))
    (ss_cons (ss_for po_of B.calm (i_seq B.eK (vr 1)) (B.tl 2 (gs_cons (B.nm 3) (gs_cons (B.nm 4) gs_nil))) (ss_cons (ss_for po_of B.calm (i_range1 rfl (by rw [B.eM]; exact T.m_range) (vr 4)) (B.nm 5) (ss_cons (ss_for po_of B.calm (i_seq B.eK (vr 3)) (B.nm 6) (ss_cons (B.set 7 (B.call (d__law_led T) (a_cons (vr 6) a_nil)))
    (ss_cons (ss_app B.eK 2 rfl (by first | exact Or.inl rfl | exact Or.inr (Or.inl rfl) | exact Or.inr (Or.inr rfl)) (s_tup (a_cons (B.add (B.ix (k_of (B.ix (kv 2) (B.neg s_int))) s_int) (B.ix (k_of (vr 7)) s_int)) (a_cons (B.add (B.ix (k_of (B.ix (kv 2) (B.neg s_int))) s_int) (B.ix (k_of (vr 7)) s_int)) a_nil))))
    ss_nil)))
    ss_nil))
    ss_nil))
    (ss_cons (ss_frzq [2] (ss_ret (vr 2)))
    ss_nil)))
theorem d__law_corners (T : Tx base wd K mg) : DefOk PW wd base (GG K mg) 2 "_law_corners" 2 [] F__law_corners := by
  obtain ⟨fd, F⟩ := T.D__law_corners
  exact ⟨_, fd, ["_law_start", "_law_parts"], [], [], run__law_corners T F, T.c__law_corners, F.kp, (F.bindsN fun _ _ _ _ _ _ us hl => match us, hl with | [_, _], _ => rfl), .nil, fun _ => .nil⟩
/-! _law_draw -/
def g__law_draw : Sm := (qSeq (qIf (fCmpB gtT (fIx (fVar 0) (fC (.int 0))) (fC (.int 0))) (qSeq (qSet 2 (fBin modT (fB1 intT (fIx (fVar 0) (fC (.int 0)))) (fVar 1)))
    (qSeq (qSetIx 0 (fBin divT (fIx (fVar 0) (fC (.int 0))) (fVar 1)) (fC (.int 0)))
    (qSeq (qRet (fVar 2))
    qNil))) qNil)
    (qSeq (qSetIx 0 (fBin modT (fB1 intT (fBin addT (fBin mulT (fIx (fVar 0) (fC (.int 1))) (fC (.int 48271))) (fC (.int 11)))) (fC (.int 2147483647))) (fC (.int 1)))
    (qSeq (qRet (fBin modT (fB1 intT (fBin divT (fBin modT (fB1 intT (fBin mulT (fIx (fVar 0) (fC (.int 1))) (fIx (fVar 0) (fC (.int 1))))) (fC (.int 2147483629))) (fC (.int 16)))) (fVar 1)))
    qNil)))
def F__law_draw : List T → M T := fnS 1 g__law_draw
theorem sc__law_draw : FnScope ["_law_pool_here", "_law_many", "_law_found"] ["_law_pool_here", "_law_many"] (defScope s__law_draw) := ⟨rfl, rfl, rfl, by decide +kernel, rfl, by decide +kernel, by decide +kernel⟩
theorem run__law_draw (T : Tx base wd K mg) {f : Addr} {fd : FuncData} {dv : List V} {kw : List (Str × V)} (F : FunD K "_law_draw" "_law_draw" (defArgs s__law_draw) (defBody s__law_draw) (defScope s__law_draw) dv kw f fd) : FnOk PW wd K mg base (L2.CX PW wd) 1 f fd ["_law_pool_here", "_law_many"] (spF (GG K mg) 2 (fnS 1 g__law_draw)) :=
  fn_run (G := GG K mg) (k := 0) F sc__law_draw rfl rfl fun cdv A outer s H E hr => by
    have B := bd_of (P := PW) (wd := wd) (G := GG K mg) (base := base) (cdv := cdv) (outer := outer) (H := H) (E := E) sc__law_draw hr
    exact (ss_cons (ss_if (B.gtB (k_of (B.ix (k_of (vr 0)) s_int)) (k_of s_int)) (ss_cons (B.set 2 (B.mod (B.int T.m_int (k_of (B.ix (k_of (vr 0)) s_int))) (vr 1)))
    (ss_cons (B.put 0 (B.div (B.ix (k_of (vr 0)) s_int) (vr 1)) s_int)
    (ss_cons (ss_ret (vr 2))
    ss_nil))) ss_nil)
    (ss_cons (B.put 0 (B.mod (B.int T.m_int (k_of (B.add (B.mul (B.ix (k_of (vr 0)) s_int) s_int) s_int))) s_int) s_int)
    (ss_cons (ss_ret (B.mod (B.int T.m_int (k_of (B.div (B.mod (B.int T.m_int (k_of (B.mul (B.ix (k_of (vr 0)) s_int) (B.ix (k_of (vr 0)) s_int)))) s_int) s_int))) (vr 1)))
    ss_nil)))
theorem d__law_draw (T : Tx base wd K mg) : DefOk PW wd base (GG K mg) 1 "_law_draw" 2 [] F__law_draw := by
  obtain ⟨fd, F⟩ := T.D__law_draw
  exact ⟨_, fd, ["_law_pool_here", "_law_many"], [], [], run__law_draw T F, T.c__law_draw, F.kp, (F.bindsN fun _ _ _ _ _ _ us hl => match us, hl with | [_, _], _ => rfl), .nil, fun _ => .nil⟩
/-! _law_pick -/
def g__law_pick : Sm := (qSeq (qRet (fIx (fVar 1) (fCall F__law_draw [] [(fVar 0), (fB1 lenT (fVar 1))])))
    qNil)
def F__law_pick : List T → M T := fnS 0 g__law_pick
theorem sc__law_pick : FnScope ["_law_pool_here", "_law_row"] ["_law_pool_here", "_law_row"] (defScope s__law_pick) := ⟨rfl, rfl, rfl, by decide +kernel, rfl, by decide +kernel, by decide +kernel⟩
theorem run__law_pick (T : Tx base wd K mg) {f : Addr} {fd : FuncData} {dv : List V} {kw : List (Str × V)} (F : FunD K "_law_pick" "_law_pick" (defArgs s__law_pick) (defBody s__law_pick) (defScope s__law_pick) dv kw f fd) : FnOk PW wd K mg base (L2.CX PW wd) 2 f fd ["_law_pool_here", "_law_row"] (spF (GG K mg) 2 (fnS 0 g__law_pick)) :=
  fn_run (G := GG K mg) (k := 1) F sc__law_pick rfl rfl fun cdv A outer s H E hr => by
    have B := bd_of (P := PW) (wd := wd) (G := GG K mg) (base := base) (cdv := cdv) (outer := outer) (H := H) (E := E) sc__law_pick hr
    exact (ss_cons (ss_ret (B.ix (k_of (vr 1)) (B.call (d__law_draw T) (a_cons (vr 0) (a_cons (B.len T.m_len (k_of (vr 1))) a_nil)))))
    ss_nil)
theorem d__law_pick (T : Tx base wd K mg) : DefOk PW wd base (GG K mg) 2 "_law_pick" 2 [] F__law_pick := by
  obtain ⟨fd, F⟩ := T.D__law_pick
  exact ⟨_, fd, ["_law_pool_here", "_law_row"], [], [], run__law_pick T F, T.c__law_pick, F.kp, (F.bindsN fun _ _ _ _ _ _ us hl => match us, hl with | [_, _], _ => rfl), .nil, fun _ => .nil⟩
/-! _law_word_drawn -/
def g__law_word_drawn : Sm := (qSeq (qSet 2 (fCall F__law_pick [] [(fVar 0), (fLst [(fC (.str "ENWS")), (fC (.str "ENWS")), (fC (.str "EN")), (fC (.str "ENE")), (fC (.str "NWN")), (fC (.str "EWN"))])]))
    (qSeq (qRet (fStr1 joinT (fC (.str "")) (fOwn (fComp [3] (hName 3) fYes (fCall F__law_pick [] [(fVar 0), (fVar 2)]) (fRng1 (fBin addT (fC (.int 1)) (fCall F__law_draw [] [(fVar 0), (fVar 1)])))))))
    qNil))
def F__law_word_drawn : List T → M T := fnS 2 g__law_word_drawn
theorem sc__law_word_drawn : FnScope ["_law_pool_here", "_law_most", "_law_signs", "_law_turn"] ["_law_pool_here", "_law_most"] (defScope s__law_word_drawn) := ⟨rfl, rfl, rfl, by decide +kernel, rfl, by decide +kernel, by decide +kernel⟩
theorem run__law_word_drawn (T : Tx base wd K mg) {f : Addr} {fd : FuncData} {dv : List V} {kw : List (Str × V)} (F : FunD K "_law_word_drawn" "_law_word_drawn" (defArgs s__law_word_drawn) (defBody s__law_word_drawn) (defScope s__law_word_drawn) dv kw f fd) : FnOk PW wd K mg base (L2.CX PW wd) 3 f fd ["_law_pool_here", "_law_most"] (spF (GG K mg) 2 (fnS 2 g__law_word_drawn)) :=
  fn_run (G := GG K mg) (k := 2) F sc__law_word_drawn rfl rfl fun cdv A outer s H E hr => by
    have B := bd_of (P := PW) (wd := wd) (G := GG K mg) (base := base) (cdv := cdv) (outer := outer) (H := H) (E := E) sc__law_word_drawn hr
    exact (ss_cons (B.set 2 (B.call (d__law_pick T) (a_cons (vr 0) (a_cons (s_lst (a_cons s_str (a_cons s_str (a_cons s_str (a_cons s_str (a_cons s_str (a_cons s_str a_nil))))))) a_nil))))
    (ss_cons (ss_ret (s_join B.eK s_str (s_own (B.comp [("_law_turn", 3)] (i_range1 rfl (by rw [B.eM]; exact T.m_range) (B.add s_int (B.call (d__law_draw T) (a_cons (vr 0) (a_cons (vr 1) a_nil))))) (fun _ _ _ _ _ => ((B.blk _ _ _ _ _).nm 3)) (fun _ _ _ _ _ => ts_nil) (fun _ _ _ _ _ => ((B.blk _ _ _ _ _).call (d__law_pick T) (a_cons (vr 0) (a_cons (vr 2) a_nil))))))))
    ss_nil))
theorem d__law_word_drawn (T : Tx base wd K mg) : DefOk PW wd base (GG K mg) 3 "_law_word_drawn" 2 [] F__law_word_drawn := by
  obtain ⟨fd, F⟩ := T.D__law_word_drawn
  exact ⟨_, fd, ["_law_pool_here", "_law_most"], [], [], run__law_word_drawn T F, T.c__law_word_drawn, F.kp, (F.bindsN fun _ _ _ _ _ _ us hl => match us, hl with | [_, _], _ => rfl), .nil, fun _ => .nil⟩
/-! _law_loop_parts -/
def g__law_loop_parts : Sm := (qSeq (qPar3o 2 3 4 [(fC (.int 0)), (fC (.int 0))])
    (qSeq (qFor (fRng1 (fCall F__law_pick [] [(fVar 0), (fLst [(fC (.int 0)), (fC (.int 1)), (fC (.int 2)), (fC (.int 3)), (fC (.int 3)), (fC (.int 4)), (fC (.int 4))])])) (hName 5) (qSeq (qPar2 7 8 (fCall F__law_word_drawn [] [(fVar 0), (fC (.int 5))]) (fCall F__law_draw [] [(fVar 0), (fVar 1)]))
    (qSeq (qApp 2 (fTup [(fVar 7), (fVar 8)]))
    (qSeq (qSet 3 (fBin addT (fVar 3) (fBin mulT (fVar 8) (fBin subT (fStr1 countT (fVar 7) (fC (.str "E"))) (fStr1 countT (fVar 7) (fC (.str "W")))))))
    (qSeq (qSet 4 (fBin addT (fVar 4) (fBin mulT (fVar 8) (fBin subT (fStr1 countT (fVar 7) (fC (.str "N"))) (fStr1 countT (fVar 7) (fC (.str "S")))))))
    qNil)))))
    (qSeq (qSet 6 (fLst [(fTup [(fIf (fCmpB gtT (fVar 3) (fC (.int 0))) (fC (.str "W")) (fC (.str "E"))), (fB1 absT (fB1 intT (fVar 3)))]), (fTup [(fIf (fCmpB gtT (fVar 4) (fC (.int 0))) (fC (.str "S")) (fC (.str "N"))), (fB1 absT (fB1 intT (fVar 4)))])]))
    (qSeq (qFrz [2] (qRet (fBin addT (fVar 2) (fIf (fCmpB eqT (fCall F__law_draw [] [(fVar 0), (fC (.int 2))]) (fC (.int 0))) (fVar 6) (fRev (fVar 6))))))
    qNil))))
def F__law_loop_parts : List T → M T := fnS 7 g__law_loop_parts
theorem sc__law_loop_parts : FnScope ["_law_pool_here", "_law_most", "_law_parts", "_law_x", "_law_y", "_law_turn", "_law_back", "_law_word", "_law_times"] ["_law_pool_here", "_law_most"] (defScope s__law_loop_parts) := ⟨rfl, rfl, rfl, by decide +kernel, rfl, by decide +kernel, by decide +kernel⟩
theorem run__law_loop_parts (T : Tx base wd K mg) {f : Addr} {fd : FuncData} {dv : List V} {kw : List (Str × V)} (F : FunD K "_law_loop_parts" "_law_loop_parts" (defArgs s__law_loop_parts) (defBody s__law_loop_parts) (defScope s__law_loop_parts) dv kw f fd) : FnOk PW wd K mg base (L2.CX PW wd) 4 f fd ["_law_pool_here", "_law_most"] (spF (GG K mg) 2 (fnS 7 g__law_loop_parts)) :=
  fn_run (G := GG K mg) (k := 3) F sc__law_loop_parts rfl rfl fun cdv A outer s H E hr => by
    have B := bd_of (P := PW) (wd := wd) (G := GG K mg) (base := base) (cdv := cdv) (outer := outer) (H := H) (E := E) sc__law_loop_parts hr
    exact (ss_cons (B.par3o 2 3 4 (a_cons s_int (a_cons s_int a_nil)))
    (ss_cons (ss_for po_of B.calm (i_range1 rfl (by rw [B.eM]; exact T.m_range) (B.call (d__law_pick T) (a_cons (vr 0) (a_cons (s_lst (a_cons s_int (a_cons s_int (a_cons s_int (a_cons s_int (a_cons s_int (a_cons s_int (a_cons s_int a_nil)))))))) a_nil)))) (B.nm 5) (ss_cons (B.par2 7 8 (a_cons (B.call (d__law_word_drawn T) (a_cons (vr 0) (a_cons s_int a_nil))) (a_cons (B.call (d__law_draw T) (a_cons (vr 0) (a_cons (vr 1) a_nil))) a_nil)))
    (ss_cons (ss_app B.eK 2 rfl (by first | exact Or.inl rfl | exact Or.inr (Or.inl rfl) | exact Or.inr (Or.inr rfl)) (s_tup (a_cons (vr 7) (a_cons (vr 8) a_nil))))
    (ss_cons (B.set 3 (B.add (vr 3) (B.mul (vr 8) (B.sub (s_count (vr 7) s_str) (s_count (vr 7) s_str)))))
    (ss_cons (B.set 4 (B.add (vr 4) (B.mul (vr 8) (B.sub (s_count (vr 7) s_str) (s_count (vr 7) s_str)))))
    ss_nil)))))
    (ss_cons (B.set 6 (s_lst (a_cons (s_tup (a_cons (s_if (B.gtB (k_of (vr 3)) (k_of s_int)) s_str s_str) (a_cons (B.abs T.m_abs (k_of (B.int T.m_int (k_of (vr 3))))) a_nil))) (a_cons (s_tup (a_cons (s_if (B.gtB (k_of (vr 4)) (k_of s_int)) s_str s_str) (a_cons (B.abs T.m_abs (k_of (B.int T.m_int (k_of (vr 4))))) a_nil))) a_nil))))
    (ss_cons (ss_frzq [2] (ss_ret (B.add (vr 2) (s_if (B.eqB (k_of (B.call (d__law_draw T) (a_cons (vr 0) (a_cons s_int a_nil)))) (k_of s_int)) (vr 6) (s_rev B.eK (vr 6))))))
    ss_nil))))
theorem d__law_loop_parts (T : Tx base wd K mg) : DefOk PW wd base (GG K mg) 4 "_law_loop_parts" 2 [] F__law_loop_parts := by
  obtain ⟨fd, F⟩ := T.D__law_loop_parts
  exact ⟨_, fd, ["_law_pool_here", "_law_most"], [], [], run__law_loop_parts T F, T.c__law_loop_parts, F.kp, (F.bindsN fun _ _ _ _ _ _ us hl => match us, hl with | [_, _], _ => rfl), .nil, fun _ => .nil⟩
/-! _law_pool -/
def g__law_pool : Sm := (qSeq (qSet 2 (fIf (fCmpB ltT (fVar 1) (fB1 lenT (fVar 0))) (fBin max2T (fB1 intT (fIx (fVar 0) (fVar 1))) (fB1 intT (fBin subT (fUn negT (fC (.int 1))) (fIx (fVar 0) (fVar 1))))) (fC (.int 7))))
    (qSeq (qSet 3 (fBin addT (fBin modT (fB1 intT (fBin mulT (fBin addT (fBin modT (fB1 intT (fVar 2)) (fC (.int 2147483629))) (fBin mulT (fC (.int 104729)) (fBin addT (fVar 1) (fC (.int 1))))) (fC (.int 48271)))) (fC (.int 2147483629))) (fC (.int 1))))
    (qSeq (qRet (fRef (fAll [(fBin mulT (fVar 2) (fB1 intT (fCmp geT (fVar 2) (fBin powT (fC (.int 10)) (fC (.int 18)))))), (fBin modT (fB1 intT (fBin mulT (fVar 3) (fVar 3))) (fC (.int 2147483629)))])))
    qNil)))
def F__law_pool : List T → M T := fnS 2 g__law_pool
theorem sc__law_pool : FnScope ["_law_script", "_law_k", "_law_size", "_law_mixed"] ["_law_script", "_law_k"] (defScope s__law_pool) := ⟨rfl, rfl, rfl, by decide +kernel, rfl, by decide +kernel, by decide +kernel⟩
theorem run__law_pool (T : Tx base wd K mg) {f : Addr} {fd : FuncData} {dv : List V} {kw : List (Str × V)} (F : FunD K "_law_pool" "_law_pool" (defArgs s__law_pool) (defBody s__law_pool) (defScope s__law_pool) dv kw f fd) : FnOk PW wd K mg base (L2.CX PW wd) 1 f fd ["_law_script", "_law_k"] (spF (GG K mg) 2 (fnS 2 g__law_pool)) :=
  fn_run (G := GG K mg) (k := 0) F sc__law_pool rfl rfl fun cdv A outer s H E hr => by
    have B := bd_of (P := PW) (wd := wd) (G := GG K mg) (base := base) (cdv := cdv) (outer := outer) (H := H) (E := E) sc__law_pool hr
    exact (ss_cons (B.set 2 (s_if (B.ltB (k_of (vr 1)) (k_of (B.len T.m_len (k_of (vr 0))))) (B.max2 T.m_max (B.int T.m_int (k_of (B.ix (k_of (vr 0)) (vr 1)))) (B.int T.m_int (k_of (B.sub (B.neg s_int) (B.ix (k_of (vr 0)) (vr 1)))))) s_int))
    (ss_cons (B.set 3 (B.add (B.mod (B.int T.m_int (k_of (B.mul (B.add (B.mod (B.int T.m_int (k_of (vr 2))) s_int) (B.mul s_int (B.add (vr 1) s_int))) s_int))) s_int) s_int))
    (ss_cons (ss_ret (s_ref (l_lst (a_cons (B.mul (vr 2) (B.int T.m_int (k_of (B.ge (k_of (vr 2)) (k_of (B.pow s_int s_int)))))) (a_cons (B.mod (B.int T.m_int (k_of (B.mul (vr 3) (vr 3)))) s_int) a_nil)))))
    ss_nil)))
theorem d__law_pool (T : Tx base wd K mg) : DefOk PW wd base (GG K mg) 1 "_law_pool" 2 [] F__law_pool := by
  obtain ⟨fd, F⟩ := T.D__law_pool
  exact ⟨_, fd, ["_law_script", "_law_k"], [], [], run__law_pool T F, T.c__law_pool, F.kp, (F.bindsN fun _ _ _ _ _ _ us hl => match us, hl with | [_, _], _ => rfl), .nil, fun _ => .nil⟩
/-! _law_reach_due -/
def g__law_reach_due : Sm := (qSeq (qPar2 1 2 (fOwn (fComp [4] (hName 4) fYes (fB1 intT (fIx (fVar 4) (fC (.int 0)))) (fIter (fVar 0)))) (fOwn (fComp [4] (hName 4) fYes (fB1 intT (fIx (fVar 4) (fC (.int 1)))) (fIter (fVar 0)))))
    (qSeq (qSet 3 (fLst [(fB1 minT (fOwn (fComp [5] (hName 5) fYes (fB1 intT (fVar 5)) (fIter (fVar 1))))), (fB1 maxT (fOwn (fComp [5] (hName 5) fYes (fB1 intT (fVar 5)) (fIter (fVar 1)))))]))
    (qSeq (qRet (fTup [(fIx (fVar 3) (fC (.int 0))), (fIx (fVar 3) (fC (.int 1))), (fB1 minT (fOwn (fComp [6] (hName 6) fYes (fB1 intT (fVar 6)) (fIter (fVar 2))))), (fB1 maxT (fOwn (fComp [6] (hName 6) fYes (fB1 intT (fVar 6)) (fIter (fVar 2)))))]))
    qNil)))
def F__law_reach_due : List T → M T := fnS 6 g__law_reach_due
theorem sc__law_reach_due : FnScope ["_law_corners_here", "_law_xs", "_law_ys", "_law_ends", "_law_corner", "_law_x", "_law_y"] ["_law_corners_here"] (defScope s__law_reach_due) := ⟨rfl, rfl, rfl, by decide +kernel, rfl, by decide +kernel, by decide +kernel⟩
theorem run__law_reach_due (T : Tx base wd K mg) {f : Addr} {fd : FuncData} {dv : List V} {kw : List (Str × V)} (F : FunD K "_law_reach_due" "_law_reach_due" (defArgs s__law_reach_due) (defBody s__law_reach_due) (defScope s__law_reach_due) dv kw f fd) : FnOk PW wd K mg base (L2.CX PW wd) 1 f fd ["_law_corners_here"] (spF (GG K mg) 1 (fnS 6 g__law_reach_due)) :=
  fn_run (G := GG K mg) (k := 0) F sc__law_reach_due rfl rfl fun cdv A outer s H E hr => by
    have B := bd_of (P := PW) (wd := wd) (G := GG K mg) (base := base) (cdv := cdv) (outer := outer) (H := H) (E := E) sc__law_reach_due hr
    exact (ss_cons (B.par2 1 2 (a_cons (s_own (B.comp [("_law_corner", 4)] (i_seq B.eK (vr 0)) (fun _ _ _ _ _ => ((B.blk _ _ _ _ _).nm 4)) (fun _ _ _ _ _ => ts_nil) (fun _ _ _ _ _ => ((B.blk _ _ _ _ _).int T.m_int (k_of ((B.blk _ _ _ _ _).ix (k_of (vr 4)) s_int)))))) (a_cons (s_own (B.comp [("_law_corner", 4)] (i_seq B.eK (vr 0)) (fun _ _ _ _ _ => ((B.blk _ _ _ _ _).nm 4)) (fun _ _ _ _ _ => ts_nil) (fun _ _ _ _ _ => ((B.blk _ _ _ _ _).int T.m_int (k_of ((B.blk _ _ _ _ _).ix (k_of (vr 4)) s_int)))))) a_nil)))
    (ss_cons (B.set 3 (s_lst (a_cons (B.min1 T.m_min (k_of (s_own (B.comp [("_law_x", 5)] (i_seq B.eK (vr 1)) (fun _ _ _ _ _ => ((B.blk _ _ _ _ _).nm 5)) (fun _ _ _ _ _ => ts_nil) (fun _ _ _ _ _ => ((B.blk _ _ _ _ _).int T.m_int (k_of (vr 5)))))))) (a_cons (B.max1 T.m_max (k_of (s_own (B.comp [("_law_x", 5)] (i_seq B.eK (vr 1)) (fun _ _ _ _ _ => ((B.blk _ _ _ _ _).nm 5)) (fun _ _ _ _ _ => ts_nil) (fun _ _ _ _ _ => ((B.blk _ _ _ _ _).int T.m_int (k_of (vr 5)))))))) a_nil))))
    (ss_cons (ss_ret (s_tup (a_cons (B.ix (k_of (vr 3)) s_int) (a_cons (B.ix (k_of (vr 3)) s_int) (a_cons (B.min1 T.m_min (k_of (s_own (B.comp [("_law_y", 6)] (i_seq B.eK (vr 2)) (fun _ _ _ _ _ => ((B.blk _ _ _ _ _).nm 6)) (fun _ _ _ _ _ => ts_nil) (fun _ _ _ _ _ => ((B.blk _ _ _ _ _).int T.m_int (k_of (vr 6)))))))) (a_cons (B.max1 T.m_max (k_of (s_own (B.comp [("_law_y", 6)] (i_seq B.eK (vr 2)) (fun _ _ _ _ _ => ((B.blk _ _ _ _ _).nm 6)) (fun _ _ _ _ _ => ts_nil) (fun _ _ _ _ _ => ((B.blk _ _ _ _ _).int T.m_int (k_of (vr 6)))))))) a_nil))))))
    ss_nil)))
theorem d__law_reach_due (T : Tx base wd K mg) : DefOk PW wd base (GG K mg) 1 "_law_reach_due" 1 [] F__law_reach_due := by
  obtain ⟨fd, F⟩ := T.D__law_reach_due
  exact ⟨_, fd, ["_law_corners_here"], [], [], run__law_reach_due T F, T.c__law_reach_due, F.kp, (F.bindsN fun _ _ _ _ _ _ us hl => match us, hl with | [_], _ => rfl), .nil, fun _ => .nil⟩
/-! _law_uprights -/
def g__law_uprights : Sm := (qSeq (qPar2ov 2 3 (fAll []) (fVar 0))
    (qSeq (qFor (fRng1 (fB1 lenT (fVar 1))) (hName 4) (qSeq (qAsg (fIx (fVar 1) (fVar 4)) (hTupL 2 (hCons (hName 5) (hCons (hName 6) hNil))))
    (qSeq (qFor (fRng1 (fVar 6)) (hName 7) (qSeq (qFor (fRng1 (fB1 lenT (fVar 5))) (hName 8) (qSeq (qSet 9 (fCall F__law_led [] [(fIx (fVar 5) (fVar 8))]))
    (qSeq (qIf (fCmpB neT (fIx (fVar 9) (fC (.int 1))) (fC (.int 0))) (qSeq (qApp 2 (fTup [(fVar 4), (fVar 8), (fVar 7), (fIx (fVar 3) (fC (.int 0))), (fBin subT (fIx (fVar 3) (fC (.int 1))) (fB1 intT (fCmp ltT (fIx (fVar 9) (fC (.int 1))) (fC (.int 0))))), (fIx (fVar 9) (fC (.int 1)))]))
    qNil) qNil)
    (qSeq (qSet 3 (fTup [(fBin addT (fIx (fVar 3) (fC (.int 0))) (fIx (fVar 9) (fC (.int 0)))), (fBin addT (fIx (fVar 3) (fC (.int 1))) (fIx (fVar 9) (fC (.int 1))))]))
    qNil))))
    qNil))
    qNil)))
    (qSeq (qFrz [2] (qRet (fVar 2)))
    qNil)))
def F__law_uprights : List T → M T := fnS 8 g__law_uprights
theorem sc__law_uprights : FnScope ["_law_start", "_law_parts", "_law_found", "_law_here", "_law_part", "_law_word", "_law_times", "_law_turn", "_law_place", "_law_step"] ["_law_start", "_law_parts"] (defScope s__law_uprights) := ⟨rfl, rfl, rfl, by decide +kernel, rfl, by decide +kernel, by decide +kernel⟩
theorem run__law_uprights (T : Tx base wd K mg) {f : Addr} {fd : FuncData} {dv : List V} {kw : List (Str × V)} (F : FunD K "_law_uprights" "_law_uprights" (defArgs s__law_uprights) (defBody s__law_uprights) (defScope s__law_uprights) dv kw f fd) : FnOk PW wd K mg base (L2.CX PW wd) 2 f fd ["_law_start", "_law_parts"] (spF (GG K mg) 2 (fnS 8 g__law_uprights)) :=
  fn_run (G := GG K mg) (k := 1) F sc__law_uprights rfl rfl fun cdv A outer s H E hr => by
    have B := bd_of (P := PW) (wd := wd) (G := GG K mg) (base := base) (cdv := cdv) (outer := outer) (H := H) (E := E) sc__law_uprights hr
    exact (ss_cons (B.par2ov 2 3 (l_lst a_nil) (vr 0))
    (ss_cons (ss_for po_of B.calm (i_range1 rfl (by rw [B.eM]; exact T.m_range) (B.len T.m_len (k_of (vr 1)))) (B.nm 4) (ss_cons (ss_asg (B.ix (k_of (vr 1)) (vr 4)) (B.tl 2 (gs_cons (B.nm 5) (gs_cons (B.nm 6) gs_nil))))
    (ss_cons (ss_for po_of B.calm (i_range1 rfl (by rw [B.eM]; exact T.m_range) (vr 6)) (B.nm 7) (ss_cons (ss_for po_of B.calm (i_range1 rfl (by rw [B.eM]; exact T.m_range) (B.len T.m_len (k_of (vr 5)))) (B.nm 8) (ss_cons (B.set 9 (B.call (d__law_led T) (a_cons (B.ix (k_of (vr 5)) (vr 8)) a_nil)))
    (ss_cons (ss_if (B.neB (k_of (B.ix (k_of (vr 9)) s_int)) (k_of s_int)) (ss_cons (ss_app B.eK 2 rfl (by first | exact Or.inl rfl | exact Or.inr (Or.inl rfl) | exact Or.inr (Or.inr rfl)) (s_tup (a_cons (vr 4) (a_cons (vr 8) (a_cons (vr 7) (a_cons (B.ix (k_of (vr 3)) s_int) (a_cons (B.sub (B.ix (k_of (vr 3)) s_int) (B.int T.m_int (k_of (B.lt (k_of (B.ix (k_of (vr 9)) s_int)) (k_of s_int))))) (a_cons (B.ix (k_of (vr 9)) s_int) a_nil))))))))
    ss_nil) ss_nil)
    (ss_cons (B.set 3 (s_tup (a_cons (B.add (B.ix (k_of (vr 3)) s_int) (B.ix (k_of (vr 9)) s_int)) (a_cons (B.add (B.ix (k_of (vr 3)) s_int) (B.ix (k_of (vr 9)) s_int)) a_nil))))
    ss_nil))))
    ss_nil))
    ss_nil)))
    (ss_cons (ss_frzq [2] (ss_ret (vr 2)))
    ss_nil)))
theorem d__law_uprights (T : Tx base wd K mg) : DefOk PW wd base (GG K mg) 2 "_law_uprights" 2 [] F__law_uprights := by
  obtain ⟨fd, F⟩ := T.D__law_uprights
  exact ⟨_, fd, ["_law_start", "_law_parts"], [], [], run__law_uprights T F, T.c__law_uprights, F.kp, (F.bindsN fun _ _ _ _ _ _ us hl => match us, hl with | [_, _], _ => rfl), .nil, fun _ => .nil⟩
/-! check_walk_closed -/
def g_check_walk_closed : Sm := (qSeq (qIf (fNotB (fTru (fBin (isiT tab) (fVar 0) (fC (.cl 4))))) (qSeq (qRaise 0 (fC (.str "walk")))
    qNil) qNil)
    qNil)
def F_check_walk_closed : List T → M T := fnS 0 g_check_walk_closed
theorem sc_check_walk_closed : FnScope ["walk"] ["walk"] (defScope s_check_walk_closed) := ⟨rfl, rfl, rfl, by decide +kernel, rfl, by decide +kernel, by decide +kernel⟩
theorem run_check_walk_closed (T : Tx base wd K mg) {f : Addr} {fd : FuncData} {dv : List V} {kw : List (Str × V)} (F : FunD K "check_walk" "check_walk" (defArgs s_check_walk_closed) (defBody s_check_walk_closed) (defScope s_check_walk_closed) dv kw f fd) : FnOk PW wd K mg base (L2.CX PW wd) 3 f fd ["walk"] (spF (GG K mg) 1 (fnS 0 g_check_walk_closed)) :=
  fn_run (G := GG K mg) (k := 2) F sc_check_walk_closed rfl rfl fun cdv A outer s H E hr => by
    have B := bd_of (P := PW) (wd := wd) (G := GG K mg) (base := base) (cdv := cdv) (outer := outer) (H := H) (E := E) sc_check_walk_closed hr
    exact (ss_cons (ss_if (w_not (B.tru (B.isi T.tab T.m_isinstance (vr 0) (B.cls 4 T.c_Walk)))) (ss_cons (ss_raise B.calm B.eK B.eM B.tk B.rm (by decide) T.x_BadPart rfl s_str rfl)
    ss_nil) ss_nil)
    ss_nil)
theorem d_check_walk_closed (T : Tx base wd K mg) : DefOk PW wd base (GG K mg) 3 "check_walk_closed" 1 [] F_check_walk_closed := by
  obtain ⟨fd, F⟩ := T.D_check_walk_closed
  exact ⟨_, fd, ["walk"], [], [], run_check_walk_closed T F, T.c_check_walk_closed, F.kp, (F.bindsN fun _ _ _ _ _ _ us hl => match us, hl with | [_], _ => rfl), .nil, fun _ => .nil⟩
/-! check_walk_walks -/
def g_check_walk_walks : Sm := (qSeq (qIf (fNotB (fTru (fBin (isiT tab) (fVar 0) (fC (.cl 4))))) (qSeq (qRaise 0 (fC (.str "walk")))
    qNil) qNil)
    qNil)
def F_check_walk_walks : List T → M T := fnS 0 g_check_walk_walks
theorem sc_check_walk_walks : FnScope ["walk"] ["walk"] (defScope s_check_walk_walks) := ⟨rfl, rfl, rfl, by decide +kernel, rfl, by decide +kernel, by decide +kernel⟩
theorem run_check_walk_walks (T : Tx base wd K mg) {f : Addr} {fd : FuncData} {dv : List V} {kw : List (Str × V)} (F : FunD K "check_walk" "check_walk" (defArgs s_check_walk_walks) (defBody s_check_walk_walks) (defScope s_check_walk_walks) dv kw f fd) : FnOk PW wd K mg base (L2.CX PW wd) 3 f fd ["walk"] (spF (GG K mg) 1 (fnS 0 g_check_walk_walks)) :=
  fn_run (G := GG K mg) (k := 2) F sc_check_walk_walks rfl rfl fun cdv A outer s H E hr => by
    have B := bd_of (P := PW) (wd := wd) (G := GG K mg) (base := base) (cdv := cdv) (outer := outer) (H := H) (E := E) sc_check_walk_walks hr
    exact (ss_cons (ss_if (w_not (B.tru (B.isi T.tab T.m_isinstance (vr 0) (B.cls 4 T.c_Walk)))) (ss_cons (ss_raise B.calm B.eK B.eM B.tk B.rm (by decide) T.x_BadPart rfl s_str rfl)
    ss_nil) ss_nil)
    ss_nil)
theorem d_check_walk_walks (T : Tx base wd K mg) : DefOk PW wd base (GG K mg) 3 "check_walk_walks" 1 [] F_check_walk_walks := by
  obtain ⟨fd, F⟩ := T.D_check_walk_walks
  exact ⟨_, fd, ["walk"], [], [], run_check_walk_walks T F, T.c_check_walk_walks, F.kp, (F.bindsN fun _ _ _ _ _ _ us hl => match us, hl with | [_], _ => rfl), .nil, fun _ => .nil⟩
/-! MadeWalk_init -/
def g_MadeWalk_init : Sm := (qSeq (qFld 0 5 0 (fVar 1))
    (qSeq (qFld 0 5 1 (fB1 tupT (fVar 2)))
    qNil))
def F_MadeWalk_init : List T → M (List T) := fnI (GG [] (fun _ => none)) 5 0 g_MadeWalk_init
theorem sc_MadeWalk_init : FnScope ["self", "cell", "parts"] ["self", "cell", "parts"] (defScope s_MadeWalk_init) := ⟨rfl, rfl, rfl, by decide +kernel, rfl, by decide +kernel, by decide +kernel⟩
theorem run_MadeWalk_init (T : Tx base wd K mg) {f : Addr} {fd : FuncData} {dv : List V} {kw : List (Str × V)} (F : FunD K "__init__" "MadeWalk.__init__" (defArgs s_MadeWalk_init) (defBody s_MadeWalk_init) (defScope s_MadeWalk_init) dv kw f fd) : FnOk PW wd K mg base (L2.CX PW wd) 1 f fd ["self", "cell", "parts"] (spI (GG K mg) 5 2 (fnI (GG K mg) 5 0 g_MadeWalk_init)) :=
  make_run (G := GG K mg) (k := 0) F sc_MadeWalk_init rfl rfl fun cdv A outer s H E hr => by
    have B := bd_of (P := PW) (wd := wd) (G := GG K mg) (base := base) (cdv := cdv) (outer := outer) (H := H) (E := E) sc_MadeWalk_init hr
    exact (ss_cons (ss_fld B.eK 0 rfl (Or.inl rfl) T.n_MadeWalk_cell (vr 1))
    (ss_cons (ss_fld B.eK 0 rfl (Or.inl rfl) T.n_MadeWalk_parts (B.tuple T.m_tuple (k_of (vr 2))))
    ss_nil))
theorem d_MadeWalk_init (T : Tx base wd K mg) : MakeOk PW wd base (GG K mg) 1 5 2 [] F_MadeWalk_init := by
  obtain ⟨fd, F⟩ := T.D_MadeWalk_init
  exact ⟨_, _, fd, ["self", "cell", "parts"], [], [], T.c_MadeWalk, T.mk_MadeWalk, run_MadeWalk_init T F, (F.bindsN fun _ _ _ _ _ _ us hl => match us, hl with | [_, _, _], _ => rfl), .nil, fun _ => .nil⟩
/-! shifted -/
def g_shifted : Sm := (qSeq (qRet (fTup [(fBin addT (fIx (fVar 0) (fC (.int 0))) (fBin mulT (fIx (fVar 1) (fC (.int 0))) (fVar 2))), (fBin addT (fIx (fVar 0) (fC (.int 1))) (fBin mulT (fIx (fVar 1) (fC (.int 1))) (fVar 2)))]))
    qNil)
def F_shifted : List T → M T := fnS 0 g_shifted
theorem sc_shifted : FnScope ["cell", "step", "times"] ["cell", "step", "times"] (defScope s_shifted) := ⟨rfl, rfl, rfl, by decide +kernel, rfl, by decide +kernel, by decide +kernel⟩
theorem run_shifted (T : Tx base wd K mg) {f : Addr} {fd : FuncData} {dv : List V} {kw : List (Str × V)} (F : FunD K "shifted" "shifted" (defArgs s_shifted) (defBody s_shifted) (defScope s_shifted) dv kw f fd) : FnOk PW wd K mg base (L2.CX PW wd) 1 f fd ["cell", "step", "times"] (spF (GG K mg) 3 (fnS 0 g_shifted)) :=
  fn_run (G := GG K mg) (k := 0) F sc_shifted rfl rfl fun cdv A outer s H E hr => by
    have B := bd_of (P := PW) (wd := wd) (G := GG K mg) (base := base) (cdv := cdv) (outer := outer) (H := H) (E := E) sc_shifted hr
    exact (ss_cons (ss_ret (s_tup (a_cons (B.add (B.ix (k_of (vr 0)) s_int) (B.mul (B.ix (k_of (vr 1)) s_int) (vr 2))) (a_cons (B.add (B.ix (k_of (vr 0)) s_int) (B.mul (B.ix (k_of (vr 1)) s_int) (vr 2))) a_nil))))
    ss_nil)
theorem d_shifted (T : Tx base wd K mg) : DefOk PW wd base (GG K mg) 1 "shifted" 3 [] F_shifted := by
  obtain ⟨fd, F⟩ := T.D_shifted
  obtain ⟨ds, hv, hb⟩ := F.binds1 (ps := ["cell", "step", "times"]) 3 1 (by simp) (by simp) (fun _ _ _ _ _ _ _ us its h1 h2 => match us, its, h1, h2 with | [_, _, _], [_], _, _ => ⟨_, rfl, rfl⟩)
  exact ⟨_, fd, ["cell", "step", "times"], _, ds, run_shifted T F, T.c_shifted, F.kp, hb, hv, fun w => .nil⟩
theorem d_shifted_1 (T : Tx base wd K mg) : DefOk PW wd base (GG K mg) 1 "shifted" 3 [.int 1] F_shifted := by
  obtain ⟨fd, F⟩ := T.D_shifted
  obtain ⟨ds, hv, hb⟩ := F.binds1 (ps := ["cell", "step", "times"]) 2 0 (by simp) (by simp) (fun _ _ _ _ _ _ _ us its h1 h2 => match us, its, h1, h2 with | [_, _], [_], _, _ => ⟨_, rfl, rfl⟩)
  exact ⟨_, fd, ["cell", "step", "times"], _, ds, run_shifted T F, T.c_shifted, F.kp, hb, hv, fun w => (.cons (.int _) .nil)⟩
/-! step_of -/
def g_step_of : Sm := (qSeq (qRet (fDget (fD (fNewD (fDisp [((fC (.str "E")), (fTup [(fC (.int 1)), (fC (.int 0))])), ((fC (.str "N")), (fTup [(fC (.int 0)), (fC (.int 1))])), ((fC (.str "W")), (fTup [(fUn negT (fC (.int 1))), (fC (.int 0))])), ((fC (.str "S")), (fTup [(fC (.int 0)), (fUn negT (fC (.int 1)))]))]))) (fVar 0)))
    qNil)
def F_step_of : List T → M T := fnS 0 g_step_of
theorem sc_step_of : FnScope ["letter"] ["letter"] (defScope s_step_of) := ⟨rfl, rfl, rfl, by decide +kernel, rfl, by decide +kernel, by decide +kernel⟩
theorem run_step_of (T : Tx base wd K mg) {f : Addr} {fd : FuncData} {dv : List V} {kw : List (Str × V)} (F : FunD K "step_of" "step_of" (defArgs s_step_of) (defBody s_step_of) (defScope s_step_of) dv kw f fd) : FnOk PW wd K mg base (L2.CX PW wd) 1 f fd ["letter"] (spF (GG K mg) 1 (fnS 0 g_step_of)) :=
  fn_run (G := GG K mg) (k := 0) F sc_step_of rfl rfl fun cdv A outer s H E hr => by
    have B := bd_of (P := PW) (wd := wd) (G := GG K mg) (base := base) (cdv := cdv) (outer := outer) (H := H) (E := E) sc_step_of hr
    exact (ss_cons (ss_ret (B.dget (d_of (s_newD (n_disp (sp_cons s_str (s_tup (a_cons s_int (a_cons s_int a_nil))) (sp_cons s_str (s_tup (a_cons s_int (a_cons s_int a_nil))) (sp_cons s_str (s_tup (a_cons (B.neg s_int) (a_cons s_int a_nil))) (sp_cons s_str (s_tup (a_cons s_int (a_cons (B.neg s_int) a_nil))) sp_nil)))) rfl rfl (by simp) (by decide) (by decide)))) (vr 0)))
    ss_nil)
theorem d_step_of (T : Tx base wd K mg) : DefOk PW wd base (GG K mg) 1 "step_of" 1 [] F_step_of := by
  obtain ⟨fd, F⟩ := T.D_step_of
  exact ⟨_, fd, ["letter"], [], [], run_step_of T F, T.c_step_of, F.kp, (F.bindsN fun _ _ _ _ _ _ us hl => match us, hl with | [_], _ => rfl), .nil, fun _ => .nil⟩
/-! path_of -/
def g_path_of : Sm := (qSeq (qOwn 1 (fAll [(fTup [(fC (.int 0)), (fC (.int 0))])]))
    (qSeq (qFor (fIter (fVar 0)) (hName 2) (qSeq (qApp 1 (fCall F_shifted [.int 1] [(fIx (fBor 1) (fUn negT (fC (.int 1)))), (fCall F_step_of [] [(fVar 2)])]))
    qNil))
    (qSeq (qFrz [1] (qRet (fB1 tupT (fBor 1))))
    qNil)))
def F_path_of : List T → M T := fnS 2 g_path_of
theorem sc_path_of : FnScope ["word", "found", "letter"] ["word"] (defScope s_path_of) := ⟨rfl, rfl, rfl, by decide +kernel, rfl, by decide +kernel, by decide +kernel⟩
theorem run_path_of (T : Tx base wd K mg) {f : Addr} {fd : FuncData} {dv : List V} {kw : List (Str × V)} (F : FunD K "path_of" "path_of" (defArgs s_path_of) (defBody s_path_of) (defScope s_path_of) dv kw f fd) : FnOk PW wd K mg base (L2.CX PW wd) 2 f fd ["word"] (spF (GG K mg) 1 (fnS 2 g_path_of)) :=
  fn_run (G := GG K mg) (k := 1) F sc_path_of rfl rfl fun cdv A outer s H E hr => by
    have B := bd_of (P := PW) (wd := wd) (G := GG K mg) (base := base) (cdv := cdv) (outer := outer) (H := H) (E := E) sc_path_of hr
    exact (ss_cons (B.own 1 (l_lst (a_cons (s_tup (a_cons s_int (a_cons s_int a_nil))) a_nil)))
    (ss_cons (ss_for po_of B.calm (i_seq B.eK (vr 0)) (B.nm 2) (ss_cons (ss_app B.eK 1 rfl (by first | exact Or.inl rfl | exact Or.inr (Or.inl rfl) | exact Or.inr (Or.inr rfl)) (B.call (d_shifted_1 T) (a_cons (B.ix (kv 1) (B.neg s_int)) (a_cons (B.call (d_step_of T) (a_cons (vr 2) a_nil)) a_nil))))
    ss_nil))
    (ss_cons (ss_frzq [1] (ss_ret (B.tuple T.m_tuple (kv 1))))
    ss_nil)))
theorem d_path_of (T : Tx base wd K mg) : DefOk PW wd base (GG K mg) 2 "path_of" 1 [] F_path_of := by
  obtain ⟨fd, F⟩ := T.D_path_of
  exact ⟨_, fd, ["word"], [], [], run_path_of T F, T.c_path_of, F.kp, (F.bindsN fun _ _ _ _ _ _ us hl => match us, hl with | [_], _ => rfl), .nil, fun _ => .nil⟩
/-! Walk_goal -/
def g_Walk_goal : Sm := (qSeq (qSet 1 (fFld m_cell (fVar 0)))
    (qSeq (qFor (fIter (fFld m_parts (fVar 0))) (hTupL 2 (hCons (hName 2) (hCons (hName 3) hNil))) (qSeq (qSet 1 (fCall F_shifted [] [(fVar 1), (fIx (fCall F_path_of [] [(fVar 2)]) (fUn negT (fC (.int 1)))), (fVar 3)]))
    qNil))
    (qSeq (qRet (fVar 1))
    qNil)))
def F_Walk_goal : List T → M T := fnS 3 g_Walk_goal
theorem sc_Walk_goal : FnScope ["self", "place", "word", "times"] ["self"] (defScope s_Walk_goal) := ⟨rfl, rfl, rfl, by decide +kernel, rfl, by decide +kernel, by decide +kernel⟩
theorem run_Walk_goal (T : Tx base wd K mg) {f : Addr} {fd : FuncData} {dv : List V} {kw : List (Str × V)} (F : FunD K "goal" "Walk.goal" (defArgs s_Walk_goal) (defBody s_Walk_goal) (defScope s_Walk_goal) dv kw f fd) : FnOk PW wd K mg base (L2.CX PW wd) 3 f fd ["self"] (spF (GG K mg) 1 (fnS 3 g_Walk_goal)) :=
  fn_run (G := GG K mg) (k := 2) F sc_Walk_goal rfl rfl fun cdv A outer s H E hr => by
    have B := bd_of (P := PW) (wd := wd) (G := GG K mg) (base := base) (cdv := cdv) (outer := outer) (H := H) (E := E) sc_Walk_goal hr
    exact (ss_cons (B.set 1 (B.fld m_cell T.f_cell (vr 0)))
    (ss_cons (ss_for po_of B.calm (i_seq B.eK (B.fld m_parts T.f_parts (vr 0))) (B.tl 2 (gs_cons (B.nm 2) (gs_cons (B.nm 3) gs_nil))) (ss_cons (B.set 1 (B.call (d_shifted T) (a_cons (vr 1) (a_cons (B.ix (k_of (B.call (d_path_of T) (a_cons (vr 2) a_nil))) (B.neg s_int)) (a_cons (vr 3) a_nil)))))
    ss_nil))
    (ss_cons (ss_ret (vr 1))
    ss_nil)))
theorem d_Walk_goal (T : Tx base wd K mg) : MethOk PW wd base (GG K mg) 3 4 "goal" 1 [] F_Walk_goal := by
  obtain ⟨fd, F⟩ := T.D_Walk_goal
  exact ⟨⟨_, _, fd, ["self"], [], [], T.c_Walk, T.k_Walk, T.h_Walk_goal, run_Walk_goal T F, (F.bindsN fun _ _ _ _ _ _ us hl => match us, hl with | [_], _ => rfl), .nil, fun _ => .nil⟩, show ("goal" : Str) ∉ fl 4 by decide⟩
theorem dm_MadeWalk_d_Walk_goal (T : Tx base wd K mg) : MethOk PW wd base (GG K mg) 3 5 "goal" 1 [] F_Walk_goal := by
  obtain ⟨fd, F⟩ := T.D_Walk_goal
  exact ⟨⟨_, _, fd, ["self"], [], [], T.c_MadeWalk, T.k_MadeWalk, T.hm_MadeWalk_Walk_goal, run_Walk_goal T F, (F.bindsN fun _ _ _ _ _ _ us hl => match us, hl with | [_], _ => rfl), .nil, fun _ => .nil⟩, show ("goal" : Str) ∉ fl 5 by decide⟩
theorem dp_Walk_goal (T : Tx base wd K mg) : ∀ C ∈ [4, 5], MethOk PW wd base (GG K mg) 3 C "goal" 1 [] F_Walk_goal := fun C hC => by
  simp only [List.mem_cons, List.not_mem_nil, or_false] at hC
  rcases hC with rfl | rfl
  · exact d_Walk_goal T
  · exact dm_MadeWalk_d_Walk_goal T
/-! turned_back -/
def g_turned_back : Sm := (qSeq (qExpr (fCall F_check_walk_walks [] [(fVar 0)]))
    (qSeq (qOwn 1 (fAll []))
    (qSeq (qFor (fIter (fRevT (fFld m_parts (fVar 0)))) (hTupL 2 (hCons (hName 2) (hCons (hName 3) hNil))) (qSeq (qApp 1 (fTup [(fStr1 joinT (fC (.str "")) (fOwn (fComp [4] (hName 4) fYes (fGd (fun z => (d_OPPOSITE.lookup z).bind id) (fVar 4)) (fIter (fRev (fVar 2)))))), (fVar 3)]))
    qNil))
    (qSeq (qFrz [1] (qRet (fMake 5 F_MadeWalk_init [] [(fMethP [4, 5] F_Walk_goal [] (fVar 0) []), (fVar 1)])))
    qNil))))
def F_turned_back : List T → M T := fnS 4 g_turned_back
theorem sc_turned_back : FnScope ["walk", "found", "word", "times", "letter"] ["walk"] (defScope s_turned_back) := ⟨rfl, rfl, rfl, by decide +kernel, rfl, by decide +kernel, by decide +kernel⟩
theorem run_turned_back (T : Tx base wd K mg) {f : Addr} {fd : FuncData} {dv : List V} {kw : List (Str × V)} (F : FunD K "turned_back" "turned_back" (defArgs s_turned_back) (defBody s_turned_back) (defScope s_turned_back) dv kw f fd) : FnOk PW wd K mg base (L2.CX PW wd) 4 f fd ["walk"] (spF (GG K mg) 1 (fnS 4 g_turned_back)) :=
  fn_run (G := GG K mg) (k := 3) F sc_turned_back rfl rfl fun cdv A outer s H E hr => by
    have B := bd_of (P := PW) (wd := wd) (G := GG K mg) (base := base) (cdv := cdv) (outer := outer) (H := H) (E := E) sc_turned_back hr
    exact (ss_cons (ss_expr (B.call (d_check_walk_walks T) (a_cons (vr 0) a_nil)))
    (ss_cons (B.own 1 (l_lst a_nil))
    (ss_cons (ss_for po_of B.calm (i_seq B.eK (s_revT B.eK (B.fld m_parts T.f_parts (vr 0)))) (B.tl 2 (gs_cons (B.nm 2) (gs_cons (B.nm 3) gs_nil))) (ss_cons (ss_app B.eK 1 rfl (by first | exact Or.inl rfl | exact Or.inr (Or.inl rfl) | exact Or.inr (Or.inr rfl)) (s_tup (a_cons (s_join B.eK s_str (s_own (B.comp [("letter", 4)] (i_seq B.eK (s_rev B.eK (vr 2))) (fun _ _ _ _ _ => ((B.blk _ _ _ _ _).nm 4)) (fun _ _ _ _ _ => ts_nil) (fun _ _ _ _ _ => ((B.blk _ _ _ _ _).gd T.d_OPPOSITE (vr 4)))))) (a_cons (vr 3) a_nil))))
    ss_nil))
    (ss_cons (ss_frzq [1] (ss_ret (B.make (d_MadeWalk_init T) (a_cons (s_methP0 (dp_Walk_goal T) B.eK B.eM B.tk B.rm (by decide) (vr 0)) (a_cons (vr 1) a_nil)))))
    ss_nil))))
theorem d_turned_back (T : Tx base wd K mg) : DefOk PW wd base (GG K mg) 4 "turned_back" 1 [] F_turned_back := by
  obtain ⟨fd, F⟩ := T.D_turned_back
  exact ⟨_, fd, ["walk"], [], [], run_turned_back T F, T.c_turned_back, F.kp, (F.bindsN fun _ _ _ _ _ _ us hl => match us, hl with | [_], _ => rfl), .nil, fun _ => .nil⟩
/-! backwards -/
def g_backwards : Sm := (qSeq (qExpr (fCall F_check_walk_closed [] [(fVar 0)]))
    (qSeq (qRet (fCall F_turned_back [] [(fVar 0)]))
    qNil))
def F_backwards : List T → M T := fnS 0 g_backwards
theorem sc_backwards : FnScope ["walk"] ["walk"] (defScope s_backwards) := ⟨rfl, rfl, rfl, by decide +kernel, rfl, by decide +kernel, by decide +kernel⟩
theorem run_backwards (T : Tx base wd K mg) {f : Addr} {fd : FuncData} {dv : List V} {kw : List (Str × V)} (F : FunD K "backwards" "backwards" (defArgs s_backwards) (defBody s_backwards) (defScope s_backwards) dv kw f fd) : FnOk PW wd K mg base (L2.CX PW wd) 5 f fd ["walk"] (spF (GG K mg) 1 (fnS 0 g_backwards)) :=
  fn_run (G := GG K mg) (k := 4) F sc_backwards rfl rfl fun cdv A outer s H E hr => by
    have B := bd_of (P := PW) (wd := wd) (G := GG K mg) (base := base) (cdv := cdv) (outer := outer) (H := H) (E := E) sc_backwards hr
    exact (ss_cons (ss_expr (B.call (d_check_walk_closed T) (a_cons (vr 0) a_nil)))
    (ss_cons (ss_ret (B.call (d_turned_back T) (a_cons (vr 0) a_nil)))
    ss_nil))
theorem d_backwards (T : Tx base wd K mg) : DefOk PW wd base (GG K mg) 5 "backwards" 1 [] F_backwards := by
  obtain ⟨fd, F⟩ := T.D_backwards
  exact ⟨_, fd, ["walk"], [], [], run_backwards T F, T.c_backwards, F.kp, (F.bindsN fun _ _ _ _ _ _ us hl => match us, hl with | [_], _ => rfl), .nil, fun _ => .nil⟩
/-! check_closed -/
def g_check_closed : Sm := (qSeq (qExpr (fCall F_check_walk_closed [] [(fVar 0)]))
    (qSeq (qIf (fCmpB neT (fMethP [4, 5] F_Walk_goal [] (fVar 0) []) (fFld m_cell (fVar 0))) (qSeq (qRaise 3 (fC (.str "closed")))
    qNil) qNil)
    qNil))
def F_check_closed : List T → M T := fnS 0 g_check_closed
theorem sc_check_closed : FnScope ["walk"] ["walk"] (defScope s_check_closed) := ⟨rfl, rfl, rfl, by decide +kernel, rfl, by decide +kernel, by decide +kernel⟩
theorem run_check_closed (T : Tx base wd K mg) {f : Addr} {fd : FuncData} {dv : List V} {kw : List (Str × V)} (F : FunD K "check_closed" "check_closed" (defArgs s_check_closed) (defBody s_check_closed) (defScope s_check_closed) dv kw f fd) : FnOk PW wd K mg base (L2.CX PW wd) 4 f fd ["walk"] (spF (GG K mg) 1 (fnS 0 g_check_closed)) :=
  fn_run (G := GG K mg) (k := 3) F sc_check_closed rfl rfl fun cdv A outer s H E hr => by
    have B := bd_of (P := PW) (wd := wd) (G := GG K mg) (base := base) (cdv := cdv) (outer := outer) (H := H) (E := E) sc_check_closed hr
    exact (ss_cons (ss_expr (B.call (d_check_walk_closed T) (a_cons (vr 0) a_nil)))
    (ss_cons (ss_if (B.neB (k_of (s_methP0 (dp_Walk_goal T) B.eK B.eM B.tk B.rm (by decide) (vr 0))) (k_of (B.fld m_cell T.f_cell (vr 0)))) (ss_cons (ss_raise B.calm B.eK B.eM B.tk B.rm (by decide) T.x_NotSo rfl s_str rfl)
    ss_nil) ss_nil)
    ss_nil))
theorem d_check_closed (T : Tx base wd K mg) : DefOk PW wd base (GG K mg) 4 "check_closed" 1 [] F_check_closed := by
  obtain ⟨fd, F⟩ := T.D_check_closed
  exact ⟨_, fd, ["walk"], [], [], run_check_closed T F, T.c_check_closed, F.kp, (F.bindsN fun _ _ _ _ _ _ us hl => match us, hl with | [_], _ => rfl), .nil, fun _ => .nil⟩
/-! is_word -/
def g_is_word : Sm := (qSeq (qIf (fOrB (fNotB (fTru (fBin (isiT tab) (fVar 0) (fC (.ty "str"))))) (fNotB (fChainB leT leT (fC (.int 1)) (fB1 lenT (fVar 0)) (fC (.int 24))))) (qSeq (qRet (fC (.bl false)))
    qNil) qNil)
    (qSeq (qRet (fB1 allT (fOwn (fComp [1] (hName 1) fYes (fCmp inT (fVar 1) (fC (.str "ENWS"))) (fIter (fVar 0))))))
    qNil))
def F_is_word : List T → M T := fnS 1 g_is_word
theorem sc_is_word : FnScope ["value", "letter"] ["value"] (defScope s_is_word) := ⟨rfl, rfl, rfl, by decide +kernel, rfl, by decide +kernel, by decide +kernel⟩
theorem run_is_word (T : Tx base wd K mg) {f : Addr} {fd : FuncData} {dv : List V} {kw : List (Str × V)} (F : FunD K "is_word" "is_word" (defArgs s_is_word) (defBody s_is_word) (defScope s_is_word) dv kw f fd) : FnOk PW wd K mg base (L2.CX PW wd) 1 f fd ["value"] (spF (GG K mg) 1 (fnS 1 g_is_word)) :=
  fn_run (G := GG K mg) (k := 0) F sc_is_word rfl rfl fun cdv A outer s H E hr => by
    have B := bd_of (P := PW) (wd := wd) (G := GG K mg) (base := base) (cdv := cdv) (outer := outer) (H := H) (E := E) sc_is_word hr
    exact (ss_cons (ss_if (w_t (w_or (w_not (B.tru (B.isi T.tab T.m_isinstance (vr 0) (B.ty "str" T.m_str)))) (w_or1 (w_not (s_chainB op_le op_le v_le v_le s_int (B.len T.m_len (k_of (vr 0))) (B.gint 24 T.i_MOST_LETTERS) rfl))))) (ss_cons (ss_ret s_bl)
    ss_nil) ss_nil)
    (ss_cons (ss_ret (B.all T.m_all (k_of (s_own (B.comp [("letter", 1)] (i_seq B.eK (vr 0)) (fun _ _ _ _ _ => ((B.blk _ _ _ _ _).nm 1)) (fun _ _ _ _ _ => ts_nil) (fun _ _ _ _ _ => ((B.blk _ _ _ _ _).in_ (k_of (vr 1)) (k_of ((B.blk _ _ _ _ _).gstr "ENWS" T.z_STEPS)))))))))
    ss_nil))
theorem d_is_word (T : Tx base wd K mg) : DefOk PW wd base (GG K mg) 1 "is_word" 1 [] F_is_word := by
  obtain ⟨fd, F⟩ := T.D_is_word
  exact ⟨_, fd, ["value"], [], [], run_is_word T F, T.c_is_word, F.kp, (F.bindsN fun _ _ _ _ _ _ us hl => match us, hl with | [_], _ => rfl), .nil, fun _ => .nil⟩
/-! check_word -/
def g_check_word : Sm := (qSeq (qIf (fNotB (fTru (fCall F_is_word [] [(fVar 0)]))) (qSeq (qRaise 0 (fC (.str "word")))
    qNil) qNil)
    qNil)
def F_check_word : List T → M T := fnS 0 g_check_word
theorem sc_check_word : FnScope ["word"] ["word"] (defScope s_check_word) := ⟨rfl, rfl, rfl, by decide +kernel, rfl, by decide +kernel, by decide +kernel⟩
theorem run_check_word (T : Tx base wd K mg) {f : Addr} {fd : FuncData} {dv : List V} {kw : List (Str × V)} (F : FunD K "check_word" "check_word" (defArgs s_check_word) (defBody s_check_word) (defScope s_check_word) dv kw f fd) : FnOk PW wd K mg base (L2.CX PW wd) 3 f fd ["word"] (spF (GG K mg) 1 (fnS 0 g_check_word)) :=
  fn_run (G := GG K mg) (k := 2) F sc_check_word rfl rfl fun cdv A outer s H E hr => by
    have B := bd_of (P := PW) (wd := wd) (G := GG K mg) (base := base) (cdv := cdv) (outer := outer) (H := H) (E := E) sc_check_word hr
    exact (ss_cons (ss_if (w_not (B.tru (B.call (d_is_word T) (a_cons (vr 0) a_nil)))) (ss_cons (ss_raise B.calm B.eK B.eM B.tk B.rm (by decide) T.x_BadPart rfl s_str rfl)
    ss_nil) ss_nil)
    ss_nil)
theorem d_check_word (T : Tx base wd K mg) : DefOk PW wd base (GG K mg) 3 "check_word" 1 [] F_check_word := by
  obtain ⟨fd, F⟩ := T.D_check_word
  exact ⟨_, fd, ["word"], [], [], run_check_word T F, T.c_check_word, F.kp, (F.bindsN fun _ _ _ _ _ _ us hl => match us, hl with | [_], _ => rfl), .nil, fun _ => .nil⟩
/-! offsets_of -/
def g_offsets_of : Sm := (qSeq (qExpr (fCall F_check_word [] [(fVar 0)]))
    (qSeq (qRet (fCall F_path_of [] [(fVar 0)]))
    qNil))
def F_offsets_of : List T → M T := fnS 0 g_offsets_of
theorem sc_offsets_of : FnScope ["word"] ["word"] (defScope s_offsets_of) := ⟨rfl, rfl, rfl, by decide +kernel, rfl, by decide +kernel, by decide +kernel⟩
theorem run_offsets_of (T : Tx base wd K mg) {f : Addr} {fd : FuncData} {dv : List V} {kw : List (Str × V)} (F : FunD K "offsets_of" "offsets_of" (defArgs s_offsets_of) (defBody s_offsets_of) (defScope s_offsets_of) dv kw f fd) : FnOk PW wd K mg base (L2.CX PW wd) 4 f fd ["word"] (spF (GG K mg) 1 (fnS 0 g_offsets_of)) :=
  fn_run (G := GG K mg) (k := 3) F sc_offsets_of rfl rfl fun cdv A outer s H E hr => by
    have B := bd_of (P := PW) (wd := wd) (G := GG K mg) (base := base) (cdv := cdv) (outer := outer) (H := H) (E := E) sc_offsets_of hr
    exact (ss_cons (ss_expr (B.call (d_check_word T) (a_cons (vr 0) a_nil)))
    (ss_cons (ss_ret (B.call (d_path_of T) (a_cons (vr 0) a_nil)))
    ss_nil))
theorem d_offsets_of (T : Tx base wd K mg) : DefOk PW wd base (GG K mg) 4 "offsets_of" 1 [] F_offsets_of := by
  obtain ⟨fd, F⟩ := T.D_offsets_of
  exact ⟨_, fd, ["word"], [], [], run_offsets_of T F, T.c_offsets_of, F.kp, (F.bindsN fun _ _ _ _ _ _ us hl => match us, hl with | [_], _ => rfl), .nil, fun _ => .nil⟩
/-! progression_sum -/
def g_progression_sum : Sm := (qSeq (qRet (fBin addT (fBin mulT (fVar 2) (fVar 0)) (fBin mulT (fVar 1) (fBin divT (fB1 intT (fBin mulT (fVar 2) (fBin subT (fVar 2) (fC (.int 1))))) (fC (.int 2))))))
    qNil)
def F_progression_sum : List T → M T := fnS 0 g_progression_sum
theorem sc_progression_sum : FnScope ["first", "gap", "many"] ["first", "gap", "many"] (defScope s_progression_sum) := ⟨rfl, rfl, rfl, by decide +kernel, rfl, by decide +kernel, by decide +kernel⟩
theorem run_progression_sum (T : Tx base wd K mg) {f : Addr} {fd : FuncData} {dv : List V} {kw : List (Str × V)} (F : FunD K "progression_sum" "progression_sum" (defArgs s_progression_sum) (defBody s_progression_sum) (defScope s_progression_sum) dv kw f fd) : FnOk PW wd K mg base (L2.CX PW wd) 1 f fd ["first", "gap", "many"] (spF (GG K mg) 3 (fnS 0 g_progression_sum)) :=
  fn_run (G := GG K mg) (k := 0) F sc_progression_sum rfl rfl fun cdv A outer s H E hr => by
    have B := bd_of (P := PW) (wd := wd) (G := GG K mg) (base := base) (cdv := cdv) (outer := outer) (H := H) (E := E) sc_progression_sum hr
    exact (ss_cons (ss_ret (B.add (B.mul (vr 2) (vr 0)) (B.mul (vr 1) (B.div (B.int T.m_int (k_of (B.mul (vr 2) (B.sub (vr 2) s_int)))) s_int))))
    ss_nil)
theorem d_progression_sum (T : Tx base wd K mg) : DefOk PW wd base (GG K mg) 1 "progression_sum" 3 [] F_progression_sum := by
  obtain ⟨fd, F⟩ := T.D_progression_sum
  exact ⟨_, fd, ["first", "gap", "many"], [], [], run_progression_sum T F, T.c_progression_sum, F.kp, (F.bindsN fun _ _ _ _ _ _ us hl => match us, hl with | [_, _, _], _ => rfl), .nil, fun _ => .nil⟩
/-! part_enclosed -/
def g_part_enclosed : Sm := (qSeq (qSet 3 (fCall F_offsets_of [] [(fVar 1)]))
    (qSeq (qSet 4 (fC (.int 0)))
    (qSeq (qFor (fZipQ (fVar 1) (fVar 3)) (hTupL 2 (hCons (hName 5) (hCons (hName 6) hNil))) (qSeq (qAug 4 (fBin mulT (fIx (fCall F_step_of [] [(fVar 5)]) (fC (.int 1))) (fCall F_progression_sum [] [(fBin addT (fIx (fVar 0) (fC (.int 0))) (fIx (fVar 6) (fC (.int 0)))), (fIx (fIx (fVar 3) (fUn negT (fC (.int 1)))) (fC (.int 0))), (fVar 2)])))
    qNil))
    (qSeq (qRet (fVar 4))
    qNil))))
def F_part_enclosed : List T → M T := fnS 4 g_part_enclosed
theorem sc_part_enclosed : FnScope ["start", "word", "times", "offsets", "found", "letter", "offset"] ["start", "word", "times"] (defScope s_part_enclosed) := ⟨rfl, rfl, rfl, by decide +kernel, rfl, by decide +kernel, by decide +kernel⟩
theorem run_part_enclosed (T : Tx base wd K mg) {f : Addr} {fd : FuncData} {dv : List V} {kw : List (Str × V)} (F : FunD K "part_enclosed" "part_enclosed" (defArgs s_part_enclosed) (defBody s_part_enclosed) (defScope s_part_enclosed) dv kw f fd) : FnOk PW wd K mg base (L2.CX PW wd) 5 f fd ["start", "word", "times"] (spF (GG K mg) 3 (fnS 4 g_part_enclosed)) :=
  fn_run (G := GG K mg) (k := 4) F sc_part_enclosed rfl rfl fun cdv A outer s H E hr => by
    have B := bd_of (P := PW) (wd := wd) (G := GG K mg) (base := base) (cdv := cdv) (outer := outer) (H := H) (E := E) sc_part_enclosed hr
    exact (ss_cons (B.set 3 (B.call (d_offsets_of T) (a_cons (vr 1) a_nil)))
    (ss_cons (B.set 4 s_int)
    (ss_cons (ss_for po_of B.calm (i_zipQ B.eK rfl (by rw [B.eM]; exact T.m_zip) (vr 1) (vr 3)) (B.tl 2 (gs_cons (B.nm 5) (gs_cons (B.nm 6) gs_nil))) (ss_cons (B.aug 4 (B.mul (B.ix (k_of (B.call (d_step_of T) (a_cons (vr 5) a_nil))) s_int) (B.call (d_progression_sum T) (a_cons (B.add (B.ix (k_of (vr 0)) s_int) (B.ix (k_of (vr 6)) s_int)) (a_cons (B.ix (k_of (B.ix (k_of (vr 3)) (B.neg s_int))) s_int) (a_cons (vr 2) a_nil))))))
    ss_nil))
    (ss_cons (ss_ret (vr 4))
    ss_nil))))
theorem d_part_enclosed (T : Tx base wd K mg) : DefOk PW wd base (GG K mg) 5 "part_enclosed" 3 [] F_part_enclosed := by
  obtain ⟨fd, F⟩ := T.D_part_enclosed
  exact ⟨_, fd, ["start", "word", "times"], [], [], run_part_enclosed T F, T.c_part_enclosed, F.kp, (F.bindsN fun _ _ _ _ _ _ us hl => match us, hl with | [_, _, _], _ => rfl), .nil, fun _ => .nil⟩
/-! Walk_legs -/
def g_Walk_legs : Sm := (qSeq (qOwn 1 (fAll []))
    (qSeq (qPar2 2 3 (fC (.int 0)) (fFld m_cell (fVar 0)))
    (qSeq (qFor (fIter (fFld m_parts (fVar 0))) (hTupL 2 (hCons (hName 4) (hCons (hName 5) hNil))) (qSeq (qApp 1 (fTup [(fVar 2), (fVar 3), (fVar 4), (fVar 5)]))
    (qSeq (qSet 2 (fBin addT (fVar 2) (fBin mulT (fB1 lenT (fVar 4)) (fVar 5))))
    (qSeq (qSet 3 (fCall F_shifted [] [(fVar 3), (fIx (fCall F_path_of [] [(fVar 4)]) (fUn negT (fC (.int 1)))), (fVar 5)]))
    qNil))))
    (qSeq (qFrz [1] (qRet (fVar 1)))
    qNil))))
def F_Walk_legs : List T → M T := fnS 5 g_Walk_legs
theorem sc_Walk_legs : FnScope ["self", "found", "minute", "place", "word", "times"] ["self"] (defScope s_Walk_legs) := ⟨rfl, rfl, rfl, by decide +kernel, rfl, by decide +kernel, by decide +kernel⟩
theorem run_Walk_legs (T : Tx base wd K mg) {f : Addr} {fd : FuncData} {dv : List V} {kw : List (Str × V)} (F : FunD K "legs" "Walk.legs" (defArgs s_Walk_legs) (defBody s_Walk_legs) (defScope s_Walk_legs) dv kw f fd) : FnOk PW wd K mg base (L2.CX PW wd) 3 f fd ["self"] (spF (GG K mg) 1 (fnS 5 g_Walk_legs)) :=
  fn_run (G := GG K mg) (k := 2) F sc_Walk_legs rfl rfl fun cdv A outer s H E hr => by
    have B := bd_of (P := PW) (wd := wd) (G := GG K mg) (base := base) (cdv := cdv) (outer := outer) (H := H) (E := E) sc_Walk_legs hr
    exact (ss_cons (B.own 1 (l_lst a_nil))
    (ss_cons (B.par2 2 3 (a_cons s_int (a_cons (B.fld m_cell T.f_cell (vr 0)) a_nil)))
    (ss_cons (ss_for po_of B.calm (i_seq B.eK (B.fld m_parts T.f_parts (vr 0))) (B.tl 2 (gs_cons (B.nm 4) (gs_cons (B.nm 5) gs_nil))) (ss_cons (ss_app B.eK 1 rfl (by first | exact Or.inl rfl | exact Or.inr (Or.inl rfl) | exact Or.inr (Or.inr rfl)) (s_tup (a_cons (vr 2) (a_cons (vr 3) (a_cons (vr 4) (a_cons (vr 5) a_nil))))))
    (ss_cons (B.set 2 (B.add (vr 2) (B.mul (B.len T.m_len (k_of (vr 4))) (vr 5))))
    (ss_cons (B.set 3 (B.call (d_shifted T) (a_cons (vr 3) (a_cons (B.ix (k_of (B.call (d_path_of T) (a_cons (vr 4) a_nil))) (B.neg s_int)) (a_cons (vr 5) a_nil)))))
    ss_nil))))
    (ss_cons (ss_frzq [1] (ss_ret (vr 1)))
    ss_nil))))
theorem d_Walk_legs (T : Tx base wd K mg) : MethOk PW wd base (GG K mg) 3 4 "legs" 1 [] F_Walk_legs := by
  obtain ⟨fd, F⟩ := T.D_Walk_legs
  exact ⟨⟨_, _, fd, ["self"], [], [], T.c_Walk, T.k_Walk, T.h_Walk_legs, run_Walk_legs T F, (F.bindsN fun _ _ _ _ _ _ us hl => match us, hl with | [_], _ => rfl), .nil, fun _ => .nil⟩, show ("legs" : Str) ∉ fl 4 by decide⟩
theorem dm_MadeWalk_d_Walk_legs (T : Tx base wd K mg) : MethOk PW wd base (GG K mg) 3 5 "legs" 1 [] F_Walk_legs := by
  obtain ⟨fd, F⟩ := T.D_Walk_legs
  exact ⟨⟨_, _, fd, ["self"], [], [], T.c_MadeWalk, T.k_MadeWalk, T.hm_MadeWalk_Walk_legs, run_Walk_legs T F, (F.bindsN fun _ _ _ _ _ _ us hl => match us, hl with | [_], _ => rfl), .nil, fun _ => .nil⟩, show ("legs" : Str) ∉ fl 5 by decide⟩
theorem dp_Walk_legs (T : Tx base wd K mg) : ∀ C ∈ [4, 5], MethOk PW wd base (GG K mg) 3 C "legs" 1 [] F_Walk_legs := fun C hC => by
  simp only [List.mem_cons, List.not_mem_nil, or_false] at hC
  rcases hC with rfl | rfl
  · exact d_Walk_legs T
  · exact dm_MadeWalk_d_Walk_legs T
/-! Walk_begins -/
def g_Walk_begins : Sm := (qSeq (qRet (fOwn (fComp [1, 2, 3, 4] (hTupL 4 (hCons (hName 1) (hCons (hName 2) (hCons (hName 3) (hCons (hName 4) hNil))))) fYes (fTup [(fVar 1), (fVar 2)]) (fIter (fMethP [4, 5] F_Walk_legs [] (fVar 0) [])))))
    qNil)
def F_Walk_begins : List T → M T := fnS 4 g_Walk_begins
theorem sc_Walk_begins : FnScope ["self", "minute", "place", "word", "times"] ["self"] (defScope s_Walk_begins) := ⟨rfl, rfl, rfl, by decide +kernel, rfl, by decide +kernel, by decide +kernel⟩
theorem run_Walk_begins (T : Tx base wd K mg) {f : Addr} {fd : FuncData} {dv : List V} {kw : List (Str × V)} (F : FunD K "begins" "Walk.begins" (defArgs s_Walk_begins) (defBody s_Walk_begins) (defScope s_Walk_begins) dv kw f fd) : FnOk PW wd K mg base (L2.CX PW wd) 4 f fd ["self"] (spF (GG K mg) 1 (fnS 4 g_Walk_begins)) :=
  fn_run (G := GG K mg) (k := 3) F sc_Walk_begins rfl rfl fun cdv A outer s H E hr => by
    have B := bd_of (P := PW) (wd := wd) (G := GG K mg) (base := base) (cdv := cdv) (outer := outer) (H := H) (E := E) sc_Walk_begins hr
    exact (ss_cons (ss_ret (s_own (B.comp [("minute", 1), ("place", 2), ("word", 3), ("times", 4)] (i_seq B.eK (s_methP0 (dp_Walk_legs T) B.eK B.eM B.tk B.rm (by decide) (vr 0))) (fun _ _ _ _ _ => ((B.blk _ _ _ _ _).tl 4 (gs_cons ((B.blk _ _ _ _ _).nm 1) (gs_cons ((B.blk _ _ _ _ _).nm 2) (gs_cons ((B.blk _ _ _ _ _).nm 3) (gs_cons ((B.blk _ _ _ _ _).nm 4) gs_nil)))))) (fun _ _ _ _ _ => ts_nil) (fun _ _ _ _ _ => (s_tup (a_cons (vr 1) (a_cons (vr 2) a_nil)))))))
    ss_nil)
theorem d_Walk_begins (T : Tx base wd K mg) : MethOk PW wd base (GG K mg) 4 4 "begins" 1 [] F_Walk_begins := by
  obtain ⟨fd, F⟩ := T.D_Walk_begins
  exact ⟨⟨_, _, fd, ["self"], [], [], T.c_Walk, T.k_Walk, T.h_Walk_begins, run_Walk_begins T F, (F.bindsN fun _ _ _ _ _ _ us hl => match us, hl with | [_], _ => rfl), .nil, fun _ => .nil⟩, show ("begins" : Str) ∉ fl 4 by decide⟩
theorem dm_MadeWalk_d_Walk_begins (T : Tx base wd K mg) : MethOk PW wd base (GG K mg) 4 5 "begins" 1 [] F_Walk_begins := by
  obtain ⟨fd, F⟩ := T.D_Walk_begins
  exact ⟨⟨_, _, fd, ["self"], [], [], T.c_MadeWalk, T.k_MadeWalk, T.hm_MadeWalk_Walk_begins, run_Walk_begins T F, (F.bindsN fun _ _ _ _ _ _ us hl => match us, hl with | [_], _ => rfl), .nil, fun _ => .nil⟩, show ("begins" : Str) ∉ fl 5 by decide⟩
theorem dp_Walk_begins (T : Tx base wd K mg) : ∀ C ∈ [4, 5], MethOk PW wd base (GG K mg) 4 C "begins" 1 [] F_Walk_begins := fun C hC => by
  simp only [List.mem_cons, List.not_mem_nil, or_false] at hC
  rcases hC with rfl | rfl
  · exact d_Walk_begins T
  · exact dm_MadeWalk_d_Walk_begins T
/-! enclosed -/
def g_enclosed : Sm := (qSeq (qExpr (fCall F_check_closed [] [(fVar 0)]))
    (qSeq (qSet 1 (fC (.int 0)))
    (qSeq (qFor (fZipQ (fFld m_parts (fVar 0)) (fMethP [4, 5] F_Walk_begins [] (fVar 0) [])) (hTupL 2 (hCons (hTupL 2 (hCons (hName 2) (hCons (hName 3) hNil))) (hCons (hTupL 2 (hCons (hName 4) (hCons (hName 5) hNil))) hNil))) (qSeq (qAug 1 (fCall F_part_enclosed [] [(fVar 5), (fVar 2), (fVar 3)]))
    qNil))
    (qSeq (qRet (fVar 1))
    qNil))))
def F_enclosed : List T → M T := fnS 5 g_enclosed
theorem sc_enclosed : FnScope ["walk", "found", "word", "times", "moment", "start"] ["walk"] (defScope s_enclosed) := ⟨rfl, rfl, rfl, by decide +kernel, rfl, by decide +kernel, by decide +kernel⟩
theorem run_enclosed (T : Tx base wd K mg) {f : Addr} {fd : FuncData} {dv : List V} {kw : List (Str × V)} (F : FunD K "enclosed" "enclosed" (defArgs s_enclosed) (defBody s_enclosed) (defScope s_enclosed) dv kw f fd) : FnOk PW wd K mg base (L2.CX PW wd) 6 f fd ["walk"] (spF (GG K mg) 1 (fnS 5 g_enclosed)) :=
  fn_run (G := GG K mg) (k := 5) F sc_enclosed rfl rfl fun cdv A outer s H E hr => by
    have B := bd_of (P := PW) (wd := wd) (G := GG K mg) (base := base) (cdv := cdv) (outer := outer) (H := H) (E := E) sc_enclosed hr
    exact (ss_cons (ss_expr (B.call (d_check_closed T) (a_cons (vr 0) a_nil)))
    (ss_cons (B.set 1 s_int)
    (ss_cons (ss_for po_of B.calm (i_zipQ B.eK rfl (by rw [B.eM]; exact T.m_zip) (B.fld m_parts T.f_parts (vr 0)) (s_methP0 (dp_Walk_begins T) B.eK B.eM B.tk B.rm (by decide) (vr 0))) (B.tl 2 (gs_cons (B.tl 2 (gs_cons (B.nm 2) (gs_cons (B.nm 3) gs_nil))) (gs_cons (B.tl 2 (gs_cons (B.nm 4) (gs_cons (B.nm 5) gs_nil))) gs_nil))) (ss_cons (B.aug 1 (B.call (d_part_enclosed T) (a_cons (vr 5) (a_cons (vr 2) (a_cons (vr 3) a_nil)))))
    ss_nil))
    (ss_cons (ss_ret (vr 1))
    ss_nil))))
theorem d_enclosed (T : Tx base wd K mg) : DefOk PW wd base (GG K mg) 6 "enclosed" 1 [] F_enclosed := by
  obtain ⟨fd, F⟩ := T.D_enclosed
  exact ⟨_, fd, ["walk"], [], [], run_enclosed T F, T.c_enclosed, F.kp, (F.bindsN fun _ _ _ _ _ _ us hl => match us, hl with | [_], _ => rfl), .nil, fun _ => .nil⟩
/-! is_closed -/
def g_is_closed : Sm := (qSeq (qExpr (fCall F_check_walk_closed [] [(fVar 0)]))
    (qSeq (qRet (fCmp eqT (fMethP [4, 5] F_Walk_goal [] (fVar 0) []) (fFld m_cell (fVar 0))))
    qNil))
def F_is_closed : List T → M T := fnS 0 g_is_closed
theorem sc_is_closed : FnScope ["walk"] ["walk"] (defScope s_is_closed) := ⟨rfl, rfl, rfl, by decide +kernel, rfl, by decide +kernel, by decide +kernel⟩
theorem run_is_closed (T : Tx base wd K mg) {f : Addr} {fd : FuncData} {dv : List V} {kw : List (Str × V)} (F : FunD K "is_closed" "is_closed" (defArgs s_is_closed) (defBody s_is_closed) (defScope s_is_closed) dv kw f fd) : FnOk PW wd K mg base (L2.CX PW wd) 4 f fd ["walk"] (spF (GG K mg) 1 (fnS 0 g_is_closed)) :=
  fn_run (G := GG K mg) (k := 3) F sc_is_closed rfl rfl fun cdv A outer s H E hr => by
    have B := bd_of (P := PW) (wd := wd) (G := GG K mg) (base := base) (cdv := cdv) (outer := outer) (H := H) (E := E) sc_is_closed hr
    exact (ss_cons (ss_expr (B.call (d_check_walk_closed T) (a_cons (vr 0) a_nil)))
    (ss_cons (ss_ret (B.eq (k_of (s_methP0 (dp_Walk_goal T) B.eK B.eM B.tk B.rm (by decide) (vr 0))) (k_of (B.fld m_cell T.f_cell (vr 0)))))
    ss_nil))
theorem d_is_closed (T : Tx base wd K mg) : DefOk PW wd base (GG K mg) 4 "is_closed" 1 [] F_is_closed := by
  obtain ⟨fd, F⟩ := T.D_is_closed
  exact ⟨_, fd, ["walk"], [], [], run_is_closed T F, T.c_is_closed, F.kp, (F.bindsN fun _ _ _ _ _ _ us hl => match us, hl with | [_], _ => rfl), .nil, fun _ => .nil⟩
/-! part_corners -/
def g_part_corners : Sm := (qSeq (qIf (fCmpB eqT (fVar 2) (fC (.int 0))) (qSeq (qRet (fLst []))
    qNil) qNil)
    (qSeq (qSet 3 (fCall F_offsets_of [] [(fVar 1)]))
    (qSeq (qSet 4 (fCall F_shifted [] [(fVar 0), (fIx (fVar 3) (fUn negT (fC (.int 1)))), (fBin subT (fVar 2) (fC (.int 1)))]))
    (qSeq (qRet (fOwn (fComp2 [5, 6] [6] (hName 5) fYes (fIter (fVar 3)) (hName 6) fYes (fCall F_shifted [.int 1] [(fVar 5), (fVar 6)]) (fIter (fTup [(fVar 0), (fVar 4)])))))
    qNil))))
def F_part_corners : List T → M T := fnS 4 g_part_corners
theorem sc_part_corners : FnScope ["start", "word", "times", "offsets", "last", "base", "offset"] ["start", "word", "times"] (defScope s_part_corners) := ⟨rfl, rfl, rfl, by decide +kernel, rfl, by decide +kernel, by decide +kernel⟩
theorem run_part_corners (T : Tx base wd K mg) {f : Addr} {fd : FuncData} {dv : List V} {kw : List (Str × V)} (F : FunD K "part_corners" "part_corners" (defArgs s_part_corners) (defBody s_part_corners) (defScope s_part_corners) dv kw f fd) : FnOk PW wd K mg base (L2.CX PW wd) 5 f fd ["start", "word", "times"] (spF (GG K mg) 3 (fnS 4 g_part_corners)) :=
  fn_run (G := GG K mg) (k := 4) F sc_part_corners rfl rfl fun cdv A outer s H E hr => by
    have B := bd_of (P := PW) (wd := wd) (G := GG K mg) (base := base) (cdv := cdv) (outer := outer) (H := H) (E := E) sc_part_corners hr
    exact (ss_cons (ss_if (B.eqB (k_of (vr 2)) (k_of s_int)) (ss_cons (ss_ret (s_lst a_nil))
    ss_nil) ss_nil)
    (ss_cons (B.set 3 (B.call (d_offsets_of T) (a_cons (vr 1) a_nil)))
    (ss_cons (B.set 4 (B.call (d_shifted T) (a_cons (vr 0) (a_cons (B.ix (k_of (vr 3)) (B.neg s_int)) (a_cons (B.sub (vr 2) s_int) a_nil)))))
    (ss_cons (ss_ret (s_own (B.comp2 [("base", 5), ("offset", 6)] [("offset", 6)] (i_seq B.eK (s_tup (a_cons (vr 0) (a_cons (vr 4) a_nil)))) (fun _ _ _ _ _ => ((B.blk _ _ _ _ _).nm 5)) (fun _ _ _ _ _ => ts_nil) (fun _ _ _ _ _ => (i_seq (B.blk _ _ _ _ _).eK (vr 3))) (fun _ _ _ _ _ => ((B.blk _ _ _ _ _).nm 6)) (fun _ _ _ _ _ => ts_nil) (fun _ _ _ _ _ => ((B.blk _ _ _ _ _).call (d_shifted_1 T) (a_cons (vr 5) (a_cons (vr 6) a_nil)))))))
    ss_nil))))
theorem d_part_corners (T : Tx base wd K mg) : DefOk PW wd base (GG K mg) 5 "part_corners" 3 [] F_part_corners := by
  obtain ⟨fd, F⟩ := T.D_part_corners
  exact ⟨_, fd, ["start", "word", "times"], [], [], run_part_corners T F, T.c_part_corners, F.kp, (F.bindsN fun _ _ _ _ _ _ us hl => match us, hl with | [_, _, _], _ => rfl), .nil, fun _ => .nil⟩
/-! reach -/
def g_reach : Sm := (qSeq (qExpr (fCall F_check_walk_closed [] [(fVar 0)]))
    (qSeq (qOwn 1 (fAll [(fFld m_cell (fVar 0))]))
    (qSeq (qFor (fZipQ (fFld m_parts (fVar 0)) (fMethP [4, 5] F_Walk_begins [] (fVar 0) [])) (hTupL 2 (hCons (hTupL 2 (hCons (hName 2) (hCons (hName 3) hNil))) (hCons (hTupL 2 (hCons (hName 4) (hCons (hName 5) hNil))) hNil))) (qSeq (qExt 1 (fCall F_part_corners [] [(fVar 5), (fVar 2), (fVar 3)]))
    qNil))
    (qSeq (qFrz [1] (qSet 6 (fOwn (fComp [8] (hName 8) fYes (fB1 intT (fIx (fVar 8) (fC (.int 0)))) (fIter (fVar 1))))))
    (qSeq (qFrz [1] (qSet 7 (fOwn (fComp [8] (hName 8) fYes (fB1 intT (fIx (fVar 8) (fC (.int 1)))) (fIter (fVar 1))))))
    (qSeq (qRet (fTup [(fB1 minT (fOwn (fComp [9] (hName 9) fYes (fB1 intT (fVar 9)) (fIter (fVar 6))))), (fB1 maxT (fOwn (fComp [9] (hName 9) fYes (fB1 intT (fVar 9)) (fIter (fVar 6))))), (fB1 minT (fOwn (fComp [10] (hName 10) fYes (fB1 intT (fVar 10)) (fIter (fVar 7))))), (fB1 maxT (fOwn (fComp [10] (hName 10) fYes (fB1 intT (fVar 10)) (fIter (fVar 7)))))]))
    qNil))))))
def F_reach : List T → M T := fnS 10 g_reach
theorem sc_reach : FnScope ["walk", "corners", "word", "times", "moment", "start", "xs", "ys", "corner", "x", "y"] ["walk"] (defScope s_reach) := ⟨rfl, rfl, rfl, by decide +kernel, rfl, by decide +kernel, by decide +kernel⟩
theorem run_reach (T : Tx base wd K mg) {f : Addr} {fd : FuncData} {dv : List V} {kw : List (Str × V)} (F : FunD K "reach" "reach" (defArgs s_reach) (defBody s_reach) (defScope s_reach) dv kw f fd) : FnOk PW wd K mg base (L2.CX PW wd) 6 f fd ["walk"] (spF (GG K mg) 1 (fnS 10 g_reach)) :=
  fn_run (G := GG K mg) (k := 5) F sc_reach rfl rfl fun cdv A outer s H E hr => by
    have B := bd_of (P := PW) (wd := wd) (G := GG K mg) (base := base) (cdv := cdv) (outer := outer) (H := H) (E := E) sc_reach hr
    exact (ss_cons (ss_expr (B.call (d_check_walk_closed T) (a_cons (vr 0) a_nil)))
    (ss_cons (B.own 1 (l_lst (a_cons (B.fld m_cell T.f_cell (vr 0)) a_nil)))
    (ss_cons (ss_for po_of B.calm (i_zipQ B.eK rfl (by rw [B.eM]; exact T.m_zip) (B.fld m_parts T.f_parts (vr 0)) (s_methP0 (dp_Walk_begins T) B.eK B.eM B.tk B.rm (by decide) (vr 0))) (B.tl 2 (gs_cons (B.tl 2 (gs_cons (B.nm 2) (gs_cons (B.nm 3) gs_nil))) (gs_cons (B.tl 2 (gs_cons (B.nm 4) (gs_cons (B.nm 5) gs_nil))) gs_nil))) (ss_cons (ss_ext B.eK 1 rfl (by first | exact Or.inl rfl | exact Or.inr (Or.inl rfl) | exact Or.inr (Or.inr rfl)) (B.call (d_part_corners T) (a_cons (vr 5) (a_cons (vr 2) (a_cons (vr 3) a_nil)))))
    ss_nil))
    (ss_cons (ss_frzq [1] (B.setC 6 [("corner", 8)] (i_seq B.eK (vr 1)) (fun _ _ _ _ _ => ((B.blk _ _ _ _ _).nm 8)) (fun _ _ _ _ _ => ts_nil) (fun _ _ _ _ _ => ((B.blk _ _ _ _ _).int T.m_int (k_of ((B.blk _ _ _ _ _).ix (k_of (vr 8)) s_int))))))
    (ss_cons (ss_frzq [1] (B.setC 7 [("corner", 8)] (i_seq B.eK (vr 1)) (fun _ _ _ _ _ => ((B.blk _ _ _ _ _).nm 8)) (fun _ _ _ _ _ => ts_nil) (fun _ _ _ _ _ => ((B.blk _ _ _ _ _).int T.m_int (k_of ((B.blk _ _ _ _ _).ix (k_of (vr 8)) s_int))))))
    (ss_cons (ss_ret (s_tup (a_cons (B.min1 T.m_min (k_of (s_own (B.comp [("x", 9)] (i_seq B.eK (vr 6)) (fun _ _ _ _ _ => ((B.blk _ _ _ _ _).nm 9)) (fun _ _ _ _ _ => ts_nil) (fun _ _ _ _ _ => ((B.blk _ _ _ _ _).int T.m_int (k_of (vr 9)))))))) (a_cons (B.max1 T.m_max (k_of (s_own (B.comp [("x", 9)] (i_seq B.eK (vr 6)) (fun _ _ _ _ _ => ((B.blk _ _ _ _ _).nm 9)) (fun _ _ _ _ _ => ts_nil) (fun _ _ _ _ _ => ((B.blk _ _ _ _ _).int T.m_int (k_of (vr 9)))))))) (a_cons (B.min1 T.m_min (k_of (s_own (B.comp [("y", 10)] (i_seq B.eK (vr 7)) (fun _ _ _ _ _ => ((B.blk _ _ _ _ _).nm 10)) (fun _ _ _ _ _ => ts_nil) (fun _ _ _ _ _ => ((B.blk _ _ _ _ _).int T.m_int (k_of (vr 10)))))))) (a_cons (B.max1 T.m_max (k_of (s_own (B.comp [("y", 10)] (i_seq B.eK (vr 7)) (fun _ _ _ _ _ => ((B.blk _ _ _ _ _).nm 10)) (fun _ _ _ _ _ => ts_nil) (fun _ _ _ _ _ => ((B.blk _ _ _ _ _).int T.m_int (k_of (vr 10)))))))) a_nil))))))
    ss_nil))))))
theorem d_reach (T : Tx base wd K mg) : DefOk PW wd base (GG K mg) 6 "reach" 1 [] F_reach := by
  obtain ⟨fd, F⟩ := T.D_reach
  exact ⟨_, fd, ["walk"], [], [], run_reach T F, T.c_reach, F.kp, (F.bindsN fun _ _ _ _ _ _ us hl => match us, hl with | [_], _ => rfl), .nil, fun _ => .nil⟩
/-! is_integer -/
def g_is_integer : Sm := (qSeq (qRet (fAnd (fBin (isiT tab) (fVar 0) (fC (.ty "int"))) (fNot (fBin (isiT tab) (fVar 0) (fC (.ty "bool"))))))
    qNil)
def F_is_integer : List T → M T := fnS 0 g_is_integer
theorem sc_is_integer : FnScope ["value"] ["value"] (defScope s_is_integer) := ⟨rfl, rfl, rfl, by decide +kernel, rfl, by decide +kernel, by decide +kernel⟩
theorem run_is_integer (T : Tx base wd K mg) {f : Addr} {fd : FuncData} {dv : List V} {kw : List (Str × V)} (F : FunD K "is_integer" "is_integer" (defArgs s_is_integer) (defBody s_is_integer) (defScope s_is_integer) dv kw f fd) : FnOk PW wd K mg base (L2.CX PW wd) 1 f fd ["value"] (spF (GG K mg) 1 (fnS 0 g_is_integer)) :=
  fn_run (G := GG K mg) (k := 0) F sc_is_integer rfl rfl fun cdv A outer s H E hr => by
    have B := bd_of (P := PW) (wd := wd) (G := GG K mg) (base := base) (cdv := cdv) (outer := outer) (H := H) (E := E) sc_is_integer hr
    exact (ss_cons (ss_ret (s_and (B.isi T.tab T.m_isinstance (vr 0) (B.ty "int" T.m_int)) (s_one (s_not (B.isi T.tab T.m_isinstance (vr 0) (B.ty "bool" T.m_bool))))))
    ss_nil)
theorem d_is_integer (T : Tx base wd K mg) : DefOk PW wd base (GG K mg) 1 "is_integer" 1 [] F_is_integer := by
  obtain ⟨fd, F⟩ := T.D_is_integer
  exact ⟨_, fd, ["value"], [], [], run_is_integer T F, T.c_is_integer, F.kp, (F.bindsN fun _ _ _ _ _ _ us hl => match us, hl with | [_], _ => rfl), .nil, fun _ => .nil⟩
/-! is_cell -/
def g_is_cell : Sm := (qSeq (qRet (fAnd (fBin (isiT tab) (fVar 0) (fC (.ty "tuple"))) (fAnd (fCmp eqT (fB1 lenT (fVar 0)) (fC (.int 2))) (fB1 allT (fOwn (fComp [1] (hName 1) fYes (fCall F_is_integer [] [(fVar 1)]) (fIter (fVar 0))))))))
    qNil)
def F_is_cell : List T → M T := fnS 1 g_is_cell
theorem sc_is_cell : FnScope ["value", "part"] ["value"] (defScope s_is_cell) := ⟨rfl, rfl, rfl, by decide +kernel, rfl, by decide +kernel, by decide +kernel⟩
theorem run_is_cell (T : Tx base wd K mg) {f : Addr} {fd : FuncData} {dv : List V} {kw : List (Str × V)} (F : FunD K "is_cell" "is_cell" (defArgs s_is_cell) (defBody s_is_cell) (defScope s_is_cell) dv kw f fd) : FnOk PW wd K mg base (L2.CX PW wd) 2 f fd ["value"] (spF (GG K mg) 1 (fnS 1 g_is_cell)) :=
  fn_run (G := GG K mg) (k := 1) F sc_is_cell rfl rfl fun cdv A outer s H E hr => by
    have B := bd_of (P := PW) (wd := wd) (G := GG K mg) (base := base) (cdv := cdv) (outer := outer) (H := H) (E := E) sc_is_cell hr
    exact (ss_cons (ss_ret (s_and (B.isi T.tab T.m_isinstance (vr 0) (B.ty "tuple" T.m_tuple)) (s_and (B.eq (k_of (B.len T.m_len (k_of (vr 0)))) (k_of s_int)) (s_one (B.all T.m_all (k_of (s_own (B.comp [("part", 1)] (i_seq B.eK (vr 0)) (fun _ _ _ _ _ => ((B.blk _ _ _ _ _).nm 1)) (fun _ _ _ _ _ => ts_nil) (fun _ _ _ _ _ => ((B.blk _ _ _ _ _).call (d_is_integer T) (a_cons (vr 1) a_nil)))))))))))
    ss_nil)
theorem d_is_cell (T : Tx base wd K mg) : DefOk PW wd base (GG K mg) 2 "is_cell" 1 [] F_is_cell := by
  obtain ⟨fd, F⟩ := T.D_is_cell
  exact ⟨_, fd, ["value"], [], [], run_is_cell T F, T.c_is_cell, F.kp, (F.bindsN fun _ _ _ _ _ _ us hl => match us, hl with | [_], _ => rfl), .nil, fun _ => .nil⟩
/-! is_list -/
def g_is_list : Sm := (qSeq (qRet (fBin (isiT tab) (fVar 0) (fTup [(fC (.ty "list")), (fC (.ty "tuple"))])))
    qNil)
def F_is_list : List T → M T := fnS 0 g_is_list
theorem sc_is_list : FnScope ["value"] ["value"] (defScope s_is_list) := ⟨rfl, rfl, rfl, by decide +kernel, rfl, by decide +kernel, by decide +kernel⟩
theorem run_is_list (T : Tx base wd K mg) {f : Addr} {fd : FuncData} {dv : List V} {kw : List (Str × V)} (F : FunD K "is_list" "is_list" (defArgs s_is_list) (defBody s_is_list) (defScope s_is_list) dv kw f fd) : FnOk PW wd K mg base (L2.CX PW wd) 1 f fd ["value"] (spF (GG K mg) 1 (fnS 0 g_is_list)) :=
  fn_run (G := GG K mg) (k := 0) F sc_is_list rfl rfl fun cdv A outer s H E hr => by
    have B := bd_of (P := PW) (wd := wd) (G := GG K mg) (base := base) (cdv := cdv) (outer := outer) (H := H) (E := E) sc_is_list hr
    exact (ss_cons (ss_ret (B.isi T.tab T.m_isinstance (vr 0) (s_tup (a_cons (B.ty "list" T.m_list) (a_cons (B.ty "tuple" T.m_tuple) a_nil)))))
    ss_nil)
theorem d_is_list (T : Tx base wd K mg) : DefOk PW wd base (GG K mg) 1 "is_list" 1 [] F_is_list := by
  obtain ⟨fd, F⟩ := T.D_is_list
  exact ⟨_, fd, ["value"], [], [], run_is_list T F, T.c_is_list, F.kp, (F.bindsN fun _ _ _ _ _ _ us hl => match us, hl with | [_], _ => rfl), .nil, fun _ => .nil⟩
/-! is_count -/
def g_is_count : Sm := (qSeq (qRet (fAnd (fCall F_is_integer [] [(fVar 0)]) (fCmp geT (fVar 0) (fC (.int 0)))))
    qNil)
def F_is_count : List T → M T := fnS 0 g_is_count
theorem sc_is_count : FnScope ["value"] ["value"] (defScope s_is_count) := ⟨rfl, rfl, rfl, by decide +kernel, rfl, by decide +kernel, by decide +kernel⟩
theorem run_is_count (T : Tx base wd K mg) {f : Addr} {fd : FuncData} {dv : List V} {kw : List (Str × V)} (F : FunD K "is_count" "is_count" (defArgs s_is_count) (defBody s_is_count) (defScope s_is_count) dv kw f fd) : FnOk PW wd K mg base (L2.CX PW wd) 2 f fd ["value"] (spF (GG K mg) 1 (fnS 0 g_is_count)) :=
  fn_run (G := GG K mg) (k := 1) F sc_is_count rfl rfl fun cdv A outer s H E hr => by
    have B := bd_of (P := PW) (wd := wd) (G := GG K mg) (base := base) (cdv := cdv) (outer := outer) (H := H) (E := E) sc_is_count hr
    exact (ss_cons (ss_ret (s_and (B.call (d_is_integer T) (a_cons (vr 0) a_nil)) (s_one (B.ge (k_of (vr 0)) (k_of s_int)))))
    ss_nil)
theorem d_is_count (T : Tx base wd K mg) : DefOk PW wd base (GG K mg) 2 "is_count" 1 [] F_is_count := by
  obtain ⟨fd, F⟩ := T.D_is_count
  exact ⟨_, fd, ["value"], [], [], run_is_count T F, T.c_is_count, F.kp, (F.bindsN fun _ _ _ _ _ _ us hl => match us, hl with | [_], _ => rfl), .nil, fun _ => .nil⟩
/-! is_part -/
def g_is_part : Sm := (qSeq (qRet (fAnd (fBin (isiT tab) (fVar 0) (fC (.ty "tuple"))) (fAnd (fCmp eqT (fB1 lenT (fVar 0)) (fC (.int 2))) (fAnd (fCall F_is_word [] [(fIx (fVar 0) (fC (.int 0)))]) (fCall F_is_count [] [(fIx (fVar 0) (fC (.int 1)))])))))
    qNil)
def F_is_part : List T → M T := fnS 0 g_is_part
theorem sc_is_part : FnScope ["value"] ["value"] (defScope s_is_part) := ⟨rfl, rfl, rfl, by decide +kernel, rfl, by decide +kernel, by decide +kernel⟩
theorem run_is_part (T : Tx base wd K mg) {f : Addr} {fd : FuncData} {dv : List V} {kw : List (Str × V)} (F : FunD K "is_part" "is_part" (defArgs s_is_part) (defBody s_is_part) (defScope s_is_part) dv kw f fd) : FnOk PW wd K mg base (L2.CX PW wd) 3 f fd ["value"] (spF (GG K mg) 1 (fnS 0 g_is_part)) :=
  fn_run (G := GG K mg) (k := 2) F sc_is_part rfl rfl fun cdv A outer s H E hr => by
    have B := bd_of (P := PW) (wd := wd) (G := GG K mg) (base := base) (cdv := cdv) (outer := outer) (H := H) (E := E) sc_is_part hr
    exact (ss_cons (ss_ret (s_and (B.isi T.tab T.m_isinstance (vr 0) (B.ty "tuple" T.m_tuple)) (s_and (B.eq (k_of (B.len T.m_len (k_of (vr 0)))) (k_of s_int)) (s_and (B.call (d_is_word T) (a_cons (B.ix (k_of (vr 0)) s_int) a_nil)) (s_one (B.call (d_is_count T) (a_cons (B.ix (k_of (vr 0)) s_int) a_nil)))))))
    ss_nil)
theorem d_is_part (T : Tx base wd K mg) : DefOk PW wd base (GG K mg) 3 "is_part" 1 [] F_is_part := by
  obtain ⟨fd, F⟩ := T.D_is_part
  exact ⟨_, fd, ["value"], [], [], run_is_part T F, T.c_is_part, F.kp, (F.bindsN fun _ _ _ _ _ _ us hl => match us, hl with | [_], _ => rfl), .nil, fun _ => .nil⟩
/-! Walk_init -/
def g_Walk_init : Sm := (qSeq (qIf (fNotB (fTru (fCall F_is_cell [] [(fVar 1)]))) (qSeq (qRaise 0 (fC (.str "cell")))
    qNil) qNil)
    (qSeq (qIf (fOrB (fNotB (fTru (fCall F_is_list [] [(fVar 2)]))) (fCmpB gtT (fB1 lenT (fVar 2)) (fC (.int 6)))) (qSeq (qRaise 0 (fC (.str "parts")))
    qNil) qNil)
    (qSeq (qFor (fEnumA (fVar 2)) (hTupL 2 (hCons (hName 3) (hCons (hName 4) hNil))) (qSeq (qIf (fNotB (fTru (fCall F_is_part [] [(fVar 4)]))) (qSeq (qRaise 2 (fVar 3))
    qNil) qNil)
    qNil))
    (qSeq (qFld 0 4 0 (fVar 1))
    (qSeq (qFld 0 4 1 (fB1 tupT (fVar 2)))
    qNil)))))
def F_Walk_init : List T → M (List T) := fnI (GG [] (fun _ => none)) 4 2 g_Walk_init
theorem sc_Walk_init : FnScope ["self", "cell", "parts", "index", "part"] ["self", "cell", "parts"] (defScope s_Walk_init) := ⟨rfl, rfl, rfl, by decide +kernel, rfl, by decide +kernel, by decide +kernel⟩
theorem run_Walk_init (T : Tx base wd K mg) {f : Addr} {fd : FuncData} {dv : List V} {kw : List (Str × V)} (F : FunD K "__init__" "Walk.__init__" (defArgs s_Walk_init) (defBody s_Walk_init) (defScope s_Walk_init) dv kw f fd) : FnOk PW wd K mg base (L2.CX PW wd) 4 f fd ["self", "cell", "parts"] (spI (GG K mg) 4 2 (fnI (GG K mg) 4 2 g_Walk_init)) :=
  make_run (G := GG K mg) (k := 3) F sc_Walk_init rfl rfl fun cdv A outer s H E hr => by
    have B := bd_of (P := PW) (wd := wd) (G := GG K mg) (base := base) (cdv := cdv) (outer := outer) (H := H) (E := E) sc_Walk_init hr
    exact (ss_cons (ss_if (w_not (B.tru (B.call (d_is_cell T) (a_cons (vr 1) a_nil)))) (ss_cons (ss_raise B.calm B.eK B.eM B.tk B.rm (by decide) T.x_BadPart rfl s_str rfl)
    ss_nil) ss_nil)
    (ss_cons (ss_if (w_t (w_or (w_not (B.tru (B.call (d_is_list T) (a_cons (vr 2) a_nil)))) (w_or1 (B.gtB (k_of (B.len T.m_len (k_of (vr 2)))) (k_of (B.gint 6 T.i_MOST_PARTS)))))) (ss_cons (ss_raise B.calm B.eK B.eM B.tk B.rm (by decide) T.x_BadPart rfl s_str rfl)
    ss_nil) ss_nil)
    (ss_cons (ss_for po_of B.calm (i_enumA B.eK rfl (by rw [B.eM]; exact T.m_enumerate) (vr 2)) (B.tl 2 (gs_cons (B.nm 3) (gs_cons (B.nm 4) gs_nil))) (ss_cons (ss_if (w_not (B.tru (B.call (d_is_part T) (a_cons (vr 4) a_nil)))) (ss_cons (ss_raise B.calm B.eK B.eM B.tk B.rm (by decide) T.x_BadIndex rfl (vr 3) rfl)
    ss_nil) ss_nil)
    ss_nil))
    (ss_cons (ss_fld B.eK 0 rfl (Or.inl rfl) T.n_Walk_cell (vr 1))
    (ss_cons (ss_fld B.eK 0 rfl (Or.inl rfl) T.n_Walk_parts (B.tuple T.m_tuple (k_of (vr 2))))
    ss_nil)))))
theorem d_Walk_init (T : Tx base wd K mg) : MakeOk PW wd base (GG K mg) 4 4 2 [] F_Walk_init := by
  obtain ⟨fd, F⟩ := T.D_Walk_init
  obtain ⟨ds, hv, hb⟩ := F.binds1 (ps := ["self", "cell", "parts"]) 3 1 (by simp) (by simp) (fun _ _ _ _ _ _ _ us its h1 h2 => match us, its, h1, h2 with | [_, _, _], [_], _, _ => ⟨_, rfl, rfl⟩)
  exact ⟨_, _, fd, ["self", "cell", "parts"], _, ds, T.c_Walk, T.mk_Walk, run_Walk_init T F, hb, hv, fun w => .nil⟩
/-! check_moment -/
def g_check_moment : Sm := (qSeq (qIf (fNotB (fTru (fCall F_is_count [] [(fVar 0)]))) (qSeq (qRaise 1 (fVar 0))
    qNil) qNil)
    qNil)
def F_check_moment : List T → M T := fnS 0 g_check_moment
theorem sc_check_moment : FnScope ["moment"] ["moment"] (defScope s_check_moment) := ⟨rfl, rfl, rfl, by decide +kernel, rfl, by decide +kernel, by decide +kernel⟩
theorem run_check_moment (T : Tx base wd K mg) {f : Addr} {fd : FuncData} {dv : List V} {kw : List (Str × V)} (F : FunD K "check_moment" "check_moment" (defArgs s_check_moment) (defBody s_check_moment) (defScope s_check_moment) dv kw f fd) : FnOk PW wd K mg base (L2.CX PW wd) 3 f fd ["moment"] (spF (GG K mg) 1 (fnS 0 g_check_moment)) :=
  fn_run (G := GG K mg) (k := 2) F sc_check_moment rfl rfl fun cdv A outer s H E hr => by
    have B := bd_of (P := PW) (wd := wd) (G := GG K mg) (base := base) (cdv := cdv) (outer := outer) (H := H) (E := E) sc_check_moment hr
    exact (ss_cons (ss_if (w_not (B.tru (B.call (d_is_count T) (a_cons (vr 0) a_nil)))) (ss_cons (ss_raise B.calm B.eK B.eM B.tk B.rm (by decide) T.x_BadNumber rfl (vr 0) rfl)
    ss_nil) ss_nil)
    ss_nil)
theorem d_check_moment (T : Tx base wd K mg) : DefOk PW wd base (GG K mg) 3 "check_moment" 1 [] F_check_moment := by
  obtain ⟨fd, F⟩ := T.D_check_moment
  exact ⟨_, fd, ["moment"], [], [], run_check_moment T F, T.c_check_moment, F.kp, (F.bindsN fun _ _ _ _ _ _ us hl => match us, hl with | [_], _ => rfl), .nil, fun _ => .nil⟩
/-! Walk_part_at -/
def g_Walk_part_at : Sm := (qSeq (qExpr (fCall F_check_moment [] [(fVar 1)]))
    (qSeq (qFor (fEnumA (fMethP [4, 5] F_Walk_legs [] (fVar 0) [])) (hTupL 2 (hCons (hName 2) (hCons (hTupL 4 (hCons (hName 3) (hCons (hName 4) (hCons (hName 5) (hCons (hName 6) hNil))))) hNil))) (qSeq (qSet 7 (fBin subT (fBin subT (fVar 1) (fVar 3)) (fC (.int 1))))
    (qSeq (qIf (fChainB leT ltT (fC (.int 0)) (fVar 7) (fBin mulT (fB1 lenT (fVar 5)) (fVar 6))) (qSeq (qRet (fTup [(fVar 2), (fBin divT (fB1 intT (fVar 7)) (fB1 lenT (fVar 5))), (fBin addT (fBin modT (fB1 intT (fVar 7)) (fB1 lenT (fVar 5))) (fC (.int 1)))]))
    qNil) qNil)
    qNil)))
    (qSeq (qRet (fC .non))
    qNil)))
def F_Walk_part_at : List T → M T := fnS 6 g_Walk_part_at
theorem sc_Walk_part_at : FnScope ["self", "moment", "index", "minute", "place", "word", "times", "done"] ["self", "moment"] (defScope s_Walk_part_at) := ⟨rfl, rfl, rfl, by decide +kernel, rfl, by decide +kernel, by decide +kernel⟩
theorem run_Walk_part_at (T : Tx base wd K mg) {f : Addr} {fd : FuncData} {dv : List V} {kw : List (Str × V)} (F : FunD K "part_at" "Walk.part_at" (defArgs s_Walk_part_at) (defBody s_Walk_part_at) (defScope s_Walk_part_at) dv kw f fd) : FnOk PW wd K mg base (L2.CX PW wd) 4 f fd ["self", "moment"] (spF (GG K mg) 2 (fnS 6 g_Walk_part_at)) :=
  fn_run (G := GG K mg) (k := 3) F sc_Walk_part_at rfl rfl fun cdv A outer s H E hr => by
    have B := bd_of (P := PW) (wd := wd) (G := GG K mg) (base := base) (cdv := cdv) (outer := outer) (H := H) (E := E) sc_Walk_part_at hr
    exact (ss_cons (ss_expr (B.call (d_check_moment T) (a_cons (vr 1) a_nil)))
    (ss_cons (ss_for po_of B.calm (i_enumA B.eK rfl (by rw [B.eM]; exact T.m_enumerate) (s_methP0 (dp_Walk_legs T) B.eK B.eM B.tk B.rm (by decide) (vr 0))) (B.tl 2 (gs_cons (B.nm 2) (gs_cons (B.tl 4 (gs_cons (B.nm 3) (gs_cons (B.nm 4) (gs_cons (B.nm 5) (gs_cons (B.nm 6) gs_nil))))) gs_nil))) (ss_cons (B.set 7 (B.sub (B.sub (vr 1) (vr 3)) s_int))
    (ss_cons (ss_if (s_chainB op_le op_lt v_le v_lt s_int (vr 7) (B.mul (B.len T.m_len (k_of (vr 5))) (vr 6)) rfl) (ss_cons (ss_ret (s_tup (a_cons (vr 2) (a_cons (B.div (B.int T.m_int (k_of (vr 7))) (B.len T.m_len (k_of (vr 5)))) (a_cons (B.add (B.mod (B.int T.m_int (k_of (vr 7))) (B.len T.m_len (k_of (vr 5)))) s_int) a_nil)))))
    ss_nil) ss_nil)
    ss_nil)))
    (ss_cons (ss_ret s_non)
    ss_nil)))
theorem d_Walk_part_at (T : Tx base wd K mg) : MethOk PW wd base (GG K mg) 4 4 "part_at" 2 [] F_Walk_part_at := by
  obtain ⟨fd, F⟩ := T.D_Walk_part_at
  exact ⟨⟨_, _, fd, ["self", "moment"], [], [], T.c_Walk, T.k_Walk, T.h_Walk_part_at, run_Walk_part_at T F, (F.bindsN fun _ _ _ _ _ _ us hl => match us, hl with | [_, _], _ => rfl), .nil, fun _ => .nil⟩, show ("part_at" : Str) ∉ fl 4 by decide⟩
theorem dm_MadeWalk_d_Walk_part_at (T : Tx base wd K mg) : MethOk PW wd base (GG K mg) 4 5 "part_at" 2 [] F_Walk_part_at := by
  obtain ⟨fd, F⟩ := T.D_Walk_part_at
  exact ⟨⟨_, _, fd, ["self", "moment"], [], [], T.c_MadeWalk, T.k_MadeWalk, T.hm_MadeWalk_Walk_part_at, run_Walk_part_at T F, (F.bindsN fun _ _ _ _ _ _ us hl => match us, hl with | [_, _], _ => rfl), .nil, fun _ => .nil⟩, show ("part_at" : Str) ∉ fl 5 by decide⟩
theorem dp_Walk_part_at (T : Tx base wd K mg) : ∀ C ∈ [4, 5], MethOk PW wd base (GG K mg) 4 C "part_at" 2 [] F_Walk_part_at := fun C hC => by
  simp only [List.mem_cons, List.not_mem_nil, or_false] at hC
  rcases hC with rfl | rfl
  · exact d_Walk_part_at T
  · exact dm_MadeWalk_d_Walk_part_at T
/-! Walk_at -/
def g_Walk_at : Sm := (qSeq (qSet 2 (fMethP [4, 5] F_Walk_part_at [] (fVar 0) [(fVar 1)]))
    (qSeq (qIf (fCmpB isT (fVar 2) (fC .non)) (qSeq (qRet (fIf (fCmpB eqT (fVar 1) (fC (.int 0))) (fFld m_cell (fVar 0)) (fC .non)))
    qNil) qNil)
    (qSeq (qAsg (fIx (fMethP [4, 5] F_Walk_legs [] (fVar 0) []) (fIx (fVar 2) (fC (.int 0)))) (hTupL 4 (hCons (hName 3) (hCons (hName 4) (hCons (hName 5) (hCons (hName 6) hNil))))))
    (qSeq (qSet 7 (fCall F_path_of [] [(fVar 5)]))
    (qSeq (qRet (fCall F_shifted [.int 1] [(fCall F_shifted [] [(fVar 4), (fIx (fVar 7) (fUn negT (fC (.int 1)))), (fIx (fVar 2) (fC (.int 1)))]), (fIx (fVar 7) (fIx (fVar 2) (fC (.int 2))))]))
    qNil)))))
def F_Walk_at : List T → M T := fnS 6 g_Walk_at
theorem sc_Walk_at : FnScope ["self", "moment", "told", "minute", "place", "word", "times", "path"] ["self", "moment"] (defScope s_Walk_at) := ⟨rfl, rfl, rfl, by decide +kernel, rfl, by decide +kernel, by decide +kernel⟩
theorem run_Walk_at (T : Tx base wd K mg) {f : Addr} {fd : FuncData} {dv : List V} {kw : List (Str × V)} (F : FunD K "at" "Walk.at" (defArgs s_Walk_at) (defBody s_Walk_at) (defScope s_Walk_at) dv kw f fd) : FnOk PW wd K mg base (L2.CX PW wd) 5 f fd ["self", "moment"] (spF (GG K mg) 2 (fnS 6 g_Walk_at)) :=
  fn_run (G := GG K mg) (k := 4) F sc_Walk_at rfl rfl fun cdv A outer s H E hr => by
    have B := bd_of (P := PW) (wd := wd) (G := GG K mg) (base := base) (cdv := cdv) (outer := outer) (H := H) (E := E) sc_Walk_at hr
    exact (ss_cons (B.set 2 (s_methP (dp_Walk_part_at T) B.eK B.eM B.tk B.rm (by decide) (vr 0) (a_cons (vr 1) a_nil)))
    (ss_cons (ss_if (B.isB (k_of (vr 2)) (k_of s_non)) (ss_cons (ss_ret (s_if (B.eqB (k_of (vr 1)) (k_of s_int)) (B.fld m_cell T.f_cell (vr 0)) s_non))
    ss_nil) ss_nil)
    (ss_cons (ss_asg (B.ix (k_of (s_methP0 (dp_Walk_legs T) B.eK B.eM B.tk B.rm (by decide) (vr 0))) (B.ix (k_of (vr 2)) s_int)) (B.tl 4 (gs_cons (B.nm 3) (gs_cons (B.nm 4) (gs_cons (B.nm 5) (gs_cons (B.nm 6) gs_nil))))))
    (ss_cons (B.set 7 (B.call (d_path_of T) (a_cons (vr 5) a_nil)))
    (ss_cons (ss_ret (B.call (d_shifted_1 T) (a_cons (B.call (d_shifted T) (a_cons (vr 4) (a_cons (B.ix (k_of (vr 7)) (B.neg s_int)) (a_cons (B.ix (k_of (vr 2)) s_int) a_nil)))) (a_cons (B.ix (k_of (vr 7)) (B.ix (k_of (vr 2)) s_int)) a_nil))))
    ss_nil)))))
theorem d_Walk_at (T : Tx base wd K mg) : MethOk PW wd base (GG K mg) 5 4 "at" 2 [] F_Walk_at := by
  obtain ⟨fd, F⟩ := T.D_Walk_at
  exact ⟨⟨_, _, fd, ["self", "moment"], [], [], T.c_Walk, T.k_Walk, T.h_Walk_at, run_Walk_at T F, (F.bindsN fun _ _ _ _ _ _ us hl => match us, hl with | [_, _], _ => rfl), .nil, fun _ => .nil⟩, show ("at" : Str) ∉ fl 4 by decide⟩
theorem dm_MadeWalk_d_Walk_at (T : Tx base wd K mg) : MethOk PW wd base (GG K mg) 5 5 "at" 2 [] F_Walk_at := by
  obtain ⟨fd, F⟩ := T.D_Walk_at
  exact ⟨⟨_, _, fd, ["self", "moment"], [], [], T.c_MadeWalk, T.k_MadeWalk, T.hm_MadeWalk_Walk_at, run_Walk_at T F, (F.bindsN fun _ _ _ _ _ _ us hl => match us, hl with | [_, _], _ => rfl), .nil, fun _ => .nil⟩, show ("at" : Str) ∉ fl 5 by decide⟩
theorem dp_Walk_at (T : Tx base wd K mg) : ∀ C ∈ [4, 5], MethOk PW wd base (GG K mg) 5 C "at" 2 [] F_Walk_at := fun C hC => by
  simp only [List.mem_cons, List.not_mem_nil, or_false] at hC
  rcases hC with rfl | rfl
  · exact d_Walk_at T
  · exact dm_MadeWalk_d_Walk_at T
/-! law -/
def g_law : Sm := (qSeq (qFor (fRng1 (fBin max2T (fC (.int 1)) (fBin min2T (fB1 lenT (fVar 0)) (fC (.int 2))))) (hName 1) (qSeq (qSet 2 (fCall F__law_pool [] [(fVar 0), (fVar 1)]))
    (qSeq (qPar2 3 4 (fTup [(fBin subT (fCall F__law_draw [] [(fVar 2), (fC (.int 9))]) (fC (.int 4))), (fBin subT (fCall F__law_draw [] [(fVar 2), (fC (.int 9))]) (fC (.int 4)))]) (fCall F__law_loop_parts [] [(fVar 2), (fC (.int 4))]))
    (qSeq (qPar3 5 6 7 [(fMake 4 F_Walk_init [] [(fVar 3), (fVar 4)]), (fCall F__law_corners [] [(fVar 3), (fVar 4)]), (fCall F__law_area [] [(fCall F__law_uprights [] [(fVar 3), (fVar 4)])])])
    (qSeq (qIf (fOrB (fCmpB nisT (fCall F_is_closed [] [(fVar 5)]) (fC (.bl true))) (fOrB (fCmpB neT (fCall F_reach [] [(fVar 5)]) (fCall F__law_reach_due [] [(fVar 6)])) (fCmpB neT (fCall F_enclosed [] [(fVar 5)]) (fVar 7)))) (qSeq (qRet (fC (.bl false)))
    qNil) qNil)
    (qSeq (qIf (fCmpB neT (fCall F_enclosed [] [(fMake 4 F_Walk_init [] [(fTup [(fBin addT (fIx (fVar 3) (fC (.int 0))) (fBin powT (fC (.int 10)) (fC (.int 30)))), (fBin subT (fIx (fVar 3) (fC (.int 1))) (fC (.int 7)))]), (fVar 4)])]) (fVar 7)) (qSeq (qRet (fC (.bl false)))
    qNil) qNil)
    (qSeq (qSet 8 (fCall F_backwards [] [(fVar 5)]))
    (qSeq (qIf (fOrB (fCmpB neT (fCall F_enclosed [] [(fVar 8)]) (fUn negT (fVar 7))) (fOrB (fCmpB neT (fCall F_reach [] [(fVar 8)]) (fCall F_reach [] [(fVar 5)])) (fCmpB nisT (fCall F_is_closed [] [(fVar 8)]) (fC (.bl true))))) (qSeq (qRet (fC (.bl false)))
    qNil) qNil)
    (qSeq (qIf (fCmpB neT (fOwn (fComp [11] (hName 11) fYes (fMethP [4, 5] F_Walk_at [] (fVar 8) [(fVar 11)]) (fRng1 (fB1 lenT (fVar 6))))) (fRev (fVar 6))) (qSeq (qRet (fC (.bl false)))
    qNil) qNil)
    (qSeq (qIf (fAndB (fCmpB ltT (fB1 lenT (fVar 4)) (fC (.int 4))) (fCmpB neT (fCall F_enclosed [] [(fMake 4 F_Walk_init [] [(fVar 3), (fBin addT (fVar 4) (fVar 4))])]) (fBin mulT (fC (.int 2)) (fVar 7)))) (qSeq (qRet (fC (.bl false)))
    qNil) qNil)
    (qSeq (qFor (fIter (fLst [(fSl (fVar 4) none (some (fUn negT (fC (.int 1))))), (fSl (fVar 4) none (some (fUn negT (fC (.int 2))))), (fBin addT (fLst [(fTup [(fC (.str "E")), (fC (.int 1))])]) (fSl (fVar 4) (some (fC (.int 1))) none))])) (hName 9) (qSeq (qSet 10 (fCall F__law_corners [] [(fVar 3), (fVar 9)]))
    (qSeq (qIf (fOrB (fCmpB neT (fCall F_is_closed [] [(fMake 4 F_Walk_init [] [(fVar 3), (fVar 9)])]) (fCmp eqT (fIx (fVar 10) (fC (.int 0))) (fIx (fVar 10) (fUn negT (fC (.int 1)))))) (fCmpB neT (fCall F_reach [] [(fMake 4 F_Walk_init [] [(fVar 3), (fVar 9)])]) (fCall F__law_reach_due [] [(fVar 10)]))) (qSeq (qRet (fC (.bl false)))
    qNil) qNil)
    qNil)))
    qNil)))))))))))
    (qSeq (qRet (fC (.bl true)))
    qNil))
def F_law : List T → M T := fnS 11 g_law
theorem sc_law : FnScope ["_law_script", "_law_k", "_law_pool_here", "_law_start", "_law_parts", "_law_walk", "_law_corners_here", "_law_area_here", "_law_back", "_law_some", "_law_gone", "_law_moment"] ["_law_script"] (defScope s_law) := ⟨rfl, rfl, rfl, by decide +kernel, rfl, by decide +kernel, by decide +kernel⟩
theorem run_law (T : Tx base wd K mg) {f : Addr} {fd : FuncData} {dv : List V} {kw : List (Str × V)} (F : FunD K "law" "law" (defArgs s_law) (defBody s_law) (defScope s_law) dv kw f fd) : FnOk PW wd K mg base (L2.CX PW wd) 7 f fd ["_law_script"] (spF (GG K mg) 1 (fnS 11 g_law)) :=
  fn_run (G := GG K mg) (k := 6) F sc_law rfl rfl fun cdv A outer s H E hr => by
    have B := bd_of (P := PW) (wd := wd) (G := GG K mg) (base := base) (cdv := cdv) (outer := outer) (H := H) (E := E) sc_law hr
    exact (ss_cons (ss_for po_of B.calm (i_range1 rfl (by rw [B.eM]; exact T.m_range) (B.max2 T.m_max s_int (B.min2 T.m_min (B.len T.m_len (k_of (vr 0))) s_int))) (B.nm 1) (ss_cons (B.set 2 (B.call (d__law_pool T) (a_cons (vr 0) (a_cons (vr 1) a_nil))))
    (ss_cons (B.par2 3 4 (a_cons (s_tup (a_cons (B.sub (B.call (d__law_draw T) (a_cons (vr 2) (a_cons s_int a_nil))) s_int) (a_cons (B.sub (B.call (d__law_draw T) (a_cons (vr 2) (a_cons s_int a_nil))) s_int) a_nil))) (a_cons (B.call (d__law_loop_parts T) (a_cons (vr 2) (a_cons s_int a_nil))) a_nil)))
    (ss_cons (B.par3 5 6 7 (a_cons (B.make (d_Walk_init T) (a_cons (vr 3) (a_cons (vr 4) a_nil))) (a_cons (B.call (d__law_corners T) (a_cons (vr 3) (a_cons (vr 4) a_nil))) (a_cons (B.call (d__law_area T) (a_cons (B.call (d__law_uprights T) (a_cons (vr 3) (a_cons (vr 4) a_nil))) a_nil)) a_nil))))
    (ss_cons (ss_if (w_t (w_or (B.nisB (k_of (B.call (d_is_closed T) (a_cons (vr 5) a_nil))) (k_of s_bl)) (w_or (B.neB (k_of (B.call (d_reach T) (a_cons (vr 5) a_nil))) (k_of (B.call (d__law_reach_due T) (a_cons (vr 6) a_nil)))) (w_or1 (B.neB (k_of (B.call (d_enclosed T) (a_cons (vr 5) a_nil))) (k_of (vr 7))))))) (ss_cons (ss_ret s_bl)
    ss_nil) ss_nil)
    (ss_cons (ss_if (B.neB (k_of (B.call (d_enclosed T) (a_cons (B.make (d_Walk_init T) (a_cons (s_tup (a_cons (B.add (B.ix (k_of (vr 3)) s_int) (B.pow s_int s_int)) (a_cons (B.sub (B.ix (k_of (vr 3)) s_int) s_int) a_nil))) (a_cons (vr 4) a_nil))) a_nil))) (k_of (vr 7))) (ss_cons (ss_ret s_bl)
    ss_nil) ss_nil)
    (ss_cons (B.set 8 (B.call (d_backwards T) (a_cons (vr 5) a_nil)))
    (ss_cons (ss_if (w_t (w_or (B.neB (k_of (B.call (d_enclosed T) (a_cons (vr 8) a_nil))) (k_of (B.neg (vr 7)))) (w_or (B.neB (k_of (B.call (d_reach T) (a_cons (vr 8) a_nil))) (k_of (B.call (d_reach T) (a_cons (vr 5) a_nil)))) (w_or1 (B.nisB (k_of (B.call (d_is_closed T) (a_cons (vr 8) a_nil))) (k_of s_bl)))))) (ss_cons (ss_ret s_bl)
    ss_nil) ss_nil)
    (ss_cons (ss_if (B.neB (k_of (s_own (B.comp [("_law_moment", 11)] (i_range1 rfl (by rw [B.eM]; exact T.m_range) (B.len T.m_len (k_of (vr 6)))) (fun _ _ _ _ _ => ((B.blk _ _ _ _ _).nm 11)) (fun _ _ _ _ _ => ts_nil) (fun _ _ _ _ _ => (s_methP (dp_Walk_at T) (B.blk _ _ _ _ _).eK (B.blk _ _ _ _ _).eM (B.blk _ _ _ _ _).tk (B.blk _ _ _ _ _).rm (by decide) (vr 8) (a_cons (vr 11) a_nil)))))) (k_of (s_rev B.eK (vr 6)))) (ss_cons (ss_ret s_bl)
    ss_nil) ss_nil)
    (ss_cons (ss_if (w_t (w_and (B.ltB (k_of (B.len T.m_len (k_of (vr 4)))) (k_of s_int)) (w_and1 (B.neB (k_of (B.call (d_enclosed T) (a_cons (B.make (d_Walk_init T) (a_cons (vr 3) (a_cons (B.add (vr 4) (vr 4)) a_nil))) a_nil))) (k_of (B.mul s_int (vr 7))))))) (ss_cons (ss_ret s_bl)
    ss_nil) ss_nil)
    (ss_cons (ss_for po_of B.calm (i_seq B.eK (s_lst (a_cons (B.sl (k_of (vr 4)) o_none (o_some (B.neg s_int))) (a_cons (B.sl (k_of (vr 4)) o_none (o_some (B.neg s_int))) (a_cons (B.add (s_lst (a_cons (s_tup (a_cons s_str (a_cons s_int a_nil))) a_nil)) (B.sl (k_of (vr 4)) (o_some s_int) o_none)) a_nil))))) (B.nm 9) (ss_cons (B.set 10 (B.call (d__law_corners T) (a_cons (vr 3) (a_cons (vr 9) a_nil))))
    (ss_cons (ss_if (w_t (w_or (B.neB (k_of (B.call (d_is_closed T) (a_cons (B.make (d_Walk_init T) (a_cons (vr 3) (a_cons (vr 9) a_nil))) a_nil))) (k_of (B.eq (k_of (B.ix (k_of (vr 10)) s_int)) (k_of (B.ix (k_of (vr 10)) (B.neg s_int)))))) (w_or1 (B.neB (k_of (B.call (d_reach T) (a_cons (B.make (d_Walk_init T) (a_cons (vr 3) (a_cons (vr 9) a_nil))) a_nil))) (k_of (B.call (d__law_reach_due T) (a_cons (vr 10) a_nil))))))) (ss_cons (ss_ret s_bl)
    ss_nil) ss_nil)
    ss_nil)))
    ss_nil)))))))))))
    (ss_cons (ss_ret s_bl)
    ss_nil))
theorem d_law (T : Tx base wd K mg) : DefOk PW wd base (GG K mg) 7 "law" 1 [] F_law := by
  obtain ⟨fd, F⟩ := T.D_law
  exact ⟨_, fd, ["_law_script"], [], [], run_law T F, T.c_law, F.kp, (F.bindsN fun _ _ _ _ _ _ us hl => match us, hl with | [_], _ => rfl), .nil, fun _ => .nil⟩
end
def fa : List Fa := [
  .free "abs",
  .free "all",
  .free "bool",
  .free "enumerate",
  .free "int",
  .free "isinstance",
  .free "len",
  .free "list",
  .free "max",
  .free "min",
  .free "range",
  .free "str",
  .free "sum",
  .free "tuple",
  .free "zip",
  .glo "BadIndex",
  .glo "BadNumber",
  .glo "BadPart",
  .glo "MadeWalk",
  .glo "NotSo",
  .glo "Walk",
  .glo "OPPOSITE",
  .int "MOST_LETTERS" 24,
  .int "MOST_PARTS" 6,
  .str "STEPS" "ENWS",
  .cls "MadeWalk",
  .noat "MadeWalk" "cell",
  .noat "MadeWalk" "parts",
  .cls "Walk",
  .noat "Walk" "cell",
  .noat "Walk" "parts",
  .mkr "MadeWalk",
  .mkr "Walk",
  .glo "_law_area",
  .glo "_law_led",
  .glo "_law_corners",
  .glo "_law_draw",
  .glo "_law_pick",
  .glo "_law_word_drawn",
  .glo "_law_loop_parts",
  .glo "_law_pool",
  .glo "_law_reach_due",
  .glo "_law_uprights",
  .glo "check_walk_closed",
  .glo "check_walk_walks",
  .glo "shifted",
  .glo "step_of",
  .glo "path_of",
  .meth "Walk" "goal",
  .meth "MadeWalk" "goal",
  .glo "turned_back",
  .glo "backwards",
  .glo "check_closed",
  .glo "is_word",
  .glo "check_word",
  .glo "offsets_of",
  .glo "progression_sum",
  .glo "part_enclosed",
  .meth "Walk" "legs",
  .meth "MadeWalk" "legs",
  .meth "Walk" "begins",
  .meth "MadeWalk" "begins",
  .glo "enclosed",
  .glo "is_closed",
  .glo "part_corners",
  .glo "reach",
  .glo "is_integer",
  .glo "is_cell",
  .glo "is_list",
  .glo "is_count",
  .glo "is_part",
  .glo "check_moment",
  .meth "Walk" "part_at",
  .meth "MadeWalk" "part_at",
  .meth "Walk" "at",
  .meth "MadeWalk" "at",
  .glo "law"]
def fns : List DefD := [
  { at_ := ("_law_area", none), name := "_law_area", qual := "_law_area", params := defArgs s__law_area, body := defBody s__law_area, scope := defScope s__law_area, dfl := [] },
  { at_ := ("_law_led", none), name := "_law_led", qual := "_law_led", params := defArgs s__law_led, body := defBody s__law_led, scope := defScope s__law_led, dfl := [] },
  { at_ := ("_law_corners", none), name := "_law_corners", qual := "_law_corners", params := defArgs s__law_corners, body := defBody s__law_corners, scope := defScope s__law_corners, dfl := [] },
  { at_ := ("_law_draw", none), name := "_law_draw", qual := "_law_draw", params := defArgs s__law_draw, body := defBody s__law_draw, scope := defScope s__law_draw, dfl := [] },
  { at_ := ("_law_pick", none), name := "_law_pick", qual := "_law_pick", params := defArgs s__law_pick, body := defBody s__law_pick, scope := defScope s__law_pick, dfl := [] },
  { at_ := ("_law_word_drawn", none), name := "_law_word_drawn", qual := "_law_word_drawn", params := defArgs s__law_word_drawn, body := defBody s__law_word_drawn, scope := defScope s__law_word_drawn, dfl := [] },
  { at_ := ("_law_loop_parts", none), name := "_law_loop_parts", qual := "_law_loop_parts", params := defArgs s__law_loop_parts, body := defBody s__law_loop_parts, scope := defScope s__law_loop_parts, dfl := [] },
  { at_ := ("_law_pool", none), name := "_law_pool", qual := "_law_pool", params := defArgs s__law_pool, body := defBody s__law_pool, scope := defScope s__law_pool, dfl := [] },
  { at_ := ("_law_reach_due", none), name := "_law_reach_due", qual := "_law_reach_due", params := defArgs s__law_reach_due, body := defBody s__law_reach_due, scope := defScope s__law_reach_due, dfl := [] },
  { at_ := ("_law_uprights", none), name := "_law_uprights", qual := "_law_uprights", params := defArgs s__law_uprights, body := defBody s__law_uprights, scope := defScope s__law_uprights, dfl := [] },
  { at_ := ("check_walk_closed", none), name := "check_walk", qual := "check_walk", params := defArgs s_check_walk_closed, body := defBody s_check_walk_closed, scope := defScope s_check_walk_closed, dfl := [] },
  { at_ := ("check_walk_walks", none), name := "check_walk", qual := "check_walk", params := defArgs s_check_walk_walks, body := defBody s_check_walk_walks, scope := defScope s_check_walk_walks, dfl := [] },
  { at_ := ("MadeWalk", some "__init__"), name := "__init__", qual := "MadeWalk.__init__", params := defArgs s_MadeWalk_init, body := defBody s_MadeWalk_init, scope := defScope s_MadeWalk_init, dfl := [] },
  { at_ := ("shifted", none), name := "shifted", qual := "shifted", params := defArgs s_shifted, body := defBody s_shifted, scope := defScope s_shifted, dfl := [.int 1] },
  { at_ := ("step_of", none), name := "step_of", qual := "step_of", params := defArgs s_step_of, body := defBody s_step_of, scope := defScope s_step_of, dfl := [] },
  { at_ := ("path_of", none), name := "path_of", qual := "path_of", params := defArgs s_path_of, body := defBody s_path_of, scope := defScope s_path_of, dfl := [] },
  { at_ := ("Walk", some "goal"), name := "goal", qual := "Walk.goal", params := defArgs s_Walk_goal, body := defBody s_Walk_goal, scope := defScope s_Walk_goal, dfl := [] },
  { at_ := ("turned_back", none), name := "turned_back", qual := "turned_back", params := defArgs s_turned_back, body := defBody s_turned_back, scope := defScope s_turned_back, dfl := [] },
  { at_ := ("backwards", none), name := "backwards", qual := "backwards", params := defArgs s_backwards, body := defBody s_backwards, scope := defScope s_backwards, dfl := [] },
  { at_ := ("check_closed", none), name := "check_closed", qual := "check_closed", params := defArgs s_check_closed, body := defBody s_check_closed, scope := defScope s_check_closed, dfl := [] },
  { at_ := ("is_word", none), name := "is_word", qual := "is_word", params := defArgs s_is_word, body := defBody s_is_word, scope := defScope s_is_word, dfl := [] },
  { at_ := ("check_word", none), name := "check_word", qual := "check_word", params := defArgs s_check_word, body := defBody s_check_word, scope := defScope s_check_word, dfl := [] },
  { at_ := ("offsets_of", none), name := "offsets_of", qual := "offsets_of", params := defArgs s_offsets_of, body := defBody s_offsets_of, scope := defScope s_offsets_of, dfl := [] },
  { at_ := ("progression_sum", none), name := "progression_sum", qual := "progression_sum", params := defArgs s_progression_sum, body := defBody s_progression_sum, scope := defScope s_progression_sum, dfl := [] },
  { at_ := ("part_enclosed", none), name := "part_enclosed", qual := "part_enclosed", params := defArgs s_part_enclosed, body := defBody s_part_enclosed, scope := defScope s_part_enclosed, dfl := [] },
  { at_ := ("Walk", some "legs"), name := "legs", qual := "Walk.legs", params := defArgs s_Walk_legs, body := defBody s_Walk_legs, scope := defScope s_Walk_legs, dfl := [] },
  { at_ := ("Walk", some "begins"), name := "begins", qual := "Walk.begins", params := defArgs s_Walk_begins, body := defBody s_Walk_begins, scope := defScope s_Walk_begins, dfl := [] },
  { at_ := ("enclosed", none), name := "enclosed", qual := "enclosed", params := defArgs s_enclosed, body := defBody s_enclosed, scope := defScope s_enclosed, dfl := [] },
  { at_ := ("is_closed", none), name := "is_closed", qual := "is_closed", params := defArgs s_is_closed, body := defBody s_is_closed, scope := defScope s_is_closed, dfl := [] },
  { at_ := ("part_corners", none), name := "part_corners", qual := "part_corners", params := defArgs s_part_corners, body := defBody s_part_corners, scope := defScope s_part_corners, dfl := [] },
  { at_ := ("reach", none), name := "reach", qual := "reach", params := defArgs s_reach, body := defBody s_reach, scope := defScope s_reach, dfl := [] },
  { at_ := ("is_integer", none), name := "is_integer", qual := "is_integer", params := defArgs s_is_integer, body := defBody s_is_integer, scope := defScope s_is_integer, dfl := [] },
  { at_ := ("is_cell", none), name := "is_cell", qual := "is_cell", params := defArgs s_is_cell, body := defBody s_is_cell, scope := defScope s_is_cell, dfl := [] },
  { at_ := ("is_list", none), name := "is_list", qual := "is_list", params := defArgs s_is_list, body := defBody s_is_list, scope := defScope s_is_list, dfl := [] },
  { at_ := ("is_count", none), name := "is_count", qual := "is_count", params := defArgs s_is_count, body := defBody s_is_count, scope := defScope s_is_count, dfl := [] },
  { at_ := ("is_part", none), name := "is_part", qual := "is_part", params := defArgs s_is_part, body := defBody s_is_part, scope := defScope s_is_part, dfl := [] },
  { at_ := ("Walk", some "__init__"), name := "__init__", qual := "Walk.__init__", params := defArgs s_Walk_init, body := defBody s_Walk_init, scope := defScope s_Walk_init, dfl := [.adr (dflAt ("Walk", some "__init__") 0)] },
  { at_ := ("check_moment", none), name := "check_moment", qual := "check_moment", params := defArgs s_check_moment, body := defBody s_check_moment, scope := defScope s_check_moment, dfl := [] },
  { at_ := ("Walk", some "part_at"), name := "part_at", qual := "Walk.part_at", params := defArgs s_Walk_part_at, body := defBody s_Walk_part_at, scope := defScope s_Walk_part_at, dfl := [] },
  { at_ := ("Walk", some "at"), name := "at", qual := "Walk.at", params := defArgs s_Walk_at, body := defBody s_Walk_at, scope := defScope s_Walk_at, dfl := [] },
  { at_ := ("law", none), name := "law", qual := "law", params := defArgs s_law, body := defBody s_law, scope := defScope s_law, dfl := [] }]
def chk (K : PySem.W.Frag) : List Bool := [
  tabB K cn tabR,
  ggB K "OPPOSITE" d_OPPOSITE,
  taB K (dflAt ("Walk", some "__init__") 0 K) [],
  (supL SupX.xVE PW K (ga K "BadIndex") "BadIndex.__init__" "index").all id,
  (supL SupX.xVE PW K (ga K "BadNumber") "BadNumber.__init__" "number").all id,
  (supL SupX.xVE PW K (ga K "BadPart") "BadPart.__init__" "part").all id,
  (supL SupX.xVE PW K (ga K "NotSo") "NotSo.__init__" "word").all id,
  decide (ma K (ga K "MadeWalk") "at" = ma K (ga K "Walk") "at"),
  decide (ma K (ga K "MadeWalk") "goal" = ma K (ga K "Walk") "goal"),
  decide (ma K (ga K "MadeWalk") "part_at" = ma K (ga K "Walk") "part_at"),
  decide (ma K (ga K "MadeWalk") "legs" = ma K (ga K "Walk") "legs"),
  decide (ma K (ga K "MadeWalk") "begins" = ma K (ga K "Walk") "begins")]
theorem chk_at {K : PySem.W.Frag} (h : (chk K).all id = true) (i : Nat) {b : Bool} (e : (chk K)[i]? = some b := by rfl) : b = true := List.all_eq_true.mp h b (List.mem_of_getElem? e)
def cs (K : PySem.W.Frag) : List (Addr × Addr) := []
theorem tx_of {base : Heap} {wd : World} {K : PySem.W.Frag} {h : Heap} {mg : Str → Option Value} (KX : K.In h) (Ns : h.Ns mainGlobals mg) (c : SaysD fa fns K) (ck : (chk K).all id = true) (h_OPPOSITE : dicW K (ga K "OPPOSITE") = some (keysIn wd.params ["E", "N", "W", "S"])) (e_BadIndex : supW K (ma K (ga K "BadIndex") "__init__") = supV "BadIndex.__init__" s_BadIndex_init) (e_BadNumber : supW K (ma K (ga K "BadNumber") "__init__") = supV "BadNumber.__init__" s_BadNumber_init) (e_BadPart : supW K (ma K (ga K "BadPart") "__init__") = supV "BadPart.__init__" s_BadPart_init) (e_NotSo : supW K (ma K (ga K "NotSo") "__init__") = supV "NotSo.__init__" s_NotSo_init) : Tx base wd K mg := by
  have c_BadIndex : mg "BadIndex" = some (.ref (ga K "BadIndex")) := glo_ok KX Ns (c.fact 15)
  have c_BadNumber : mg "BadNumber" = some (.ref (ga K "BadNumber")) := glo_ok KX Ns (c.fact 16)
  have c_BadPart : mg "BadPart" = some (.ref (ga K "BadPart")) := glo_ok KX Ns (c.fact 17)
  have c_MadeWalk : mg "MadeWalk" = some (.ref (ga K "MadeWalk")) := glo_ok KX Ns (c.fact 18)
  have c_NotSo : mg "NotSo" = some (.ref (ga K "NotSo")) := glo_ok KX Ns (c.fact 19)
  have c_Walk : mg "Walk" = some (.ref (ga K "Walk")) := glo_ok KX Ns (c.fact 20)
  have hc : ∀ C cA, mg (cn C) = some (.ref cA) → cA = ga K (cn C) := fun C cA h => match C, h with
    | 0, h => (Value.ref.inj (Option.some.inj (h.symm.trans c_BadPart)))
    | 1, h => (Value.ref.inj (Option.some.inj (h.symm.trans c_BadNumber)))
    | 2, h => (Value.ref.inj (Option.some.inj (h.symm.trans c_BadIndex)))
    | 3, h => (Value.ref.inj (Option.some.inj (h.symm.trans c_NotSo)))
    | 4, h => (Value.ref.inj (Option.some.inj (h.symm.trans c_Walk)))
    | 5, h => (Value.ref.inj (Option.some.inj (h.symm.trans c_MadeWalk)))
    | _ + 6, h => (Value.ref.inj (Option.some.inj (h.symm.trans c_BadPart)))
  exact {
    m_abs := free_ok KX Ns (c.fact 0)
    m_all := free_ok KX Ns (c.fact 1)
    m_bool := free_ok KX Ns (c.fact 2)
    m_enumerate := free_ok KX Ns (c.fact 3)
    m_int := free_ok KX Ns (c.fact 4)
    m_isinstance := free_ok KX Ns (c.fact 5)
    m_len := free_ok KX Ns (c.fact 6)
    m_list := free_ok KX Ns (c.fact 7)
    m_max := free_ok KX Ns (c.fact 8)
    m_min := free_ok KX Ns (c.fact 9)
    m_range := free_ok KX Ns (c.fact 10)
    m_str := free_ok KX Ns (c.fact 11)
    m_sum := free_ok KX Ns (c.fact 12)
    m_tuple := free_ok KX Ns (c.fact 13)
    m_zip := free_ok KX Ns (c.fact 14)
    c_BadIndex := c_BadIndex
    c_BadNumber := c_BadNumber
    c_BadPart := c_BadPart
    c_MadeWalk := c_MadeWalk
    c_NotSo := c_NotSo
    c_Walk := c_Walk
    hc := hc
    tab := tabB_ok (G := GG K mg) rfl hc (chk_at ck 0)
    d_OPPOSITE := ggB_ok (G := GG K mg) rfl (glo_ok KX Ns (c.fact 21)) h_OPPOSITE (chk_at ck 1)
    i_MOST_LETTERS := int_ok KX Ns (c.fact 22)
    i_MOST_PARTS := int_ok KX Ns (c.fact 23)
    z_STEPS := str_ok KX Ns (c.fact 24)
    f_cell := by
      intro C j h
      unfold m_cell at h
      split at h
      · cases h; exact ⟨(show List.findIdx? (fun y => y == ("cell" : Str)) (fl 4) = some 0 by decide), fun cA hA => by have e := hc 4 _ hA; subst e; exact ⟨cls_ok (c.fact 28), noat_ok (c.fact 29)⟩⟩
      · cases h; exact ⟨(show List.findIdx? (fun y => y == ("cell" : Str)) (fl 5) = some 0 by decide), fun cA hA => by have e := hc 5 _ hA; subst e; exact ⟨cls_ok (c.fact 25), noat_ok (c.fact 26)⟩⟩
      · cases h
    f_parts := by
      intro C j h
      unfold m_parts at h
      split at h
      · cases h; exact ⟨(show List.findIdx? (fun y => y == ("parts" : Str)) (fl 4) = some 1 by decide), fun cA hA => by have e := hc 4 _ hA; subst e; exact ⟨cls_ok (c.fact 28), noat_ok (c.fact 30)⟩⟩
      · cases h; exact ⟨(show List.findIdx? (fun y => y == ("parts" : Str)) (fl 5) = some 1 by decide), fun cA hA => by have e := hc 5 _ hA; subst e; exact ⟨cls_ok (c.fact 25), noat_ok (c.fact 27)⟩⟩
      · cases h
    n_MadeWalk_cell := ⟨by rfl, (show ("cell" : Str) ∉ (fl 5).take 0 by decide), (show (fl 5).length < 1000 by decide), fun cA hA => by have e := hc 5 _ hA; subst e; exact ⟨cls_ok (c.fact 25), noat_ok (c.fact 26)⟩⟩
    n_MadeWalk_parts := ⟨by rfl, (show ("parts" : Str) ∉ (fl 5).take 1 by decide), (show (fl 5).length < 1000 by decide), fun cA hA => by have e := hc 5 _ hA; subst e; exact ⟨cls_ok (c.fact 25), noat_ok (c.fact 27)⟩⟩
    n_Walk_cell := ⟨by rfl, (show ("cell" : Str) ∉ (fl 4).take 0 by decide), (show (fl 4).length < 1000 by decide), fun cA hA => by have e := hc 4 _ hA; subst e; exact ⟨cls_ok (c.fact 28), noat_ok (c.fact 29)⟩⟩
    n_Walk_parts := ⟨by rfl, (show ("parts" : Str) ∉ (fl 4).take 1 by decide), (show (fl 4).length < 1000 by decide), fun cA hA => by have e := hc 4 _ hA; subst e; exact ⟨cls_ok (c.fact 28), noat_ok (c.fact 30)⟩⟩
    k_MadeWalk := cls_ok (c.fact 25)
    k_Walk := cls_ok (c.fact 28)
    mk_MadeWalk := mkr_ok (c.fact 31)
    mk_Walk := mkr_ok (c.fact 32)
    x_BadIndex := xc_of (G := GG K mg) rfl c_BadIndex e_BadIndex SupX.xVE_ok (chk_at ck 3) supt_BadIndex fok_BadIndex
    x_BadNumber := xc_of (G := GG K mg) rfl c_BadNumber e_BadNumber SupX.xVE_ok (chk_at ck 4) supt_BadNumber fok_BadNumber
    x_BadPart := xc_of (G := GG K mg) rfl c_BadPart e_BadPart SupX.xVE_ok (chk_at ck 5) supt_BadPart fok_BadPart
    x_NotSo := xc_of (G := GG K mg) rfl c_NotSo e_NotSo SupX.xVE_ok (chk_at ck 6) supt_NotSo fok_NotSo
    c__law_area := glo_ok KX Ns (c.fact 33)
    D__law_area := c.def_ 0
    c__law_led := glo_ok KX Ns (c.fact 34)
    D__law_led := c.def_ 1
    c__law_corners := glo_ok KX Ns (c.fact 35)
    D__law_corners := c.def_ 2
    c__law_draw := glo_ok KX Ns (c.fact 36)
    D__law_draw := c.def_ 3
    c__law_pick := glo_ok KX Ns (c.fact 37)
    D__law_pick := c.def_ 4
    c__law_word_drawn := glo_ok KX Ns (c.fact 38)
    D__law_word_drawn := c.def_ 5
    c__law_loop_parts := glo_ok KX Ns (c.fact 39)
    D__law_loop_parts := c.def_ 6
    c__law_pool := glo_ok KX Ns (c.fact 40)
    D__law_pool := c.def_ 7
    c__law_reach_due := glo_ok KX Ns (c.fact 41)
    D__law_reach_due := c.def_ 8
    c__law_uprights := glo_ok KX Ns (c.fact 42)
    D__law_uprights := c.def_ 9
    c_check_walk_closed := glo_ok KX Ns (c.fact 43)
    D_check_walk_closed := c.def_ 10
    c_check_walk_walks := glo_ok KX Ns (c.fact 44)
    D_check_walk_walks := c.def_ 11
    D_MadeWalk_init := c.def_ 12
    c_shifted := glo_ok KX Ns (c.fact 45)
    D_shifted := c.def_ 13
    c_step_of := glo_ok KX Ns (c.fact 46)
    D_step_of := c.def_ 14
    c_path_of := glo_ok KX Ns (c.fact 47)
    D_path_of := c.def_ 15
    h_Walk_goal := meth_ok (c.fact 48)
    hm_MadeWalk_Walk_goal := (by have e := of_decide_eq_true (chk_at ck 8); rw [← e]; exact meth_ok (c.fact 49))
    D_Walk_goal := c.def_ 16
    c_turned_back := glo_ok KX Ns (c.fact 50)
    D_turned_back := c.def_ 17
    c_backwards := glo_ok KX Ns (c.fact 51)
    D_backwards := c.def_ 18
    c_check_closed := glo_ok KX Ns (c.fact 52)
    D_check_closed := c.def_ 19
    c_is_word := glo_ok KX Ns (c.fact 53)
    D_is_word := c.def_ 20
    c_check_word := glo_ok KX Ns (c.fact 54)
    D_check_word := c.def_ 21
    c_offsets_of := glo_ok KX Ns (c.fact 55)
    D_offsets_of := c.def_ 22
    c_progression_sum := glo_ok KX Ns (c.fact 56)
    D_progression_sum := c.def_ 23
    c_part_enclosed := glo_ok KX Ns (c.fact 57)
    D_part_enclosed := c.def_ 24
    h_Walk_legs := meth_ok (c.fact 58)
    hm_MadeWalk_Walk_legs := (by have e := of_decide_eq_true (chk_at ck 10); rw [← e]; exact meth_ok (c.fact 59))
    D_Walk_legs := c.def_ 25
    h_Walk_begins := meth_ok (c.fact 60)
    hm_MadeWalk_Walk_begins := (by have e := of_decide_eq_true (chk_at ck 11); rw [← e]; exact meth_ok (c.fact 61))
    D_Walk_begins := c.def_ 26
    c_enclosed := glo_ok KX Ns (c.fact 62)
    D_enclosed := c.def_ 27
    c_is_closed := glo_ok KX Ns (c.fact 63)
    D_is_closed := c.def_ 28
    c_part_corners := glo_ok KX Ns (c.fact 64)
    D_part_corners := c.def_ 29
    c_reach := glo_ok KX Ns (c.fact 65)
    D_reach := c.def_ 30
    c_is_integer := glo_ok KX Ns (c.fact 66)
    D_is_integer := c.def_ 31
    c_is_cell := glo_ok KX Ns (c.fact 67)
    D_is_cell := c.def_ 32
    c_is_list := glo_ok KX Ns (c.fact 68)
    D_is_list := c.def_ 33
    c_is_count := glo_ok KX Ns (c.fact 69)
    D_is_count := c.def_ 34
    c_is_part := glo_ok KX Ns (c.fact 70)
    D_is_part := c.def_ 35
    D_Walk_init := c.def_ 36
    v_Walk_init_0 := chk_at ck 2
    c_check_moment := glo_ok KX Ns (c.fact 71)
    D_check_moment := c.def_ 37
    h_Walk_part_at := meth_ok (c.fact 72)
    hm_MadeWalk_Walk_part_at := (by have e := of_decide_eq_true (chk_at ck 9); rw [← e]; exact meth_ok (c.fact 73))
    D_Walk_part_at := c.def_ 38
    h_Walk_at := meth_ok (c.fact 74)
    hm_MadeWalk_Walk_at := (by have e := of_decide_eq_true (chk_at ck 7); rw [← e]; exact meth_ok (c.fact 75))
    D_Walk_at := c.def_ 39
    c_law := glo_ok KX Ns (c.fact 76)
    D_law := c.def_ 40
  }
end K62
namespace K62
open PySem Ep
theorem e_self {C : Nat} {F : List T → M T} {vs : List T} {t : T} {env : Ep.Env} {i : Nat} {r r1 : RS} (h : env[i]? = some (.val (.obj C vs))) (h2 : F [.obj C vs] r = .ok t r1) (hC : C ∈ [4, 5] := by decide) : fMethP [4, 5] F [] (fVar i) [] env r = .ok t r1 :=
  x_methP (vs := vs) (ts := []) (r1 := r) (r2 := r) (by unfold fVar; rw [h]; rfl) hC rfl h2
theorem e_meth1 {C : Nat} {F : List T → M T} {vs : List T} {t u : T} {f : Ep.Env → M T} {env : Ep.Env} {i : Nat} {r : RS} (h : env[i]? = some (.val (.obj C vs))) (h1 : f env r = .ok u r) (h2 : F [.obj C vs, u] r = .ok t r) (hC : C ∈ [4, 5] := by decide) : fMethP [4, 5] F [] (fVar i) [f] env r = .ok t r :=
  x_methP (vs := vs) (ts := [u]) (r1 := r) (r2 := r) (by unfold fVar; rw [h]; rfl) hC (e_cons (x := u) (r1 := r) h1 rfl) h2
theorem e_meth1i {C i j : Nat} {F : List T → M T} {vs : List T} {t : T} {u : T} {env : Ep.Env} {r : RS} (h : env[i]? = some (.val (.obj C vs))) (h1 : env[j]? = some (.val u)) (h2 : F [.obj C vs, u] r = .ok t r) (hC : C ∈ [4, 5] := by decide) : fMethP [4, 5] F [] (fVar i) [fVar j] env r = .ok t r :=
  e_meth1 h (by unfold fVar; rw [h1]; rfl) h2 hC
section
variable {α β : Type}
def bnd (o : Out α) (k : α → M β) : Out β := match o with
  | .ok a r => k a r
  | .exn c p r => .exn c p r
  | .bad => .bad
theorem bndO (a : α) (r : RS) (k : α → M β) : bnd (.ok a r) k = k a r := rfl
theorem bndX (c : Nat) (p : T) (r : RS) (k : α → M β) : bnd (.exn c p r) k = .exn c p r := rfl
theorem bindR (m : M α) (k : α → M β) (r : RS) : (m >>= k) r = bnd (m r) k := by
  show M.bind m k r = _
  unfold M.bind bnd
  cases m r <;> rfl
theorem pureR (a : α) (r : RS) : (pure a : M α) r = .ok a r := rfl
theorem badR (r : RS) : (M.bad : M α) r = .bad := rfl
theorem liftS (a : α) : M.lift (some a) = M.pure a := rfl
theorem liftN : (M.lift none : M α) = M.bad := rfl
theorem mpureR (a : α) (r : RS) : (M.pure a : M α) r = .ok a r := rfl
end
def b1k (h : RS → T → Option T) (x : T) : M T := fun r => M.lift (h r x) r
theorem b1kR (h : RS → T → Option T) (x : T) (r : RS) : b1k h x r = M.lift (h r x) r := rfl
theorem fB1R (h : RS → T → Option T) (f : Ep.Env → M T) (env : Ep.Env) (r : RS) : fB1 h f env r = bnd (f env r) (b1k h) := bindR _ _ _
def ixk2 (x : T) (y : T) : M T := fun r => M.lift (ixT r x y) r
def ixk (g : Ep.Env → M T) (env : Ep.Env) (x : T) : M T := fun r => bnd (g env r) (ixk2 x)
theorem ixk2R (x y : T) (r : RS) : ixk2 x y r = M.lift (ixT r x y) r := rfl
theorem ixkR (g : Ep.Env → M T) (env : Ep.Env) (x : T) (r : RS) : ixk g env x r = bnd (g env r) (ixk2 x) := rfl
theorem fIxR (f g : Ep.Env → M T) (env : Ep.Env) (r : RS) : fIx f g env r = bnd (f env r) (ixk g env) := by
  refine (bindR _ _ _).trans ?_
  congr 1
theorem intI (r : RS) (i : Int) : intT r (.int i) = some (.int i) := rfl
theorem ix0 (r : RS) (a b d : Int) : ixT r (.lst [.int a, .int b, .int d]) (.int 0) = some (.int a) := rfl
theorem ix1 (r : RS) (a b d : Int) : ixT r (.lst [.int a, .int b, .int d]) (.int 1) = some (.int b) := rfl
theorem ix2 (r : RS) (a b d : Int) : ixT r (.lst [.int a, .int b, .int d]) (.int 2) = some (.int d) := rfl
theorem mulB {i j : Int} (hi : i.natAbs < 2 ^ 1000) (hj : j.natAbs < 2 ^ 1000) : mulT (.int i) (.int j) = some (.int (i * j)) := by
  refine if_pos ?_
  unfold mulOk
  have l : ∀ n : Nat, n < 2 ^ 1000 → n.log2 < 1001 := fun n h => by
    by_cases z : n = 0
    · subst z; decide
    · have := (Nat.log2_lt z).mpr h
      omega
  have := l _ hi
  have := l _ hj
  rw [decide_eq_true (by omega : i.natAbs.log2 + j.natAbs.log2 < 1000000)]
  simp
theorem modP {i j : Int} (h : 0 < j) : modT (.int i) (.int j) = some (.int (i % j)) := if_pos h
theorem divB {i j : Int} (h : 0 < j) (h2 : j.natAbs < 2 ^ 1000) : divT (.int i) (.int j) = some (.int (i / j)) := by
  refine if_pos ⟨h, ?_⟩
  have := (Nat.log2_lt (by omega : j.natAbs ≠ 0)).mpr h2
  omega
abbrev pr (x y : Int) : T := .tup [.int x, .int y]
theorem is_integer_int (i : Int) (r : RS) : F_is_integer [.int i] r = .ok (.bl true) r := rfl
theorem is_integer_bl (b : Bool) (r : RS) : F_is_integer [.bl b] r = .ok (.bl false) r := rfl
theorem ltI (i j : Int) : ltT (.int i) (.int j) = some (decide (i < j)) := rfl
theorem leI (i j : Int) : leT (.int i) (.int j) = some (decide (i ≤ j)) := rfl
theorem neI (i j : Int) : neT (.int i) (.int j) = some (!(i == j)) := rfl
theorem absI (r : RS) (i : Int) : absT r (.int i) = some (.int i.natAbs) := by
  show some (T.int (if i < 0 then -i else i)) = _
  congr 2
  split <;> omega
theorem mulb {i j : Int} {m n : Nat} (hi : i.natAbs < 2 ^ m) (hj : j.natAbs < 2 ^ n) : (i * j).natAbs < 2 ^ (m + n) := by
  rw [Int.natAbs_mul, Nat.pow_add]
  exact Nat.mul_lt_mul'' hi hj
section
variable {f g : Ep.Env → M T} {env : Ep.Env} {r r1 r2 : RS} {t : T}
theorem n_setIx {i k j : Nat} {x : Int} {xs : List T} (hi : env[i]? = some (.val (.ref k))) (h1 : f env r = .ok t r1) (h2 : g env r1 = .ok (.int x) r2) (hk : r2[k]? = some xs) (hx : L2.ixN xs.length x = some j) : qSetIx i f g env r = .nx env (r2.set k (xs.set j t)) := by
  have e1 : isMut env i = true := by unfold isMut; rw [hi]
  have e2 : mutGet env i r2 = some xs := by unfold mutGet; rw [hi]; exact hk
  have e3 : mutSet env i r2 (xs.set j t) = .nx env (r2.set k (xs.set j t)) := by unfold mutSet; rw [hi]
  unfold qSetIx
  rw [if_pos e1, h1]
  show ofM env (fun u r => match mutGet env i r, u with
    | some xs, .int k => match L2.ixN xs.length k with
      | some j => mutSet env i r (xs.set j t)
      | none => .bad
    | _, _ => .bad) (g env r1) = _
  rw [h2]
  show (match mutGet env i r2, T.int x with
    | some xs, .int k => match L2.ixN xs.length k with
      | some j => mutSet env i r2 (xs.set j t)
      | none => .bad
    | _, _ => .bad) = _
  rw [e2]
  show (match L2.ixN xs.length x with
      | some j => mutSet env i r2 (xs.set j t)
      | none => .bad) = _
  rw [hx]
  exact e3
end
theorem ix_ref {r : RS} {k : Nat} {xs : List T} {i : Int} {t : T} (hk : r[k]? = some xs) (h : L2.atI xs i = some t) : ixT r (.ref k) (.int i) = some t := by
  show (r[k]?).bind (fun xs => L2.atI xs i) = some t
  rw [hk]
  exact h
theorem mulR {i j : Int} (h1 : -(2 ^ 64) < j) (h2 : j < 2 ^ 64) : mulT (.int i) (.int j) = some (.int (i * j)) := by
  show (if mulOk i j = true then some (T.int (i * j)) else none) = _
  rw [if_pos]
  unfold mulOk
  rw [decide_eq_true h1, decide_eq_true h2]
  simp
theorem mulL {i j : Int} (h1 : -(2 ^ 64) < i) (h2 : i < 2 ^ 64) : mulT (.int i) (.int j) = some (.int (i * j)) := by
  show (if mulOk i j = true then some (T.int (i * j)) else none) = _
  rw [if_pos]
  unfold mulOk
  rw [decide_eq_true h1, decide_eq_true h2]
  simp
theorem gt_ii (i j : Int) : gtT (.int i) (.int j) = some (decide (j < i)) := rfl
theorem fst_ref {r : RS} {k : Nat} {a b : Int} (hk : r[k]? = some [.int a, .int b]) : ixT r (.ref k) (.int 0) = some (.int a) := ix_ref hk rfl
theorem snd_ref {r : RS} {k : Nat} {a b : Int} (hk : r[k]? = some [.int a, .int b]) : ixT r (.ref k) (.int 1) = some (.int b) := ix_ref hk rfl
theorem get_set_ne {r : RS} {i j : Nat} {x : List T} (h : i ≠ j) : (r.set i x)[j]? = r[j]? := List.getElem?_set_ne h
theorem n_expr {f : Ep.Env → M T} {env : Ep.Env} {r r1 : RS} {t : T} (h1 : f env r = .ok t r1) : qExpr f env r = .nx env r1 := by unfold qExpr ofM; rw [h1]
theorem qTry_x {g : Sm} {hs : List HdS} {env e : Ep.Env} {r r' : RS} {c : Nat} {p : T} (h : g env r = .exn c p e r') : qTry g hs env r = pickH hs c p e r' := by
  unfold qTry; rw [h]
theorem heard_rt {n : Nat} {hs : List HdS} {rest : Sm} {act : M T} {r r' : RS} {t : T} (h : qTry (fun env r => ofM env (fun _ r => .nx env r) (act r)) hs (List.replicate n .un) r = .rt t r') : heardS n hs rest act r = .ok t r' := by
  unfold heardS qSeq; rw [h]
theorem ofM_x {α : Type} {env : Ep.Env} {k : α → RS → SO} {o : Out α} {c : Nat} {p : T} {r : RS} (h : o = .exn c p r) : ofM env k o = .exn c p env r := by subst h; rfl
theorem n_own {i : Nat} {f : Ep.Env → M (List T)} {env : Ep.Env} {r r1 : RS} {xs : List T} (h : f env r = .ok xs r1) : qOwn i f env r = .nx (env.set i (.own xs)) r1 := by unfold qOwn ofM; rw [h]
theorem n_app {i : Nat} {f : Ep.Env → M T} {env : Ep.Env} {r r1 : RS} {xs : List T} {t : T} (he : env[i]? = some (.own xs)) (hl : xs.length < 100000) (h : f env r = .ok t r1) : qApp i f env r = .nx (env.set i (.own (xs ++ [t]))) r1 := by
  have e1 : isMut env i = true := by unfold isMut; rw [he]
  have e2 : mutGet env i r1 = some xs := by unfold mutGet; rw [he]
  have e3 : mutSet env i r1 (xs ++ [t]) = .nx (env.set i (.own (xs ++ [t]))) r1 := by unfold mutSet; rw [he]
  unfold qApp
  rw [if_pos e1, h]
  show (match mutGet env i r1 with
    | some xs => if xs.length < 100000 then mutSet env i r1 (xs ++ [t]) else .bad
    | none => .bad) = _
  rw [e2]
  show (if xs.length < 100000 then mutSet env i r1 (xs ++ [t]) else .bad) = _
  rw [if_pos hl, e3]
theorem comp_map {vs : List Nat} {h : T → Ep.Env → Option Ep.Env} {p : Ep.Env → M Bool} {f : Ep.Env → M T} {env : Ep.Env} (g : T → T) : ∀ (xs acc : List T) (r : RS), (∀ x ∈ xs, ∃ env1, h x (wipeE env vs) = some env1 ∧ p env1 r = .ok true r ∧ f env1 r = .ok (g x) r) → acc.length + xs.length ≤ 100000 → compF vs h p f xs acc env r = .ok (acc ++ xs.map g) r
  | [], acc, r, _, _ => by rw [List.map_nil, List.append_nil]; rfl
  | x :: xs, acc, r, H, hl => by
    obtain ⟨env1, h1, h2, h3⟩ := H x List.mem_cons_self
    have ih := comp_map (vs := vs) (h := h) (p := p) (f := f) (env := env) g xs (acc ++ [g x]) r (fun y hy => H y (List.mem_cons_of_mem _ hy)) (by rw [List.length_append]; simp at hl ⊢; omega)
    have hz : acc.length < sizeLine := by rw [sizeLine_eq]; simp at hl; omega
    unfold compF
    rw [h1]
    simp only [bindR, noEx, h2, h3, bndO, if_true]
    rw [if_pos hz, ih]
    simp
theorem e_chainB {h h' : T → T → Option Bool} {f g k : Ep.Env → M T} {env : Ep.Env} {r r1 r2 r3 : RS} {x y z : T} {b : Bool} (h1 : f env r = .ok x r1) (h2 : g env r1 = .ok y r2) (h3 : h x y = some true) (h4 : k env r2 = .ok z r3) (h5 : h' y z = some b) : fChainB h h' f g k env r = .ok b r3 :=
  bind_ok h1 (bind_ok h2 (bind_ok (a := true) (r1 := r2) (by rw [h3]; rfl) (by rw [if_pos rfl]; exact bind_ok h4 (by rw [h5]; rfl))))
theorem q_par3 {i j k : Nat} {fs : List (Ep.Env → M T)} {env : Ep.Env} {r r1 : RS} {x y z : T} (h : fAll fs env r = .ok [x, y, z] r1) : qPar3 i j k fs env r = .nx (((env.set i (.val x)).set j (.val y)).set k (.val z)) r1 := by
  unfold qPar3 ofM; rw [h]
theorem n_par3o {i j k : Nat} {fs : List (Ep.Env → M T)} {env : Ep.Env} {r r1 : RS} {u v : T} (h : fAll fs env r = .ok [u, v] r1) : qPar3o i j k fs env r = .nx (((env.set i (.own [])).set j (.val u)).set k (.val v)) r1 := by
  unfold qPar3o ofM; rw [h]
theorem comp_fil {vs : List Nat} {h : T → Ep.Env → Option Ep.Env} {p : Ep.Env → M Bool} {f : Ep.Env → M T} {env : Ep.Env} (c : T → Bool) : ∀ (xs acc : List T) (r : RS), (∀ x ∈ xs, ∃ env1, h x (wipeE env vs) = some env1 ∧ p env1 r = .ok (c x) r ∧ (c x = true → f env1 r = .ok x r)) → acc.length + xs.length ≤ 100000 → compF vs h p f xs acc env r = .ok (acc ++ xs.filter c) r
  | [], acc, r, _, _ => by rw [List.filter_nil, List.append_nil]; rfl
  | x :: xs, acc, r, H, hl => by
    obtain ⟨env1, h1, h2, h3⟩ := H x List.mem_cons_self
    have hz : acc.length < sizeLine := by rw [sizeLine_eq]; simp at hl; omega
    cases q : c x with
    | true =>
      have ih := comp_fil (vs := vs) (h := h) (p := p) (f := f) (env := env) c xs (acc ++ [x]) r (fun y hy => H y (List.mem_cons_of_mem _ hy)) (by rw [List.length_append]; simp at hl ⊢; omega)
      unfold compF
      rw [h1]
      rw [q] at h2
      simp only [bindR, noEx, h2, h3 q, bndO, if_true]
      rw [if_pos hz, ih]
      simp [q]
    | false =>
      have ih := comp_fil (vs := vs) (h := h) (p := p) (f := f) (env := env) c xs acc r (fun y hy => H y (List.mem_cons_of_mem _ hy)) (by simp at hl ⊢; omega)
      unfold compF
      rw [h1]
      rw [q] at h2
      simp only [bindR, noEx, h2, bndO]
      show compF vs h p f xs acc env r = _
      rw [ih]
      simp [q]
theorem comp_st {vs : List Nat} {h : T → Ep.Env → Option Ep.Env} {p : Ep.Env → M Bool} {f : Ep.Env → M T} {env : Ep.Env} {I : RS → Prop} {Q : T → Prop} : ∀ (xs acc : List T) (r : RS), I r → (∀ x ∈ xs, ∀ r, I r → ∃ env1 y r', h x (wipeE env vs) = some env1 ∧ p env1 r = .ok true r ∧ f env1 r = .ok y r' ∧ I r' ∧ Q y) → (∀ y ∈ acc, Q y) → acc.length + xs.length ≤ 100000 → ∃ ys r', compF vs h p f xs acc env r = .ok ys r' ∧ I r' ∧ (∀ y ∈ ys, Q y) ∧ ys.length = acc.length + xs.length
  | [], acc, r, i, _, q, _ => ⟨acc, r, rfl, i, q, rfl⟩
  | x :: xs, acc, r, i, H, q, hl => by
    obtain ⟨env1, y, r', h1, h2, h3, i', qy⟩ := H x List.mem_cons_self r i
    obtain ⟨ys, r2, e, i2, q2, l2⟩ := comp_st (vs := vs) (h := h) (p := p) (f := f) (env := env) (I := I) (Q := Q) xs (acc ++ [y]) r' i' (fun z hz => H z (List.mem_cons_of_mem _ hz)) (fun z hz => by
      rcases List.mem_append.mp hz with hz | hz
      · exact q z hz
      · rw [List.mem_singleton.mp hz]; exact qy) (by rw [List.length_append]; simp at hl ⊢; omega)
    have hz : acc.length < sizeLine := by rw [sizeLine_eq]; simp at hl; omega
    refine ⟨ys, r2, ?_, i2, q2, by rw [l2, List.length_append]; simp; omega⟩
    unfold compF
    rw [h1]
    simp only [bindR, noEx, h2, h3, bndO, if_true]
    rw [if_pos hz, e]
def Sh (n : Nat) (t : T) : Prop := ∃ d, pyT t = some d ∧ d.canLay0 = true ∧ d.depth ≤ n
theorem sh_int (i : Int) : Sh 0 (.int i) := ⟨.int i, rfl, rfl, Nat.le_refl _⟩
theorem sh_non : Sh 0 .non := ⟨.none, rfl, rfl, Nat.le_refl _⟩
theorem sh_str {x : Str} (h : PyData.strOk x = true) : Sh 0 (.str x) := ⟨.str x, rfl, h, Nat.le_refl _⟩
theorem sh_all {n : Nat} : ∀ {ts : List T}, (∀ t ∈ ts, Sh n t) → ∃ ds, pyTs ts = some ds ∧ PyData.canLayAll0 ds = true ∧ PyData.depthAll ds ≤ n ∧ ds.length = ts.length
  | [], _ => ⟨[], rfl, rfl, Nat.zero_le _, rfl⟩
  | t :: ts, h => by
    obtain ⟨d, e1, e2, e3⟩ := h t List.mem_cons_self
    obtain ⟨ds, f1, f2, f3, f4⟩ := sh_all fun u hu => h u (List.mem_cons_of_mem _ hu)
    refine ⟨d :: ds, ?_, ?_, ?_, by simp [f4]⟩
    · show (pyT t).bind (fun d => (pyTs ts).map (d :: ·)) = _
      rw [e1, f1]; rfl
    · show (d.canLay0 && PyData.canLayAll0 ds) = true
      rw [e2, f2]; rfl
    · show max d.depth (PyData.depthAll ds) ≤ n
      omega
theorem sh_tup {n : Nat} {ts : List T} (h : ∀ t ∈ ts, Sh n t) : Sh (n + 1) (.tup ts) := by
  obtain ⟨ds, f1, f2, f3, _⟩ := sh_all h
  refine ⟨.tuple ds, ?_, f2, ?_⟩
  · show (pyTs ts).map PyData.tuple = _
    rw [f1]; rfl
  · show PyData.depthAll ds + 1 ≤ n + 1
    omega
theorem sh_lst {n : Nat} {ts : List T} (h : ∀ t ∈ ts, Sh n t) : Sh (n + 1) (.lst ts) := by
  obtain ⟨ds, f1, f2, f3, _⟩ := sh_all h
  refine ⟨.list ds, ?_, f2, ?_⟩
  · show (pyTs ts).map PyData.list = _
    rw [f1]; rfl
  · show PyData.depthAll ds + 1 ≤ n + 1
    omega
theorem sh_mono {m n : Nat} {t : T} (h : Sh m t) (l : m ≤ n) : Sh n t := let ⟨d, e1, e2, e3⟩ := h; ⟨d, e1, e2, Nat.le_trans e3 l⟩
theorem eq_sh {n : Nat} {t u : T} {d e : PyData} (h : Sh n t) (h' : Sh n u) (l : n ≤ 64) (e1 : pyT t = some d) (e2 : pyT u = some e) : eqT t u = some (PyData.eqv d e) := by
  obtain ⟨d', a1, a2, a3⟩ := h
  obtain ⟨e', b1, b2, b3⟩ := h'
  rw [e1] at a1
  rw [e2] at b1
  cases a1
  cases b1
  unfold eqT
  rw [e1, e2]
  show (if (SeqAt.shaped d && SeqAt.shaped e) = true then some (PyData.eqv d e) else none) = _
  rw [if_pos]
  have x1 : SeqAt.shaped d = true := by unfold SeqAt.shaped; rw [a2, decide_eq_true (by omega)]; rfl
  have x2 : SeqAt.shaped e = true := by unfold SeqAt.shaped; rw [b2, decide_eq_true (by omega)]; rfl
  rw [x1, x2]; rfl
theorem eq_self {n : Nat} {t : T} (h : Sh n t) (l : n ≤ 64) : eqT t t = some true := by
  have h0 := h
  obtain ⟨d, e1, e2, e3⟩ := h
  rw [eq_sh h0 h0 l e1 e1, SeqAt.eqv_refl d e2]
theorem ne_self {n : Nat} {t : T} (h : Sh n t) (l : n ≤ 64) : neT t t = some false := by
  unfold neT; rw [eq_self h l]; rfl
end K62
namespace K62
open PySem Ep L2
def dx (c : Nat) : Int := if c = 69 then 1 else if c = 87 then -1 else 0
def dy (c : Nat) : Int := if c = 78 then 1 else if c = 83 then -1 else 0
def sx : List Nat → Int
  | [] => 0
  | c :: l => dx c + sx l
def sy : List Nat → Int
  | [] => 0
  | c :: l => dy c + sy l
def Ltr (c : Nat) : Prop := c = 69 ∨ c = 78 ∨ c = 87 ∨ c = 83
abbrev one (c : Nat) : T := .str ⟨#[c]⟩
abbrev wd (l : List Nat) : T := .str ⟨l.toArray⟩
abbrev chrs (l : List Nat) : List T := l.map one
def path (x y : Int) : List Nat → List T
  | [] => [pr x y]
  | c :: l => pr x y :: path (x + dx c) (y + dy c) l
theorem sx_cons (c : Nat) (l : List Nat) : sx (c :: l) = dx c + sx l := rfl
theorem sy_cons (c : Nat) (l : List Nat) : sy (c :: l) = dy c + sy l := rfl
theorem path_cons (x y : Int) (c : Nat) (l : List Nat) : path x y (c :: l) = pr x y :: path (x + dx c) (y + dy c) l := rfl
theorem path_len : ∀ (l : List Nat) (x y : Int), (path x y l).length = l.length + 1
  | [], _, _ => rfl
  | c :: l, x, y => by rw [path_cons, List.length_cons, path_len l]; rfl
theorem path_ne (l : List Nat) (x y : Int) : path x y l ≠ [] := fun h => by have := path_len l x y; rw [h] at this; simp at this
theorem path_at : ∀ (l : List Nat) (x y : Int) (i : Nat), i ≤ l.length → (path x y l)[i]? = some (pr (x + sx (l.take i)) (y + sy (l.take i)))
  | [], x, y, i, h => by
    have : i = 0 := by simpa using h
    subst this
    simp [path, sx, sy]
  | c :: l, x, y, 0, h => by simp [path, sx, sy]
  | c :: l, x, y, i + 1, h => by
    rw [path_cons, List.getElem?_cons_succ, path_at l _ _ i (by simpa using h), List.take_succ_cons, sx_cons, sy_cons, Int.add_assoc, Int.add_assoc]
theorem path_last (l : List Nat) (x y : Int) : ∃ zs, path x y l = zs ++ [pr (x + sx l) (y + sy l)] := by
  have h := path_at l x y l.length (Nat.le_refl _)
  rw [List.take_length] at h
  have hl := path_len l x y
  refine ⟨(path x y l).take l.length, ?_⟩
  have e := List.take_append_drop l.length (path x y l)
  have e2 : (path x y l).drop l.length = [pr (x + sx l) (y + sy l)] := by
    obtain ⟨h1, h2⟩ := List.getElem?_eq_some_iff.mp h
    rw [List.drop_eq_getElem_cons h1, h2, List.drop_eq_nil_of_le (by omega)]
  rw [← e2]; exact e.symm
theorem path_lastI (l : List Nat) (x y : Int) : atI (path x y l) (-1) = some (pr (x + sx l) (y + sy l)) := by
  obtain ⟨zs, e⟩ := path_last l x y
  rw [e]; exact atI_last _ _
theorem path_nat (l : List Nat) (x y : Int) (i : Nat) (h : i ≤ l.length) : atI (path x y l) (i : Int) = some (pr (x + sx (l.take i)) (y + sy (l.take i))) := atI_nat (path_at l x y i h)
theorem sx_app : ∀ (a b : List Nat), sx (a ++ b) = sx a + sx b
  | [], b => by simp [sx]
  | c :: a, b => by rw [List.cons_append, sx_cons, sx_cons, sx_app a b]; omega
theorem sy_app : ∀ (a b : List Nat), sy (a ++ b) = sy a + sy b
  | [], b => by simp [sy]
  | c :: a, b => by rw [List.cons_append, sy_cons, sy_cons, sy_app a b]; omega
theorem step_of {c : Nat} (h : Ltr c) (r : RS) : F_step_of [one c] r = .ok (pr (dx c) (dy c)) r := by
  rcases h with rfl | rfl | rfl | rfl <;> rfl
theorem shifted {a b c d t : Int} (h1 : -(2 ^ 64) < t) (h2 : t < 2 ^ 64) (r : RS) : F_shifted [pr a b, pr c d, .int t] r = .ok (pr (a + c * t) (b + d * t)) r := by
  have m1 : mulT (.int c) (.int t) = some (.int (c * t)) := mulR h1 h2
  have m2 : mulT (.int d) (.int t) = some (.int (d * t)) := mulR h1 h2
  exact n_fn (n_seqR (n_ret (e_tup (e_cons (x := .int (a + c * t)) (r1 := r) (e_bin (x := .int a) (y := .int (c * t)) (r1 := r) rfl (e_bin (x := .int c) (y := .int t) (r1 := r) rfl rfl m1) rfl) (e_cons (x := .int (b + d * t)) (r1 := r) (e_bin (x := .int b) (y := .int (d * t)) (r1 := r) rfl (e_bin (x := .int d) (y := .int t) (r1 := r) rfl rfl m2) rfl) rfl)))))
abbrev pBody : Sm := (qSeq (qApp 1 (fCall F_shifted [.int 1] [(fIx (fBor 1) (fUn negT (fC (.int 1)))), (fCall F_step_of [] [(fVar 2)])])) qNil)
theorem p_loop (s0 : Slot) (r : RS) : ∀ (l : List Nat) (acc : List T) (x y : Int) (s2 : Slot), (∀ c ∈ l, Ltr c) → acc.length + l.length < 90000 →
    ∃ s2', loopF (hName 2) pBody (chrs l) [s0, .own (acc ++ [pr x y]), s2] r = .nx [s0, .own (acc ++ path x y l), s2'] r
  | [], acc, x, y, s2, _, _ => ⟨s2, rfl⟩
  | c :: l, acc, x, y, s2, hW, hl => by
    have hc := hW c List.mem_cons_self
    simp only [List.length_cons] at hl
    obtain ⟨s2', ih⟩ := p_loop s0 r l (acc ++ [pr x y]) (x + dx c) (y + dy c) (.val (one c)) (fun d hd => hW d (List.mem_cons_of_mem _ hd)) (by rw [List.length_append, List.length_singleton]; omega)
    have e1 := shifted (a := x) (b := y) (c := dx c) (d := dy c) (t := 1) (by decide) (by decide) r
    rw [Int.mul_one, Int.mul_one] at e1
    refine ⟨s2', n_loop rfl (n_seq (n_app (xs := acc ++ [pr x y]) (t := pr (x + dx c) (y + dy c)) (r1 := r) rfl (by rw [List.length_append, List.length_singleton]; omega) (e_call (ts := [pr x y, pr (dx c) (dy c)]) (r1 := r) (e_cons (x := pr x y) (r1 := r) (e_ix (x := .lst (acc ++ [pr x y])) (y := .int (-1)) (r1 := r) (r2 := r) rfl rfl (atI_last acc (pr x y))) (e_cons (x := pr (dx c) (dy c)) (r1 := r) (e_call (ts := [one c]) (r1 := r) rfl (step_of hc r)) rfl)) e1)) rfl) ?_⟩
    show loopF (hName 2) pBody (chrs l) [s0, .own (acc ++ [pr x y] ++ [pr (x + dx c) (y + dy c)]), .val (one c)] r = _
    rw [ih, path_cons, List.append_assoc]; rfl
theorem path_of {l : List Nat} (hW : ∀ c ∈ l, Ltr c) (hl : l.length < 80000) (r : RS) : F_path_of [wd l] r = .ok (.tup (path 0 0 l)) r := by
  obtain ⟨s2, w⟩ := p_loop (.val (wd l)) r l [] 0 0 .un hW (by simp; omega)
  exact n_fn (n_seq (n_own (xs := [pr 0 0]) (r1 := r) rfl) (n_seq (n_for (xs := chrs l) (r1 := r) rfl w) (n_seqR (n_frz (n_ret (e_b1 (x := .lst (path 0 0 l)) (r1 := r) rfl rfl))))))
abbrev ldBody : Sm := (qSeq (qAsg (fDget (fD (fNewD (fDisp [((fC (.str "E")), (fTup [(fC (.int 1)), (fC (.int 0))])), ((fC (.str "N")), (fTup [(fC (.int 0)), (fC (.int 1))])), ((fC (.str "W")), (fTup [(fUn negT (fC (.int 1))), (fC (.int 0))])), ((fC (.str "S")), (fTup [(fC (.int 0)), (fUn negT (fC (.int 1)))]))]))) (fVar 2)) (hTupL 2 (hCons (hName 3) (hCons (hName 4) hNil))))
    (qSeq (qApp 1 (fTup [(fBin addT (fIx (fIx (fBor 1) (fUn negT (fC (.int 1)))) (fC (.int 0))) (fVar 3)), (fBin addT (fIx (fIx (fBor 1) (fUn negT (fC (.int 1)))) (fC (.int 1))) (fVar 4))]))
    qNil))
theorem ld_dict {c : Nat} (h : Ltr c) (s0 s1 s3 s4 : Slot) (r : RS) : (fDget (fD (fNewD (fDisp [((fC (.str "E")), (fTup [(fC (.int 1)), (fC (.int 0))])), ((fC (.str "N")), (fTup [(fC (.int 0)), (fC (.int 1))])), ((fC (.str "W")), (fTup [(fUn negT (fC (.int 1))), (fC (.int 0))])), ((fC (.str "S")), (fTup [(fC (.int 0)), (fUn negT (fC (.int 1)))]))]))) (fVar 2)) [s0, s1, .val (one c), s3, s4] r = .ok (pr (dx c) (dy c)) r := by
  rcases h with rfl | rfl | rfl | rfl <;> rfl
theorem ld_loop (s0 : Slot) (r : RS) : ∀ (l : List Nat) (acc : List T) (x y : Int) (s2 s3 s4 : Slot), (∀ c ∈ l, Ltr c) → acc.length + l.length < 90000 →
    ∃ s2' s3' s4', loopF (hName 2) ldBody (chrs l) [s0, .own (acc ++ [pr x y]), s2, s3, s4] r = .nx [s0, .own (acc ++ path x y l), s2', s3', s4'] r
  | [], acc, x, y, s2, s3, s4, _, _ => ⟨s2, s3, s4, rfl⟩
  | c :: l, acc, x, y, s2, s3, s4, hW, hl => by
    have hc := hW c List.mem_cons_self
    simp only [List.length_cons] at hl
    obtain ⟨s2', s3', s4', ih⟩ := ld_loop s0 r l (acc ++ [pr x y]) (x + dx c) (y + dy c) (.val (one c)) (.val (.int (dx c))) (.val (.int (dy c))) (fun d hd => hW d (List.mem_cons_of_mem _ hd)) (by rw [List.length_append, List.length_singleton]; omega)
    have la : ∀ (env : Ep.Env), env[1]? = some (.own (acc ++ [pr x y])) → (fIx (fBor 1) (fUn negT (fC (.int 1)))) env r = .ok (pr x y) r := fun env he => e_ix (x := .lst (acc ++ [pr x y])) (y := .int (-1)) (r1 := r) (r2 := r) (by unfold fBor; rw [he]; rfl) rfl (atI_last acc (pr x y))
    refine ⟨s2', s3', s4', n_loop rfl (n_seq (n_asg (x := pr (dx c) (dy c)) (r1 := r) (ld_dict hc s0 _ s3 s4 r) rfl) (n_seq (n_app (xs := acc ++ [pr x y]) (t := pr (x + dx c) (y + dy c)) (r1 := r) rfl (by rw [List.length_append, List.length_singleton]; omega) (e_tup (e_cons (x := .int (x + dx c)) (r1 := r) (e_bin (x := .int x) (y := .int (dx c)) (r1 := r) (e_ix (x := pr x y) (y := .int 0) (r1 := r) (r2 := r) (la _ rfl) rfl rfl) rfl rfl) (e_cons (x := .int (y + dy c)) (r1 := r) (e_bin (x := .int y) (y := .int (dy c)) (r1 := r) (e_ix (x := pr x y) (y := .int 1) (r1 := r) (r2 := r) (la _ rfl) rfl rfl) rfl rfl) rfl)))) rfl)) ?_⟩
    show loopF (hName 2) ldBody (chrs l) [s0, .own (acc ++ [pr x y] ++ [pr (x + dx c) (y + dy c)]), .val (one c), .val (.int (dx c)), .val (.int (dy c))] r = _
    rw [ih, path_cons, List.append_assoc]; rfl
theorem in_ltr {c : Nat} (h : Ltr c) : inT (one c) (.str "ENWS") = some true := by
  rcases h with rfl | rfl | rfl | rfl <;> rfl
theorem bls_true : ∀ (l : List T), (blsT (l.map fun _ => T.bl true)) = some (l.map fun _ => true)
  | [] => rfl
  | _ :: l => by
    show (blsT (l.map fun _ => T.bl true)).map (true :: ·) = _
    rw [bls_true l]; rfl
theorem all_true (l : List T) (r : RS) : allT r (.lst (l.map fun _ => T.bl true)) = some (.bl true) := by
  show ((blsT (l.map fun _ => T.bl true)).map fun bs => T.bl (bs.all _root_.id)) = _
  rw [bls_true l]
  show some (T.bl ((l.map fun _ => true).all _root_.id)) = _
  congr 2
  rw [List.all_eq_true]
  intro b hb
  obtain ⟨_, _, rfl⟩ := List.mem_map.mp hb
  rfl
theorem lenW {l : List Nat} (hl : l.length ≤ 100000) (r : RS) : lenT r (wd l) = some (.int l.length) := by
  show (if l.toArray.size ≤ 100000 then some (T.int ((l.toArray.size : Nat) : Int)) else none) = _
  rw [List.size_toArray, if_pos hl]
theorem len_wd {l : List Nat} {i : Nat} {env : Ep.Env} {r : RS} (hl : l.length ≤ 100000) (h : env[i]? = some (.val (wd l))) : fB1 lenT (fVar i) env r = .ok (.int l.length) r := by
  refine e_b1 (x := wd l) (r1 := r) (by unfold fVar; rw [h]; rfl) (lenW hl r)
theorem is_word {l : List Nat} (hW : ∀ c ∈ l, Ltr c) (h1 : 1 ≤ l.length) (h2 : l.length ≤ 24) (r : RS) : F_is_word [wd l] r = .ok (.bl true) r := by
  have c : compF [1] (hName 1) fYes (fCmp inT (fVar 1) (fC (.str "ENWS"))) (chrs l) [] [.val (wd l), .un] r = .ok ([] ++ (chrs l).map (fun _ => .bl true)) r := by
    refine comp_map (fun _ => .bl true) _ _ r (fun y hy => ?_) (by simp; omega)
    obtain ⟨d, hd, rfl⟩ := List.mem_map.mp hy
    exact ⟨[.val (wd l), .val (one d)], rfl, rfl, e_cmp (x := one d) (y := .str "ENWS") (r1 := r) (r2 := r) rfl rfl (in_ltr (hW d hd))⟩
  rw [List.nil_append] at c
  refine n_fn (n_seq (n_ifF (r1 := r) (e_orBF (r1 := r) (e_notB (b := true) rfl) (e_notB (b := true) (e_chainB (x := .int 1) (y := .int l.length) (z := .int 24) (r1 := r) (r2 := r) rfl (len_wd (by omega) rfl) ?_ rfl ?_))) rfl) (n_seqR (n_ret (e_b1 (x := .lst ((chrs l).map fun _ => .bl true)) (r1 := r) (e_own (bind_ok (a := chrs l) (r1 := r) rfl c)) (all_true _ r)))))
  · rw [leI, decide_eq_true (by omega)]
  · rw [leI, decide_eq_true (by omega)]
end K62
namespace K62
open PySem Ep L2
abbrev Part := List Nat × Nat
abbrev pt (p : Part) : T := .tup [wd p.1, .int (p.2 : Int)]
structure OkP (p : Part) : Prop where
  w : ∀ c ∈ p.1, Ltr c
  l1 : 1 ≤ p.1.length
  l2 : p.1.length ≤ 24
  n : p.2 ≤ 1000
abbrev pts (P : List Part) : List T := P.map pt
abbrev wk (x y : Int) (P : List Part) : T := .obj 4 [pr x y, .tup (pts P)]
def rep : Nat → List Nat → List Nat
  | 0, _ => []
  | n + 1, l => l ++ rep n l
def flat : List Part → List Nat
  | [] => []
  | p :: P => rep p.2 p.1 ++ flat P
theorem rep_len : ∀ (n : Nat) (l : List Nat), (rep n l).length = n * l.length
  | 0, l => by simp [rep]
  | n + 1, l => by
    show (l ++ rep n l).length = _
    rw [List.length_append, rep_len n l, Nat.succ_mul]; omega
theorem rep_ltr {l : List Nat} (h : ∀ c ∈ l, Ltr c) : ∀ n, ∀ c ∈ rep n l, Ltr c
  | 0, c, hc => by simp [rep] at hc
  | n + 1, c, hc => by
    rcases List.mem_append.mp (show c ∈ l ++ rep n l from hc) with hc | hc
    · exact h c hc
    · exact rep_ltr h n c hc
theorem flat_ltr : ∀ {P : List Part}, (∀ p ∈ P, OkP p) → ∀ c ∈ flat P, Ltr c
  | [], _, c, hc => by simp [flat] at hc
  | p :: P, h, c, hc => by
    rcases List.mem_append.mp (show c ∈ rep p.2 p.1 ++ flat P from hc) with hc | hc
    · exact rep_ltr (h p List.mem_cons_self).w _ c hc
    · exact flat_ltr (fun q hq => h q (List.mem_cons_of_mem _ hq)) c hc
theorem rep_sx : ∀ (n : Nat) (l : List Nat), sx (rep n l) = sx l * n
  | 0, l => by simp [rep, sx]
  | n + 1, l => by
    show sx (l ++ rep n l) = _
    rw [sx_app, rep_sx n l]; grind
theorem rep_sy : ∀ (n : Nat) (l : List Nat), sy (rep n l) = sy l * n
  | 0, l => by simp [rep, sy]
  | n + 1, l => by
    show sy (l ++ rep n l) = _
    rw [sy_app, rep_sy n l]; grind
theorem path_app : ∀ (a b : List Nat) (x y : Int), ∃ zs, path x y a = zs ++ [pr (x + sx a) (y + sy a)] ∧ path x y (a ++ b) = zs ++ path (x + sx a) (y + sy a) b
  | [], b, x, y => ⟨[], by simp [path, sx, sy], by simp [sx, sy]⟩
  | c :: a, b, x, y => by
    obtain ⟨zs, e1, e2⟩ := path_app a b (x + dx c) (y + dy c)
    refine ⟨pr x y :: zs, ?_, ?_⟩
    · rw [path_cons, e1, sx_cons, sy_cons, Int.add_assoc, Int.add_assoc]; rfl
    · rw [List.cons_append, path_cons, e2, sx_cons, sy_cons, Int.add_assoc, Int.add_assoc]; rfl
theorem fold_rep (c : Array Nat) : ∀ (k : Nat) (acc : Array Nat), ((List.replicate k c).foldl (· ++ ·) acc).toList = acc.toList ++ rep k c.toList
  | 0, acc => by simp [rep]
  | k + 1, acc => by
    rw [List.replicate_succ, List.foldl_cons, fold_rep c k]
    show _ = acc.toList ++ (c.toList ++ rep k c.toList)
    rw [Array.toList_append, List.append_assoc]
theorem txt_mul (l : List Nat) (n : Nat) : Txt.mul ⟨l.toArray⟩ (n : Int) = ⟨(rep n l).toArray⟩ := by
  unfold Txt.mul
  by_cases h : (n : Int) < 1
  · have : n = 0 := by omega
    subst this
    rw [if_pos h]; rfl
  · rw [if_neg h]
    by_cases h2 : ((n : Int) == 1 || (⟨l.toArray⟩ : Str).length == 0) = true
    · rw [if_pos h2]
      rw [Bool.or_eq_true, beq_iff_eq, beq_iff_eq] at h2
      rcases h2 with h2 | h2
      · have : n = 1 := by omega
        subst this
        simp [rep]
      · have : l = [] := by
          have h2 : l.toArray.size = 0 := h2
          rw [List.size_toArray] at h2
          exact List.eq_nil_of_length_eq_zero h2
        subst this
        have : ∀ n, rep n [] = [] := fun n => by induction n with
          | zero => rfl
          | succ n ih => show [] ++ rep n [] = []; rw [ih]; rfl
        rw [this]
    · rw [if_neg h2]
      congr 1
      apply Array.toList_inj.mp
      have := fold_rep l.toArray n #[]
      rw [show (n : Int).toNat = n by omega]
      rw [this]
      simp
theorem mulW {l : List Nat} {n : Nat} (hl : l.length ≤ 1024) (hn : n ≤ 16384) : mulT (wd l) (.int n) = some (wd (rep n l)) := by
  show (if 0 ≤ (n : Int) ∧ (n : Int) ≤ 16384 ∧ l.toArray.size ≤ 1024 then some (T.str (Txt.mul ⟨l.toArray⟩ n)) else none) = _
  rw [if_pos ⟨by omega, by omega, by rw [List.size_toArray]; exact hl⟩, txt_mul]
theorem is_cell (x y : Int) (r : RS) : F_is_cell [pr x y] r = .ok (.bl true) r := by
  have c : compF [1] (hName 1) fYes (fCall F_is_integer [] [(fVar 1)]) [.int x, .int y] [] [.val (pr x y), .un] r = .ok ([] ++ [T.int x, .int y].map (fun _ => .bl true)) r := by
    refine comp_map (fun _ => .bl true) _ _ r (fun z hz => ?_) (by simp)
    have : ∃ i, z = .int i := by
      simp only [List.mem_cons, List.not_mem_nil, or_false] at hz
      rcases hz with rfl | rfl <;> exact ⟨_, rfl⟩
    obtain ⟨i, rfl⟩ := this
    exact ⟨[.val (pr x y), .val (.int i)], rfl, rfl, rfl⟩
  exact n_fn (n_seqR (n_ret (e_andT (r1 := r) rfl (e_andT (r1 := r) rfl (e_b1 (x := .lst [.bl true, .bl true]) (r1 := r) (e_own (bind_ok (a := [T.int x, .int y]) (r1 := r) rfl c)) rfl)))))
theorem is_count (i : Int) (h : 0 ≤ i) (r : RS) : F_is_count [.int i] r = .ok (.bl true) r :=
  n_fn (n_seqR (n_ret (e_andT (r1 := r) rfl (e_cmp (x := .int i) (y := .int 0) (r1 := r) (r2 := r) rfl rfl (by show some (decide (0 ≤ i)) = _; rw [decide_eq_true h])))))
theorem is_part {p : Part} (h : OkP p) (r : RS) : F_is_part [pt p] r = .ok (.bl true) r :=
  n_fn (n_seqR (n_ret (e_andT (r1 := r) rfl (e_andT (r1 := r) rfl (e_andT (r1 := r) (e_call (ts := [wd p.1]) (r1 := r) rfl (is_word h.w h.l1 h.l2 r)) (e_call (ts := [.int p.2]) (r1 := r) rfl (is_count _ (by omega) r)))))))
abbrev inBody : Sm := (qSeq (qIf (fNotB (fTru (fCall F_is_part [] [(fVar 4)]))) (qSeq (qRaise 2 (fVar 3)) qNil) qNil) qNil)
theorem in_loop (me c v : Slot) (r : RS) : ∀ (P : List Part) (n : Nat) (s3 s4 : Slot), (∀ p ∈ P, OkP p) → ∃ s3' s4', loopF (hTupL 2 (hCons (hName 3) (hCons (hName 4) hNil))) inBody (enumL n (pts P)) [me, c, v, s3, s4] r = .nx [me, c, v, s3', s4'] r
  | [], n, s3, s4, _ => ⟨s3, s4, rfl⟩
  | p :: P, n, s3, s4, h => by
    obtain ⟨s3', s4', ih⟩ := in_loop me c v r P (n + 1) (.val (.int n)) (.val (pt p)) (fun q hq => h q (List.mem_cons_of_mem _ hq))
    exact ⟨s3', s4', n_loop rfl (n_seq (n_ifF (r1 := r) (e_notB (b := true) (e_tru (x := .bl true) (e_call (ts := [pt p]) (r1 := r) rfl (is_part (h p List.mem_cons_self) r)) rfl)) rfl) rfl) ih⟩
theorem init {x y : Int} {P : List Part} (h : ∀ p ∈ P, OkP p) (hl : P.length ≤ 6) {v : T} (hv : v = .lst (pts P) ∨ v = .tup (pts P)) (r : RS) : F_Walk_init [pr x y, v] r = .ok [pr x y, .tup (pts P)] r := by
  obtain ⟨s3, s4, w⟩ := in_loop (.ins 4 []) (.val (pr x y)) (.val v) r P 0 .un .un h
  have e : g_Walk_init (.ins 4 [] :: envOf 2 [pr x y, v]) r = .nx [.ins 4 [pr x y, .tup (pts P)], .val (pr x y), .val v, s3, s4] r := by
    refine n_seq (n_ifF (r1 := r) (e_notB (b := true) (e_tru (x := .bl true) (e_call (ts := [pr x y]) (r1 := r) rfl (is_cell x y r)) rfl)) rfl) ?_
    refine n_seq (n_ifF (r1 := r) (e_orBF (r1 := r) (e_notB (b := true) (e_tru (x := .bl true) (e_call (ts := [v]) (r1 := r) rfl ?_) rfl)) (e_cmpB (x := .int P.length) (y := .int 6) (r1 := r) (r2 := r) (e_b1 (x := v) (r1 := r) rfl ?_) rfl ?_)) rfl) ?_
    · rcases hv with rfl | rfl <;> rfl
    · rcases hv with rfl | rfl
      · show some (T.int ((pts P).length : Nat)) = _
        rw [List.length_map]
      · show some (T.int ((pts P).length : Nat)) = _
        rw [List.length_map]
    · rw [gt_ii, decide_eq_false (by omega)]
    refine n_seq (n_for (xs := enumL 0 (pts P)) (r1 := r) ?_ w) ?_
    · rcases hv with rfl | rfl <;> rfl
    · refine n_seq (r1 := r) (env' := [.ins 4 [pr x y], .val (pr x y), .val v, s3, s4]) rfl (n_seq (r1 := r) (env' := [.ins 4 [pr x y, .tup (pts P)], .val (pr x y), .val v, s3, s4]) ?_ rfl)
      rcases hv with rfl | rfl <;> rfl
  unfold F_Walk_init fnI
  rw [e]; rfl
def tot : List Part → Int
  | [] => 0
  | p :: P => (p.1.length : Int) * (p.2 : Int) + tot P
def legL (m x y : Int) : List Part → List T
  | [] => []
  | p :: P => .tup [.int m, pr x y, wd p.1, .int (p.2 : Int)] :: legL (m + (p.1.length : Int) * (p.2 : Int)) (x + sx p.1 * (p.2 : Int)) (y + sy p.1 * (p.2 : Int)) P
def begL (m x y : Int) : List Part → List T
  | [] => []
  | p :: P => .tup [.int m, pr x y] :: begL (m + (p.1.length : Int) * (p.2 : Int)) (x + sx p.1 * (p.2 : Int)) (y + sy p.1 * (p.2 : Int)) P
theorem flat_len : ∀ (P : List Part), ((flat P).length : Int) = tot P
  | [] => rfl
  | p :: P => by
    show ((rep p.2 p.1 ++ flat P).length : Int) = (p.1.length : Int) * (p.2 : Int) + tot P
    rw [List.length_append, rep_len, ← flat_len P]
    have : ((p.2 * p.1.length : Nat) : Int) = (p.1.length : Int) * (p.2 : Int) := by rw [Int.natCast_mul, Int.mul_comm]
    omega
abbrev lgBody : Sm := (qSeq (qApp 1 (fTup [(fVar 2), (fVar 3), (fVar 4), (fVar 5)]))
    (qSeq (qSet 2 (fBin addT (fVar 2) (fBin mulT (fB1 lenT (fVar 4)) (fVar 5))))
    (qSeq (qSet 3 (fCall F_shifted [] [(fVar 3), (fIx (fCall F_path_of [] [(fVar 4)]) (fUn negT (fC (.int 1)))), (fVar 5)]))
    qNil)))
theorem path_m1 {p : Part} (h : OkP p) {env : Ep.Env} {i : Nat} (he : env[i]? = some (.val (wd p.1))) (r : RS) : (fIx (fCall F_path_of [] [(fVar i)]) (fUn negT (fC (.int 1)))) env r = .ok (pr (sx p.1) (sy p.1)) r := by
  have e := path_lastI p.1 0 0
  rw [Int.zero_add, Int.zero_add] at e
  exact e_ix (x := .tup (path 0 0 p.1)) (y := .int (-1)) (r1 := r) (r2 := r) (e_call (ts := [wd p.1]) (r1 := r) (e_cons (x := wd p.1) (r1 := r) (by unfold fVar; rw [he]; rfl) rfl) (path_of h.w (by have := h.l2; omega) r)) rfl e
theorem lg_loop (s0 : Slot) (r : RS) : ∀ (P : List Part) (acc : List T) (m x y : Int) (s4 s5 : Slot), (∀ p ∈ P, OkP p) → acc.length + P.length < 90000 →
    ∃ m' c' s4' s5', loopF (hTupL 2 (hCons (hName 4) (hCons (hName 5) hNil))) lgBody (pts P) [s0, .own acc, .val (.int m), .val (pr x y), s4, s5] r = .nx [s0, .own (acc ++ legL m x y P), m', c', s4', s5'] r
  | [], acc, m, x, y, s4, s5, _, _ => ⟨.val (.int m), .val (pr x y), s4, s5, by show SO.nx _ r = _; unfold legL; rw [List.append_nil]⟩
  | p :: P, acc, m, x, y, s4, s5, h, hl => by
    have hp := h p List.mem_cons_self
    have := hp.l2
    have := hp.n
    simp only [List.length_cons] at hl
    obtain ⟨m', c', s4', s5', ih⟩ := lg_loop s0 r P (acc ++ [.tup [.int m, pr x y, wd p.1, .int (p.2 : Int)]]) (m + (p.1.length : Int) * (p.2 : Int)) (x + sx p.1 * (p.2 : Int)) (y + sy p.1 * (p.2 : Int)) (.val (wd p.1)) (.val (.int p.2)) (fun q hq => h q (List.mem_cons_of_mem _ hq)) (by rw [List.length_append, List.length_singleton]; omega)
    have m1 : mulT (.int p.1.length) (.int p.2) = some (.int ((p.1.length : Int) * (p.2 : Int))) := mulR (by omega) (by omega)
    refine ⟨m', c', s4', s5', n_loop rfl (n_seq (n_app (xs := acc) (t := .tup [.int m, pr x y, wd p.1, .int (p.2 : Int)]) (r1 := r) rfl (by omega) rfl) (n_seq (n_set (e_bin (x := .int m) (y := .int ((p.1.length : Int) * (p.2 : Int))) (r1 := r) rfl (e_bin (x := .int p.1.length) (y := .int p.2) (r1 := r) (len_wd (by omega) rfl) rfl m1) rfl)) (n_seq (n_set (e_call (ts := [pr x y, pr (sx p.1) (sy p.1), .int p.2]) (r1 := r) (e_cons (x := pr x y) (r1 := r) rfl (e_cons (x := pr (sx p.1) (sy p.1)) (r1 := r) (path_m1 hp rfl r) (e_cons (x := .int p.2) (r1 := r) rfl rfl))) (shifted (by omega) (by omega) r))) rfl))) ?_⟩
    refine Eq.trans ih ?_
    show SO.nx [s0, .own (acc ++ [_] ++ _), m', c', s4', s5'] r = SO.nx [s0, .own (acc ++ (_ :: _)), m', c', s4', s5'] r
    rw [List.append_assoc]; rfl
theorem legs {x y : Int} {P : List Part} (h : ∀ p ∈ P, OkP p) (hl : P.length < 80000) (r : RS) : F_Walk_legs [wk x y P] r = .ok (.lst (legL 0 x y P)) r := by
  obtain ⟨m', c', s4', s5', w⟩ := lg_loop (.val (wk x y P)) r P [] 0 x y .un .un h (by simp; omega)
  exact n_fn (n_seq (n_own (xs := []) (r1 := r) rfl) (n_seq (n_par2 (x := .int 0) (y := pr x y) (r1 := r) (r2 := r) rfl rfl) (n_seq (n_for (xs := pts P) (r1 := r) rfl w) (n_seqR (n_frz (n_ret rfl))))))
end K62
namespace K62
open PySem Ep L2
abbrev AllP (P : List Part) : Prop := ∀ p ∈ P, OkP p
theorem AllP.tl {p : Part} {P : List Part} (h : AllP (p :: P)) : AllP P := fun q hq => h q (List.mem_cons_of_mem _ hq)
def bg : T → T
  | .tup [a, b, _, _] => .tup [a, b]
  | t => t
theorem legL_bg : ∀ (P : List Part) (m x y : Int), (legL m x y P).map bg = begL m x y P
  | [], _, _, _ => rfl
  | p :: P, m, x, y => by
    show bg _ :: (legL _ _ _ P).map bg = _ :: begL _ _ _ P
    rw [legL_bg P]; rfl
theorem legL_len : ∀ (P : List Part) (m x y : Int), (legL m x y P).length = P.length
  | [], _, _, _ => rfl
  | p :: P, m, x, y => by
    show (legL _ _ _ P).length + 1 = _
    rw [legL_len P]; rfl
theorem begL_len : ∀ (P : List Part) (m x y : Int), (begL m x y P).length = P.length
  | [], _, _, _ => rfl
  | p :: P, m, x, y => by
    show (begL _ _ _ P).length + 1 = _
    rw [begL_len P]; rfl
theorem legL_mem : ∀ {P : List Part} {m x y : Int} {t : T}, t ∈ legL m x y P → ∃ a b c d, t = .tup [a, b, c, d]
  | [], _, _, _, _, h => by cases h
  | p :: P, m, x, y, t, h => by
    rcases List.mem_cons.mp (show t ∈ _ :: legL _ _ _ P from h) with rfl | h
    · exact ⟨_, _, _, _, rfl⟩
    · exact legL_mem h
theorem begins {x y : Int} {P : List Part} (h : AllP P) (hl : P.length ≤ 6) (r : RS) : F_Walk_begins [wk x y P] r = .ok (.lst (begL 0 x y P)) r := by
  have c : compF [1, 2, 3, 4] (hTupL 4 (hCons (hName 1) (hCons (hName 2) (hCons (hName 3) (hCons (hName 4) hNil))))) fYes (fTup [(fVar 1), (fVar 2)]) (legL 0 x y P) [] [.val (wk x y P), .un, .un, .un, .un] r = .ok ([] ++ (legL 0 x y P).map bg) r := by
    refine comp_map bg _ _ r (fun t ht => ?_) (by rw [legL_len]; simp; omega)
    obtain ⟨a, b, c, d, rfl⟩ := legL_mem ht
    exact ⟨[.val (wk x y P), .val a, .val b, .val c, .val d], rfl, rfl, rfl⟩
  rw [List.nil_append, legL_bg] at c
  exact n_fn (n_seqR (n_ret (e_own (bind_ok (a := legL 0 x y P) (r1 := r) (bind_ok (a := .lst (legL 0 x y P)) (r1 := r) (e_self rfl (legs h (by omega) r)) rfl) c))))
def en1 : T → T
  | .tup [.str s, .int n] => .int ((s.cps.size : Int) * n)
  | t => t
theorem en_ints : ∀ (P : List Part), ∃ ns, intsT ((pts P).map en1) = some ns ∧ ns.sum = tot P
  | [] => ⟨[], rfl, rfl⟩
  | p :: P => by
    obtain ⟨ns, e1, e2⟩ := en_ints P
    refine ⟨((p.1.length : Int) * (p.2 : Int)) :: ns, ?_, by rw [List.sum_cons, e2]; rfl⟩
    have : en1 (pt p) = .int ((p.1.length : Int) * (p.2 : Int)) := by
      show T.int ((p.1.toArray.size : Int) * _) = _
      rw [List.size_toArray]
    show intsT (en1 (pt p) :: (pts P).map en1) = _
    rw [this]
    show (intsT ((pts P).map en1)).map (_ :: ·) = _
    rw [e1]; rfl
abbrev goBody : Sm := (qSeq (qSet 1 (fCall F_shifted [] [(fVar 1), (fIx (fCall F_path_of [] [(fVar 2)]) (fUn negT (fC (.int 1)))), (fVar 3)])) qNil)
theorem flat_sx (p : Part) (P : List Part) : sx (flat (p :: P)) = sx p.1 * (p.2 : Int) + sx (flat P) := by
  show sx (rep p.2 p.1 ++ flat P) = _
  rw [sx_app, rep_sx]
theorem flat_sy (p : Part) (P : List Part) : sy (flat (p :: P)) = sy p.1 * (p.2 : Int) + sy (flat P) := by
  show sy (rep p.2 p.1 ++ flat P) = _
  rw [sy_app, rep_sy]
theorem go_loop (s0 : Slot) (r : RS) : ∀ (P : List Part) (x y : Int) (s2 s3 : Slot), AllP P → ∃ s2' s3', loopF (hTupL 2 (hCons (hName 2) (hCons (hName 3) hNil))) goBody (pts P) [s0, .val (pr x y), s2, s3] r = .nx [s0, .val (pr (x + sx (flat P)) (y + sy (flat P))), s2', s3'] r
  | [], x, y, s2, s3, _ => ⟨s2, s3, by show SO.nx _ r = _; simp [flat, sx, sy]⟩
  | p :: P, x, y, s2, s3, h => by
    have hp := h p List.mem_cons_self
    have := hp.n
    obtain ⟨s2', s3', ih⟩ := go_loop s0 r P (x + sx p.1 * (p.2 : Int)) (y + sy p.1 * (p.2 : Int)) (.val (wd p.1)) (.val (.int p.2)) h.tl
    refine ⟨s2', s3', n_loop rfl (n_seq (n_set (e_call (ts := [pr x y, pr (sx p.1) (sy p.1), .int p.2]) (r1 := r) (e_cons (x := pr x y) (r1 := r) rfl (e_cons (x := pr (sx p.1) (sy p.1)) (r1 := r) (path_m1 hp rfl r) (e_cons (x := .int p.2) (r1 := r) rfl rfl))) (shifted (by omega) (by omega) r))) rfl) ?_⟩
    rw [flat_sx, flat_sy, ← Int.add_assoc, ← Int.add_assoc]
    exact ih
theorem goal {x y : Int} {P : List Part} (h : AllP P) (r : RS) : F_Walk_goal [wk x y P] r = .ok (pr (x + sx (flat P)) (y + sy (flat P))) r := by
  obtain ⟨s2, s3, w⟩ := go_loop (.val (wk x y P)) r P x y .un .un h
  exact n_fn (n_seq (n_set (t := pr x y) (r1 := r) rfl) (n_seq (n_for (xs := pts P) (r1 := r) rfl w) (n_seqR (n_ret rfl))))
abbrev wy (x y : Int) (P : List Part) : T := .lst [pr x y, .lst (pts P)]
end K62
namespace K62
open PySem Ep L2
abbrev told (i : Nat) (p : Part) (d : Int) : T := .tup [.int (i : Nat), .int (d / (p.1.length : Int)), .int (d % (p.1.length : Int) + 1)]
def fpT (i : Nat) (b : Int) : List Part → Int → T
  | [], _ => .non
  | p :: P, m => if 0 ≤ m - b - 1 ∧ m - b - 1 < (p.1.length : Int) * (p.2 : Int) then told i p (m - b - 1) else fpT (i + 1) (b + (p.1.length : Int) * (p.2 : Int)) P m
abbrev paBody : Sm := (qSeq (qSet 7 (fBin subT (fBin subT (fVar 1) (fVar 3)) (fC (.int 1))))
    (qSeq (qIf (fChainB leT ltT (fC (.int 0)) (fVar 7) (fBin mulT (fB1 lenT (fVar 5)) (fVar 6))) (qSeq (qRet (fTup [(fVar 2), (fBin divT (fB1 intT (fVar 7)) (fB1 lenT (fVar 5))), (fBin addT (fBin modT (fB1 intT (fVar 7)) (fB1 lenT (fVar 5))) (fC (.int 1)))]))
    qNil) qNil)
    qNil))
theorem e_chainF {h h' : T → T → Option Bool} {f g k : Ep.Env → M T} {env : Ep.Env} {r r1 r2 : RS} {x y : T} (h1 : f env r = .ok x r1) (h2 : g env r1 = .ok y r2) (h3 : h x y = some false) : fChainB h h' f g k env r = .ok false r2 :=
  bind_ok h1 (bind_ok h2 (bind_ok (a := false) (r1 := r2) (by rw [h3]; rfl) (by rw [if_neg (by decide)]; rfl)))
abbrev paTg : T → Ep.Env → Option Ep.Env := hTupL 2 (hCons (hName 2) (hCons (hTupL 4 (hCons (hName 3) (hCons (hName 4) (hCons (hName 5) (hCons (hName 6) hNil))))) hNil))
theorem n_loopRt {h : T → Ep.Env → Option Ep.Env} {s : Sm} {x t : T} {xs : List T} {env env' : Ep.Env} {r r1 : RS} (h1 : h x env = some env') (h2 : s env' r = .rt t r1) : loopF h s (x :: xs) env r = .rt t r1 := n_loopR h1 h2
theorem pa_loop (s0 : Slot) (m : Int) (r : RS) : ∀ (P : List Part) (i : Nat) (b x y : Int) (s2 s3 s4 s5 s6 s7 : Slot), AllP P →
    (fpT i b P m = .non ∧ ∃ e, loopF paTg paBody (enumL i (legL b x y P)) [s0, .val (.int m), s2, s3, s4, s5, s6, s7] r = .nx e r) ∨ loopF paTg paBody (enumL i (legL b x y P)) [s0, .val (.int m), s2, s3, s4, s5, s6, s7] r = .rt (fpT i b P m) r
  | [], i, b, x, y, s2, s3, s4, s5, s6, s7, _ => .inl ⟨rfl, _, rfl⟩
  | p :: P, i, b, x, y, s2, s3, s4, s5, s6, s7, h => by
    have hp := h p List.mem_cons_self
    have b1 := hp.l1
    have b2 := hp.l2
    have b3 := hp.n
    have m1 : mulT (.int p.1.length) (.int p.2) = some (.int ((p.1.length : Int) * (p.2 : Int))) := mulR (by omega) (by omega)
    have st : ∀ so, (qSeq (qIf (fChainB leT ltT (fC (.int 0)) (fVar 7) (fBin mulT (fB1 lenT (fVar 5)) (fVar 6))) (qSeq (qRet (fTup [(fVar 2), (fBin divT (fB1 intT (fVar 7)) (fB1 lenT (fVar 5))), (fBin addT (fBin modT (fB1 intT (fVar 7)) (fB1 lenT (fVar 5))) (fC (.int 1)))])) qNil) qNil) qNil) [s0, .val (.int m), .val (.int i), .val (.int b), .val (pr x y), .val (wd p.1), .val (.int p.2), .val (.int (m - b - 1))] r = so → paBody [s0, .val (.int m), .val (.int i), .val (.int b), .val (pr x y), .val (wd p.1), .val (.int p.2), s7] r = so := fun so hso =>
      n_seq (n_set (e_bin (x := .int (m - b)) (y := .int 1) (r1 := r) (e_bin (x := .int m) (y := .int b) (r1 := r) rfl rfl rfl) rfl rfl)) hso
    have no : ∀ (q : (fChainB leT ltT (fC (.int 0)) (fVar 7) (fBin mulT (fB1 lenT (fVar 5)) (fVar 6))) [s0, .val (.int m), .val (.int i), .val (.int b), .val (pr x y), .val (wd p.1), .val (.int p.2), .val (.int (m - b - 1))] r = .ok false r) (c : ¬ (0 ≤ m - b - 1 ∧ m - b - 1 < (p.1.length : Int) * (p.2 : Int))),
        (fpT i b (p :: P) m = .non ∧ ∃ e, loopF paTg paBody (enumL i (legL b x y (p :: P))) [s0, .val (.int m), s2, s3, s4, s5, s6, s7] r = .nx e r) ∨ loopF paTg paBody (enumL i (legL b x y (p :: P))) [s0, .val (.int m), s2, s3, s4, s5, s6, s7] r = .rt (fpT i b (p :: P) m) r := fun q c => by
      have ef : fpT i b (p :: P) m = fpT (i + 1) (b + (p.1.length : Int) * (p.2 : Int)) P m := if_neg c
      rw [ef]
      rcases pa_loop s0 m r P (i + 1) (b + (p.1.length : Int) * (p.2 : Int)) (x + sx p.1 * (p.2 : Int)) (y + sy p.1 * (p.2 : Int)) (.val (.int i)) (.val (.int b)) (.val (pr x y)) (.val (wd p.1)) (.val (.int p.2)) (.val (.int (m - b - 1))) h.tl with ⟨e1, e, w⟩ | w
      · exact .inl ⟨e1, e, n_loop rfl (st _ (n_seq (n_ifF q rfl) rfl)) w⟩
      · exact .inr (n_loop rfl (st _ (n_seq (n_ifF q rfl) rfl)) w)
    by_cases c1 : 0 ≤ m - b - 1
    · by_cases c2 : m - b - 1 < (p.1.length : Int) * (p.2 : Int)
      · refine .inr ?_
        have ef : fpT i b (p :: P) m = told i p (m - b - 1) := if_pos ⟨c1, c2⟩
        rw [ef]
        have d1 : divT (.int (m - b - 1)) (.int p.1.length) = some (.int ((m - b - 1) / (p.1.length : Int))) := divB (by omega) (by omega)
        have d2 : modT (.int (m - b - 1)) (.int p.1.length) = some (.int ((m - b - 1) % (p.1.length : Int))) := modP (by omega)
        refine n_loopRt rfl (st _ (n_seqR (n_ifT (r1 := r) (e_chainB (x := .int 0) (y := .int (m - b - 1)) (z := .int ((p.1.length : Int) * (p.2 : Int))) (r1 := r) (r2 := r) rfl rfl (by rw [leI, decide_eq_true c1]) (e_bin (x := .int p.1.length) (y := .int p.2) (r1 := r) (len_wd (by omega) rfl) rfl m1) (by rw [ltI, decide_eq_true c2])) (n_seqR (n_ret ?_)))))
        exact e_tup (e_cons (x := .int i) (r1 := r) rfl (e_cons (x := .int ((m - b - 1) / (p.1.length : Int))) (r1 := r) (e_bin (x := .int (m - b - 1)) (y := .int p.1.length) (r1 := r) rfl (len_wd (by omega) rfl) d1) (e_cons (x := .int ((m - b - 1) % (p.1.length : Int) + 1)) (r1 := r) (e_bin (x := .int ((m - b - 1) % (p.1.length : Int))) (y := .int 1) (r1 := r) (e_bin (x := .int (m - b - 1)) (y := .int p.1.length) (r1 := r) rfl (len_wd (by omega) rfl) d2) rfl rfl) rfl)))
      · exact no (e_chainB (x := .int 0) (y := .int (m - b - 1)) (z := .int ((p.1.length : Int) * (p.2 : Int))) (r1 := r) (r2 := r) rfl rfl (by rw [leI, decide_eq_true c1]) (e_bin (x := .int p.1.length) (y := .int p.2) (r1 := r) (len_wd (by omega) rfl) rfl m1) (by rw [ltI, decide_eq_false c2])) fun h => c2 h.2
    · exact no (e_chainF (x := .int 0) (y := .int (m - b - 1)) (r1 := r) (r2 := r) rfl rfl (by rw [leI, decide_eq_false c1])) fun h => c1 h.1
theorem check_moment (m : Int) (h : 0 ≤ m) (r : RS) : F_check_moment [.int m] r = .ok .non r :=
  n_fnN (n_seq (n_ifF (r1 := r) (e_notB (b := true) (e_tru (x := .bl true) (e_call (ts := [.int m]) (r1 := r) rfl (is_count m h r)) rfl)) rfl) rfl)
theorem part_at {x y m : Int} {P : List Part} (h : AllP P) (hl : P.length ≤ 6) (hm : 0 ≤ m) (r : RS) : F_Walk_part_at [wk x y P, .int m] r = .ok (fpT 0 0 P m) r := by
  have fi : ∀ s2 s3 s4 s5 s6 s7 : Slot, fEnumA (fMethP [4, 5] F_Walk_legs [] (fVar 0) []) [.val (wk x y P), .val (.int m), s2, s3, s4, s5, s6, s7] r = .ok (enumL 0 (legL 0 x y P)) r := fun s2 s3 s4 s5 s6 s7 => by
    refine bind_ok (a := [.lst (legL 0 x y P)]) (r1 := r) (e_cons (x := .lst (legL 0 x y P)) (r1 := r) (e_self rfl (legs h (by omega) r)) rfl) rfl
  rcases pa_loop (.val (wk x y P)) m r P 0 0 x y .un .un .un .un .un .un h with ⟨e1, e, w⟩ | w
  · rw [e1]
    exact n_fn (n_seq (n_expr (e_call (ts := [.int m]) (r1 := r) rfl (check_moment m hm r))) (n_seq (n_for (fi _ _ _ _ _ _) w) (n_seqR (n_ret rfl))))
  · exact n_fn (n_seq (n_expr (e_call (ts := [.int m]) (r1 := r) rfl (check_moment m hm r))) (n_seqR (n_for (fi _ _ _ _ _ _) w)))
abbrev laBody : Sm := (qSeq (qAsg (fIx (fIx (fVar 0) (fC (.int 1))) (fVar 2)) (hTupL 2 (hCons (hName 5) (hCons (hName 6) hNil))))
    (qSeq (qSet 7 (fBin subT (fBin subT (fVar 1) (fVar 3)) (fC (.int 1))))
    (qSeq (qIf (fChainB leT ltT (fC (.int 0)) (fVar 7) (fBin mulT (fB1 lenT (fVar 5)) (fVar 6))) (qSeq (qRet (fTup [(fVar 2), (fBin divT (fVar 7) (fB1 lenT (fVar 5))), (fBin addT (fBin modT (fVar 7) (fB1 lenT (fVar 5))) (fC (.int 1)))]))
    qNil) qNil)
    qNil)))
abbrev laTg : T → Ep.Env → Option Ep.Env := hTupL 2 (hCons (hName 2) (hCons (hTupL 2 (hCons (hName 3) (hCons (hName 4) hNil))) hNil))
theorem la_loop (x0 y0 : Int) (A : List Part) (m : Int) (r : RS) : ∀ (P Q : List Part) (b x y : Int) (s2 s3 s4 s5 s6 s7 : Slot), A = Q ++ P → AllP P →
    (fpT Q.length b P m = .non ∧ ∃ e, loopF laTg laBody (enumL Q.length (begL b x y P)) [.val (wy x0 y0 A), .val (.int m), s2, s3, s4, s5, s6, s7] r = .nx e r) ∨ loopF laTg laBody (enumL Q.length (begL b x y P)) [.val (wy x0 y0 A), .val (.int m), s2, s3, s4, s5, s6, s7] r = .rt (fpT Q.length b P m) r
  | [], Q, b, x, y, s2, s3, s4, s5, s6, s7, _, _ => .inl ⟨rfl, _, rfl⟩
  | p :: P, Q, b, x, y, s2, s3, s4, s5, s6, s7, hA, h => by
    have hp := h p List.mem_cons_self
    have b1 := hp.l1
    have b2 := hp.l2
    have b3 := hp.n
    have m1 : mulT (.int p.1.length) (.int p.2) = some (.int ((p.1.length : Int) * (p.2 : Int))) := mulR (by omega) (by omega)
    have ga : ixT r (.lst (pts A)) (.int (Q.length : Nat)) = some (pt p) := atI_nat (by
      rw [hA]
      show ((Q ++ p :: P).map pt)[Q.length]? = _
      rw [List.map_append, List.map_cons, List.getElem?_append_right (by rw [List.length_map]; exact Nat.le_refl _), List.length_map, Nat.sub_self]
      rfl)
    have st : ∀ so, (qSeq (qIf (fChainB leT ltT (fC (.int 0)) (fVar 7) (fBin mulT (fB1 lenT (fVar 5)) (fVar 6))) (qSeq (qRet (fTup [(fVar 2), (fBin divT (fVar 7) (fB1 lenT (fVar 5))), (fBin addT (fBin modT (fVar 7) (fB1 lenT (fVar 5))) (fC (.int 1)))])) qNil) qNil) qNil) [.val (wy x0 y0 A), .val (.int m), .val (.int (Q.length : Nat)), .val (.int b), .val (pr x y), .val (wd p.1), .val (.int p.2), .val (.int (m - b - 1))] r = so → laBody [.val (wy x0 y0 A), .val (.int m), .val (.int (Q.length : Nat)), .val (.int b), .val (pr x y), s5, s6, s7] r = so := fun so hso =>
      n_seq (n_asg (x := pt p) (r1 := r) (e_ix (x := .lst (pts A)) (y := .int (Q.length : Nat)) (r1 := r) (r2 := r) (e_ix (x := wy x0 y0 A) (y := .int 1) (r1 := r) (r2 := r) rfl rfl rfl) rfl ga) rfl) (n_seq (n_set (e_bin (x := .int (m - b)) (y := .int 1) (r1 := r) (e_bin (x := .int m) (y := .int b) (r1 := r) rfl rfl rfl) rfl rfl)) hso)
    have no : ∀ (q : (fChainB leT ltT (fC (.int 0)) (fVar 7) (fBin mulT (fB1 lenT (fVar 5)) (fVar 6))) [.val (wy x0 y0 A), .val (.int m), .val (.int (Q.length : Nat)), .val (.int b), .val (pr x y), .val (wd p.1), .val (.int p.2), .val (.int (m - b - 1))] r = .ok false r) (c : ¬ (0 ≤ m - b - 1 ∧ m - b - 1 < (p.1.length : Int) * (p.2 : Int))),
        (fpT Q.length b (p :: P) m = .non ∧ ∃ e, loopF laTg laBody (enumL Q.length (begL b x y (p :: P))) [.val (wy x0 y0 A), .val (.int m), s2, s3, s4, s5, s6, s7] r = .nx e r) ∨ loopF laTg laBody (enumL Q.length (begL b x y (p :: P))) [.val (wy x0 y0 A), .val (.int m), s2, s3, s4, s5, s6, s7] r = .rt (fpT Q.length b (p :: P) m) r := fun q c => by
      have ef : fpT Q.length b (p :: P) m = fpT (Q.length + 1) (b + (p.1.length : Int) * (p.2 : Int)) P m := if_neg c
      rw [ef]
      have lq : (Q ++ [p]).length = Q.length + 1 := by simp
      have ih := la_loop x0 y0 A m r P (Q ++ [p]) (b + (p.1.length : Int) * (p.2 : Int)) (x + sx p.1 * (p.2 : Int)) (y + sy p.1 * (p.2 : Int)) (.val (.int (Q.length : Nat))) (.val (.int b)) (.val (pr x y)) (.val (wd p.1)) (.val (.int p.2)) (.val (.int (m - b - 1))) (by rw [hA, List.append_assoc]; rfl) h.tl
      rw [lq] at ih
      rcases ih with ⟨e1, e, w⟩ | w
      · exact .inl ⟨e1, e, n_loop rfl (st _ (n_seq (n_ifF q rfl) rfl)) w⟩
      · exact .inr (n_loop rfl (st _ (n_seq (n_ifF q rfl) rfl)) w)
    by_cases c1 : 0 ≤ m - b - 1
    · by_cases c2 : m - b - 1 < (p.1.length : Int) * (p.2 : Int)
      · refine .inr ?_
        have ef : fpT Q.length b (p :: P) m = told Q.length p (m - b - 1) := if_pos ⟨c1, c2⟩
        rw [ef]
        have d1 : divT (.int (m - b - 1)) (.int p.1.length) = some (.int ((m - b - 1) / (p.1.length : Int))) := divB (by omega) (by omega)
        have d2 : modT (.int (m - b - 1)) (.int p.1.length) = some (.int ((m - b - 1) % (p.1.length : Int))) := modP (by omega)
        refine n_loopRt rfl (st _ (n_seqR (n_ifT (r1 := r) (e_chainB (x := .int 0) (y := .int (m - b - 1)) (z := .int ((p.1.length : Int) * (p.2 : Int))) (r1 := r) (r2 := r) rfl rfl (by rw [leI, decide_eq_true c1]) (e_bin (x := .int p.1.length) (y := .int p.2) (r1 := r) (len_wd (by omega) rfl) rfl m1) (by rw [ltI, decide_eq_true c2])) (n_seqR (n_ret ?_)))))
        exact e_tup (e_cons (x := .int (Q.length : Nat)) (r1 := r) rfl (e_cons (x := .int ((m - b - 1) / (p.1.length : Int))) (r1 := r) (e_bin (x := .int (m - b - 1)) (y := .int p.1.length) (r1 := r) rfl (len_wd (by omega) rfl) d1) (e_cons (x := .int ((m - b - 1) % (p.1.length : Int) + 1)) (r1 := r) (e_bin (x := .int ((m - b - 1) % (p.1.length : Int))) (y := .int 1) (r1 := r) (e_bin (x := .int (m - b - 1)) (y := .int p.1.length) (r1 := r) rfl (len_wd (by omega) rfl) d2) rfl rfl) rfl)))
      · exact no (e_chainB (x := .int 0) (y := .int (m - b - 1)) (z := .int ((p.1.length : Int) * (p.2 : Int))) (r1 := r) (r2 := r) rfl rfl (by rw [leI, decide_eq_true c1]) (e_bin (x := .int p.1.length) (y := .int p.2) (r1 := r) (len_wd (by omega) rfl) rfl m1) (by rw [ltI, decide_eq_false c2])) fun h => c2 h.2
    · exact no (e_chainF (x := .int 0) (y := .int (m - b - 1)) (r1 := r) (r2 := r) rfl rfl (by rw [leI, decide_eq_false c1])) fun h => c1 h.1
theorem cut_last (xs : List T) (z : T) : cutT (xs ++ [z]) none (some (-1)) = xs := by
  have hl : (xs ++ [z]).length = xs.length + 1 := by simp
  unfold cutT
  rw [hl]
  have e1 : HT.sIx (xs.length + 1) 0 none = 0 := rfl
  have e2 : HT.sIx (xs.length + 1) (xs.length + 1) (some (-1)) = xs.length := by
    show (if (-1 : Int) < 0 then ((-1 : Int) + ((xs.length + 1 : Nat) : Int)).toNat else min (-1 : Int).toNat (xs.length + 1)) = _
    rw [if_pos (by decide)]; omega
  rw [e1, e2]
  simp
theorem fSlN {f b : Ep.Env → M T} {env : Ep.Env} {r : RS} {x y : T} {j : Int} (h1 : f env r = .ok x r) (h3 : b env r = .ok (.int j) r) (h4 : slT r x none (some j) = some y) : fSl f none (some b) env r = .ok y r := by
  refine bind_ok h1 (bind_ok (a := none) (r1 := r) rfl (bind_ok (a := some j) (r1 := r) (bind_ok h3 rfl) ?_))
  rw [h4]; rfl
theorem tot_nn : ∀ (P : List Part), 0 ≤ tot P
  | [] => Int.le_refl _
  | p :: P => by
    have := tot_nn P
    have : 0 ≤ (p.1.length : Int) * (p.2 : Int) := Int.mul_nonneg (by omega) (by omega)
    show 0 ≤ (p.1.length : Int) * (p.2 : Int) + tot P
    omega
theorem tot_cons (p : Part) (P : List Part) : tot (p :: P) = (p.1.length : Int) * (p.2 : Int) + tot P := rfl
theorem fp_none : ∀ (P : List Part) (i : Nat) (b m : Int), (m ≤ b ∨ b + tot P < m) → fpT i b P m = .non
  | [], i, b, m, _ => rfl
  | p :: P, i, b, m, h => by
    have h1 : 0 ≤ (p.1.length : Int) * (p.2 : Int) := Int.mul_nonneg (by omega) (by omega)
    have := tot_nn P
    rw [tot_cons] at h
    show (if _ then _ else _) = _
    rw [if_neg (by omega)]
    exact fp_none P _ _ m (by omega)
theorem fp_some : ∀ (P : List Part) (i : Nat) (b m : Int), AllP P → b < m → m ≤ b + tot P →
    ∃ (j : Nat) (p : Part) (u s : Nat), P[j]? = some p ∧ fpT i b P m = .tup [.int ((i + j : Nat) : Int), .int (u : Int), .int ((s : Int) + 1)] ∧ u < p.2 ∧ s < p.1.length ∧ m = b + tot (P.take j) + (u : Int) * p.1.length + s + 1
  | [], i, b, m, _, h1, h2 => by
    have : tot [] = 0 := rfl
    omega
  | p :: P, i, b, m, h, h1, h2 => by
    have hp := h p List.mem_cons_self
    have b1 := hp.l1
    rw [tot_cons] at h2
    by_cases c : m - b - 1 < (p.1.length : Int) * (p.2 : Int)
    · obtain ⟨d, ed⟩ : ∃ d : Nat, m - b - 1 = d := ⟨(m - b - 1).toNat, by omega⟩
      have ef : fpT i b (p :: P) m = told i p (m - b - 1) := if_pos ⟨by omega, c⟩
      rw [ed] at c ef
      have c' : d < p.1.length * p.2 := by
        have : ((p.1.length * p.2 : Nat) : Int) = (p.1.length : Int) * (p.2 : Int) := Int.natCast_mul ..
        omega
      refine ⟨0, p, d / p.1.length, d % p.1.length, rfl, ?_, Nat.div_lt_of_lt_mul c', Nat.mod_lt _ (by omega), ?_⟩
      · rw [ef]; rfl
      · have := Nat.div_add_mod d p.1.length
        have e2 : ((d / p.1.length : Nat) : Int) * (p.1.length : Int) + ((d % p.1.length : Nat) : Int) = d := by
          have h3 : ((p.1.length * (d / p.1.length) + d % p.1.length : Nat) : Int) = d := by rw [this]
          rw [Int.natCast_add, Int.natCast_mul, Int.mul_comm] at h3
          exact h3
        have : tot (List.take 0 (p :: P)) = 0 := rfl
        omega
    · have ef : fpT i b (p :: P) m = fpT (i + 1) (b + (p.1.length : Int) * (p.2 : Int)) P m := if_neg (fun z => c z.2)
      obtain ⟨j, q, u, s, e1, e2, e3, e4, e5⟩ := fp_some P (i + 1) (b + (p.1.length : Int) * (p.2 : Int)) m h.tl (by omega) (by omega)
      refine ⟨j + 1, q, u, s, e1, ?_, e3, e4, ?_⟩
      · rw [ef, e2, show i + 1 + j = i + (j + 1) by omega]
      · rw [List.take_succ_cons, tot_cons]; omega
theorem rep_split : ∀ (n u : Nat) (l : List Nat), u < n → rep n l = rep u l ++ (l ++ rep (n - u - 1) l)
  | n + 1, 0, l, _ => by
    show l ++ rep n l = [] ++ (l ++ rep (n + 1 - 0 - 1) l)
    simp
  | n + 1, u + 1, l, h => by
    show l ++ rep n l = (l ++ rep u l) ++ (l ++ rep (n + 1 - (u + 1) - 1) l)
    rw [rep_split n u l (by omega), List.append_assoc, show n + 1 - (u + 1) - 1 = n - u - 1 by omega]
theorem flat_split : ∀ (P : List Part) (j : Nat) (p : Part), P[j]? = some p → ∃ B, flat P = flat (P.take j) ++ (rep p.2 p.1 ++ B)
  | p :: P, 0, q, h => by
    cases h
    exact ⟨flat P, rfl⟩
  | p :: P, j + 1, q, h => by
    obtain ⟨B, e⟩ := flat_split P j q (by simpa using h)
    refine ⟨B, ?_⟩
    show rep p.2 p.1 ++ flat P = (rep p.2 p.1 ++ flat (P.take j)) ++ _
    rw [e, List.append_assoc]
theorem flat_at {P : List Part} {j u s : Nat} {p : Part} (h : P[j]? = some p) (hu : u < p.2) : ∃ B, flat P = flat (P.take j) ++ (rep u p.1 ++ (p.1 ++ B)) := by
  obtain ⟨B, e⟩ := flat_split P j p h
  refine ⟨rep (p.2 - u - 1) p.1 ++ B, ?_⟩
  rw [e, rep_split p.2 u p.1 hu]
  simp [List.append_assoc]
theorem flat_take {P : List Part} {j u s n : Nat} {p : Part} (h : P[j]? = some p) (hu : u < p.2) (hs : s ≤ p.1.length) (hn : (n : Int) = tot (P.take j) + (u : Int) * p.1.length + s) : (flat P).take n = flat (P.take j) ++ (rep u p.1 ++ p.1.take s) := by
  obtain ⟨B, e⟩ := flat_at (s := s) h hu
  have l1 := flat_len (P.take j)
  have l2 := rep_len u p.1
  have l3 : ((u * p.1.length : Nat) : Int) = (u : Int) * p.1.length := Int.natCast_mul ..
  have en : n = (flat (P.take j)).length + ((rep u p.1).length + s) := by omega
  rw [e, en, List.take_append, List.take_of_length_le (by omega)]
  congr 1
  rw [show (flat (P.take j)).length + ((rep u p.1).length + s) - (flat (P.take j)).length = (rep u p.1).length + s by omega, List.take_append, List.take_of_length_le (by omega)]
  congr 1
  rw [show (rep u p.1).length + s - (rep u p.1).length = s by omega, List.take_append, show s - p.1.length = 0 by omega, List.take_zero, List.append_nil]
theorem flat_letter {P : List Part} {j u s n : Nat} {p : Part} (h : P[j]? = some p) (hu : u < p.2) (hs : s < p.1.length) (hn : (n : Int) = tot (P.take j) + (u : Int) * p.1.length + s) : (flat P)[n]? = p.1[s]? := by
  obtain ⟨B, e⟩ := flat_at (s := s) h hu
  have l1 := flat_len (P.take j)
  have l2 := rep_len u p.1
  have l3 : ((u * p.1.length : Nat) : Int) = (u : Int) * p.1.length := Int.natCast_mul ..
  have en : n = (flat (P.take j)).length + ((rep u p.1).length + s) := by omega
  rw [e, en, List.getElem?_append_right (by omega), show (flat (P.take j)).length + ((rep u p.1).length + s) - (flat (P.take j)).length = (rep u p.1).length + s by omega, List.getElem?_append_right (by omega), show (rep u p.1).length + s - (rep u p.1).length = s by omega, List.getElem?_append_left hs]
theorem legL_at : ∀ (P : List Part) (j : Nat) (p : Part) (m x y : Int), P[j]? = some p → (legL m x y P)[j]? = some (.tup [.int (m + tot (P.take j)), pr (x + sx (flat (P.take j))) (y + sy (flat (P.take j))), wd p.1, .int (p.2 : Int)])
  | p :: P, 0, q, m, x, y, h => by
    cases h
    show some _ = some _
    simp [tot, flat, sx, sy]
  | p :: P, j + 1, q, m, x, y, h => by
    have := legL_at P j q (m + (p.1.length : Int) * (p.2 : Int)) (x + sx p.1 * (p.2 : Int)) (y + sy p.1 * (p.2 : Int)) (by simpa using h)
    show (legL _ _ _ P)[j]? = _
    rw [this, List.take_succ_cons, tot_cons, flat_sx, flat_sy]
    simp only [Int.add_assoc]
end K62
namespace K62
open PySem Ep L2
theorem at_none {x y m : Int} {P : List Part} (h : AllP P) (hl : P.length ≤ 6) (hm : 0 ≤ m) (hf : fpT 0 0 P m = .non) (r : RS) : F_Walk_at [wk x y P, .int m] r = .ok (if m = 0 then pr x y else .non) r := by
  have e := part_at (x := x) (y := y) h hl hm r
  rw [hf] at e
  refine n_fn (n_seq (n_set (e_meth1 rfl rfl e)) (n_seqR (n_ifT (r1 := r) (e_cmpB (x := .non) (y := .non) (r1 := r) (r2 := r) rfl rfl rfl) (n_seqR (n_ret ?_)))))
  by_cases c : m = 0
  · rw [if_pos c]
    exact e_ifT (r1 := r) (e_cmpB (x := .int m) (y := .int 0) (r1 := r) (r2 := r) rfl rfl (by rw [eq_int, c]; rfl)) rfl
  · rw [if_neg c]
    exact e_ifF (r1 := r) (e_cmpB (x := .int m) (y := .int 0) (r1 := r) (r2 := r) rfl rfl (by rw [eq_int]; simp [c])) rfl
theorem at_some {x y : Int} {n : Nat} {P : List Part} (h : AllP P) (hl : P.length ≤ 6) (h0 : 0 < n) (h1 : (n : Int) ≤ tot P) (r : RS) : F_Walk_at [wk x y P, .int n] r = .ok (pr (x + sx ((flat P).take n)) (y + sy ((flat P).take n))) r := by
  obtain ⟨j, p, u, s, e1, e2, e3, e4, e5⟩ := fp_some P 0 0 n h (by omega) (by omega)
  have hp := h p (List.mem_of_getElem? e1)
  have b2 := hp.l2
  have b3 := hp.n
  have e := part_at (x := x) (y := y) h hl (show (0 : Int) ≤ n by omega) r
  rw [e2, Nat.zero_add] at e
  have ft := flat_take (P := P) (j := j) (u := u) (s := s + 1) (n := n) e1 e3 (by omega) (by omega)
  have lg := legL_at P j p 0 x y e1
  have lj := legs (x := x) (y := y) h (by omega) r
  have i1 : ixT r (.lst (legL 0 x y P)) (.int (j : Nat)) = some _ := atI_nat lg
  have i2 : ixT r (.tup (path 0 0 p.1)) (.int (-1)) = some (pr (sx p.1) (sy p.1)) := by
    have := path_lastI p.1 0 0
    rw [Int.zero_add, Int.zero_add] at this
    exact this
  have i3 : ixT r (.tup (path 0 0 p.1)) (.int ((s : Int) + 1)) = some (pr (sx (p.1.take (s + 1))) (sy (p.1.take (s + 1)))) := by
    have := path_nat p.1 0 0 (s + 1) (by omega)
    rw [Int.zero_add, Int.zero_add] at this
    exact this
  have s1 := shifted (a := x + sx (flat (P.take j))) (b := y + sy (flat (P.take j))) (c := sx p.1) (d := sy p.1) (t := (u : Int)) (by omega) (by omega) r
  have s2 := shifted (a := x + sx (flat (P.take j)) + sx p.1 * (u : Int)) (b := y + sy (flat (P.take j)) + sy p.1 * (u : Int)) (c := sx (p.1.take (s + 1))) (d := sy (p.1.take (s + 1))) (t := 1) (by decide) (by decide) r
  have ex : x + sx ((flat P).take n) = x + sx (flat (P.take j)) + sx p.1 * (u : Int) + sx (p.1.take (s + 1)) * 1 := by
    rw [ft, sx_app, sx_app, rep_sx]; omega
  have ey : y + sy ((flat P).take n) = y + sy (flat (P.take j)) + sy p.1 * (u : Int) + sy (p.1.take (s + 1)) * 1 := by
    rw [ft, sy_app, sy_app, rep_sy]; omega
  rw [ex, ey]
  refine n_fn (n_seq (n_set (e_meth1 rfl rfl e)) (n_seq (n_ifF (r1 := r) (e_cmpB (x := .tup [.int (j : Nat), .int (u : Int), .int ((s : Int) + 1)]) (y := .non) (r1 := r) (r2 := r) rfl rfl rfl) rfl) ?_))
  refine n_seq (n_asg (r1 := r) (e_ix (x := .lst (legL 0 x y P)) (y := .int (j : Nat)) (r1 := r) (r2 := r) (e_self rfl lj) (e_ix (x := .tup [.int (j : Nat), .int (u : Int), .int ((s : Int) + 1)]) (y := .int 0) (r1 := r) (r2 := r) rfl rfl rfl) i1) rfl) ?_
  refine n_seq (n_set (e_call (ts := [wd p.1]) (r1 := r) rfl (path_of hp.w (by omega) r))) (n_seqR (n_ret ?_))
  refine e_call (ts := [pr (x + sx (flat (P.take j)) + sx p.1 * (u : Int)) (y + sy (flat (P.take j)) + sy p.1 * (u : Int)), pr (sx (p.1.take (s + 1))) (sy (p.1.take (s + 1)))]) (r1 := r) (e_cons (x := pr (x + sx (flat (P.take j)) + sx p.1 * (u : Int)) (y + sy (flat (P.take j)) + sy p.1 * (u : Int))) (r1 := r) ?_ (e_cons (x := pr (sx (p.1.take (s + 1))) (sy (p.1.take (s + 1)))) (r1 := r) ?_ rfl)) s2
  · exact e_call (ts := [pr (x + sx (flat (P.take j))) (y + sy (flat (P.take j))), pr (sx p.1) (sy p.1), .int (u : Int)]) (r1 := r) (e_cons (x := pr (x + sx (flat (P.take j))) (y + sy (flat (P.take j)))) (r1 := r) rfl (e_cons (x := pr (sx p.1) (sy p.1)) (r1 := r) (e_ix (x := .tup (path 0 0 p.1)) (y := .int (-1)) (r1 := r) (r2 := r) rfl rfl i2) (e_cons (x := .int (u : Int)) (r1 := r) (e_ix (x := .tup [.int (j : Nat), .int (u : Int), .int ((s : Int) + 1)]) (y := .int 1) (r1 := r) (r2 := r) rfl rfl rfl) rfl))) s1
  · exact e_ix (x := .tup (path 0 0 p.1)) (y := .int ((s : Int) + 1)) (r1 := r) (r2 := r) rfl (e_ix (x := .tup [.int (j : Nat), .int (u : Int), .int ((s : Int) + 1)]) (y := .int 2) (r1 := r) (r2 := r) rfl rfl rfl) i3
theorem ix_wd {l : List Nat} {i c : Nat} (hl : l.length ≤ 100000) (h : l[i]? = some c) (r : RS) : ixT r (wd l) (.int (i : Int)) = some (one c) := by
  show (if l.toArray.size ≤ 100000 then (atI l (i : Int)).map (fun c => T.str ⟨#[c]⟩) else none) = _
  rw [List.size_toArray, if_pos hl, atI_nat h]; rfl
theorem strsW : ∀ ws : List (List Nat), strsT (ws.map wd) = some (ws.map fun (w : List Nat) => (⟨w.toArray⟩ : Str))
  | [] => rfl
  | w :: ws => by
    show (strsT (ws.map wd)).map (_ :: ·) = _
    rw [strsW ws]; rfl
theorem fold_glue : ∀ (ws : List (List Nat)) (acc : Array Nat), ((ws.map fun (w : List Nat) => (⟨w.toArray⟩ : Str)).foldl (fun acc p => acc ++ ("" : Str).cps ++ p.cps) acc).toList = acc.toList ++ ws.flatten
  | [], acc => by simp
  | w :: ws, acc => by
    rw [List.map_cons, List.foldl_cons, fold_glue ws]
    have : ("" : Str).cps = #[] := by rfl
    rw [this]
    simp
theorem joinW {ws : List (List Nat)} (h : ws.flatten.length ≤ 16000000) : joinT "" (.lst (ws.map wd)) = some (wd ws.flatten) := by
  show ((strsT (ws.map wd)).bind fun ys => if (ys.map (·.length)).sum + ys.length * ("" : Str).length ≤ 16777216 then some (T.str (Txt.join "" ys)) else none) = _
  rw [strsW ws]
  show (if _ then some (T.str (Txt.join "" (ws.map fun (w : List Nat) => (⟨w.toArray⟩ : Str)))) else none) = _
  have e1 : ((ws.map fun (w : List Nat) => (⟨w.toArray⟩ : Str)).map (·.length)).sum = ws.flatten.length := by
    rw [List.length_flatten, List.map_map]
    congr 1
  have e2 : ("" : Str).length = 0 := by rfl
  rw [e1, e2, Nat.mul_zero, if_pos (by omega)]
  have e3 : Txt.join "" (ws.map fun (w : List Nat) => (⟨w.toArray⟩ : Str)) = ⟨ws.flatten.toArray⟩ := by
    cases ws with
    | nil => rfl
    | cons w ws =>
      show (⟨((ws.map fun (w : List Nat) => (⟨w.toArray⟩ : Str)).foldl (fun acc p => acc ++ ("" : Str).cps ++ p.cps) w.toArray)⟩ : Str) = _
      congr 1
      apply Array.toList_inj.mp
      rw [fold_glue]
      simp
  rw [e3]
theorem chrs_wd (l : List Nat) : chrs l = (l.map fun c => [c]).map wd := by
  rw [List.map_map]; rfl
theorem flat1 : ∀ l : List Nat, (l.map fun c => [c]).flatten = l
  | [] => rfl
  | c :: l => by rw [List.map_cons, List.flatten_cons, flat1 l]; rfl
theorem joinC {l : List Nat} (h : l.length ≤ 16000000) : joinT "" (.lst (chrs l)) = some (wd l) := by
  have := joinW (ws := l.map fun c => [c]) (by rw [flat1]; exact h)
  rw [flat1] at this
  rw [chrs_wd]; exact this
theorem rng2 {f g : Ep.Env → M T} {env : Ep.Env} {r : RS} {i j : Int} (h1 : f env r = .ok (.int i) r) (h2 : g env r = .ok (.int j) r) (hi : -(2 ^ 62) ≤ i ∧ i < 2 ^ 62) (hj : -(2 ^ 62) ≤ j ∧ j < 2 ^ 62) : fRng2 f g env r = .ok (rngL i (j - i).toNat) r := by
  refine bind_ok (a := [.int i, .int j]) (r1 := r) (e_cons (x := .int i) (r1 := r) h1 (e_cons (x := .int j) (r1 := r) h2 rfl)) ?_
  show M.lift (if -(2 ^ 62) ≤ i ∧ i < 2 ^ 62 ∧ -(2 ^ 62) ≤ j ∧ j < 2 ^ 62 then some (rngL i (j - i).toNat) else none) r = _
  rw [if_pos ⟨hi.1, hi.2, hj.1, hj.2⟩]; rfl
def lt1 (A : List Nat) : T → T
  | .int m => one ((A[(m - 1).toNat]?).getD 0)
  | t => t
theorem e_str1 {h : Str → T → Option T} {f g : Ep.Env → M T} {env : Ep.Env} {r : RS} {a : Str} {y z : T} (h1 : f env r = .ok (.str a) r) (h2 : g env r = .ok y r) (h3 : h a y = some z) : fStr1 h f g env r = .ok z r := by
  refine bind_ok h1 (bind_ok h2 ?_)
  rw [h3]; rfl
end K62
namespace K62
open PySem Ep L2
abbrev AllL (l : List Nat) : Prop := ∀ c ∈ l, Ltr c
theorem ok_wd {l : List Nat} (h : AllL l) : PyData.strOk ⟨l.toArray⟩ = true := by
  unfold PyData.strOk
  rw [Array.all_eq_true_iff_forall_mem]
  intro c hc
  have := h c (by simpa using hc)
  rcases this with rfl | rfl | rfl | rfl <;> decide
theorem sh_wd {l : List Nat} (h : AllL l) : Sh 0 (wd l) := sh_str (ok_wd h)
theorem sh_pr (x y : Int) : Sh 1 (pr x y) := sh_tup fun t ht => by
  simp only [List.mem_cons, List.not_mem_nil, or_false] at ht
  rcases ht with rfl | rfl <;> exact sh_int _
theorem path_sh : ∀ (l : List Nat) (x y : Int), ∀ t ∈ path x y l, Sh 1 t
  | [], x, y, t, h => by
    rw [List.mem_singleton.mp (show t ∈ [pr x y] from h)]; exact sh_pr x y
  | c :: l, x, y, t, h => by
    rcases List.mem_cons.mp (show t ∈ pr x y :: path _ _ l from h) with rfl | h
    · exact sh_pr x y
    · exact path_sh l _ _ t h
theorem eqW {a b : List Nat} (ha : AllL a) (hb : AllL b) : eqT (wd a) (wd b) = some (decide (a = b)) := by
  rw [eq_sh (sh_wd ha) (sh_wd hb) (by decide) (d := .str ⟨a.toArray⟩) (e := .str ⟨b.toArray⟩) rfl rfl]
  show some ((⟨a.toArray⟩ : Str) == ⟨b.toArray⟩) = _
  by_cases c : a = b
  · subst c; simp
  · rw [decide_eq_false c]
    congr 1
    rw [beq_eq_false_iff_ne]
    intro z
    apply c
    have : a.toArray = b.toArray := congrArg Str.cps z
    simpa using this
theorem take_ltr {l : List Nat} (h : AllL l) (k : Nat) : AllL (l.take k) := fun c hc => h c (List.mem_of_mem_take hc)
theorem cut_wd {l : List Nat} {k : Nat} (hk : k ≤ l.length) (hl : l.length ≤ 100000) (r : RS) : slT r (wd l) none (some (k : Int)) = some (wd (l.take k)) := by
  show (if l.toArray.size ≤ 100000 then some (T.str (cutS ⟨l.toArray⟩ none (some (k : Int)))) else none) = _
  rw [List.size_toArray, if_pos hl]
  congr 2
  unfold cutS
  have e1 : (⟨l.toArray⟩ : Str).length = l.length := by show l.toArray.size = _; rw [List.size_toArray]
  rw [e1]
  have e2 : HT.sIx l.length l.length (some (k : Int)) = k := by rw [HT.sIx_nat]; omega
  have e3 : HT.sIx l.length 0 none = 0 := rfl
  rw [e2, e3]
  congr 1
theorem cut_wd2 {l : List Nat} {i k : Nat} (hk : i + k ≤ l.length) (hl : l.length ≤ 100000) (r : RS) : slT r (wd l) (some (i : Int)) (some ((i : Int) + k)) = some (wd ((l.drop i).take k)) := by
  show (if l.toArray.size ≤ 100000 then some (T.str (cutS ⟨l.toArray⟩ (some (i : Int)) (some ((i : Int) + k)))) else none) = _
  rw [List.size_toArray, if_pos hl]
  congr 2
  unfold cutS
  have e1 : (⟨l.toArray⟩ : Str).length = l.length := by show l.toArray.size = _; rw [List.size_toArray]
  rw [e1]
  have e2 : HT.sIx l.length l.length (some ((i : Int) + k)) = i + k := by
    rw [show (i : Int) + k = ((i + k : Nat) : Int) by omega, HT.sIx_nat]; omega
  have e3 : HT.sIx l.length 0 (some (i : Int)) = i := by rw [HT.sIx_nat]; omega
  rw [e2, e3, show i + k - i = k by omega]
structure OkW (l : List Nat) : Prop where
  w : AllL l
  l1 : 1 ≤ l.length
  l2 : l.length ≤ 24
theorem check_word {l : List Nat} (h : OkW l) (r : RS) : F_check_word [wd l] r = .ok .non r :=
  n_fnN (env' := envOf 0 [wd l]) (n_seq (n_ifF (r1 := r) (e_notB (b := true) (e_tru (x := .bl true) (e_call (ts := [wd l]) (r1 := r) rfl (is_word h.w h.l1 h.l2 r)) rfl)) rfl) rfl)
theorem offsets {l : List Nat} (h : OkW l) (r : RS) : F_offsets_of [wd l] r = .ok (.tup (path 0 0 l)) r :=
  n_fn (n_seq (n_expr (e_call (ts := [wd l]) (r1 := r) rfl (check_word h r))) (n_seqR (n_ret (e_call (ts := [wd l]) (r1 := r) rfl (path_of h.w (by have := h.l2; omega) r)))))
def fit (l : List Nat) : T → Bool
  | .int k => decide (l = rep (l.length / k.toNat) (l.take k.toNat))
  | _ => false
def dvs (n : Nat) : T → Bool
  | .int k => (n : Int) % k == 0
  | _ => false
theorem rng_mem {n : Nat} {t : T} (h : t ∈ rngL 1 n) : ∃ k : Nat, t = .int (k : Int) ∧ 1 ≤ k ∧ k ≤ n := by
  obtain ⟨i, hi, rfl⟩ := List.mem_map.mp h
  have := List.mem_range.mp hi
  exact ⟨1 + i, by show T.int (1 + (i : Nat)) = _; congr 1, by omega, by omega⟩
theorem fit_test {l : List Nat} (h : OkW l) {k : Nat} (k1 : 1 ≤ k) (k2 : k ≤ l.length) {f g m : Ep.Env → M T} {env : Ep.Env} {r : RS} (hf : f env r = .ok (wd l) r) (hg : g env r = .ok (.int (k : Int)) r) (hm : m env r = .ok (.int (l.length : Int)) r) :
    fCmpB eqT f (fBin mulT (fSl f none (some g)) (fBin divT m g)) env r = .ok (fit l (.int (k : Int))) r := by
  have l2 := h.l2
  have d : divT (.int (l.length : Int)) (.int (k : Int)) = some (.int ((l.length / k : Nat) : Int)) := by rw [divB (by omega) (by omega)]; congr 2
  have b : l.length / k ≤ 24 := Nat.le_trans (Nat.div_le_self _ _) h.l2
  have m1 := mulW (l := l.take k) (n := l.length / k) (by rw [List.length_take]; have := h.l2; omega) (by omega)
  have e := eqW h.w (b := rep (l.length / k) (l.take k)) (rep_ltr (take_ltr h.w k) _)
  have ef : fit l (.int (k : Int)) = decide (l = rep (l.length / k) (l.take k)) := by
    show decide (l = rep (l.length / (k : Int).toNat) (l.take (k : Int).toNat)) = _
    rw [Int.toNat_natCast]
  rw [ef]
  exact e_cmpB hf (e_bin (x := wd (l.take k)) (y := .int ((l.length / k : Nat) : Int)) (r1 := r) (fSlN hf hg (cut_wd k2 (by have := h.l2; omega) r)) (e_bin (x := .int (l.length : Int)) (y := .int (k : Int)) (r1 := r) hm hg d) m1) e
def fits (l : List Nat) : List T := (rngL 1 l.length).filter (fit l)
theorem rep_one (l : List Nat) : rep 1 l = l := by show l ++ [] = l; simp
theorem fits_some {l : List Nat} (h : OkW l) : ∃ (k : Nat) (xs : List T), fits l = .int (k : Int) :: xs ∧ 1 ≤ k ∧ k ≤ l.length := by
  have l1 := h.l1
  have m : T.int (l.length : Int) ∈ fits l := by
    refine List.mem_filter.mpr ⟨List.mem_map.mpr ⟨l.length - 1, List.mem_range.mpr (by omega), by congr 1; omega⟩, ?_⟩
    show decide (l = rep (l.length / (l.length : Int).toNat) (l.take (l.length : Int).toNat)) = true
    rw [Int.toNat_natCast, Nat.div_self (by omega), List.take_length, rep_one, decide_eq_true rfl]
  cases e : fits l with
  | nil => rw [e] at m; cases m
  | cons t xs =>
    have : t ∈ fits l := by rw [e]; exact List.mem_cons_self
    obtain ⟨k, rfl, k1, k2⟩ := rng_mem (List.mem_filter.mp this).1
    exact ⟨k, xs, rfl, k1, k2⟩
theorem fit_dvs {l : List Nat} (h : OkW l) {k : Nat} (k1 : 1 ≤ k) (k2 : k ≤ l.length) (hf : fit l (.int (k : Int)) = true) : dvs l.length (.int (k : Int)) = true := by
  have hf : decide (l = rep (l.length / (k : Int).toNat) (l.take (k : Int).toNat)) = true := hf
  rw [Int.toNat_natCast] at hf
  have hf := of_decide_eq_true hf
  have e : l.length = l.length / k * k := by
    have := congrArg List.length hf
    rw [rep_len, List.length_take, Nat.min_eq_left k2] at this
    exact this
  show ((l.length : Int) % (k : Int) == 0) = true
  rw [beq_iff_eq]
  have : l.length % k = 0 := Nat.mod_eq_zero_of_dvd ⟨l.length / k, by rw [Nat.mul_comm]; exact e⟩
  omega
theorem fits_two {l : List Nat} (h : OkW l) : ((rngL 1 l.length).filter (dvs l.length)).filter (fit l) = fits l := by
  rw [List.filter_filter]
  refine List.filter_congr fun t ht => ?_
  obtain ⟨k, rfl, k1, k2⟩ := rng_mem ht
  cases q : fit l (.int (k : Int)) with
  | false => rfl
  | true => rw [fit_dvs h k1 k2 q]; rfl
end K62
namespace K62
open PySem Ep L2
theorem two {n : Nat} {a b : T} (ha : Sh n a) (hb : Sh n b) : ∀ t ∈ [a, b], Sh n t := fun t ht => by
  simp only [List.mem_cons, List.not_mem_nil, or_false] at ht
  rcases ht with rfl | rfl
  · exact ha
  · exact hb
theorem sh_pt {p : Part} (h : OkP p) : Sh 1 (pt p) := sh_tup (two (sh_wd h.w) (sh_int _))
theorem sh_pts {P : List Part} (h : AllP P) : ∀ t ∈ pts P, Sh 1 t := fun t ht => by
  obtain ⟨p, hp, rfl⟩ := List.mem_map.mp ht
  exact sh_pt (h p hp)
theorem begL_sh : ∀ (P : List Part) (m x y : Int), ∀ t ∈ begL m x y P, Sh 2 t
  | [], _, _, _, t, h => by cases h
  | p :: P, m, x, y, t, h => by
    rcases List.mem_cons.mp (show t ∈ _ :: begL _ _ _ P from h) with rfl | h
    · exact sh_tup (two (sh_mono (sh_int _) (by decide)) (sh_pr _ _))
    · exact begL_sh P _ _ _ t h
theorem fp_sh : ∀ (P : List Part) (i : Nat) (b m : Int), Sh 1 (fpT i b P m)
  | [], _, _, _ => sh_mono sh_non (by decide)
  | p :: P, i, b, m => by
    show Sh 1 (if _ then _ else _)
    split
    · refine sh_tup fun t ht => ?_
      simp only [List.mem_cons, List.not_mem_nil, or_false] at ht
      rcases ht with rfl | rfl | rfl <;> exact sh_int _
    · exact fp_sh P _ _ _
theorem eqvAll_len : ∀ {ds es : List PyData}, PyData.eqvAll ds es = true → ds.length = es.length
  | [], [], _ => rfl
  | [], _ :: _, h => by cases h
  | _ :: _, [], h => by cases h
  | d :: ds, e :: es, h => by
    have h : (PyData.eqv d e && PyData.eqvAll ds es) = true := h
    rw [Bool.and_eq_true] at h
    rw [List.length_cons, List.length_cons, eqvAll_len h.2]
theorem ne_tup {n : Nat} {xs ys : List T} (hx : ∀ t ∈ xs, Sh n t) (hy : ∀ t ∈ ys, Sh n t) (hn : n ≤ 60) (hl : xs.length ≠ ys.length) : eqT (.tup xs) (.tup ys) = some false := by
  obtain ⟨ds, a1, a2, a3, a4⟩ := sh_all hx
  obtain ⟨es, b1, b2, b3, b4⟩ := sh_all hy
  have e1 : pyT (.tup xs) = some (.tuple ds) := by show (pyTs xs).map PyData.tuple = _; rw [a1]; rfl
  have e2 : pyT (.tup ys) = some (.tuple es) := by show (pyTs ys).map PyData.tuple = _; rw [b1]; rfl
  rw [eq_sh (sh_tup hx) (sh_tup hy) (by omega) e1 e2]
  congr 1
  show PyData.eqvAll ds es = false
  cases q : PyData.eqvAll ds es with
  | false => rfl
  | true => exact absurd (eqvAll_len q) (by omega)
def mvT (A : List Nat) (x y : Int) : T → T
  | .int m => pr (x + sx (A.take m.toNat)) (y + sy (A.take m.toNat))
  | t => t
def fpG (P : List Part) : T → T
  | .int m => fpT 0 0 P m
  | t => t
theorem rng1i {f : Ep.Env → M T} {env : Ep.Env} {r : RS} {i : Int} (h1 : f env r = .ok (.int i) r) (h : -(2 ^ 62) ≤ i ∧ i < 2 ^ 62) : fRng1 f env r = .ok (rngL 0 i.toNat) r := by
  refine bind_ok (a := [.int i]) (r1 := r) (e_cons (x := .int i) (r1 := r) h1 rfl) ?_
  show M.lift (if -(2 ^ 62) ≤ i ∧ i < 2 ^ 62 then some (rngL 0 i.toNat) else none) r = _
  rw [if_pos h]; rfl
theorem rng1 {f : Ep.Env → M T} {env : Ep.Env} {r : RS} {n : Nat} (h1 : f env r = .ok (.int (n : Int)) r) (h : n < 2 ^ 60) : fRng1 f env r = .ok (rngL 0 n) r := by
  have := rng1i h1 (by omega)
  rw [Int.toNat_natCast] at this
  exact this
theorem rng0_mem {n : Nat} {t : T} (h : t ∈ rngL 0 n) : ∃ k : Nat, t = .int (k : Int) ∧ k < n := by
  obtain ⟨i, hi, rfl⟩ := List.mem_map.mp h
  exact ⟨i, by show T.int (0 + (i : Nat)) = _; rw [Int.zero_add], List.mem_range.mp hi⟩
theorem path_map (A : List Nat) (x y : Int) : (rngL 0 (A.length + 1)).map (mvT A x y) = path x y A := by
  refine List.ext_getElem? fun i => ?_
  by_cases hi : i < A.length + 1
  · rw [path_at A x y i (by omega)]
    show (((List.range (A.length + 1)).map fun i => T.int (0 + (i : Nat))).map (mvT A x y))[i]? = _
    rw [List.getElem?_map, List.getElem?_map, List.getElem?_range hi]
    show some (pr (x + sx (A.take (0 + (i : Nat) : Int).toNat)) (y + sy (A.take (0 + (i : Nat) : Int).toNat))) = _
    rw [show (0 + (i : Nat) : Int).toNat = i by omega]
  · rw [List.getElem?_eq_none (by simp [rngL]; omega), List.getElem?_eq_none (by rw [path_len]; omega)]
theorem mv_ok {x y : Int} {P : List Part} (h : AllP P) (hl : P.length ≤ 6) {k : Nat} (hk : k < (flat P).length + 1) (r : RS) : F_Walk_at [wk x y P, .int (k : Int)] r = .ok (mvT (flat P) x y (.int (k : Int))) r := by
  have fl := flat_len P
  have em : mvT (flat P) x y (.int (k : Int)) = pr (x + sx ((flat P).take k)) (y + sy ((flat P).take k)) := by
    show pr (x + sx ((flat P).take (k : Int).toNat)) (y + sy ((flat P).take (k : Int).toNat)) = _
    rw [Int.toNat_natCast]
  rw [em]
  by_cases c : k = 0
  · subst c
    have := at_none (x := x) (y := y) h hl (Int.le_refl 0) (fp_none P 0 0 0 (.inl (Int.le_refl _))) r
    rw [if_pos rfl] at this
    have e : pr (x + sx ((flat P).take 0)) (y + sy ((flat P).take 0)) = pr x y := by simp [sx, sy]
    rw [e]; exact this
  · exact at_some h hl (by omega) (by omega) r
end K62
namespace K62
open PySem Ep L2
def Pool (k : Nat) (r : RS) : Prop := ∃ a b : Int, r[k]? = some [.int a, .int b]
theorem rng1s {f : Ep.Env → M T} {env : Ep.Env} {r r1 : RS} {i : Int} (h1 : f env r = .ok (.int i) r1) (h : -(2 ^ 62) ≤ i ∧ i < 2 ^ 62) : fRng1 f env r = .ok (rngL 0 i.toNat) r1 := by
  refine bind_ok (a := [.int i]) (r1 := r1) (e_cons (x := .int i) (r1 := r1) h1 rfl) ?_
  show M.lift (if -(2 ^ 62) ≤ i ∧ i < 2 ^ 62 then some (rngL 0 i.toNat) else none) r1 = _
  rw [if_pos h]; rfl
theorem chrs_of : ∀ {ys : List T}, (∀ y ∈ ys, ∃ c, y = one c ∧ Ltr c) → ∃ l, ys = chrs l ∧ AllL l
  | [], _ => ⟨[], rfl, fun _ h => by cases h⟩
  | y :: ys, h => by
    obtain ⟨c, rfl, hc⟩ := h y List.mem_cons_self
    obtain ⟨l, e, hl⟩ := chrs_of fun z hz => h z (List.mem_cons_of_mem _ hz)
    refine ⟨c :: l, by rw [e]; rfl, fun d hd => ?_⟩
    rcases List.mem_cons.mp hd with rfl | hd
    · exact hc
    · exact hl d hd
theorem addW {a b : List Nat} (h : a.length + b.length ≤ 100000) : addT (wd a) (wd b) = some (wd (a ++ b)) := by
  show (if a.toArray.size + b.toArray.size ≤ 100000 then some (T.str ((⟨a.toArray⟩ : Str) ++ ⟨b.toArray⟩)) else none) = _
  rw [List.size_toArray, List.size_toArray, if_pos h]
  show some (T.str ⟨a.toArray ++ b.toArray⟩) = _
  rw [List.append_toArray]
theorem revW {l : List Nat} (h : l.length ≤ 100000) : revT (wd l) = some (wd l.reverse) := by
  show (if l.toArray.size ≤ 100000 then some (T.str (revS ⟨l.toArray⟩)) else none) = _
  rw [List.size_toArray, if_pos h]; rfl
def six : List T := [.str "E", .str "N", .str "W", .str "S", .str "E", .str "N"]
theorem six_one {t : T} (h : t ∈ six) : ∃ c, t = one c ∧ Ltr c := by
  simp only [six, List.mem_cons, List.not_mem_nil, or_false] at h
  rcases h with rfl | rfl | rfl | rfl | rfl | rfl
  · exact ⟨69, rfl, .inl rfl⟩
  · exact ⟨78, rfl, .inr (.inl rfl)⟩
  · exact ⟨87, rfl, .inr (.inr (.inl rfl))⟩
  · exact ⟨83, rfl, .inr (.inr (.inr rfl))⟩
  · exact ⟨69, rfl, .inl rfl⟩
  · exact ⟨78, rfl, .inr (.inl rfl)⟩
structure Drawn (P : List Part) : Prop where
  ok : AllP P
  len : P.length ≤ 4
  few : ∀ p ∈ P, p.1.length ≤ 8 ∧ p.2 ≤ 5
theorem pts_of : ∀ {ys : List T}, (∀ y ∈ ys, ∃ p : Part, y = pt p ∧ OkP p ∧ p.1.length ≤ 8 ∧ p.2 ≤ 5) → ∃ P, ys = pts P ∧ AllP P ∧ ∀ p ∈ P, p.1.length ≤ 8 ∧ p.2 ≤ 5
  | [], _ => ⟨[], rfl, (fun _ h => by cases h), (fun _ h => by cases h)⟩
  | y :: ys, h => by
    obtain ⟨p, rfl, hp, hq⟩ := h y List.mem_cons_self
    obtain ⟨P, e, h1, h2⟩ := pts_of fun z hz => h z (List.mem_cons_of_mem _ hz)
    refine ⟨p :: P, by rw [e]; rfl, fun d hd => ?_, fun d hd => ?_⟩
    · rcases List.mem_cons.mp hd with rfl | hd
      · exact hp
      · exact h1 d hd
    · rcases List.mem_cons.mp hd with rfl | hd
      · exact hq
      · exact h2 d hd
end K62
namespace K62
open PySem Ep L2
/-! the same of a made walk -/
abbrev wk5 (x y : Int) (P : List Part) : T := .obj 5 [pr x y, .tup (pts P)]
theorem legs5 {x y : Int} {P : List Part} (h : ∀ p ∈ P, OkP p) (hl : P.length < 80000) (r : RS) : F_Walk_legs [wk5 x y P] r = .ok (.lst (legL 0 x y P)) r := by
  obtain ⟨m', c', s4', s5', w⟩ := lg_loop (.val (wk5 x y P)) r P [] 0 x y .un .un h (by simp; omega)
  exact n_fn (n_seq (n_own (xs := []) (r1 := r) rfl) (n_seq (n_par2 (x := .int 0) (y := pr x y) (r1 := r) (r2 := r) rfl rfl) (n_seq (n_for (xs := pts P) (r1 := r) rfl w) (n_seqR (n_frz (n_ret rfl))))))
theorem begins5 {x y : Int} {P : List Part} (h : AllP P) (hl : P.length ≤ 6) (r : RS) : F_Walk_begins [wk5 x y P] r = .ok (.lst (begL 0 x y P)) r := by
  have c : compF [1, 2, 3, 4] (hTupL 4 (hCons (hName 1) (hCons (hName 2) (hCons (hName 3) (hCons (hName 4) hNil))))) fYes (fTup [(fVar 1), (fVar 2)]) (legL 0 x y P) [] [.val (wk5 x y P), .un, .un, .un, .un] r = .ok ([] ++ (legL 0 x y P).map bg) r := by
    refine comp_map bg _ _ r (fun t ht => ?_) (by rw [legL_len]; simp; omega)
    obtain ⟨a, b, c, d, rfl⟩ := legL_mem ht
    exact ⟨[.val (wk5 x y P), .val a, .val b, .val c, .val d], rfl, rfl, rfl⟩
  rw [List.nil_append, legL_bg] at c
  exact n_fn (n_seqR (n_ret (e_own (bind_ok (a := legL 0 x y P) (r1 := r) (bind_ok (a := .lst (legL 0 x y P)) (r1 := r) (e_self rfl (legs5 h (by omega) r)) rfl) c))))
theorem goal5 {x y : Int} {P : List Part} (h : AllP P) (r : RS) : F_Walk_goal [wk5 x y P] r = .ok (pr (x + sx (flat P)) (y + sy (flat P))) r := by
  obtain ⟨s2, s3, w⟩ := go_loop (.val (wk5 x y P)) r P x y .un .un h
  exact n_fn (n_seq (n_set (t := pr x y) (r1 := r) rfl) (n_seq (n_for (xs := pts P) (r1 := r) rfl w) (n_seqR (n_ret rfl))))
theorem part_at5 {x y m : Int} {P : List Part} (h : AllP P) (hl : P.length ≤ 6) (hm : 0 ≤ m) (r : RS) : F_Walk_part_at [wk5 x y P, .int m] r = .ok (fpT 0 0 P m) r := by
  have fi : ∀ s2 s3 s4 s5 s6 s7 : Slot, fEnumA (fMethP [4, 5] F_Walk_legs [] (fVar 0) []) [.val (wk5 x y P), .val (.int m), s2, s3, s4, s5, s6, s7] r = .ok (enumL 0 (legL 0 x y P)) r := fun s2 s3 s4 s5 s6 s7 => by
    refine bind_ok (a := [.lst (legL 0 x y P)]) (r1 := r) (e_cons (x := .lst (legL 0 x y P)) (r1 := r) (e_self rfl (legs5 h (by omega) r)) rfl) rfl
  rcases pa_loop (.val (wk5 x y P)) m r P 0 0 x y .un .un .un .un .un .un h with ⟨e1, e, w⟩ | w
  · rw [e1]
    exact n_fn (n_seq (n_expr (e_call (ts := [.int m]) (r1 := r) rfl (check_moment m hm r))) (n_seq (n_for (fi _ _ _ _ _ _) w) (n_seqR (n_ret rfl))))
  · exact n_fn (n_seq (n_expr (e_call (ts := [.int m]) (r1 := r) rfl (check_moment m hm r))) (n_seqR (n_for (fi _ _ _ _ _ _) w)))
theorem at_none5 {x y m : Int} {P : List Part} (h : AllP P) (hl : P.length ≤ 6) (hm : 0 ≤ m) (hf : fpT 0 0 P m = .non) (r : RS) : F_Walk_at [wk5 x y P, .int m] r = .ok (if m = 0 then pr x y else .non) r := by
  have e := part_at5 (x := x) (y := y) h hl hm r
  rw [hf] at e
  refine n_fn (n_seq (n_set (e_meth1 rfl rfl e)) (n_seqR (n_ifT (r1 := r) (e_cmpB (x := .non) (y := .non) (r1 := r) (r2 := r) rfl rfl rfl) (n_seqR (n_ret ?_)))))
  by_cases c : m = 0
  · rw [if_pos c]
    exact e_ifT (r1 := r) (e_cmpB (x := .int m) (y := .int 0) (r1 := r) (r2 := r) rfl rfl (by rw [eq_int, c]; rfl)) rfl
  · rw [if_neg c]
    exact e_ifF (r1 := r) (e_cmpB (x := .int m) (y := .int 0) (r1 := r) (r2 := r) rfl rfl (by rw [eq_int]; simp [c])) rfl
theorem at_some5 {x y : Int} {n : Nat} {P : List Part} (h : AllP P) (hl : P.length ≤ 6) (h0 : 0 < n) (h1 : (n : Int) ≤ tot P) (r : RS) : F_Walk_at [wk5 x y P, .int n] r = .ok (pr (x + sx ((flat P).take n)) (y + sy ((flat P).take n))) r := by
  obtain ⟨j, p, u, s, e1, e2, e3, e4, e5⟩ := fp_some P 0 0 n h (by omega) (by omega)
  have hp := h p (List.mem_of_getElem? e1)
  have b2 := hp.l2
  have b3 := hp.n
  have e := part_at5 (x := x) (y := y) h hl (show (0 : Int) ≤ n by omega) r
  rw [e2, Nat.zero_add] at e
  have ft := flat_take (P := P) (j := j) (u := u) (s := s + 1) (n := n) e1 e3 (by omega) (by omega)
  have lg := legL_at P j p 0 x y e1
  have lj := legs5 (x := x) (y := y) h (by omega) r
  have i1 : ixT r (.lst (legL 0 x y P)) (.int (j : Nat)) = some _ := atI_nat lg
  have i2 : ixT r (.tup (path 0 0 p.1)) (.int (-1)) = some (pr (sx p.1) (sy p.1)) := by
    have := path_lastI p.1 0 0
    rw [Int.zero_add, Int.zero_add] at this
    exact this
  have i3 : ixT r (.tup (path 0 0 p.1)) (.int ((s : Int) + 1)) = some (pr (sx (p.1.take (s + 1))) (sy (p.1.take (s + 1)))) := by
    have := path_nat p.1 0 0 (s + 1) (by omega)
    rw [Int.zero_add, Int.zero_add] at this
    exact this
  have s1 := shifted (a := x + sx (flat (P.take j))) (b := y + sy (flat (P.take j))) (c := sx p.1) (d := sy p.1) (t := (u : Int)) (by omega) (by omega) r
  have s2 := shifted (a := x + sx (flat (P.take j)) + sx p.1 * (u : Int)) (b := y + sy (flat (P.take j)) + sy p.1 * (u : Int)) (c := sx (p.1.take (s + 1))) (d := sy (p.1.take (s + 1))) (t := 1) (by decide) (by decide) r
  have ex : x + sx ((flat P).take n) = x + sx (flat (P.take j)) + sx p.1 * (u : Int) + sx (p.1.take (s + 1)) * 1 := by
    rw [ft, sx_app, sx_app, rep_sx]; omega
  have ey : y + sy ((flat P).take n) = y + sy (flat (P.take j)) + sy p.1 * (u : Int) + sy (p.1.take (s + 1)) * 1 := by
    rw [ft, sy_app, sy_app, rep_sy]; omega
  rw [ex, ey]
  refine n_fn (n_seq (n_set (e_meth1 rfl rfl e)) (n_seq (n_ifF (r1 := r) (e_cmpB (x := .tup [.int (j : Nat), .int (u : Int), .int ((s : Int) + 1)]) (y := .non) (r1 := r) (r2 := r) rfl rfl rfl) rfl) ?_))
  refine n_seq (n_asg (r1 := r) (e_ix (x := .lst (legL 0 x y P)) (y := .int (j : Nat)) (r1 := r) (r2 := r) (e_self rfl lj) (e_ix (x := .tup [.int (j : Nat), .int (u : Int), .int ((s : Int) + 1)]) (y := .int 0) (r1 := r) (r2 := r) rfl rfl rfl) i1) rfl) ?_
  refine n_seq (n_set (e_call (ts := [wd p.1]) (r1 := r) rfl (path_of hp.w (by omega) r))) (n_seqR (n_ret ?_))
  refine e_call (ts := [pr (x + sx (flat (P.take j)) + sx p.1 * (u : Int)) (y + sy (flat (P.take j)) + sy p.1 * (u : Int)), pr (sx (p.1.take (s + 1))) (sy (p.1.take (s + 1)))]) (r1 := r) (e_cons (x := pr (x + sx (flat (P.take j)) + sx p.1 * (u : Int)) (y + sy (flat (P.take j)) + sy p.1 * (u : Int))) (r1 := r) ?_ (e_cons (x := pr (sx (p.1.take (s + 1))) (sy (p.1.take (s + 1)))) (r1 := r) ?_ rfl)) s2
  · exact e_call (ts := [pr (x + sx (flat (P.take j))) (y + sy (flat (P.take j))), pr (sx p.1) (sy p.1), .int (u : Int)]) (r1 := r) (e_cons (x := pr (x + sx (flat (P.take j))) (y + sy (flat (P.take j)))) (r1 := r) rfl (e_cons (x := pr (sx p.1) (sy p.1)) (r1 := r) (e_ix (x := .tup (path 0 0 p.1)) (y := .int (-1)) (r1 := r) (r2 := r) rfl rfl i2) (e_cons (x := .int (u : Int)) (r1 := r) (e_ix (x := .tup [.int (j : Nat), .int (u : Int), .int ((s : Int) + 1)]) (y := .int 1) (r1 := r) (r2 := r) rfl rfl rfl) rfl))) s1
  · exact e_ix (x := .tup (path 0 0 p.1)) (y := .int ((s : Int) + 1)) (r1 := r) (r2 := r) rfl (e_ix (x := .tup [.int (j : Nat), .int (u : Int), .int ((s : Int) + 1)]) (y := .int 2) (r1 := r) (r2 := r) rfl rfl rfl) i3
theorem mv_ok5 {x y : Int} {P : List Part} (h : AllP P) (hl : P.length ≤ 6) {k : Nat} (hk : k < (flat P).length + 1) (r : RS) : F_Walk_at [wk5 x y P, .int (k : Int)] r = .ok (mvT (flat P) x y (.int (k : Int))) r := by
  have fl := flat_len P
  have em : mvT (flat P) x y (.int (k : Int)) = pr (x + sx ((flat P).take k)) (y + sy ((flat P).take k)) := by
    show pr (x + sx ((flat P).take (k : Int).toNat)) (y + sy ((flat P).take (k : Int).toNat)) = _
    rw [Int.toNat_natCast]
  rw [em]
  by_cases c : k = 0
  · subst c
    have := at_none5 (x := x) (y := y) h hl (Int.le_refl 0) (fp_none P 0 0 0 (.inl (Int.le_refl _))) r
    rw [if_pos rfl] at this
    have e : pr (x + sx ((flat P).take 0)) (y + sy ((flat P).take 0)) = pr x y := by simp [sx, sy]
    rw [e]; exact this
  · exact at_some5 h hl (by omega) (by omega) r
end K62
namespace K62
open PySem Ep L2
/-! closed walks: sums and bounds of a path -/
def ar (x : Int) : List Nat → Int
  | [] => 0
  | c :: l => x * dy c + ar (x + dx c) l
theorem ar_cons (x : Int) (c : Nat) (l : List Nat) : ar x (c :: l) = x * dy c + ar (x + dx c) l := rfl
theorem ar_app : ∀ (a b : List Nat) (x : Int), ar x (a ++ b) = ar x a + ar (x + sx a) b
  | [], b, x => by simp [ar, sx]
  | c :: a, b, x => by
    rw [List.cons_append, ar_cons, ar_cons, ar_app a b, sx_cons, Int.add_assoc x, Int.add_assoc]
theorem ar_sh : ∀ (l : List Nat) (x k : Int), ar (x + k) l = ar x l + k * sy l
  | [], x, k => by simp [ar, sy]
  | c :: l, x, k => by
    rw [ar_cons, ar_cons, sy_cons, show x + k + dx c = x + dx c + k by omega, ar_sh l, Int.add_mul, Int.mul_add]
    omega
def tri : Nat → Int
  | 0 => 0
  | n + 1 => tri n + n
theorem tri_two : ∀ n : Nat, 2 * tri n = (n : Int) * ((n : Int) - 1)
  | 0 => rfl
  | n + 1 => by
    have := tri_two n
    have e : ((n + 1 : Nat) : Int) * (((n + 1 : Nat) : Int) - 1) = (n : Int) * ((n : Int) - 1) + 2 * n := by
      rw [show ((n + 1 : Nat) : Int) = (n : Int) + 1 from rfl]; grind
    rw [e, ← this]
    show 2 * (tri n + n) = _
    omega
theorem tri_div (n : Nat) : (n : Int) * ((n : Int) - 1) / 2 = tri n := by
  have := tri_two n
  omega
theorem ar_rep : ∀ (n : Nat) (l : List Nat) (x : Int), ar x (rep n l) = (n : Int) * ar x l + sx l * sy l * tri n
  | 0, l, x => by simp [rep, ar, tri]
  | n + 1, l, x => by
    show ar x (l ++ rep n l) = _
    rw [ar_app, ar_rep n l, ar_sh l x (sx l), show ((n + 1 : Nat) : Int) = (n : Int) + 1 from rfl, show tri (n + 1) = tri n + n from rfl]
    grind
theorem flat_app : ∀ (P Q : List Part), flat (P ++ Q) = flat P ++ flat Q
  | [], Q => rfl
  | p :: P, Q => by
    show rep _ _ ++ flat (P ++ Q) = _
    rw [flat_app P Q, ← List.append_assoc]; rfl
/-! turned back -/
def opp (c : Nat) : Nat := if c = 69 then 87 else if c = 87 then 69 else if c = 78 then 83 else if c = 83 then 78 else c
theorem opp_l {c : Nat} (h : Ltr c) : Ltr (opp c) := by
  rcases h with rfl | rfl | rfl | rfl
  · exact .inr (.inr (.inl rfl))
  · exact .inr (.inr (.inr rfl))
  · exact .inl rfl
  · exact .inr (.inl rfl)
theorem dx_opp {c : Nat} (h : Ltr c) : dx (opp c) = - dx c := by rcases h with rfl | rfl | rfl | rfl <;> rfl
theorem dy_opp {c : Nat} (h : Ltr c) : dy (opp c) = - dy c := by rcases h with rfl | rfl | rfl | rfl <;> rfl
theorem dxy {c : Nat} (h : Ltr c) : dx c * dy c = 0 := by rcases h with rfl | rfl | rfl | rfl <;> rfl
def back (l : List Nat) : List Nat := l.reverse.map opp
theorem back_cons (c : Nat) (l : List Nat) : back (c :: l) = back l ++ [opp c] := by unfold back; simp
theorem back_app (a b : List Nat) : back (a ++ b) = back b ++ back a := by unfold back; simp
theorem back_len (l : List Nat) : (back l).length = l.length := by unfold back; simp
theorem AllL.hd {c : Nat} {l : List Nat} (h : AllL (c :: l)) : Ltr c := h c List.mem_cons_self
theorem AllL.tl {c : Nat} {l : List Nat} (h : AllL (c :: l)) : AllL l := fun d hd => h d (List.mem_cons_of_mem _ hd)
theorem back_l {l : List Nat} (h : AllL l) : AllL (back l) := fun c hc => by
  obtain ⟨d, hd, rfl⟩ := List.mem_map.mp hc
  exact opp_l (h d (List.mem_reverse.mp hd))
theorem sx_back : ∀ {l : List Nat}, AllL l → sx (back l) = - sx l
  | [], _ => rfl
  | c :: l, h => by rw [back_cons, sx_app, sx_back h.tl, sx_cons, sx_cons, dx_opp h.hd, show sx [] = 0 from rfl]; omega
theorem sy_back : ∀ {l : List Nat}, AllL l → sy (back l) = - sy l
  | [], _ => rfl
  | c :: l, h => by rw [back_cons, sy_app, sy_back h.tl, sy_cons, sy_cons, dy_opp h.hd, show sy [] = 0 from rfl]; omega
theorem ar_back : ∀ {l : List Nat}, AllL l → ∀ x, ar (x + sx l) (back l) = - ar x l
  | [], _, x => rfl
  | c :: l, h, x => by
    have ih := ar_back h.tl (x + dx c)
    have z := dxy h.hd
    rw [back_cons, ar_app, sx_back h.tl, sx_cons, ar_cons, ar_cons, dy_opp h.hd, show x + (dx c + sx l) = x + dx c + sx l by omega, ih, show ar (x + dx c + sx l + -sx l + dx (opp c)) [] = 0 from rfl, show x + dx c + sx l + -sx l = x + dx c by omega, Int.mul_neg, Int.add_mul, z]
    omega
theorem path_snoc (l : List Nat) (c : Nat) (x y : Int) : path x y (l ++ [c]) = path x y l ++ [pr (x + sx l + dx c) (y + sy l + dy c)] := by
  obtain ⟨zs, e1, e2⟩ := path_app l [c] x y
  rw [e2, e1, List.append_assoc]; rfl
theorem path_back : ∀ {l : List Nat}, AllL l → ∀ x y, path (x + sx l) (y + sy l) (back l) = (path x y l).reverse
  | [], _, x, y => by
    show [pr (x + 0) (y + 0)] = [pr x y]
    rw [Int.add_zero, Int.add_zero]
  | c :: l, h, x, y => by
    have ih := path_back h.tl (x + dx c) (y + dy c)
    rw [back_cons, path_snoc, path_cons, List.reverse_cons, sx_back h.tl, sy_back h.tl, dx_opp h.hd, dy_opp h.hd, sx_cons, sy_cons, ← ih,
      show x + (dx c + sx l) = x + dx c + sx l by omega, show y + (dy c + sy l) = y + dy c + sy l by omega,
      show x + dx c + sx l + -sx l + -dx c = x by omega, show y + dy c + sy l + -sy l + -dy c = y by omega]
def backP (P : List Part) : List Part := P.reverse.map fun p => (back p.1, p.2)
theorem rep_comm (l : List Nat) : ∀ n, l ++ rep n l = rep n l ++ l
  | 0 => by simp [rep]
  | n + 1 => by
    show l ++ (l ++ rep n l) = l ++ rep n l ++ l
    rw [List.append_assoc, rep_comm l n]
theorem back_rep (l : List Nat) : ∀ n, back (rep n l) = rep n (back l)
  | 0 => rfl
  | n + 1 => by
    show back (l ++ rep n l) = back l ++ rep n (back l)
    rw [back_app, back_rep l n, rep_comm]
theorem flat_back : ∀ P : List Part, flat (backP P) = back (flat P)
  | [] => rfl
  | p :: P => by
    have e : backP (p :: P) = backP P ++ [(back p.1, p.2)] := by unfold backP; simp
    rw [e, flat_app, flat_back P]
    show back (flat P) ++ (rep p.2 (back p.1) ++ []) = back (rep p.2 p.1 ++ flat P)
    rw [back_app, back_rep, List.append_nil]
theorem backP_all {P : List Part} (h : AllP P) : AllP (backP P) := fun q hq => by
  obtain ⟨p, hp, rfl⟩ := List.mem_map.mp hq
  have o := h p (List.mem_reverse.mp hp)
  exact ⟨back_l o.w, by rw [back_len]; exact o.l1, by rw [back_len]; exact o.l2, o.n⟩
theorem backP_len (P : List Part) : (backP P).length = P.length := by unfold backP; simp
/-! the points of a path -/
abbrev Pnt := Int × Int
abbrev pT (q : Pnt) : T := pr q.1 q.2
def pp (x y : Int) : List Nat → List Pnt
  | [] => [(x, y)]
  | c :: l => (x, y) :: pp (x + dx c) (y + dy c) l
theorem path_pp : ∀ (l : List Nat) (x y : Int), path x y l = (pp x y l).map pT
  | [], _, _ => rfl
  | c :: l, x, y => by
    rw [path_cons, path_pp l]; rfl
theorem pp_hd (l : List Nat) (x y : Int) : (x, y) ∈ pp x y l := by cases l <;> exact List.mem_cons_self
theorem pp_app : ∀ (a b : List Nat) (x y : Int) (q : Pnt), q ∈ pp x y (a ++ b) ↔ q ∈ pp x y a ∨ q ∈ pp (x + sx a) (y + sy a) b
  | [], b, x, y, q => by
    show q ∈ pp x y b ↔ q ∈ [(x, y)] ∨ q ∈ pp (x + 0) (y + 0) b
    rw [Int.add_zero, Int.add_zero]
    exact ⟨.inr, fun h => h.elim (fun e => by rw [List.mem_singleton.mp e]; exact pp_hd b x y) id⟩
  | c :: a, b, x, y, q => by
    show q ∈ (x, y) :: pp _ _ (a ++ b) ↔ q ∈ (x, y) :: pp _ _ a ∨ _
    rw [List.mem_cons, List.mem_cons, pp_app a b, or_assoc, sx_cons, sy_cons, Int.add_assoc, Int.add_assoc]
abbrev mv (x y : Int) (q : Pnt) : Pnt := (x + q.1, y + q.2)
theorem pp_mv : ∀ (l : List Nat) (x y a b : Int), pp (x + a) (y + b) l = (pp a b l).map (mv x y)
  | [], _, _, _, _ => rfl
  | c :: l, x, y, a, b => by
    show (x + a, y + b) :: pp (x + a + dx c) (y + b + dy c) l = mv x y (a, b) :: (pp (a + dx c) (b + dy c) l).map (mv x y)
    rw [Int.add_assoc, Int.add_assoc, pp_mv l]
theorem pp_0 (l : List Nat) (x y : Int) : pp x y l = (pp 0 0 l).map (mv x y) := by
  have := pp_mv l x y 0 0
  rwa [Int.add_zero, Int.add_zero] at this
theorem pp_rep (l : List Nat) : ∀ (n : Nat) (x y : Int) (q : Pnt), q ∈ pp x y (rep n l) ↔ q = (x, y) ∨ ∃ t o, t < n ∧ o ∈ pp 0 0 l ∧ q = (x + sx l * (t : Nat) + o.1, y + sy l * (t : Nat) + o.2)
  | 0, x, y, q => by
    show q ∈ [(x, y)] ↔ _
    rw [List.mem_singleton]
    exact ⟨.inl, fun h => h.elim id fun ⟨_, _, h, _⟩ => absurd h (Nat.not_lt_zero _)⟩
  | n + 1, x, y, q => by
    show q ∈ pp x y (l ++ rep n l) ↔ _
    rw [pp_app, pp_rep l n, pp_0, List.mem_map]
    constructor
    · rintro (⟨o, ho, rfl⟩ | rfl | ⟨t, o, ht, ho, rfl⟩)
      · exact .inr ⟨0, o, Nat.succ_pos _, ho, by simp⟩
      · refine .inr ⟨0, (sx l, sy l), Nat.succ_pos _, ?_, by simp⟩
        have := (pp_app l [] 0 0 (sx l, sy l)).mpr (.inr (by show _ ∈ [(_, _)]; simp))
        rwa [List.append_nil] at this
      · refine .inr ⟨t + 1, o, Nat.succ_lt_succ ht, ho, ?_⟩
        rw [show ((t + 1 : Nat) : Int) = (t : Int) + 1 from rfl, Int.mul_add, Int.mul_add, Int.mul_one, Int.mul_one]
        refine Prod.ext ?_ ?_ <;> dsimp only <;> omega
    · rintro (rfl | ⟨t, o, ht, ho, rfl⟩)
      · exact .inl ⟨(0, 0), pp_hd l 0 0, by simp⟩
      · cases t with
        | zero => exact .inl ⟨o, ho, by simp⟩
        | succ t =>
          refine .inr (.inr ⟨t, o, Nat.lt_of_succ_lt_succ ht, ho, ?_⟩)
          rw [show ((t + 1 : Nat) : Int) = (t : Int) + 1 from rfl, Int.mul_add, Int.mul_add, Int.mul_one, Int.mul_one]
          refine Prod.ext ?_ ?_ <;> dsimp only <;> omega
/-! bounds -/
structure Ends (L : List Pnt) (a b c d : Int) : Prop where
  a : minL (L.map Prod.fst) = some a
  b : maxL (L.map Prod.fst) = some b
  c : minL (L.map Prod.snd) = some c
  d : maxL (L.map Prod.snd) = some d
theorem min_is {xs : List Int} {m : Int} (h1 : m ∈ xs) (h2 : ∀ y ∈ xs, m ≤ y) : minL xs = some m := by
  cases xs with
  | nil => nomatch h1
  | cons x xs =>
    obtain ⟨m1, m2⟩ := foldmin_spec xs x
    have := m2 m h1
    have := h2 _ m1
    show some _ = some m
    congr 1
    omega
theorem max_is {xs : List Int} {m : Int} (h1 : m ∈ xs) (h2 : ∀ y ∈ xs, y ≤ m) : maxL xs = some m := by
  cases xs with
  | nil => nomatch h1
  | cons x xs =>
    obtain ⟨m1, m2⟩ := foldmax_spec xs x
    have := m2 m h1
    have := h2 _ m1
    show some _ = some m
    congr 1
    omega
theorem is_min {xs : List Int} {m : Int} (h : minL xs = some m) : m ∈ xs ∧ ∀ y ∈ xs, m ≤ y := by
  cases xs with
  | nil => nomatch h
  | cons x xs => cases h; exact foldmin_spec xs x
theorem is_max {xs : List Int} {m : Int} (h : maxL xs = some m) : m ∈ xs ∧ ∀ y ∈ xs, y ≤ m := by
  cases xs with
  | nil => nomatch h
  | cons x xs => cases h; exact foldmax_spec xs x
theorem ends_of {L : List Pnt} (h : L ≠ []) : ∃ a b c d, Ends L a b c d := by
  cases L with
  | nil => exact absurd rfl h
  | cons q L => exact ⟨_, _, _, _, rfl, rfl, rfl, rfl⟩
structure Sand (K : List Pnt) (q : Pnt) : Prop where
  a : ∃ k ∈ K, k.1 ≤ q.1
  b : ∃ k ∈ K, q.1 ≤ k.1
  c : ∃ k ∈ K, k.2 ≤ q.2
  d : ∃ k ∈ K, q.2 ≤ k.2
theorem Sand.self {K : List Pnt} {q : Pnt} (h : q ∈ K) : Sand K q := ⟨⟨q, h, Int.le_refl _⟩, ⟨q, h, Int.le_refl _⟩, ⟨q, h, Int.le_refl _⟩, ⟨q, h, Int.le_refl _⟩⟩
theorem Sand.mono {K K' : List Pnt} {q : Pnt} (s : Sand K q) (h : ∀ k ∈ K, k ∈ K') : Sand K' q :=
  ⟨let ⟨k, m, e⟩ := s.a; ⟨k, h k m, e⟩, let ⟨k, m, e⟩ := s.b; ⟨k, h k m, e⟩, let ⟨k, m, e⟩ := s.c; ⟨k, h k m, e⟩, let ⟨k, m, e⟩ := s.d; ⟨k, h k m, e⟩⟩
theorem ends_eq {K L : List Pnt} {a b c d : Int} (e : Ends L a b c d) (h1 : ∀ k ∈ K, k ∈ L) (h2 : ∀ q ∈ L, Sand K q) : Ends K a b c d := by
  have mem : ∀ {f : Pnt → Int} {m : Int}, m ∈ K.map f → m ∈ L.map f := fun h => by
    obtain ⟨k, hk, rfl⟩ := List.mem_map.mp h
    exact List.mem_map.mpr ⟨k, h1 k hk, rfl⟩
  obtain ⟨a1, a2⟩ := is_min e.a
  obtain ⟨b1, b2⟩ := is_max e.b
  obtain ⟨c1, c2⟩ := is_min e.c
  obtain ⟨d1, d2⟩ := is_max e.d
  refine ⟨min_is ?_ fun y hy => a2 y (mem hy), max_is ?_ fun y hy => b2 y (mem hy), min_is ?_ fun y hy => c2 y (mem hy), max_is ?_ fun y hy => d2 y (mem hy)⟩
  · obtain ⟨q, hq, rfl⟩ := List.mem_map.mp a1
    obtain ⟨k, hk, l⟩ := (h2 q hq).a
    have := a2 k.1 (mem (List.mem_map.mpr ⟨k, hk, rfl⟩))
    exact List.mem_map.mpr ⟨k, hk, by omega⟩
  · obtain ⟨q, hq, rfl⟩ := List.mem_map.mp b1
    obtain ⟨k, hk, l⟩ := (h2 q hq).b
    have := b2 k.1 (mem (List.mem_map.mpr ⟨k, hk, rfl⟩))
    exact List.mem_map.mpr ⟨k, hk, by omega⟩
  · obtain ⟨q, hq, rfl⟩ := List.mem_map.mp c1
    obtain ⟨k, hk, l⟩ := (h2 q hq).c
    have := c2 k.2 (mem (List.mem_map.mpr ⟨k, hk, rfl⟩))
    exact List.mem_map.mpr ⟨k, hk, by omega⟩
  · obtain ⟨q, hq, rfl⟩ := List.mem_map.mp d1
    obtain ⟨k, hk, l⟩ := (h2 q hq).d
    have := d2 k.2 (mem (List.mem_map.mpr ⟨k, hk, rfl⟩))
    exact List.mem_map.mpr ⟨k, hk, by omega⟩
/-- the corners of a part: its first round and its last -/
def cor (x y : Int) (p : Part) : List Pnt := if p.2 = 0 then [] else (pp 0 0 p.1).map (mv x y) ++ (pp 0 0 p.1).map (mv (x + sx p.1 * ((p.2 : Int) - 1)) (y + sy p.1 * ((p.2 : Int) - 1)))
def corL (x y : Int) : List Part → List Pnt
  | [] => []
  | p :: P => cor x y p ++ corL (x + sx p.1 * (p.2 : Int)) (y + sy p.1 * (p.2 : Int)) P
theorem lin (s t m : Int) (h0 : 0 ≤ t) (h1 : t ≤ m) : (0 ≤ s * t ∧ s * t ≤ s * m) ∨ (s * m ≤ s * t ∧ s * t ≤ 0) := by
  by_cases hs : 0 ≤ s
  · exact .inl ⟨Int.mul_nonneg hs h0, Int.mul_le_mul_of_nonneg_left h1 hs⟩
  · refine .inr ⟨Int.mul_le_mul_of_nonpos_left (by omega) h1, Int.mul_nonpos_of_nonpos_of_nonneg (by omega) h0⟩
theorem cor_in {x y : Int} {p : Part} {k : Pnt} (h : k ∈ cor x y p) : k ∈ pp x y (rep p.2 p.1) := by
  unfold cor at h
  split at h
  · nomatch h
  · rename_i hn
    rw [pp_rep]
    rcases List.mem_append.mp h with h | h
    · obtain ⟨o, ho, rfl⟩ := List.mem_map.mp h
      exact .inr ⟨0, o, by omega, ho, by simp⟩
    · obtain ⟨o, ho, rfl⟩ := List.mem_map.mp h
      exact .inr ⟨p.2 - 1, o, by omega, ho, by rw [show ((p.2 - 1 : Nat) : Int) = (p.2 : Int) - 1 by omega]⟩
theorem cor_sand {x y : Int} {p : Part} {q : Pnt} (h : q ∈ pp x y (rep p.2 p.1)) : Sand ((x, y) :: cor x y p) q := by
  rcases (pp_rep p.1 p.2 x y q).mp h with rfl | ⟨t, o, ht, ho, rfl⟩
  · exact .self List.mem_cons_self
  · have k1 : mv x y o ∈ (x, y) :: cor x y p := by
      refine List.mem_cons_of_mem _ ?_
      unfold cor
      rw [if_neg (by omega)]
      exact List.mem_append_left _ (List.mem_map.mpr ⟨o, ho, rfl⟩)
    have k2 : mv (x + sx p.1 * ((p.2 : Int) - 1)) (y + sy p.1 * ((p.2 : Int) - 1)) o ∈ (x, y) :: cor x y p := by
      refine List.mem_cons_of_mem _ ?_
      unfold cor
      rw [if_neg (by omega)]
      exact List.mem_append_right _ (List.mem_map.mpr ⟨o, ho, rfl⟩)
    have lx := lin (sx p.1) t ((p.2 : Int) - 1) (by omega) (by omega)
    have ly := lin (sy p.1) t ((p.2 : Int) - 1) (by omega) (by omega)
    refine ⟨?_, ?_, ?_, ?_⟩
    · rcases lx with l | l
      · exact ⟨_, k1, by dsimp only; omega⟩
      · exact ⟨_, k2, by dsimp only; omega⟩
    · rcases lx with l | l
      · exact ⟨_, k2, by dsimp only; omega⟩
      · exact ⟨_, k1, by dsimp only; omega⟩
    · rcases ly with l | l
      · exact ⟨_, k1, by dsimp only; omega⟩
      · exact ⟨_, k2, by dsimp only; omega⟩
    · rcases ly with l | l
      · exact ⟨_, k2, by dsimp only; omega⟩
      · exact ⟨_, k1, by dsimp only; omega⟩
theorem cor_end (x y : Int) (p : Part) : (x + sx p.1 * (p.2 : Int), y + sy p.1 * (p.2 : Int)) ∈ (x, y) :: cor x y p := by
  by_cases h : p.2 = 0
  · rw [h]; simp
  · refine List.mem_cons_of_mem _ ?_
    unfold cor
    rw [if_neg h]
    refine List.mem_append_right _ (List.mem_map.mpr ⟨(sx p.1, sy p.1), ?_, ?_⟩)
    · have := (pp_app p.1 [] 0 0 (sx p.1, sy p.1)).mpr (.inr (by show _ ∈ [(_, _)]; simp))
      rwa [List.append_nil] at this
    · rw [Int.mul_sub, Int.mul_sub, Int.mul_one, Int.mul_one]
      refine Prod.ext ?_ ?_ <;> dsimp only <;> omega
theorem cl_in : ∀ (P : List Part) (x y : Int) (k : Pnt), k ∈ (x, y) :: corL x y P → k ∈ pp x y (flat P)
  | [], x, y, k, h => h
  | p :: P, x, y, k, h => by
    show k ∈ pp x y (rep p.2 p.1 ++ flat P)
    rw [pp_app, rep_sx, rep_sy]
    rcases List.mem_cons.mp h with rfl | h
    · exact .inl (pp_hd _ _ _)
    · rcases List.mem_append.mp (show k ∈ cor x y p ++ _ from h) with h | h
      · exact .inl (cor_in h)
      · exact .inr (cl_in P _ _ k (List.mem_cons_of_mem _ h))
theorem cl_sand : ∀ (P : List Part) (x y : Int) (q : Pnt), q ∈ pp x y (flat P) → Sand ((x, y) :: corL x y P) q
  | [], x, y, q, h => .self h
  | p :: P, x, y, q, h => by
    have h : q ∈ pp x y (rep p.2 p.1 ++ flat P) := h
    rw [pp_app, rep_sx, rep_sy] at h
    have up : ∀ k, k ∈ (x, y) :: cor x y p → k ∈ (x, y) :: corL x y (p :: P) := fun k hk => by
      rcases List.mem_cons.mp hk with rfl | hk
      · exact List.mem_cons_self
      · exact List.mem_cons_of_mem _ (List.mem_append_left _ hk)
    rcases h with h | h
    · exact (cor_sand h).mono up
    · refine (cl_sand P _ _ q h).mono fun k hk => ?_
      rcases List.mem_cons.mp hk with rfl | hk
      · exact up _ (cor_end x y p)
      · exact List.mem_cons_of_mem _ (List.mem_append_right _ hk)
theorem ends_cl {x y : Int} {P : List Part} {a b c d : Int} (e : Ends (pp x y (flat P)) a b c d) : Ends ((x, y) :: corL x y P) a b c d := ends_eq e (cl_in P x y) (cl_sand P x y)
theorem ends_mem {K L : List Pnt} {a b c d : Int} (e : Ends L a b c d) (h : ∀ q, q ∈ K ↔ q ∈ L) : Ends K a b c d := ends_eq e (fun k hk => (h k).mp hk) fun q hq => .self ((h q).mpr hq)
end K62
namespace K62
open PySem Ep L2
/-! what closed.py computes -/
abbrev wkc (C : Nat) (x y : Int) (P : List Part) : T := .obj C [pr x y, .tup (pts P)]
def Cl (C : Nat) : Prop := C = 4 ∨ C = 5
theorem Cl.mem {C : Nat} (h : Cl C) : C ∈ [4, 5] := by rcases h with rfl | rfl <;> decide
theorem goalC {C : Nat} (hC : Cl C) {x y : Int} {P : List Part} (h : AllP P) (r : RS) : F_Walk_goal [wkc C x y P] r = .ok (pr (x + sx (flat P)) (y + sy (flat P))) r := by
  rcases hC with rfl | rfl
  · exact goal h r
  · exact goal5 h r
theorem beginsC {C : Nat} (hC : Cl C) {x y : Int} {P : List Part} (h : AllP P) (hl : P.length ≤ 6) (r : RS) : F_Walk_begins [wkc C x y P] r = .ok (.lst (begL 0 x y P)) r := by
  rcases hC with rfl | rfl
  · exact begins h hl r
  · exact begins5 h hl r
theorem chk_cl {C : Nat} (hC : Cl C) (x y : Int) (P : List Part) (r : RS) : F_check_walk_closed [wkc C x y P] r = .ok .non r := by
  rcases hC with rfl | rfl <;> rfl
theorem chk_wa {C : Nat} (hC : Cl C) (x y : Int) (P : List Part) (r : RS) : F_check_walk_walks [wkc C x y P] r = .ok .non r := by
  rcases hC with rfl | rfl <;> rfl
theorem cellC {C : Nat} (hC : Cl C) {x y : Int} {P : List Part} {env : Ep.Env} {i : Nat} (h : env[i]? = some (.val (wkc C x y P))) (r : RS) : fFld m_cell (fVar i) env r = .ok (pr x y) r := by
  refine x_fld (C := C) (vs := [pr x y, .tup (pts P)]) (j := 0) (by unfold fVar; rw [h]; rfl) ?_ rfl
  rcases hC with rfl | rfl <;> rfl
theorem partsC {C : Nat} (hC : Cl C) {x y : Int} {P : List Part} {env : Ep.Env} {i : Nat} (h : env[i]? = some (.val (wkc C x y P))) (r : RS) : fFld m_parts (fVar i) env r = .ok (.tup (pts P)) r := by
  refine x_fld (C := C) (vs := [pr x y, .tup (pts P)]) (j := 1) (by unfold fVar; rw [h]; rfl) ?_ rfl
  rcases hC with rfl | rfl <;> rfl
theorem eq_pr (a b c d : Int) : eqT (pr a b) (pr c d) = some (decide (a = c ∧ b = d)) := by
  rw [eq_sh (sh_pr a b) (sh_pr c d) (by decide) (d := .tuple [.int a, .int b]) (e := .tuple [.int c, .int d]) rfl rfl]
  show some ((a == c) && ((b == d) && true)) = _
  by_cases e1 : a = c <;> by_cases e2 : b = d <;> simp [e1, e2]
theorem is_closed {C : Nat} (hC : Cl C) {x y : Int} {P : List Part} (h : AllP P) (r : RS) : F_is_closed [wkc C x y P] r = .ok (.bl (decide (x + sx (flat P) = x ∧ y + sy (flat P) = y))) r := by
  refine n_fn (n_seq (n_expr (x_call (ts := [wkc C x y P]) (r1 := r) rfl (chk_cl hC x y P r))) (n_seqR (n_ret (e_cmp (x := pr (x + sx (flat P)) (y + sy (flat P))) (y := pr x y) (r1 := r) (r2 := r) (e_self rfl (goalC hC h r) hC.mem) (cellC hC rfl r) (eq_pr _ _ _ _)))))
structure Shut (P : List Part) : Prop where
  x : sx (flat P) = 0
  y : sy (flat P) = 0
theorem check_closed {C : Nat} (hC : Cl C) {x y : Int} {P : List Part} (h : AllP P) (z : Shut P) (r : RS) : F_check_closed [wkc C x y P] r = .ok .non r := by
  refine n_fnN (env' := envOf 0 [wkc C x y P]) (n_seq (n_expr (x_call (ts := [wkc C x y P]) (r1 := r) rfl (chk_cl hC x y P r))) (n_seq (n_ifF (r1 := r) (e_cmpB (x := pr (x + sx (flat P)) (y + sy (flat P))) (y := pr x y) (r1 := r) (r2 := r) (b := false) (e_self rfl (goalC hC h r) hC.mem) (cellC hC rfl r) ?_) rfl) rfl))
  unfold neT
  rw [eq_pr, z.x, z.y, Int.add_zero, Int.add_zero]
  simp
theorem tri_b : ∀ n : Nat, n ≤ 1000 → 0 ≤ tri n ∧ tri n ≤ 1000000 := fun n h => by
  have e := tri_two n
  have m : (n : Int) * ((n : Int) - 1) ≤ 1000 * 1000 := by
    cases n with
    | zero => decide
    | succ k => exact Int.mul_le_mul (by omega) (by omega) (by omega) (by decide)
  have m0 : 0 ≤ (n : Int) * ((n : Int) - 1) := by
    cases n with
    | zero => decide
    | succ k => exact Int.mul_nonneg (by omega) (by omega)
  exact ⟨by omega, by omega⟩
theorem prog {a g : Int} {n : Nat} (ha : a.natAbs < 2 ^ 900) (hg : g.natAbs < 2 ^ 900) (hn : n ≤ 1000) (r : RS) : F_progression_sum [.int a, .int g, .int (n : Int)] r = .ok (.int ((n : Int) * a + g * tri n)) r := by
  have m1 : mulT (.int (n : Int)) (.int a) = some (.int ((n : Int) * a)) := mulB (by omega) (by omega)
  have m2 : mulT (.int (n : Int)) (.int ((n : Int) - 1)) = some (.int ((n : Int) * ((n : Int) - 1))) := mulB (by omega) (by omega)
  have t := tri_b n hn
  have m3 : divT (.int ((n : Int) * ((n : Int) - 1))) (.int 2) = some (.int (tri n)) := by rw [divB (by decide) (by decide), tri_div]
  have m4 : mulT (.int g) (.int (tri n)) = some (.int (g * tri n)) := mulB (by omega) (by omega)
  exact n_fn (n_seqR (n_ret (e_bin (x := .int ((n : Int) * a)) (y := .int (g * tri n)) (r1 := r) (r2 := r) (e_bin (x := .int (n : Int)) (y := .int a) (r1 := r) (r2 := r) rfl rfl m1) (e_bin (x := .int g) (y := .int (tri n)) (r1 := r) (r2 := r) rfl (e_bin (x := .int ((n : Int) * ((n : Int) - 1))) (y := .int 2) (r1 := r) (r2 := r) (e_b1 (x := .int ((n : Int) * ((n : Int) - 1))) (e_bin (x := .int (n : Int)) (y := .int ((n : Int) - 1)) (r1 := r) (r2 := r) rfl rfl m2) rfl) rfl m3) m4) rfl)))
theorem sx_abs : ∀ l : List Nat, (sx l).natAbs ≤ l.length ∧ (sy l).natAbs ≤ l.length
  | [] => ⟨Nat.le_refl _, Nat.le_refl _⟩
  | c :: l => by
    have h := sx_abs l
    have a : (dx c).natAbs ≤ 1 := by unfold dx; split; decide; split <;> decide
    have b : (dy c).natAbs ≤ 1 := by unfold dy; split; decide; split <;> decide
    rw [sx_cons, sy_cons, List.length_cons]
    omega
theorem dxy_abs (c : Nat) : (dx c).natAbs ≤ 1 ∧ (dy c).natAbs ≤ 1 := by
  have := sx_abs [c]
  rw [sx_cons, sy_cons, show sx [] = 0 from rfl, show sy [] = 0 from rfl, List.length_singleton] at this
  omega
abbrev peBody : Sm := (qSeq (qAug 4 (fBin mulT (fIx (fCall F_step_of [] [(fVar 5)]) (fC (.int 1))) (fCall F_progression_sum [] [(fBin addT (fIx (fVar 0) (fC (.int 0))) (fIx (fVar 6) (fC (.int 0)))), (fIx (fIx (fVar 3) (fUn negT (fC (.int 1)))) (fC (.int 0))), (fVar 2)])))
    qNil)
theorem pe_loop {L : List Nat} {x y : Int} {n : Nat} (hx : x.natAbs < 2 ^ 800) (hL : L.length ≤ 24) (hn : n ≤ 1000) (s1 : Slot) (r : RS) : ∀ (l : List Nat) (a b s : Int) (s5 s6 : Slot), AllL l → a.natAbs + l.length ≤ 100 →
    ∃ s5' s6', loopF (hTupL 2 (hCons (hName 5) (hCons (hName 6) hNil))) peBody (zipL (chrs l) (path a b l)) [.val (pr x y), s1, .val (.int (n : Int)), .val (.tup (path 0 0 L)), .val (.int s), s5, s6] r = .nx [.val (pr x y), s1, .val (.int (n : Int)), .val (.tup (path 0 0 L)), .val (.int (s + ((n : Int) * ar (x + a) l + sx L * tri n * sy l))), s5', s6'] r
  | [], a, b, s, s5, s6, _, _ => ⟨s5, s6, by rw [show s + ((n : Int) * ar (x + a) [] + sx L * tri n * sy []) = s by simp [ar, sy]]; rfl⟩
  | c :: l, a, b, s, s5, s6, h, ha => by
    have q := dxy_abs c
    have qL := sx_abs L
    have qt := tri_b n hn
    rw [List.length_cons] at ha
    have k1 := step_of h.hd r
    have k2 := prog (a := x + a) (g := sx L) (n := n) (by omega) (by omega) hn r
    have k3 : atI (path 0 0 L) (-1) = some (pr (sx L) (sy L)) := by
      have := path_lastI L 0 0
      rwa [Int.zero_add, Int.zero_add] at this
    have e1 : ∀ env : Ep.Env, env[3]? = some (.val (.tup (path 0 0 L))) → (fIx (fIx (fVar 3) (fUn negT (fC (.int 1)))) (fC (.int 0))) env r = .ok (.int (sx L)) r := fun env he => by
      refine e_ix (x := pr (sx L) (sy L)) (y := .int 0) (r1 := r) (r2 := r) (e_ix (x := .tup (path 0 0 L)) (y := .int (-1)) (r1 := r) (r2 := r) (by unfold fVar; rw [he]; rfl) rfl k3) rfl rfl
    have m : mulT (.int (dy c)) (.int ((n : Int) * (x + a) + sx L * tri n)) = some (.int (dy c * ((n : Int) * (x + a) + sx L * tri n))) := mulL (by omega) (by omega)
    obtain ⟨s5', s6', ih⟩ := pe_loop (y := y) hx hL hn s1 r l (a + dx c) (b + dy c) (s + dy c * ((n : Int) * (x + a) + sx L * tri n)) (.val (one c)) (.val (pr a b)) h.tl (by omega)
    refine ⟨s5', s6', n_loop rfl (n_seq (x_aug (a := s) (r1 := r) (e_bin (x := .int (dy c)) (y := .int ((n : Int) * (x + a) + sx L * tri n)) (r1 := r) (r2 := r) ?_ ?_ m) rfl) rfl) (ih.trans ?_)⟩
    · exact e_ix (x := pr (dx c) (dy c)) (y := .int 1) (r1 := r) (r2 := r) (x_call (ts := [one c]) (r1 := r) rfl k1) rfl rfl
    · refine x_call (ts := [.int (x + a), .int (sx L), .int (n : Int)]) (r1 := r) (e_cons (x := .int (x + a)) (r1 := r) rfl (e_cons (x := .int (sx L)) (r1 := r) (e1 _ rfl) rfl)) k2
    · have e : s + dy c * ((n : Int) * (x + a) + sx L * tri n) + ((n : Int) * ar (x + (a + dx c)) l + sx L * tri n * sy l) = s + ((n : Int) * ar (x + a) (c :: l) + sx L * tri n * sy (c :: l)) := by
        rw [ar_cons, sy_cons, ← Int.add_assoc x a]
        grind
      rw [e]
theorem part_enclosed {p : Part} {x y : Int} (h : OkP p) (hx : x.natAbs < 2 ^ 800) (r : RS) : F_part_enclosed [pr x y, wd p.1, .int (p.2 : Int)] r = .ok (.int (ar x (rep p.2 p.1))) r := by
  have l2 := h.l2
  obtain ⟨s5, s6, w⟩ := pe_loop (L := p.1) (y := y) hx l2 h.n (.val (wd p.1)) r p.1 0 0 0 .un .un h.w (by simp; omega)
  have e : 0 + ((p.2 : Int) * ar (x + 0) p.1 + sx p.1 * tri p.2 * sy p.1) = ar x (rep p.2 p.1) := by
    rw [ar_rep, Int.add_zero, Int.zero_add]; grind
  rw [e] at w
  refine n_fn (n_seq (n_set (t := .tup (path 0 0 p.1)) (r1 := r) (x_call (ts := [wd p.1]) (r1 := r) rfl (offsets ⟨h.w, h.l1, h.l2⟩ r))) (n_seq (n_set (t := .int 0) (r1 := r) rfl) (n_seq (n_for (xs := zipL (chrs p.1) (path 0 0 p.1)) (r1 := r) (x_zipQ (x := wd p.1) (y := .tup (path 0 0 p.1)) (r1 := r) rfl rfl rfl) w) (n_seqR (n_ret rfl)))))
abbrev enBody : Sm := (qSeq (qAug 1 (fCall F_part_enclosed [] [(fVar 5), (fVar 2), (fVar 3)]))
    qNil)
abbrev enTg : T → Ep.Env → Option Ep.Env := (hTupL 2 (hCons (hTupL 2 (hCons (hName 2) (hCons (hName 3) hNil))) (hCons (hTupL 2 (hCons (hName 4) (hCons (hName 5) hNil))) hNil)))
theorem en_loop (s0 : Slot) (r : RS) : ∀ (P : List Part) (m x y s : Int) (s2 s3 s4 s5 : Slot), AllP P → x.natAbs + 30000 * P.length < 2 ^ 800 →
    ∃ s2' s3' s4' s5', loopF enTg enBody (zipL (pts P) (begL m x y P)) [s0, .val (.int s), s2, s3, s4, s5] r = .nx [s0, .val (.int (s + ar x (flat P))), s2', s3', s4', s5'] r
  | [], m, x, y, s, s2, s3, s4, s5, _, _ => ⟨s2, s3, s4, s5, by rw [show s + ar x (flat []) = s from Int.add_zero s]; rfl⟩
  | p :: P, m, x, y, s, s2, s3, s4, s5, h, hx => by
    have hp := h p List.mem_cons_self
    have q := sx_abs p.1
    have hb : (sx p.1 * (p.2 : Int)).natAbs ≤ 24 * 1000 := by
      rw [Int.natAbs_mul]; exact Nat.mul_le_mul (by have := hp.l2; omega) (by have := hp.n; omega)
    rw [List.length_cons] at hx
    obtain ⟨s2', s3', s4', s5', ih⟩ := en_loop s0 r P (m + (p.1.length : Int) * (p.2 : Int)) (x + sx p.1 * (p.2 : Int)) (y + sy p.1 * (p.2 : Int)) (s + ar x (rep p.2 p.1)) (.val (wd p.1)) (.val (.int (p.2 : Int))) (.val (.int m)) (.val (pr x y)) h.tl (by omega)
    refine ⟨s2', s3', s4', s5', n_loop rfl (n_seq (x_aug (a := s) (r1 := r) (x_call (ts := [pr x y, wd p.1, .int (p.2 : Int)]) (r1 := r) rfl (part_enclosed hp (by omega) r)) rfl) rfl) (ih.trans ?_)⟩
    show SO.nx [s0, .val (.int (s + ar x (rep p.2 p.1) + ar (x + sx p.1 * (p.2 : Int)) (flat P))), _, _, _, _] r = .nx [s0, .val (.int (s + ar x (rep p.2 p.1 ++ flat P))), _, _, _, _] r
    rw [ar_app, rep_sx, Int.add_assoc]
theorem enclosed {C : Nat} (hC : Cl C) {x y : Int} {P : List Part} (h : AllP P) (hl : P.length ≤ 6) (z : Shut P) (hx : x.natAbs < 2 ^ 700) (r : RS) : F_enclosed [wkc C x y P] r = .ok (.int (ar x (flat P))) r := by
  obtain ⟨s2, s3, s4, s5, w⟩ := en_loop (.val (wkc C x y P)) r P 0 x y 0 .un .un .un .un h (by omega)
  rw [Int.zero_add] at w
  refine n_fn (n_seq (n_expr (x_call (ts := [wkc C x y P]) (r1 := r) rfl (check_closed hC h z r))) (n_seq (n_set (t := .int 0) (r1 := r) rfl) (n_seq (n_for (xs := zipL (pts P) (begL 0 x y P)) (r1 := r) (x_zipQ (x := .tup (pts P)) (y := .lst (begL 0 x y P)) (r1 := r) (partsC hC rfl r) (e_self rfl (beginsC hC h hl r) hC.mem) rfl) w) (n_seqR (n_ret rfl)))))
end K62
namespace K62
open PySem Ep L2
theorem comp2_map {vs vs1 : List Nat} {h h1 : T → Ep.Env → Option Ep.Env} {p p1 : Ep.Env → M Bool} {f : Ep.Env → M T} {fi1 : Ep.Env → M (List T)} {env : Ep.Env} (g : T → List T) : ∀ (xs acc : List T) (r : RS), (∀ x ∈ xs, ∃ env1 ys, h x (wipeE env vs) = some env1 ∧ p env1 r = .ok true r ∧ fi1 env1 r = .ok ys r ∧ (g x).length = ys.length ∧ ∀ acc, acc.length + ys.length ≤ 100000 → compF vs1 h1 p1 f ys acc env1 r = .ok (acc ++ g x) r) → acc.length + (xs.flatMap g).length ≤ 100000 → comp2F vs vs1 h p fi1 h1 p1 f xs acc env r = .ok (acc ++ xs.flatMap g) r
  | [], acc, r, _, _ => by rw [List.flatMap_nil, List.append_nil]; rfl
  | x :: xs, acc, r, H, hl => by
    obtain ⟨env1, ys, e1, e2, e3, e5, e4⟩ := H x List.mem_cons_self
    rw [List.flatMap_cons, List.length_append] at hl
    have ih := comp2_map (vs := vs) (vs1 := vs1) (h := h) (h1 := h1) (p := p) (p1 := p1) (f := f) (fi1 := fi1) (env := env) g xs (acc ++ g x) r (fun y hy => H y (List.mem_cons_of_mem _ hy)) (by rw [List.length_append]; omega)
    have e6 := e4 acc (by omega)
    unfold comp2F
    rw [e1]
    simp only [bindR, noEx, e2, e3, bndO, if_true, e6]
    rw [ih, List.flatMap_cons, List.append_assoc]
theorem pp_len : ∀ (l : List Nat) (x y : Int), (pp x y l).length = l.length + 1
  | [], _, _ => rfl
  | c :: l, x, y => by show (pp _ _ l).length + 1 = _; rw [pp_len l]; rfl
theorem cor_len (x y : Int) {p : Part} (h : OkP p) : (cor x y p).length ≤ 50 := by
  have := h.l2
  unfold cor
  split
  · exact Nat.zero_le _
  · rw [List.length_append, List.length_map, List.length_map, pp_len]; omega
def addB (b : Pnt) : T → T
  | .tup [.int i, .int j] => pr (b.1 + i * 1) (b.2 + j * 1)
  | t => t
def row2 (l : List Nat) : T → List T
  | .tup [.int i, .int j] => (path 0 0 l).map (addB (i, j))
  | _ => []
theorem addB_mv (l : List Nat) (b : Pnt) : (path 0 0 l).map (addB b) = ((pp 0 0 l).map (mv b.1 b.2)).map pT := by
  rw [path_pp, List.map_map, List.map_map]
  refine List.map_congr_left fun q _ => ?_
  show pr (b.1 + q.1 * 1) (b.2 + q.2 * 1) = pr (b.1 + q.1) (b.2 + q.2)
  rw [Int.mul_one, Int.mul_one]
theorem part_corners {p : Part} (h : OkP p) (x y : Int) (r : RS) : F_part_corners [pr x y, wd p.1, .int (p.2 : Int)] r = .ok (.lst ((cor x y p).map pT)) r := by
  have l2 := h.l2
  have hn := h.n
  by_cases z : p.2 = 0
  · have e : cor x y p = [] := if_pos z
    rw [e, z]
    exact n_fn (n_seqR (n_ifT (r1 := r) (e_cmpB (x := .int 0) (y := .int 0) (r1 := r) (r2 := r) rfl rfl rfl) (n_seqR (n_ret rfl))))
  · have k1 : atI (path 0 0 p.1) (-1) = some (pr (sx p.1) (sy p.1)) := by
      have := path_lastI p.1 0 0
      rwa [Int.zero_add, Int.zero_add] at this
    have k2 := shifted (a := x) (b := y) (c := sx p.1) (d := sy p.1) (t := (p.2 : Int) - 1) (by omega) (by omega) r
    have e0 : eqT (.int (p.2 : Int)) (.int 0) = some false := by
      show some ((p.2 : Int) == 0) = _
      rw [beq_eq_false_iff_ne.mpr (by omega)]
    obtain ⟨b, eb⟩ : ∃ b : Pnt, b = (x + sx p.1 * ((p.2 : Int) - 1), y + sy p.1 * ((p.2 : Int) - 1)) := ⟨_, rfl⟩
    have k2 : F_shifted [pr x y, pr (sx p.1) (sy p.1), .int ((p.2 : Int) - 1)] r = .ok (pr b.1 b.2) r := by rw [eb]; exact k2
    have c : comp2F [5, 6] [6] (hName 5) fYes (fIter (fVar 3)) (hName 6) fYes (fCall F_shifted [.int 1] [(fVar 5), (fVar 6)]) [pr x y, pr b.1 b.2] [] [.val (pr x y), .val (wd p.1), .val (.int (p.2 : Int)), .val (.tup (path 0 0 p.1)), .val (pr b.1 b.2), .un, .un] r
        = .ok ([] ++ [pr x y, pr b.1 b.2].flatMap (row2 p.1)) r := by
      refine comp2_map (row2 p.1) _ _ r (fun t ht => ?_) ?_
      · obtain ⟨i, j, rfl⟩ : ∃ i j, t = pr i j := by
          simp only [List.mem_cons, List.not_mem_nil, or_false] at ht
          rcases ht with rfl | rfl <;> exact ⟨_, _, rfl⟩
        refine ⟨[.val (pr x y), .val (wd p.1), .val (.int (p.2 : Int)), .val (.tup (path 0 0 p.1)), .val (pr b.1 b.2), .val (pr i j), .un], path 0 0 p.1, rfl, rfl, rfl, by show ((path 0 0 p.1).map _).length = _; rw [List.length_map], fun acc ha => ?_⟩
        refine comp_map (addB (i, j)) _ _ r (fun u hu => ?_) ha
        rw [path_pp] at hu
        obtain ⟨q, _, rfl⟩ := List.mem_map.mp hu
        exact ⟨[.val (pr x y), .val (wd p.1), .val (.int (p.2 : Int)), .val (.tup (path 0 0 p.1)), .val (pr b.1 b.2), .val (pr i j), .val (pT q)], rfl, rfl, e_call (ts := [pr i j, pT q]) (r1 := r) rfl (shifted (by decide) (by decide) r)⟩
      · show 0 + ([pr x y, pr b.1 b.2].flatMap (row2 p.1)).length ≤ _
        show 0 + ((path 0 0 p.1).map (addB (x, y)) ++ ((path 0 0 p.1).map (addB b) ++ [])).length ≤ 100000
        rw [List.length_append, List.length_append, List.length_map, List.length_map, path_len, List.length_nil]
        omega
    have e : [] ++ [pr x y, pr b.1 b.2].flatMap (row2 p.1) = (cor x y p).map pT := by
      show [] ++ ((path 0 0 p.1).map (addB (x, y)) ++ ((path 0 0 p.1).map (addB b) ++ [])) = _
      unfold cor
      rw [if_neg z, List.nil_append, List.append_nil, addB_mv, addB_mv, List.map_append, eb]
    rw [e] at c
    refine n_fn (n_seq (n_ifF (r1 := r) (e_cmpB (x := .int (p.2 : Int)) (y := .int 0) (r1 := r) (r2 := r) rfl rfl e0) rfl) (n_seq (n_set (t := .tup (path 0 0 p.1)) (r1 := r) (x_call (ts := [wd p.1]) (r1 := r) rfl (offsets ⟨h.w, h.l1, h.l2⟩ r)))
      (n_seq (n_set (t := pr b.1 b.2) (r1 := r) (x_call (ts := [pr x y, pr (sx p.1) (sy p.1), .int ((p.2 : Int) - 1)]) (r1 := r) (e_cons (x := pr x y) (r1 := r) rfl (e_cons (x := pr (sx p.1) (sy p.1)) (r1 := r) (e_ix (x := .tup (path 0 0 p.1)) (y := .int (-1)) (r1 := r) (r2 := r) rfl rfl k1) (e_cons (x := .int ((p.2 : Int) - 1)) (r1 := r) rfl rfl))) k2))
      (n_seqR (n_ret (e_own ?_))))))
    exact bind_ok (a := [pr x y, pr b.1 b.2]) (r1 := r) rfl c
theorem n_ext {i : Nat} {f : Ep.Env → M T} {env : Ep.Env} {r r1 : RS} {xs ys : List T} (he : env[i]? = some (.own xs)) (h : f env r = .ok (.lst ys) r1) (hl : xs.length + ys.length ≤ 100000) : qExt i f env r = .nx (env.set i (.own (xs ++ ys))) r1 := by
  have e1 : isMut env i = true := by unfold isMut; rw [he]
  have e2 : mutGet env i r1 = some xs := by unfold mutGet; rw [he]
  have e3 : mutSet env i r1 (xs ++ ys) = .nx (env.set i (.own (xs ++ ys))) r1 := by unfold mutSet; rw [he]
  unfold qExt ofM
  rw [if_pos e1, h]
  show (match mutGet env i r1, T.lst ys with | some xs, .lst ys => if xs.length + ys.length ≤ 100000 then mutSet env i r1 (xs ++ ys) else .bad | _, _ => .bad) = _
  rw [e2]
  show (if xs.length + ys.length ≤ 100000 then _ else _) = _
  rw [if_pos hl, e3]
abbrev reBody : Sm := (qSeq (qExt 1 (fCall F_part_corners [] [(fVar 5), (fVar 2), (fVar 3)]))
    qNil)
theorem re_loop (s0 s6 s7 s8 s9 s10 : Slot) (r : RS) : ∀ (P : List Part) (m x y : Int) (K : List Pnt) (s2 s3 s4 s5 : Slot), AllP P → K.length + 50 * P.length ≤ 1000 →
    ∃ s2' s3' s4' s5', loopF enTg reBody (zipL (pts P) (begL m x y P)) [s0, .own (K.map pT), s2, s3, s4, s5, s6, s7, s8, s9, s10] r = .nx [s0, .own ((K ++ corL x y P).map pT), s2', s3', s4', s5', s6, s7, s8, s9, s10] r
  | [], m, x, y, K, s2, s3, s4, s5, _, _ => ⟨s2, s3, s4, s5, by rw [show corL x y [] = [] from rfl, List.append_nil]; rfl⟩
  | p :: P, m, x, y, K, s2, s3, s4, s5, h, hl => by
    have hp := h p List.mem_cons_self
    have cl := cor_len x y hp
    rw [List.length_cons] at hl
    obtain ⟨s2', s3', s4', s5', ih⟩ := re_loop s0 s6 s7 s8 s9 s10 r P (m + (p.1.length : Int) * (p.2 : Int)) (x + sx p.1 * (p.2 : Int)) (y + sy p.1 * (p.2 : Int)) (K ++ cor x y p) (.val (wd p.1)) (.val (.int (p.2 : Int))) (.val (.int m)) (.val (pr x y)) h.tl (by rw [List.length_append]; omega)
    rw [List.append_assoc] at ih
    refine ⟨s2', s3', s4', s5', n_loop rfl (n_seq (n_ext (xs := K.map pT) (ys := (cor x y p).map pT) (r1 := r) rfl (x_call (ts := [pr x y, wd p.1, .int (p.2 : Int)]) (r1 := r) rfl (part_corners hp x y r)) (by rw [List.length_map, List.length_map]; omega)) rfl) ?_⟩
    show loopF enTg reBody _ [s0, .own (K.map pT ++ (cor x y p).map pT), _, _, _, _, _, _, _, _, _] r = _
    rw [← List.map_append]
    exact ih
theorem ints_map {α : Type} (f : α → Int) : ∀ L : List α, intsT (L.map fun q => T.int (f q)) = some (L.map f)
  | [] => rfl
  | q :: L => by
    show (intsT (L.map fun q => T.int (f q))).map (f q :: ·) = _
    rw [ints_map f L]; rfl
def fstG : T → T
  | .tup [.int i, .int _] => .int i
  | t => t
def sndG : T → T
  | .tup [.int _, .int j] => .int j
  | t => t
theorem fst_map (L : List Pnt) : (L.map pT).map fstG = L.map fun q => T.int q.1 := by rw [List.map_map]; rfl
theorem snd_map (L : List Pnt) : (L.map pT).map sndG = L.map fun q => T.int q.2 := by rw [List.map_map]; rfl
abbrev xsT (L : List Pnt) : T := .lst (L.map fun q => T.int q.1)
abbrev ysT (L : List Pnt) : T := .lst (L.map fun q => T.int q.2)
theorem min_ok {L : List Pnt} {f : Pnt → Int} {a : Int} (h : minL (L.map f) = some a) (r : RS) : minT r (.lst (L.map fun q => T.int (f q))) = some (.int a) := by
  show (intsT _).bind (fun ns => (minL ns).map T.int) = _
  rw [ints_map f L]
  show (minL _).map _ = _
  rw [h]; rfl
theorem max_ok {L : List Pnt} {f : Pnt → Int} {a : Int} (h : maxL (L.map f) = some a) (r : RS) : maxT r (.lst (L.map fun q => T.int (f q))) = some (.int a) := by
  show (intsT _).bind (fun ns => (maxL ns).map T.int) = _
  rw [ints_map f L]
  show (maxL _).map _ = _
  rw [h]; rfl
theorem comp_id {j i : Nat} {L : List Pnt} {f : Pnt → Int} {env : Ep.Env} {r : RS} (hi : env[i]? = some (.val (.lst (L.map fun q => T.int (f q))))) (hj : ∀ t : T, ((wipeE env [j]).set j (.val t))[j]? = some (.val t)) (hn : ∀ t, hName j t (wipeE env [j]) = some ((wipeE env [j]).set j (.val t))) (hl : L.length ≤ 100000) :
    fOwn (fComp [j] (hName j) fYes (fB1 intT (fVar j)) (fIter (fVar i))) env r = .ok (.lst (L.map fun q => T.int (f q))) r := by
  refine e_own (bind_ok (a := L.map fun q => T.int (f q)) (r1 := r) (x_it (t := .lst (L.map fun q => T.int (f q))) (by unfold fVar; rw [hi]; rfl) rfl) ?_)
  have c := comp_map (vs := [j]) (h := hName j) (p := fYes) (f := fB1 intT (fVar j)) (env := env) id (L.map fun q => T.int (f q)) [] r (fun t ht => by
    obtain ⟨q, _, rfl⟩ := List.mem_map.mp ht
    exact ⟨_, hn _, rfl, e_b1 (x := .int (f q)) (r1 := r) (by unfold fVar; rw [hj]; rfl) rfl⟩) (by simpa using hl)
  rw [List.map_id, List.nil_append] at c
  exact c
theorem reach {C : Nat} (hC : Cl C) {x y : Int} {P : List Part} (h : AllP P) (hl : P.length ≤ 6) {a b c d : Int} (e : Ends (pp x y (flat P)) a b c d) (r : RS) : F_reach [wkc C x y P] r = .ok (.tup [.int a, .int b, .int c, .int d]) r := by
  have e := ends_cl e
  obtain ⟨s2, s3, s4, s5, w⟩ := re_loop (.val (wkc C x y P)) .un .un .un .un .un r P 0 x y [(x, y)] .un .un .un .un h (by simp; omega)
  have cl : ∀ (P : List Part) (x y : Int), AllP P → (corL x y P).length ≤ 50 * P.length := fun P => by
    induction P with
    | nil => intro x y _; exact Nat.zero_le _
    | cons p P ih =>
      intro x y h
      show (cor x y p ++ corL _ _ P).length ≤ _
      have := cor_len x y (h p List.mem_cons_self)
      have := ih (x + sx p.1 * (p.2 : Int)) (y + sy p.1 * (p.2 : Int)) h.tl
      rw [List.length_append, List.length_cons]
      omega
  have kl := cl P x y h
  obtain ⟨K, eK⟩ : ∃ K, K = (x, y) :: corL x y P := ⟨_, rfl⟩
  rw [← eK] at e
  rw [show [(x, y)] ++ corL x y P = K from eK.symm] at w
  have lK : K.length ≤ 1000 := by rw [eK, List.length_cons]; omega
  have c1 : ∀ s6 s7 s8 s9 s10 : Slot, fOwn (fComp [8] (hName 8) fYes (fB1 intT (fIx (fVar 8) (fC (.int 0)))) (fIter (fVar 1))) [.val (wkc C x y P), .val (.lst (K.map pT)), s2, s3, s4, s5, s6, s7, s8, s9, s10] r = .ok (xsT K) r := fun s6 s7 s8 s9 s10 => by
    refine e_own (bind_ok (a := K.map pT) (r1 := r) rfl ?_)
    have q := comp_map (vs := [8]) (h := hName 8) (p := fYes) (f := fB1 intT (fIx (fVar 8) (fC (.int 0)))) (env := [.val (wkc C x y P), .val (.lst (K.map pT)), s2, s3, s4, s5, s6, s7, s8, s9, s10]) fstG (K.map pT) [] r (fun t ht => by
      obtain ⟨q, _, rfl⟩ := List.mem_map.mp ht
      exact ⟨_, rfl, rfl, rfl⟩) (by simp; omega)
    rw [fst_map, List.nil_append] at q
    exact q
  have c2 : ∀ s6 s7 s8 s9 s10 : Slot, fOwn (fComp [8] (hName 8) fYes (fB1 intT (fIx (fVar 8) (fC (.int 1)))) (fIter (fVar 1))) [.val (wkc C x y P), .val (.lst (K.map pT)), s2, s3, s4, s5, s6, s7, s8, s9, s10] r = .ok (ysT K) r := fun s6 s7 s8 s9 s10 => by
    refine e_own (bind_ok (a := K.map pT) (r1 := r) rfl ?_)
    have q := comp_map (vs := [8]) (h := hName 8) (p := fYes) (f := fB1 intT (fIx (fVar 8) (fC (.int 1)))) (env := [.val (wkc C x y P), .val (.lst (K.map pT)), s2, s3, s4, s5, s6, s7, s8, s9, s10]) sndG (K.map pT) [] r (fun t ht => by
      obtain ⟨q, _, rfl⟩ := List.mem_map.mp ht
      exact ⟨_, rfl, rfl, rfl⟩) (by simp; omega)
    rw [snd_map, List.nil_append] at q
    exact q
  have d1 := fun s8 s9 s10 => comp_id (j := 9) (i := 6) (L := K) (f := Prod.fst) (env := [.val (wkc C x y P), .val (.lst (K.map pT)), s2, s3, s4, s5, .val (xsT K), .val (ysT K), s8, s9, s10]) (r := r) rfl (fun _ => rfl) (fun _ => rfl) (by omega)
  have d2 := fun s8 s9 s10 => comp_id (j := 10) (i := 7) (L := K) (f := Prod.snd) (env := [.val (wkc C x y P), .val (.lst (K.map pT)), s2, s3, s4, s5, .val (xsT K), .val (ysT K), s8, s9, s10]) (r := r) rfl (fun _ => rfl) (fun _ => rfl) (by omega)
  refine n_fn (n_seq (n_expr (x_call (ts := [wkc C x y P]) (r1 := r) rfl (chk_cl hC x y P r))) (n_seq (n_own (xs := [pr x y]) (r1 := r) (e_cons (x := pr x y) (r1 := r) (cellC hC rfl r) rfl)) (n_seq (n_for (xs := zipL (pts P) (begL 0 x y P)) (r1 := r) (x_zipQ (x := .tup (pts P)) (y := .lst (begL 0 x y P)) (r1 := r) (partsC hC rfl r) (e_self rfl (beginsC hC h hl r) hC.mem) rfl) w)
    (n_seq (n_frz (n_set (t := xsT K) (r1 := r) (c1 _ _ _ _ _))) (n_seq (n_frz (n_set (t := ysT K) (r1 := r) (c2 _ _ _ _ _))) (n_seqR (n_ret (e_tup (e_cons (x := .int a) (r1 := r) (e_b1 (d1 _ _ _) (min_ok e.a r)) (e_cons (x := .int b) (r1 := r) (e_b1 (d1 _ _ _) (max_ok e.b r)) (e_cons (x := .int c) (r1 := r) (e_b1 (d2 _ _ _) (min_ok e.c r)) (e_cons (x := .int d) (r1 := r) (e_b1 (d2 _ _ _) (max_ok e.d r)) rfl))))))))))))
end K62
namespace K62
open PySem Ep L2
/-! the law's own bounds -/
theorem reach_due {L : List Pnt} (hl : L.length ≤ 90000) {a b c d : Int} (e : Ends L a b c d) (r : RS) : F__law_reach_due [.lst (L.map pT)] r = .ok (.tup [.int a, .int b, .int c, .int d]) r := by
  have c1 : ∀ s1 s2 s3 s4 s5 s6 : Slot, fOwn (fComp [4] (hName 4) fYes (fB1 intT (fIx (fVar 4) (fC (.int 0)))) (fIter (fVar 0))) [.val (.lst (L.map pT)), s1, s2, s3, s4, s5, s6] r = .ok (xsT L) r := fun s1 s2 s3 s4 s5 s6 => by
    refine e_own (bind_ok (a := L.map pT) (r1 := r) rfl ?_)
    have q := comp_map (vs := [4]) (h := hName 4) (p := fYes) (f := fB1 intT (fIx (fVar 4) (fC (.int 0)))) (env := [.val (.lst (L.map pT)), s1, s2, s3, s4, s5, s6]) fstG (L.map pT) [] r (fun t ht => by
      obtain ⟨q, _, rfl⟩ := List.mem_map.mp ht
      exact ⟨_, rfl, rfl, rfl⟩) (by simp; omega)
    rw [fst_map, List.nil_append] at q
    exact q
  have c2 : ∀ s1 s2 s3 s4 s5 s6 : Slot, fOwn (fComp [4] (hName 4) fYes (fB1 intT (fIx (fVar 4) (fC (.int 1)))) (fIter (fVar 0))) [.val (.lst (L.map pT)), s1, s2, s3, s4, s5, s6] r = .ok (ysT L) r := fun s1 s2 s3 s4 s5 s6 => by
    refine e_own (bind_ok (a := L.map pT) (r1 := r) rfl ?_)
    have q := comp_map (vs := [4]) (h := hName 4) (p := fYes) (f := fB1 intT (fIx (fVar 4) (fC (.int 1)))) (env := [.val (.lst (L.map pT)), s1, s2, s3, s4, s5, s6]) sndG (L.map pT) [] r (fun t ht => by
      obtain ⟨q, _, rfl⟩ := List.mem_map.mp ht
      exact ⟨_, rfl, rfl, rfl⟩) (by simp; omega)
    rw [snd_map, List.nil_append] at q
    exact q
  have d1 := fun s3 s4 s5 s6 => comp_id (j := 5) (i := 1) (L := L) (f := Prod.fst) (env := [.val (.lst (L.map pT)), .val (xsT L), .val (ysT L), s3, s4, s5, s6]) (r := r) rfl (fun _ => rfl) (fun _ => rfl) (by omega)
  have d2 := fun s3 s4 s5 s6 => comp_id (j := 6) (i := 2) (L := L) (f := Prod.snd) (env := [.val (.lst (L.map pT)), .val (xsT L), .val (ysT L), s3, s4, s5, s6]) (r := r) rfl (fun _ => rfl) (fun _ => rfl) (by omega)
  refine n_fn (n_seq (n_par2 (x := xsT L) (y := ysT L) (r1 := r) (r2 := r) (c1 _ _ _ _ _ _) (c2 _ _ _ _ _ _)) (n_seq (n_set (t := .lst [.int a, .int b]) (r1 := r) (e_lst (e_cons (x := .int a) (r1 := r) (e_b1 (d1 _ _ _ _) (min_ok e.a r)) (e_cons (x := .int b) (r1 := r) (e_b1 (d1 _ _ _ _) (max_ok e.b r)) rfl))))
    (n_seqR (n_ret (e_tup (e_cons (x := .int a) (r1 := r) rfl (e_cons (x := .int b) (r1 := r) rfl (e_cons (x := .int c) (r1 := r) (e_b1 (d2 _ _ _ _) (min_ok e.c r)) (e_cons (x := .int d) (r1 := r) (e_b1 (d2 _ _ _ _) (max_ok e.d r)) rfl)))))))))
/-! the law's own corners -/
theorem led {c : Nat} (h : Ltr c) (r : RS) : F__law_led [one c] r = .ok (pr (dx c) (dy c)) r := by
  rcases h with rfl | rfl | rfl | rfl <;> rfl
abbrev ciBody : Sm := (qSeq (qSet 7 (fCall F__law_led [] [(fVar 6)]))
    (qSeq (qApp 2 (fTup [(fBin addT (fIx (fIx (fBor 2) (fUn negT (fC (.int 1)))) (fC (.int 0))) (fIx (fVar 7) (fC (.int 0)))), (fBin addT (fIx (fIx (fBor 2) (fUn negT (fC (.int 1)))) (fC (.int 1))) (fIx (fVar 7) (fC (.int 1))))]))
    qNil))
theorem ci_loop (s0 s1 s3 s4 s5 : Slot) (r : RS) : ∀ (l : List Nat) (acc : List T) (x y : Int) (s6 s7 : Slot), AllL l → acc.length + l.length < 90000 →
    ∃ s6' s7', loopF (hName 6) ciBody (chrs l) [s0, s1, .own (acc ++ [pr x y]), s3, s4, s5, s6, s7] r = .nx [s0, s1, .own (acc ++ path x y l), s3, s4, s5, s6', s7'] r
  | [], acc, x, y, s6, s7, _, _ => ⟨s6, s7, rfl⟩
  | c :: l, acc, x, y, s6, s7, hW, hl => by
    rw [List.length_cons] at hl
    obtain ⟨s6', s7', ih⟩ := ci_loop s0 s1 s3 s4 s5 r l (acc ++ [pr x y]) (x + dx c) (y + dy c) (.val (one c)) (.val (pr (dx c) (dy c))) hW.tl (by rw [List.length_append, List.length_singleton]; omega)
    have last : ∀ s6 s7 : Slot, fIx (fBor 2) (fUn negT (fC (.int 1))) [s0, s1, .own (acc ++ [pr x y]), s3, s4, s5, s6, s7] r = .ok (pr x y) r := fun s6 s7 => e_ix (x := .lst (acc ++ [pr x y])) (y := .int (-1)) (r1 := r) (r2 := r) rfl rfl (atI_last acc (pr x y))
    refine ⟨s6', s7', n_loop rfl (n_seq (n_set (t := pr (dx c) (dy c)) (r1 := r) (x_call (ts := [one c]) (r1 := r) rfl (led hW.hd r))) (n_seq (n_app (xs := acc ++ [pr x y]) (t := pr (x + dx c) (y + dy c)) (r1 := r) rfl (by rw [List.length_append, List.length_singleton]; omega) (e_tup (e_cons (x := .int (x + dx c)) (r1 := r) ?_ (e_cons (x := .int (y + dy c)) (r1 := r) ?_ rfl)))) rfl)) ?_⟩
    · exact e_bin (x := .int x) (y := .int (dx c)) (r1 := r) (r2 := r) (e_ix (x := pr x y) (y := .int 0) (r1 := r) (r2 := r) (last _ _) rfl rfl) rfl rfl
    · exact e_bin (x := .int y) (y := .int (dy c)) (r1 := r) (r2 := r) (e_ix (x := pr x y) (y := .int 1) (r1 := r) (r2 := r) (last _ _) rfl rfl) rfl rfl
    · show loopF (hName 6) ciBody (chrs l) [s0, s1, .own (acc ++ [pr x y] ++ [pr (x + dx c) (y + dy c)]), s3, s4, s5, .val (one c), .val (pr (dx c) (dy c))] r = _
      rw [ih, path_cons, List.append_assoc]; rfl
abbrev ctBody : Sm := (qSeq (qFor (fIter (fVar 3)) (hName 6) ciBody)
    qNil)
theorem ct_loop (s0 s1 s4 : Slot) {l : List Nat} (hW : AllL l) (r : RS) : ∀ (ts : List T) (acc : List T) (x y : Int) (s5 s6 s7 : Slot), acc.length + ts.length * l.length < 80000 →
    ∃ s5' s6' s7', loopF (hName 5) ctBody ts [s0, s1, .own (acc ++ [pr x y]), .val (wd l), s4, s5, s6, s7] r = .nx [s0, s1, .own (acc ++ path x y (rep ts.length l)), .val (wd l), s4, s5', s6', s7'] r
  | [], acc, x, y, s5, s6, s7, _ => ⟨s5, s6, s7, rfl⟩
  | t :: ts, acc, x, y, s5, s6, s7, hl => by
    rw [List.length_cons, Nat.add_mul, Nat.one_mul] at hl
    obtain ⟨s6a, s7a, w⟩ := ci_loop s0 s1 (.val (wd l)) s4 (.val t) r l acc x y s6 s7 hW (by omega)
    obtain ⟨zs, e1, e2⟩ := path_app l (rep ts.length l) x y
    have lz := path_len l x y
    rw [e1] at w lz
    rw [List.length_append, List.length_singleton] at lz
    obtain ⟨s5', s6', s7', ih⟩ := ct_loop s0 s1 s4 hW r ts (acc ++ zs) (x + sx l) (y + sy l) (.val t) s6a s7a (by rw [List.length_append]; omega)
    refine ⟨s5', s6', s7', n_loop rfl (n_seq (n_for (xs := chrs l) (r1 := r) rfl w) rfl) ?_⟩
    rw [← List.append_assoc, ih]
    show SO.nx [s0, s1, .own (acc ++ zs ++ path _ _ _), _, _, _, _, _] r = .nx [s0, s1, .own (acc ++ path x y (l ++ rep ts.length l)), _, _, _, _, _] r
    rw [e2, List.append_assoc]
abbrev cpBody : Sm := (qSeq (qFor (fRng1 (fVar 4)) (hName 5) ctBody)
    qNil)
theorem rngL_len (lo : Int) (n : Nat) : (rngL lo n).length = n := by simp [rngL]
theorem cp_loop (s0 s1 : Slot) (r : RS) : ∀ (P : List Part) (acc : List T) (x y : Int) (s3 s4 s5 s6 s7 : Slot), AllP P → acc.length + (flat P).length < 70000 →
    ∃ s3' s4' s5' s6' s7', loopF (hTupL 2 (hCons (hName 3) (hCons (hName 4) hNil))) cpBody (pts P) [s0, s1, .own (acc ++ [pr x y]), s3, s4, s5, s6, s7] r = .nx [s0, s1, .own (acc ++ path x y (flat P)), s3', s4', s5', s6', s7'] r
  | [], acc, x, y, s3, s4, s5, s6, s7, _, _ => ⟨s3, s4, s5, s6, s7, rfl⟩
  | p :: P, acc, x, y, s3, s4, s5, s6, s7, h, hl => by
    have hp := h p List.mem_cons_self
    have hn := hp.n
    rw [show flat (p :: P) = rep p.2 p.1 ++ flat P from rfl, List.length_append, rep_len] at hl
    obtain ⟨s5a, s6a, s7a, w⟩ := ct_loop s0 s1 (.val (.int (p.2 : Int))) hp.w r (rngL 0 p.2) acc x y s5 s6 s7 (by rw [rngL_len]; omega)
    rw [rngL_len] at w
    obtain ⟨zs, e1, e2⟩ := path_app (rep p.2 p.1) (flat P) x y
    have lz := path_len (rep p.2 p.1) x y
    rw [e1] at w lz
    rw [List.length_append, List.length_singleton, rep_len] at lz
    obtain ⟨s3', s4', s5', s6', s7', ih⟩ := cp_loop s0 s1 r P (acc ++ zs) (x + sx (rep p.2 p.1)) (y + sy (rep p.2 p.1)) (.val (wd p.1)) (.val (.int (p.2 : Int))) s5a s6a s7a h.tl (by rw [List.length_append]; omega)
    refine ⟨s3', s4', s5', s6', s7', n_loop rfl (n_seq (n_for (xs := rngL 0 p.2) (r1 := r) (rng1 rfl (by omega)) w) rfl) ?_⟩
    rw [← List.append_assoc, ih]
    show SO.nx [s0, s1, .own (acc ++ zs ++ path _ _ _), _, _, _, _, _] r = .nx [s0, s1, .own (acc ++ path x y (rep p.2 p.1 ++ flat P)), _, _, _, _, _] r
    rw [e2, List.append_assoc]
theorem corners {P : List Part} (h : AllP P) (hl : (flat P).length < 60000) (x y : Int) (r : RS) : F__law_corners [pr x y, .lst (pts P)] r = .ok (.lst (path x y (flat P))) r := by
  obtain ⟨s3, s4, s5, s6, s7, w⟩ := cp_loop (.val (pr x y)) (.val (.lst (pts P))) r P [] x y .un .un .un .un .un h (by simp; omega)
  exact n_fn (n_seq (n_own (xs := [pr x y]) (r1 := r) rfl) (n_seq (n_for (xs := pts P) (r1 := r) rfl w) (n_seqR (n_frz (n_ret rfl)))))
/-! the law's own sum -/
def Row (t : T) : Prop := ∃ a b c x d y, t = .tup [a, b, c, .int x, d, .int y] ∧ -(2 ^ 64) < y ∧ y < 2 ^ 64
def upS : T → Int
  | .tup [_, _, _, .int x, _, .int y] => x * y
  | _ => 0
structure Rw (xs : List T) (s : Int) : Prop where
  row : ∀ t ∈ xs, Row t
  sum : (xs.map upS).sum = s
theorem Rw.app {xs : List T} {s : Int} (h : Rw xs s) (a b c d : T) (x y : Int) (h1 : -(2 ^ 64) < y) (h2 : y < 2 ^ 64) : Rw (xs ++ [.tup [a, b, c, .int x, d, .int y]]) (s + x * y) := by
  refine ⟨fun t ht => ?_, ?_⟩
  · rcases List.mem_append.mp ht with ht | ht
    · exact h.row t ht
    · rw [List.mem_singleton.mp ht]; exact ⟨_, _, _, _, _, _, rfl, h1, h2⟩
  · rw [List.map_append, List.sum_append, h.sum]
    show s + (x * y + 0) = _
    rw [Int.add_zero]
theorem area {xs : List T} {s : Int} (h : Rw xs s) (hl : xs.length ≤ 90000) (r : RS) : F__law_area [.lst xs] r = .ok (.int s) r := by
  have c := comp_map (vs := [1]) (h := hName 1) (p := fYes) (f := fBin mulT (fIx (fVar 1) (fC (.int 3))) (fIx (fVar 1) (fC (.int 5)))) (env := [.val (.lst xs), .un]) (fun t => .int (upS t)) xs [] r (fun t ht => by
    obtain ⟨a, b, c, x, d, y, rfl, h1, h2⟩ := h.row t ht
    exact ⟨_, rfl, rfl, e_bin (x := .int x) (y := .int y) (r1 := r) (r2 := r) rfl rfl (mulR h1 h2)⟩) (by simp; omega)
  rw [List.nil_append] at c
  refine n_fn (n_seqR (n_ret (e_b1 (x := .lst (xs.map fun t => .int (upS t))) (r1 := r) (e_own (bind_ok (a := xs) (r1 := r) rfl c)) ?_)))
  show (intsT _).map (fun ns => T.int ns.sum) = _
  rw [ints_map upS xs, ← h.sum]; rfl
theorem rngL_step (lo : Int) (n : Nat) : rngL lo (n + 1) = .int lo :: rngL (lo + 1) n := by
  unfold rngL
  rw [List.range_succ_eq_map, List.map_cons, List.map_map]
  congr 1
  · show T.int (lo + 0) = _; rw [Int.add_zero]
  · refine List.map_congr_left fun i _ => ?_
    show T.int (lo + ((i + 1 : Nat) : Int)) = .int (lo + 1 + (i : Int))
    congr 1; omega
abbrev uiBody : Sm := (qSeq (qSet 9 (fCall F__law_led [] [(fIx (fVar 5) (fVar 8))]))
    (qSeq (qIf (fCmpB neT (fIx (fVar 9) (fC (.int 1))) (fC (.int 0))) (qSeq (qApp 2 (fTup [(fVar 4), (fVar 8), (fVar 7), (fIx (fVar 3) (fC (.int 0))), (fBin subT (fIx (fVar 3) (fC (.int 1))) (fB1 intT (fCmp ltT (fIx (fVar 9) (fC (.int 1))) (fC (.int 0))))), (fIx (fVar 9) (fC (.int 1)))]))
    qNil) qNil)
    (qSeq (qSet 3 (fTup [(fBin addT (fIx (fVar 3) (fC (.int 0))) (fIx (fVar 9) (fC (.int 0)))), (fBin addT (fIx (fVar 3) (fC (.int 1))) (fIx (fVar 9) (fC (.int 1))))]))
    qNil)))
theorem ui_loop (s0 s1 s6 : Slot) (u4 u7 : T) {l : List Nat} (hW : AllL l) (hL : l.length ≤ 24) (r : RS) : ∀ (m i : Nat) (xs : List T) (s a b : Int) (s8 s9 : Slot), i + m = l.length → Rw xs s → xs.length + m < 80000 →
    ∃ ys s8' s9', loopF (hName 8) uiBody (rngL (i : Int) m) [s0, s1, .own xs, .val (pr a b), .val u4, .val (wd l), s6, .val u7, s8, s9] r = .nx [s0, s1, .own ys, .val (pr (a + sx (l.drop i)) (b + sy (l.drop i))), .val u4, .val (wd l), s6, .val u7, s8', s9'] r ∧ Rw ys (s + ar a (l.drop i)) ∧ ys.length ≤ xs.length + m
  | 0, i, xs, s, a, b, s8, s9, hi, hr, hl => by
    have e : l.drop i = [] := List.drop_eq_nil_of_le (by omega)
    rw [e]
    refine ⟨xs, s8, s9, ?_, by rw [show s + ar a [] = s from Int.add_zero s]; exact hr, Nat.le_refl _⟩
    show SO.nx [s0, s1, .own xs, .val (pr a b), _, _, _, _, _, _] r = .nx [s0, s1, .own xs, .val (pr (a + 0) (b + 0)), _, _, _, _, _, _] r
    rw [Int.add_zero, Int.add_zero]
  | m + 1, i, xs, s, a, b, s8, s9, hi, hr, hl => by
    have il : i < l.length := by omega
    obtain ⟨c, ec⟩ : ∃ c, l[i]? = some c := ⟨l[i], List.getElem?_eq_getElem il⟩
    have ed : l.drop i = c :: l.drop (i + 1) := by
      have e0 : l[i] = c := by rw [List.getElem?_eq_getElem il] at ec; exact Option.some.inj ec
      rw [List.drop_eq_getElem_cons il, e0]
    have hc : Ltr c := hW c (List.mem_of_getElem? ec)
    have k1 := led hc r
    have k2 := ix_wd (l := l) (by omega) ec r
    have q := dxy_abs c
    have st : ∃ ys, uiBody [s0, s1, .own xs, .val (pr a b), .val u4, .val (wd l), s6, .val u7, .val (.int (i : Int)), s9] r = .nx [s0, s1, .own ys, .val (pr (a + dx c) (b + dy c)), .val u4, .val (wd l), s6, .val u7, .val (.int (i : Int)), .val (pr (dx c) (dy c))] r ∧ Rw ys (s + a * dy c) ∧ ys.length ≤ xs.length + 1 := by
      by_cases z : dy c = 0
      · refine ⟨xs, n_seq (n_set (t := pr (dx c) (dy c)) (r1 := r) (x_call (ts := [one c]) (r1 := r) (e_cons (x := one c) (r1 := r) (e_ix (x := wd l) (y := .int (i : Int)) (r1 := r) (r2 := r) rfl rfl k2) rfl) k1)) (n_seq (n_ifF (r1 := r) (e_cmpB (x := .int (dy c)) (y := .int 0) (r1 := r) (r2 := r) rfl rfl (by rw [neI, z]; rfl)) rfl) (n_seq (n_set (t := pr (a + dx c) (b + dy c)) (r1 := r) rfl) rfl)), by rw [z, Int.mul_zero, Int.add_zero]; exact hr, by omega⟩
      · refine ⟨xs ++ [.tup [u4, .int (i : Int), u7, .int a, .int (b - (if decide (dy c < 0) = true then 1 else 0)), .int (dy c)]], n_seq (n_set (t := pr (dx c) (dy c)) (r1 := r) (x_call (ts := [one c]) (r1 := r) (e_cons (x := one c) (r1 := r) (e_ix (x := wd l) (y := .int (i : Int)) (r1 := r) (r2 := r) rfl rfl k2) rfl) k1)) (n_seq (n_ifT (r1 := r) (e_cmpB (x := .int (dy c)) (y := .int 0) (r1 := r) (r2 := r) rfl rfl (by rw [neI, beq_eq_false_iff_ne.mpr z]; rfl)) (n_seq (n_app (xs := xs) (r1 := r) rfl (by omega) rfl) rfl)) (n_seq (n_set (t := pr (a + dx c) (b + dy c)) (r1 := r) rfl) rfl)), hr.app _ _ _ _ _ _ (by omega) (by omega), by rw [List.length_append, List.length_singleton]; omega⟩
    obtain ⟨ya, w, ra, la⟩ := st
    obtain ⟨ys, s8', s9', ih, rb, lb⟩ := ui_loop s0 s1 s6 u4 u7 hW hL r m (i + 1) ya (s + a * dy c) (a + dx c) (b + dy c) (.val (.int (i : Int))) (.val (pr (dx c) (dy c))) (by omega) ra (by omega)
    rw [ed, sx_cons, sy_cons, ar_cons, ← Int.add_assoc, ← Int.add_assoc, ← Int.add_assoc]
    refine ⟨ys, s8', s9', ?_, rb, by omega⟩
    rw [rngL_step]
    exact n_loop rfl w ih
abbrev utBody : Sm := (qSeq (qFor (fRng1 (fB1 lenT (fVar 5))) (hName 8) uiBody)
    qNil)
theorem ut_loop (s0 s1 s6 : Slot) (u4 : T) {l : List Nat} (hW : AllL l) (hL : l.length ≤ 24) (r : RS) : ∀ (ts xs : List T) (s a b : Int) (s7 s8 s9 : Slot), Rw xs s → xs.length + ts.length * l.length < 70000 →
    ∃ ys s7' s8' s9', loopF (hName 7) utBody ts [s0, s1, .own xs, .val (pr a b), .val u4, .val (wd l), s6, s7, s8, s9] r = .nx [s0, s1, .own ys, .val (pr (a + sx (rep ts.length l)) (b + sy (rep ts.length l))), .val u4, .val (wd l), s6, s7', s8', s9'] r ∧ Rw ys (s + ar a (rep ts.length l)) ∧ ys.length ≤ xs.length + ts.length * l.length
  | [], xs, s, a, b, s7, s8, s9, hr, _ => by
    refine ⟨xs, s7, s8, s9, ?_, by rw [show s + ar a (rep ([] : List T).length l) = s from Int.add_zero s]; exact hr, by simp⟩
    show SO.nx [s0, s1, .own xs, .val (pr a b), _, _, _, _, _, _] r = .nx [s0, s1, .own xs, .val (pr (a + 0) (b + 0)), _, _, _, _, _, _] r
    rw [Int.add_zero, Int.add_zero]
  | t :: ts, xs, s, a, b, s7, s8, s9, hr, hl => by
    rw [List.length_cons, Nat.add_mul, Nat.one_mul] at hl
    obtain ⟨ya, s8a, s9a, w, ra, la⟩ := ui_loop s0 s1 s6 u4 t hW hL r l.length 0 xs s a b s8 s9 (by omega) hr (by omega)
    rw [List.drop_zero] at w ra
    obtain ⟨ys, s7', s8', s9', ih, rb, lb⟩ := ut_loop s0 s1 s6 u4 hW hL r ts ya (s + ar a l) (a + sx l) (b + sy l) (.val t) s8a s9a ra (by omega)
    have e1 : rep (t :: ts).length l = l ++ rep ts.length l := rfl
    rw [e1, sx_app, sy_app, ar_app, ← Int.add_assoc, ← Int.add_assoc, ← Int.add_assoc]
    refine ⟨ys, s7', s8', s9', n_loop rfl (n_seq (n_for (xs := rngL 0 l.length) (r1 := r) (rng1 (e_b1 (x := wd l) (r1 := r) rfl (lenW (by omega) r)) (by omega)) w) rfl) ih, rb, ?_⟩
    rw [List.length_cons, Nat.add_mul, Nat.one_mul]; omega
abbrev upBody : Sm := (qSeq (qAsg (fIx (fVar 1) (fVar 4)) (hTupL 2 (hCons (hName 5) (hCons (hName 6) hNil))))
    (qSeq (qFor (fRng1 (fVar 6)) (hName 7) utBody)
    qNil))
theorem up_loop (s0 : Slot) {A : List Part} (h : AllP A) (hA : A.length ≤ 100) (r : RS) : ∀ (m i : Nat) (xs : List T) (s a b : Int) (s4 s5 s6 s7 s8 s9 : Slot), i + m = A.length → Rw xs s → xs.length + (flat (A.drop i)).length < 60000 →
    ∃ ys s3' s4' s5' s6' s7' s8' s9', loopF (hName 4) upBody (rngL (i : Int) m) [s0, .val (.lst (pts A)), .own xs, .val (pr a b), s4, s5, s6, s7, s8, s9] r = .nx [s0, .val (.lst (pts A)), .own ys, s3', s4', s5', s6', s7', s8', s9'] r ∧ Rw ys (s + ar a (flat (A.drop i))) ∧ ys.length ≤ xs.length + (flat (A.drop i)).length
  | 0, i, xs, s, a, b, s4, s5, s6, s7, s8, s9, hi, hr, hl => by
    have e : A.drop i = [] := List.drop_eq_nil_of_le (by omega)
    rw [e]
    exact ⟨xs, .val (pr a b), s4, s5, s6, s7, s8, s9, rfl, by rw [show s + ar a (flat []) = s from Int.add_zero s]; exact hr, by simp [flat]⟩
  | m + 1, i, xs, s, a, b, s4, s5, s6, s7, s8, s9, hi, hr, hl => by
    have il : i < A.length := by omega
    obtain ⟨p, ep⟩ : ∃ p, A[i]? = some p := ⟨A[i], List.getElem?_eq_getElem il⟩
    have ed : A.drop i = p :: A.drop (i + 1) := by
      have e0 : A[i] = p := by rw [List.getElem?_eq_getElem il] at ep; exact Option.some.inj ep
      rw [List.drop_eq_getElem_cons il, e0]
    have hp := h p (List.mem_of_getElem? ep)
    have hn := hp.n
    rw [ed, show flat (p :: A.drop (i + 1)) = rep p.2 p.1 ++ flat (A.drop (i + 1)) from rfl, List.length_append, rep_len] at hl
    obtain ⟨ya, s7a, s8a, s9a, w, ra, la⟩ := ut_loop s0 (.val (.lst (pts A))) (.val (.int (p.2 : Int))) (.int (i : Int)) hp.w hp.l2 r (rngL 0 p.2) xs s a b s7 s8 s9 hr (by rw [rngL_len]; omega)
    rw [rngL_len] at w ra la
    obtain ⟨ys, s3', s4', s5', s6', s7', s8', s9', ih, rb, lb⟩ := up_loop s0 h hA r m (i + 1) ya (s + ar a (rep p.2 p.1)) (a + sx (rep p.2 p.1)) (b + sy (rep p.2 p.1)) (.val (.int (i : Int))) (.val (wd p.1)) (.val (.int (p.2 : Int))) s7a s8a s9a (by omega) ra (by omega)
    have k2 : ixT r (.lst (pts A)) (.int (i : Int)) = some (pt p) := atI_nat (by rw [List.getElem?_map, ep]; rfl)
    rw [ed, show flat (p :: A.drop (i + 1)) = rep p.2 p.1 ++ flat (A.drop (i + 1)) from rfl, ar_app, ← Int.add_assoc, List.length_append, rep_len]
    refine ⟨ys, s3', s4', s5', s6', s7', s8', s9', ?_, rb, by omega⟩
    rw [rngL_step]
    exact n_loop rfl (n_seq (n_asg (x := pt p) (r1 := r) (e_ix (x := .lst (pts A)) (y := .int (i : Int)) (r1 := r) (r2 := r) rfl rfl k2) rfl) (n_seq (n_for (xs := rngL 0 p.2) (r1 := r) (rng1 rfl (by omega)) w) rfl)) ih
theorem n_par2ov {i j : Nat} {f : Ep.Env → M (List T)} {g : Ep.Env → M T} {env : Ep.Env} {r r1 r2 : RS} {u : T} {xs : List T} (h1 : f env r = .ok xs r1) (h2 : g env r1 = .ok u r2) : qPar2ov i j f g env r = .nx ((env.set i (.own xs)).set j (.val u)) r2 := by
  unfold qPar2ov ofM; rw [h1]; dsimp only; rw [h2]
theorem uprights {P : List Part} (h : AllP P) (hP : P.length ≤ 100) (hl : (flat P).length < 50000) (x y : Int) (r : RS) : ∃ xs, F__law_uprights [pr x y, .lst (pts P)] r = .ok (.lst xs) r ∧ Rw xs (ar x (flat P)) ∧ xs.length ≤ 50000 := by
  obtain ⟨ys, s3, s4, s5, s6, s7, s8, s9, w, rw_, lw⟩ := up_loop (.val (pr x y)) h hP r P.length 0 [] 0 x y .un .un .un .un .un .un (by omega) ⟨(fun _ h => by cases h), rfl⟩ (by simp; omega)
  rw [List.drop_zero, Int.zero_add] at rw_
  rw [List.drop_zero, List.length_nil] at lw
  refine ⟨ys, n_fn (n_seq (n_par2ov (xs := []) (u := pr x y) (r1 := r) (r2 := r) rfl rfl) (n_seq (n_for (xs := rngL 0 P.length) (r1 := r) (rng1 (e_b1 (x := .lst (pts P)) (r1 := r) rfl ?_) (by omega)) w) (n_seqR (n_frz (n_ret rfl))))), rw_, by omega⟩
  show some (T.int ((pts P).length : Nat)) = _
  rw [List.length_map]
end K62
namespace K62
open PySem Ep L2
theorem sub_one {l : List Nat} {c i : Nat} (h : i < l.length) : Builtin.Str.subAt ⟨l.toArray⟩ ⟨#[c]⟩ i = decide (l[i] = c) := by
  unfold Builtin.Str.subAt
  have e : (l.toArray.extract i (i + 1)) = #[l[i]] := by
    apply Array.toList_inj.mp
    rw [Array.toList_extract]
    show List.extract l i (i + 1) = [l[i]]
    unfold List.extract
    rw [List.drop_eq_getElem_cons h, show i + 1 - i = 1 by omega]
    rfl
  show (l.toArray.extract i (i + 1) == #[c]) = _
  rw [e]
  by_cases q : l[i] = c
  · rw [q]; simp
  · rw [decide_eq_false q]
    exact beq_eq_false_iff_ne.mpr fun z => q (by simpa using z)
theorem occ_one (l : List Nat) (c : Nat) : ∀ (n i : Nat) (f : Array Nat) (k : Nat), i + n = l.length + 1 → k ≤ i → f.size ≤ i → (forIn (m := Id) (List.range' i n) (f, k) (StrLaws.occBody ⟨l.toArray⟩ ⟨#[c]⟩ l.length (l.length + 1))).run.fst.size = f.size + (l.drop i).count c
  | 0, i, f, k, h, _, _ => by
    rw [List.drop_eq_nil_of_le (by omega)]
    rfl
  | n + 1, i, f, k, h, hk, hf => by
    rw [List.range'_succ, List.forIn_cons]
    by_cases q : i < l.length
    · rw [List.drop_eq_getElem_cons q, List.count_cons]
      by_cases q2 : l[i] = c
      · have hc : ((f.size < l.length + 1 ∧ k ≤ i) ∧ i + (⟨#[c]⟩ : Str).length ≤ l.length) ∧ Builtin.Str.subAt ⟨l.toArray⟩ ⟨#[c]⟩ i = true := ⟨⟨⟨by omega, hk⟩, by show i + 1 ≤ _; omega⟩, by rw [sub_one q, decide_eq_true q2]⟩
        simp only [StrLaws.occBody, if_pos hc]
        have := occ_one l c n (i + 1) (f.push i) (i + (⟨#[c]⟩ : Str).length) (by omega) (by show i + 1 ≤ _; omega) (by rw [Array.size_push]; omega)
        rw [Array.size_push] at this
        refine this.trans ?_
        rw [q2, beq_self_eq_true, if_pos rfl]
        omega
      · have hc : ¬ (((f.size < l.length + 1 ∧ k ≤ i) ∧ i + (⟨#[c]⟩ : Str).length ≤ l.length) ∧ Builtin.Str.subAt ⟨l.toArray⟩ ⟨#[c]⟩ i = true) := fun z => by
          rw [sub_one q, decide_eq_false q2] at z
          exact absurd z.2 (by decide)
        simp only [StrLaws.occBody, if_neg hc]
        refine (occ_one l c n (i + 1) f k (by omega) (by omega) (by omega)).trans ?_
        rw [beq_eq_false_iff_ne.mpr q2]
        simp
    · have hc : ¬ (((f.size < l.length + 1 ∧ k ≤ i) ∧ i + (⟨#[c]⟩ : Str).length ≤ l.length) ∧ Builtin.Str.subAt ⟨l.toArray⟩ ⟨#[c]⟩ i = true) := fun z => by
        have : i + 1 ≤ l.length := z.1.2
        omega
      simp only [StrLaws.occBody, if_neg hc]
      refine (occ_one l c n (i + 1) f k (by omega) (by omega) (by omega)).trans ?_
      rw [List.drop_eq_nil_of_le (by omega), List.drop_eq_nil_of_le (by omega)]
theorem count_one (l : List Nat) (c : Nat) : Txt.count ⟨l.toArray⟩ ⟨#[c]⟩ = (l.count c : Nat) := by
  unfold Txt.count
  rw [StrLaws.occ_eq]
  have e : (⟨l.toArray⟩ : Str).length = l.length := by show l.toArray.size = _; rw [List.size_toArray]
  rw [e]
  have := occ_one l c (l.length + 1) 0 #[] 0 (by omega) (Nat.le_refl _) (by simp)
  rw [Array.length_toList]
  simp only [Nat.sub_zero]
  rw [this]
  simp
theorem draw {k : Nat} {a b n : Int} {r : RS} (hk : r[k]? = some [.int a, .int b]) (hn : 0 < n) (hn2 : n.natAbs < 2 ^ 1000) : ∃ v a' b', F__law_draw [.ref k, .int n] r = .ok (.int v) (r.set k [.int a', .int b']) ∧ 0 ≤ v ∧ v < n := by
  by_cases h : 0 < a
  · refine ⟨a % n, a / n, b, ?_, Int.emod_nonneg _ (by omega), Int.emod_lt_of_pos _ hn⟩
    refine n_fn (n_seqR (n_ifT (r1 := r) (e_cmpB (x := .int a) (y := .int 0) (r1 := r) (r2 := r) (e_ix rfl rfl (fst_ref hk)) rfl ?_) (n_seq (n_set (t := .int (a % n)) (r1 := r) (e_bin (r1 := r) (r2 := r) (x := .int a) (y := .int n) (e_b1 (x := .int a) (e_ix rfl rfl (fst_ref hk)) rfl) rfl (modP hn)))
      (n_seq (n_setIx (k := k) (j := 0) (x := 0) (xs := [.int a, .int b]) (t := .int (a / n)) (r1 := r) (r2 := r) rfl (e_bin (r1 := r) (x := .int a) (y := .int n) (e_ix rfl rfl (fst_ref hk)) rfl (divB hn hn2)) rfl hk rfl) (n_seqR (n_ret (t := .int (a % n)) (r1 := r.set k [.int (a / n), .int b]) rfl))))))
    rw [gt_ii, decide_eq_true h]
  · have hl : k < r.length := (List.getElem?_eq_some_iff.mp hk).1
    have m1 : 0 ≤ (b * 48271 + 11) % 2147483647 := Int.emod_nonneg _ (by omega)
    have m2 : (b * 48271 + 11) % 2147483647 < 2147483647 := Int.emod_lt_of_pos _ (by omega)
    generalize e : (b * 48271 + 11) % 2147483647 = c at m1 m2
    have hk2 : (r.set k [.int a, .int c])[k]? = some [.int a, .int c] := List.getElem?_set_self hl
    refine ⟨(c * c) % 2147483629 / 16 % n, a, c, ?_, Int.emod_nonneg _ (by omega), Int.emod_lt_of_pos _ hn⟩
    refine n_fn (n_seq (env' := envOf 1 [.ref k, .int n]) (r1 := r) (n_ifF (r1 := r) (e_cmpB (x := .int a) (y := .int 0) (r1 := r) (r2 := r) (e_ix rfl rfl (fst_ref hk)) rfl ?_) rfl)
      (n_seq (n_setIx (k := k) (j := 1) (x := 1) (xs := [.int a, .int b]) (t := .int c) (r1 := r) (r2 := r) rfl
        (e_bin (x := .int (b * 48271 + 11)) (y := .int 2147483647) (r1 := r) (e_b1 (x := .int (b * 48271 + 11)) (e_bin (x := .int (b * 48271)) (y := .int 11) (r1 := r) (e_bin (x := .int b) (y := .int 48271) (r1 := r) (e_ix rfl rfl (snd_ref hk)) rfl (mulR (by decide) (by decide))) rfl rfl) rfl) rfl ?_) rfl hk rfl)
      (n_seqR (n_ret (t := .int ((c * c) % 2147483629 / 16 % n)) (r1 := r.set k [.int a, .int c])
        (e_bin (x := .int ((c * c) % 2147483629 / 16)) (y := .int n) (r1 := r.set k [.int a, .int c]) (e_b1 (x := .int ((c * c) % 2147483629 / 16)) (e_bin (x := .int ((c * c) % 2147483629)) (y := .int 16) (r1 := r.set k [.int a, .int c]) (e_bin (x := .int (c * c)) (y := .int 2147483629) (r1 := r.set k [.int a, .int c])
          (e_b1 (x := .int (c * c)) (e_bin (x := .int c) (y := .int c) (r1 := r.set k [.int a, .int c]) (e_ix rfl rfl (snd_ref hk2)) (e_ix rfl rfl (snd_ref hk2)) (mulR (by omega) (by omega))) rfl) rfl (modP (by decide))) rfl (divB (by decide) (by decide))) rfl) rfl (modP hn))))))
    · rw [gt_ii, decide_eq_false h]
    · rw [modP (by decide), e]
theorem Pool.set {k : Nat} {r : RS} (h : Pool k r) (a b : Int) : Pool k (r.set k [.int a, .int b]) := by
  obtain ⟨a', b', h⟩ := h
  exact ⟨a, b, List.getElem?_set_self (List.getElem?_eq_some_iff.mp h).1⟩
theorem draw' {k : Nat} {n : Int} {r : RS} (h : Pool k r) (hn : 0 < n) (hn2 : n.natAbs < 2 ^ 1000) : ∃ v r', F__law_draw [.ref k, .int n] r = .ok (.int v) r' ∧ Pool k r' ∧ 0 ≤ v ∧ v < n := by
  have h0 := h
  obtain ⟨a, b, hk⟩ := h
  obtain ⟨v, a', b', e, h1, h2⟩ := draw hk hn hn2
  exact ⟨v, _, e, h0.set a' b', h1, h2⟩
theorem pick {k : Nat} {xs : List T} {r : RS} (h : Pool k r) (h0 : 0 < xs.length) (h1 : xs.length < 2 ^ 64) : ∃ t r', F__law_pick [.ref k, .lst xs] r = .ok t r' ∧ Pool k r' ∧ t ∈ xs := by
  obtain ⟨v, r', e, hp, v0, v1⟩ := draw' (n := xs.length) h (by omega) (by omega)
  have hv : v.toNat < xs.length := by omega
  have ea : L2.atI xs v = some xs[v.toNat] := by
    unfold L2.atI L2.ixN
    rw [if_pos v0, if_pos v1]
    simp [hv]
  refine ⟨xs[v.toNat], r', ?_, hp, List.getElem_mem _⟩
  exact n_fn (n_seqR (n_ret (e_ix (x := .lst xs) (y := .int v) (r1 := r) rfl (e_call (e_cons (x := .ref k) rfl (e_cons (x := .int xs.length) rfl e_nil)) e) ea)))
/-! turned back -/
abbrev tbBody : Sm := (qSeq (qApp 1 (fTup [(fStr1 joinT (fC (.str "")) (fOwn (fComp [4] (hName 4) fYes (fGd (fun z => (d_OPPOSITE.lookup z).bind id) (fVar 4)) (fIter (fRev (fVar 2)))))), (fVar 3)]))
    qNil)
def oppG : T → T
  | .str z => one (opp ((z.cps.toList.head?).getD 0))
  | t => t
theorem opp_one {c : Nat} (h : Ltr c) (r : RS) : M.lift ((fun z => (d_OPPOSITE.lookup z).bind id) (⟨#[c]⟩ : Str)) r = .ok (one (opp c)) r := by
  rcases h with rfl | rfl | rfl | rfl <;> rfl
theorem back_word {l : List Nat} (h : AllL l) (hl : l.length ≤ 24) (s0 s1 s3 : Slot) (r : RS) : fStr1 joinT (fC (.str "")) (fOwn (fComp [4] (hName 4) fYes (fGd (fun z => (d_OPPOSITE.lookup z).bind id) (fVar 4)) (fIter (fRev (fVar 2))))) [s0, s1, .val (wd l), s3, .un] r = .ok (wd (back l)) r := by
  have c := comp_map (vs := [4]) (h := hName 4) (p := fYes) (f := fGd (fun z => (d_OPPOSITE.lookup z).bind id) (fVar 4)) (env := [s0, s1, .val (wd l), s3, .un]) oppG (chrs l.reverse) [] r (fun t ht => by
    obtain ⟨c, hc, rfl⟩ := List.mem_map.mp ht
    exact ⟨[s0, s1, .val (wd l), s3, .val (one c)], rfl, rfl, opp_one (h c (List.mem_reverse.mp hc)) r⟩) (by simp; omega)
  have e : [] ++ (chrs l.reverse).map oppG = chrs (back l) := by
    rw [List.nil_append]
    unfold chrs back
    rw [List.map_map, List.map_map]; rfl
  rw [e] at c
  refine e_str1 (a := "") (y := .lst (chrs (back l))) rfl (e_own (bind_ok (a := chrs l.reverse) (r1 := r) (x_it (t := wd l.reverse) (r1 := r) (bind_ok (a := wd l) (r1 := r) rfl (by rw [revW (by omega)]; rfl)) rfl) c)) (joinC (by rw [back_len]; omega))
theorem tb_loop (s0 : Slot) (r : RS) : ∀ (Q A : List Part) (s2 s3 : Slot), AllP Q → A.length + Q.length < 1000 →
    ∃ s2' s3', loopF (hTupL 2 (hCons (hName 2) (hCons (hName 3) hNil))) tbBody (pts Q) [s0, .own (pts A), s2, s3, .un] r = .nx [s0, .own (pts (A ++ Q.map fun p => (back p.1, p.2))), s2', s3', .un] r
  | [], A, s2, s3, _, _ => ⟨s2, s3, by rw [List.map_nil, List.append_nil]; rfl⟩
  | p :: Q, A, s2, s3, h, hl => by
    have hp := h p List.mem_cons_self
    rw [List.length_cons] at hl
    obtain ⟨s2', s3', ih⟩ := tb_loop s0 r Q (A ++ [(back p.1, p.2)]) (.val (wd p.1)) (.val (.int (p.2 : Int))) h.tl (by rw [List.length_append, List.length_singleton]; omega)
    refine ⟨s2', s3', n_loop rfl (n_seq (n_app (xs := pts A) (t := pt (back p.1, p.2)) (r1 := r) rfl (by rw [List.length_map]; omega) (e_tup (e_cons (x := wd (back p.1)) (r1 := r) (back_word hp.w hp.l2 _ _ _ r) rfl))) rfl) ?_⟩
    show loopF _ tbBody (pts Q) [s0, .own (pts A ++ [pt (back p.1, p.2)]), _, _, _] r = _
    rw [show pts A ++ [pt (back p.1, p.2)] = pts (A ++ [(back p.1, p.2)]) by rw [pts, pts, List.map_append]; rfl, ih, List.append_assoc]; rfl
theorem backwards {C : Nat} (hC : Cl C) {x y : Int} {P : List Part} (h : AllP P) (hl : P.length ≤ 6) (r : RS) : F_backwards [wkc C x y P] r = .ok (wkc 5 (x + sx (flat P)) (y + sy (flat P)) (backP P)) r := by
  obtain ⟨s2, s3, w⟩ := tb_loop (.val (wkc C x y P)) r P.reverse [] .un .un (fun p hp => h p (List.mem_reverse.mp hp)) (by simp; omega)
  rw [List.nil_append] at w
  have t : F_turned_back [wkc C x y P] r = .ok (wkc 5 (x + sx (flat P)) (y + sy (flat P)) (backP P)) r := by
    refine n_fn (n_seq (n_expr (x_call (ts := [wkc C x y P]) (r1 := r) rfl (chk_wa hC x y P r))) (n_seq (n_own (xs := []) (r1 := r) rfl) (n_seq (n_for (xs := pts P.reverse) (r1 := r) (x_it (t := .tup (pts P).reverse) (r1 := r) (x_revT (partsC hC rfl r)) (by show some (pts P).reverse = _; rw [pts, pts, List.map_reverse])) w)
      (n_seqR (n_frz (n_ret (x_make (ts := [pr (x + sx (flat P)) (y + sy (flat P)), .lst (pts (backP P))]) (r1 := r) (e_cons (x := pr (x + sx (flat P)) (y + sy (flat P))) (r1 := r) (e_self rfl (goalC hC h r) hC.mem) rfl) rfl)))))))
  exact n_fn (n_seq (n_expr (x_call (ts := [wkc C x y P]) (r1 := r) rfl (chk_cl hC x y P r))) (n_seqR (n_ret (x_call (ts := [wkc C x y P]) (r1 := r) rfl t))))
end K62
namespace K62
open PySem Ep L2
/-! what the law draws -/
theorem pickW {k : Nat} {l : List Nat} {r : RS} (h : Pool k r) (hW : AllL l) (h0 : 1 ≤ l.length) (h1 : l.length ≤ 100) : ∃ c r', F__law_pick [.ref k, wd l] r = .ok (one c) r' ∧ Pool k r' ∧ Ltr c := by
  obtain ⟨v, r', e, hp, v0, v1⟩ := draw' (n := (l.length : Int)) h (by omega) (by omega)
  have hv : v.toNat < l.length := by omega
  have ev : v = (v.toNat : Int) := by omega
  have k2 := ix_wd (l := l) (i := v.toNat) (c := l[v.toNat]) (by omega) (List.getElem?_eq_getElem hv) r'
  rw [← ev] at k2
  refine ⟨l[v.toNat], r', ?_, hp, hW _ (List.getElem_mem _)⟩
  exact n_fn (n_seqR (n_ret (e_ix (x := wd l) (y := .int v) (r1 := r) (r2 := r') rfl (x_call (ts := [.ref k, .int (l.length : Int)]) (r1 := r) (e_cons (x := .ref k) (r1 := r) rfl (e_cons (x := .int (l.length : Int)) (r1 := r) (e_b1 (x := wd l) (r1 := r) rfl (lenW (by omega) r)) rfl)) e) k2)))
def signs : List T := [.str "ENWS", .str "ENWS", .str "EN", .str "ENE", .str "NWN", .str "EWN"]
theorem lE : Ltr 69 := .inl rfl
theorem lN : Ltr 78 := .inr (.inl rfl)
theorem lV : Ltr 87 := .inr (.inr (.inl rfl))
theorem lS : Ltr 83 := .inr (.inr (.inr rfl))
theorem all_nil : AllL [] := fun _ h => by cases h
theorem all_cons {c : Nat} {l : List Nat} (h : Ltr c) (hl : AllL l) : AllL (c :: l) := fun d hd => by
  rcases List.mem_cons.mp hd with rfl | hd
  · exact h
  · exact hl d hd
theorem sign_of {t : T} (h : t ∈ signs) : ∃ l, t = wd l ∧ AllL l ∧ 1 ≤ l.length ∧ l.length ≤ 100 := by
  simp only [signs, List.mem_cons, List.not_mem_nil, or_false] at h
  rcases h with rfl | rfl | rfl | rfl | rfl | rfl
  · exact ⟨[69, 78, 87, 83], rfl, all_cons lE (all_cons lN (all_cons lV (all_cons lS all_nil))), by decide, by decide⟩
  · exact ⟨[69, 78, 87, 83], rfl, all_cons lE (all_cons lN (all_cons lV (all_cons lS all_nil))), by decide, by decide⟩
  · exact ⟨[69, 78], rfl, all_cons lE (all_cons lN all_nil), by decide, by decide⟩
  · exact ⟨[69, 78, 69], rfl, all_cons lE (all_cons lN (all_cons lE all_nil)), by decide, by decide⟩
  · exact ⟨[78, 87, 78], rfl, all_cons lN (all_cons lV (all_cons lN all_nil)), by decide, by decide⟩
  · exact ⟨[69, 87, 78], rfl, all_cons lE (all_cons lV (all_cons lN all_nil)), by decide, by decide⟩
theorem word_drawn {k : Nat} {r : RS} (h : Pool k r) : ∃ l r', F__law_word_drawn [.ref k, .int 5] r = .ok (wd l) r' ∧ Pool k r' ∧ AllL l ∧ 1 ≤ l.length ∧ l.length ≤ 5 := by
  obtain ⟨t, r1, e1, h1, ht⟩ := pick (xs := signs) h (by decide) (by decide)
  obtain ⟨w, rfl, ww, w1, w2⟩ := sign_of ht
  obtain ⟨v, r2, e2, h2, v0, v1⟩ := draw' (n := 5) h1 (by decide) (by decide)
  obtain ⟨ys, r3, c3, h3, q3, l3⟩ := comp_st (vs := [3]) (h := hName 3) (p := fYes) (f := fCall F__law_pick [] [(fVar 0), (fVar 2)]) (env := [.val (.ref k), .val (.int 5), .val (wd w), .un]) (I := Pool k) (Q := fun y => ∃ c, y = one c ∧ Ltr c) (rngL 0 (1 + v).toNat) [] r2 h2 (fun x hx r hr => by
    obtain ⟨c, r', e, h', hc⟩ := pickW hr ww w1 w2
    exact ⟨[.val (.ref k), .val (.int 5), .val (wd w), .val x], one c, r', rfl, rfl, x_call (ts := [.ref k, wd w]) (r1 := r) rfl e, h', c, rfl, hc⟩) (by simp) (by simp [rngL]; omega)
  obtain ⟨l, rfl, hl⟩ := chrs_of q3
  have ll : l.length = (1 + v).toNat := by
    have : (chrs l).length = l.length := List.length_map _
    rw [this] at l3
    rw [l3]; simp [rngL]
  have f1 : fRng1 (fBin addT (fC (.int 1)) (fCall F__law_draw [] [(fVar 0), (fVar 1)])) [.val (.ref k), .val (.int 5), .val (wd w), .un] r1 = .ok (rngL 0 (1 + v).toNat) r2 := rng1s (e_bin (x := .int 1) (y := .int v) (r1 := r1) rfl (x_call (ts := [.ref k, .int 5]) (r1 := r1) rfl e2) rfl) (by omega)
  refine ⟨l, r3, ?_, h3, hl, by omega, by omega⟩
  refine n_fn (n_seq (n_set (t := wd w) (r1 := r1) (x_call (ts := [.ref k, .lst signs]) (r1 := r) rfl e1)) (n_seqR (n_ret ?_)))
  refine bind_ok (a := .str "") rfl (bind_ok (e_own (bind_ok (a := rngL 0 (1 + v).toNat) (r1 := r2) f1 c3)) ?_)
  rw [joinC (by omega)]; rfl
theorem cntE {l : List Nat} {env : Ep.Env} {i : Nat} (c : Nat) (h : env[i]? = some (.val (wd l))) (r : RS) : fStr1 countT (fVar i) (fC (one c)) env r = .ok (.int (l.count c : Nat)) r := by
  refine e_str1 (a := ⟨l.toArray⟩) (y := one c) (by unfold fVar; rw [h]; rfl) rfl ?_
  show some (T.int (Txt.count ⟨l.toArray⟩ ⟨#[c]⟩)) = _
  rw [count_one]
theorem cnt_x : ∀ {l : List Nat}, AllL l → (l.count 69 : Int) - (l.count 87 : Int) = sx l ∧ (l.count 78 : Int) - (l.count 83 : Int) = sy l
  | [], _ => ⟨rfl, rfl⟩
  | c :: l, h => by
    obtain ⟨i1, i2⟩ := cnt_x h.tl
    rw [sx_cons, sy_cons, ← i1, ← i2]
    rcases h.hd with rfl | rfl | rfl | rfl <;> simp [List.count_cons, dx, dy] <;> omega
structure Dr (P : List Part) : Prop where
  ok : AllP P
  few : ∀ p ∈ P, p.1.length * p.2 ≤ 60
theorem Dr.nil : Dr [] := ⟨fun _ h => (by cases h), fun _ h => (by cases h)⟩
theorem Dr.app {P Q : List Part} (h : Dr P) (h' : Dr Q) : Dr (P ++ Q) :=
  ⟨fun p hp => (List.mem_append.mp hp).elim (h.ok p) (h'.ok p), fun p hp => (List.mem_append.mp hp).elim (h.few p) (h'.few p)⟩
theorem Dr.one {p : Part} (h : OkP p) (hf : p.1.length * p.2 ≤ 60) : Dr [p] := ⟨fun q hq => by rw [List.mem_singleton.mp hq]; exact h, fun q hq => by rw [List.mem_singleton.mp hq]; exact hf⟩
theorem Dr.sub {P Q : List Part} (h : Dr P) (s : ∀ q ∈ Q, q ∈ P) : Dr Q := ⟨fun q hq => h.ok q (s q hq), fun q hq => h.few q (s q hq)⟩
theorem flat_few : ∀ {P : List Part}, (∀ p ∈ P, p.1.length * p.2 ≤ 60) → (flat P).length ≤ 60 * P.length
  | [], _ => Nat.le_refl _
  | p :: P, h => by
    have h1 := h p List.mem_cons_self
    have h2 := flat_few fun q hq => h q (List.mem_cons_of_mem _ hq)
    rw [show flat (p :: P) = rep p.2 p.1 ++ flat P from rfl, List.length_append, rep_len, List.length_cons, Nat.mul_comm p.2]
    omega
abbrev lpBody : Sm := (qSeq (qPar2 7 8 (fCall F__law_word_drawn [] [(fVar 0), (fC (.int 5))]) (fCall F__law_draw [] [(fVar 0), (fVar 1)]))
    (qSeq (qApp 2 (fTup [(fVar 7), (fVar 8)]))
    (qSeq (qSet 3 (fBin addT (fVar 3) (fBin mulT (fVar 8) (fBin subT (fStr1 countT (fVar 7) (fC (.str "E"))) (fStr1 countT (fVar 7) (fC (.str "W")))))))
    (qSeq (qSet 4 (fBin addT (fVar 4) (fBin mulT (fVar 8) (fBin subT (fStr1 countT (fVar 7) (fC (.str "N"))) (fStr1 countT (fVar 7) (fC (.str "S")))))))
    qNil))))
structure St (P : List Part) : Prop where
  ok : AllP P
  few : ∀ p ∈ P, p.1.length * p.2 ≤ 15
def Lp (k : Nat) (ys : List T) (env : Ep.Env) (r : RS) : Prop := ∃ P s5 s6 s7 s8, env = [.val (.ref k), .val (.int 4), .own (pts P), .val (.int (sx (flat P))), .val (.int (sy (flat P))), s5, s6, s7, s8] ∧ Pool k r ∧ St P ∧ P.length + ys.length ≤ 4
theorem lp_step {k : Nat} {r : RS} (h : Pool k r) {P : List Part} (s : St P) (hP : P.length < 4) (s5 s6 s7 s8 : Slot) : ∃ p s7' s8' r', lpBody [.val (.ref k), .val (.int 4), .own (pts P), .val (.int (sx (flat P))), .val (.int (sy (flat P))), s5, s6, s7, s8] r = .nx [.val (.ref k), .val (.int 4), .own (pts (P ++ [p])), .val (.int (sx (flat (P ++ [p])))), .val (.int (sy (flat (P ++ [p])))), s5, s6, s7', s8'] r' ∧ Pool k r' ∧ St (P ++ [p]) := by
  obtain ⟨l, r1, e1, h1, lw, l1, l5⟩ := word_drawn h
  obtain ⟨v, r2, e2, h2, v0, v1⟩ := draw' (n := 4) h1 (by decide) (by decide)
  obtain ⟨n, rfl⟩ : ∃ n : Nat, v = (n : Int) := ⟨v.toNat, by omega⟩
  have hn : n ≤ 3 := by omega
  obtain ⟨c1, c2⟩ := cnt_x lw
  have q := sx_abs l
  have m1 : mulT (.int (n : Int)) (.int (sx l)) = some (.int ((n : Int) * sx l)) := mulL (by omega) (by omega)
  have m2 : mulT (.int (n : Int)) (.int (sy l)) = some (.int ((n : Int) * sy l)) := mulL (by omega) (by omega)
  have ex : sx (flat (P ++ [(l, n)])) = sx (flat P) + (n : Int) * sx l := by rw [flat_app, sx_app, flat_sx, Int.mul_comm]; show _ + (_ + 0) = _; rw [Int.add_zero]
  have ey : sy (flat (P ++ [(l, n)])) = sy (flat P) + (n : Int) * sy l := by rw [flat_app, sy_app, flat_sy, Int.mul_comm]; show _ + (_ + 0) = _; rw [Int.add_zero]
  have okp : OkP (l, n) := ⟨lw, l1, by show l.length ≤ 24; omega, by show n ≤ 1000; omega⟩
  have ep : pts P ++ [pt (l, n)] = pts (P ++ [(l, n)]) := by rw [pts, pts, List.map_append]; rfl
  refine ⟨(l, n), .val (wd l), .val (.int (n : Int)), r2, ?_, h2, ⟨fun p hp => ?_, fun p hp => ?_⟩⟩
  · rw [ex, ey, ← ep]
    refine n_seq (n_par2 (x := wd l) (y := .int (n : Int)) (r1 := r1) (r2 := r2) (x_call (ts := [.ref k, .int 5]) (r1 := r) rfl e1) (x_call (ts := [.ref k, .int 4]) (r1 := r1) rfl e2)) (n_seq (n_app (xs := pts P) (t := pt (l, n)) (r1 := r2) rfl (by rw [List.length_map]; omega) rfl)
      (n_seq (n_set (t := .int (sx (flat P) + (n : Int) * sx l)) (r1 := r2) (e_bin (x := .int (sx (flat P))) (y := .int ((n : Int) * sx l)) (r1 := r2) (r2 := r2) rfl (e_bin (x := .int (n : Int)) (y := .int (sx l)) (r1 := r2) (r2 := r2) rfl ?_ m1) rfl)) (n_seq (n_set (t := .int (sy (flat P) + (n : Int) * sy l)) (r1 := r2) (e_bin (x := .int (sy (flat P))) (y := .int ((n : Int) * sy l)) (r1 := r2) (r2 := r2) rfl (e_bin (x := .int (n : Int)) (y := .int (sy l)) (r1 := r2) (r2 := r2) rfl ?_ m2) rfl)) rfl)))
    · exact e_bin (x := .int (l.count 69 : Nat)) (y := .int (l.count 87 : Nat)) (r1 := r2) (r2 := r2) (cntE 69 rfl r2) (cntE 87 rfl r2) (by rw [← c1]; rfl)
    · exact e_bin (x := .int (l.count 78 : Nat)) (y := .int (l.count 83 : Nat)) (r1 := r2) (r2 := r2) (cntE 78 rfl r2) (cntE 83 rfl r2) (by rw [← c2]; rfl)
  · rcases List.mem_append.mp hp with hp | hp
    · exact s.ok p hp
    · rw [List.mem_singleton.mp hp]; exact okp
  · rcases List.mem_append.mp hp with hp | hp
    · exact s.few p hp
    · rw [List.mem_singleton.mp hp]; show l.length * n ≤ 5 * 3; exact Nat.mul_le_mul l5 hn
theorem flat_15 : ∀ {P : List Part}, (∀ p ∈ P, p.1.length * p.2 ≤ 15) → (flat P).length ≤ 15 * P.length
  | [], _ => Nat.le_refl _
  | p :: P, h => by
    have h1 := h p List.mem_cons_self
    have h2 := flat_15 fun q hq => h q (List.mem_cons_of_mem _ hq)
    rw [show flat (p :: P) = rep p.2 p.1 ++ flat P from rfl, List.length_append, rep_len, List.length_cons, Nat.mul_comm p.2]
    omega
def bx (x : Int) : Part := ([if 0 < x then 87 else 69], x.natAbs)
def by' (y : Int) : Part := ([if 0 < y then 83 else 78], y.natAbs)
theorem bx_ok {x : Int} (h : x.natAbs ≤ 60) : Dr [bx x] := by
  refine .one ⟨fun c hc => ?_, Nat.le_refl 1, (by decide : 1 ≤ 24), by show x.natAbs ≤ 1000; omega⟩ (by show 1 * x.natAbs ≤ 60; omega)
  rw [List.mem_singleton.mp hc]
  split
  · exact lV
  · exact lE
theorem by_ok {y : Int} (h : y.natAbs ≤ 60) : Dr [by' y] := by
  refine .one ⟨fun c hc => ?_, Nat.le_refl 1, (by decide : 1 ≤ 24), by show y.natAbs ≤ 1000; omega⟩ (by show 1 * y.natAbs ≤ 60; omega)
  rw [List.mem_singleton.mp hc]
  split
  · exact lS
  · exact lN
theorem bx_s (x : Int) : sx (flat [bx x]) = - x ∧ sy (flat [bx x]) = 0 := by
  rw [flat_sx, flat_sy]
  show sx [if 0 < x then 87 else 69] * (x.natAbs : Int) + 0 = _ ∧ sy [if 0 < x then 87 else 69] * (x.natAbs : Int) + 0 = _
  split
  · rw [show sx [87] = -1 from rfl, show sy [87] = 0 from rfl]; omega
  · rw [show sx [69] = 1 from rfl, show sy [69] = 0 from rfl]; omega
theorem by_s (y : Int) : sx (flat [by' y]) = 0 ∧ sy (flat [by' y]) = - y := by
  rw [flat_sx, flat_sy]
  show sx [if 0 < y then 83 else 78] * (y.natAbs : Int) + 0 = _ ∧ sy [if 0 < y then 83 else 78] * (y.natAbs : Int) + 0 = _
  split
  · rw [show sx [83] = 0 from rfl, show sy [83] = -1 from rfl]; omega
  · rw [show sx [78] = 0 from rfl, show sy [78] = 1 from rfl]; omega
def many : List T := [.int 0, .int 1, .int 2, .int 3, .int 3, .int 4, .int 4]
theorem many_of {t : T} (h : t ∈ many) : ∃ n : Nat, t = .int (n : Int) ∧ n ≤ 4 := by
  simp only [many, List.mem_cons, List.not_mem_nil, or_false] at h
  rcases h with rfl | rfl | rfl | rfl | rfl | rfl | rfl
  · exact ⟨0, rfl, by decide⟩
  · exact ⟨1, rfl, by decide⟩
  · exact ⟨2, rfl, by decide⟩
  · exact ⟨3, rfl, by decide⟩
  · exact ⟨3, rfl, by decide⟩
  · exact ⟨4, rfl, by decide⟩
  · exact ⟨4, rfl, by decide⟩
theorem loop_parts {k : Nat} {r : RS} (h : Pool k r) : ∃ P r', F__law_loop_parts [.ref k, .int 4] r = .ok (.lst (pts P)) r' ∧ Pool k r' ∧ Dr P ∧ Shut P ∧ 2 ≤ P.length ∧ P.length ≤ 6 := by
  obtain ⟨t, r1, e1, h1, ht⟩ := pick (xs := many) h (by decide) (by decide)
  obtain ⟨n, rfl, hn⟩ := many_of ht
  have H : ∃ t r', F__law_loop_parts [.ref k, .int 4] r = .ok t r' ∧ ∃ P, t = .lst (pts P) ∧ Pool k r' ∧ Dr P ∧ Shut P ∧ 2 ≤ P.length ∧ P.length ≤ 6 := ho_fn ?_
  · obtain ⟨t, r', e, P, rfl, a, b, c, d, f⟩ := H
    exact ⟨P, r', e, a, b, c, d, f⟩
  refine ho_seq (n_par3o (u := .int 0) (v := .int 0) (r1 := r) rfl) ?_
  refine ho_fori (xs := rngL 0 (n : Int).toNat) (r1 := r1) (Lp k) (rng1s (i := (n : Int)) (x_call (ts := [.ref k, .lst many]) (r1 := r) rfl e1) (by omega)) ⟨[], .un, .un, .un, .un, rfl, h1, ⟨fun _ h => (by cases h), fun _ h => (by cases h)⟩, by rw [rngL_len]; simp; omega⟩ (fun x ys env r ⟨P, s5, s6, s7, s8, ee, hp, s, hl⟩ => ?_) fun env r ⟨P, s5, s6, s7, s8, ee, hp, s, hl⟩ => ?_
  · subst ee
    rw [List.length_cons] at hl
    obtain ⟨p, s7', s8', r', w, hp', s'⟩ := lp_step hp s (by omega) (.val x) s6 s7 s8
    exact ⟨_, rfl, _, _, w, P ++ [p], .val x, s6, s7', s8', rfl, hp', s', by rw [List.length_append, List.length_singleton]; omega⟩
  · subst ee
    have fl := flat_15 s.few
    have q := sx_abs (flat P)
    have hP : P.length ≤ 4 := by simpa using hl
    generalize hX : sx (flat P) = X at q
    generalize hY : sy (flat P) = Y at q
    obtain ⟨v, r2, e2, h2, v0, v1⟩ := draw' (n := 2) hp (by decide) (by decide)
    have i1 : ∀ env : Ep.Env, env[3]? = some (.val (.int X)) → (fIf (fCmpB gtT (fVar 3) (fC (.int 0))) (fC (.str "W")) (fC (.str "E"))) env r = .ok (wd (bx X).1) r := fun env he => by
      have g : fCmpB gtT (fVar 3) (fC (.int 0)) env r = .ok (decide (0 < X)) r := e_cmpB (x := .int X) (y := .int 0) (r1 := r) (r2 := r) (by unfold fVar; rw [he]; rfl) rfl (gt_ii X 0)
      unfold bx
      by_cases z : 0 < X
      · rw [decide_eq_true z] at g
        rw [if_pos z]
        exact e_ifT g rfl
      · rw [decide_eq_false z] at g
        rw [if_neg z]
        exact e_ifF g rfl
    have i2 : ∀ env : Ep.Env, env[4]? = some (.val (.int Y)) → (fIf (fCmpB gtT (fVar 4) (fC (.int 0))) (fC (.str "S")) (fC (.str "N"))) env r = .ok (wd (by' Y).1) r := fun env he => by
      have g : fCmpB gtT (fVar 4) (fC (.int 0)) env r = .ok (decide (0 < Y)) r := e_cmpB (x := .int Y) (y := .int 0) (r1 := r) (r2 := r) (by unfold fVar; rw [he]; rfl) rfl (gt_ii Y 0)
      unfold by'
      by_cases z : 0 < Y
      · rw [decide_eq_true z] at g
        rw [if_pos z]
        exact e_ifT g rfl
      · rw [decide_eq_false z] at g
        rw [if_neg z]
        exact e_ifF g rfl
    have a1 : ∀ env : Ep.Env, env[3]? = some (.val (.int X)) → (fB1 absT (fB1 intT (fVar 3))) env r = .ok (.int X.natAbs) r := fun env he => e_b1 (x := .int X) (r1 := r) (e_b1 (x := .int X) (r1 := r) (by unfold fVar; rw [he]; rfl) rfl) (absI r X)
    have a2 : ∀ env : Ep.Env, env[4]? = some (.val (.int Y)) → (fB1 absT (fB1 intT (fVar 4))) env r = .ok (.int Y.natAbs) r := fun env he => e_b1 (x := .int Y) (r1 := r) (e_b1 (x := .int Y) (r1 := r) (by unfold fVar; rw [he]; rfl) rfl) (absI r Y)
    have dr : Dr [bx X, by' Y] := Dr.app (bx_ok (by omega)) (by_ok (by omega))
    have dr' : Dr [by' Y, bx X] := Dr.app (by_ok (by omega)) (bx_ok (by omega))
    have dP : Dr P := ⟨s.ok, fun p hp => Nat.le_trans (s.few p hp) (by decide)⟩
    have sh : ∀ B : List Part, sx (flat B) = -X → sy (flat B) = -Y → Shut (P ++ B) := fun B b1 b2 => ⟨by rw [flat_app, sx_app, hX, b1]; omega, by rw [flat_app, sy_app, hY, b2]; omega⟩
    have b1 := bx_s X
    have b2 := by_s Y
    have f1 : sx (flat [bx X, by' Y]) = -X ∧ sy (flat [bx X, by' Y]) = -Y := by
      rw [show [bx X, by' Y] = [bx X] ++ [by' Y] from rfl, flat_app, sx_app, sy_app, b1.1, b1.2, b2.1, b2.2]; omega
    have f2 : sx (flat [by' Y, bx X]) = -X ∧ sy (flat [by' Y, bx X]) = -Y := by
      rw [show [by' Y, bx X] = [by' Y] ++ [bx X] from rfl, flat_app, sx_app, sy_app, b1.1, b1.2, b2.1, b2.2]; omega
    have add : ∀ B : List Part, B.length = 2 → addT (.lst (pts P)) (.lst (pts B)) = some (.lst (pts (P ++ B))) := fun B hB => by
      show (if (pts P).length + (pts B).length ≤ 100000 then some (T.lst (pts P ++ pts B)) else none) = _
      rw [if_pos (by rw [List.length_map, List.length_map]; omega), pts, pts, pts, List.map_append]
    refine ho_seq (n_set (t := .lst (pts [bx X, by' Y])) (r1 := r) (e_lst (e_cons (x := pt (bx X)) (r1 := r) (e_tup (e_cons (x := wd (bx X).1) (r1 := r) (i1 _ rfl) (e_cons (x := .int X.natAbs) (r1 := r) (a1 _ rfl) rfl))) (e_cons (x := pt (by' Y)) (r1 := r) (e_tup (e_cons (x := wd (by' Y).1) (r1 := r) (i2 _ rfl) (e_cons (x := .int Y.natAbs) (r1 := r) (a2 _ rfl) rfl))) rfl)))) ?_
    have g : ∀ env : Ep.Env, env[0]? = some (.val (.ref k)) → fCmpB eqT (fCall F__law_draw [] [(fVar 0), (fC (.int 2))]) (fC (.int 0)) env r = .ok (v == 0) r2 := fun env he => e_cmpB (x := .int v) (y := .int 0) (r1 := r2) (r2 := r2) (x_call (ts := [.ref k, .int 2]) (r1 := r) (e_cons (x := .ref k) (r1 := r) (by unfold fVar; rw [he]; rfl) rfl) e2) rfl rfl
    by_cases z : v = 0
    · subst z
      exact ho_ret (n_frz (n_ret (t := .lst (pts (P ++ [bx X, by' Y]))) (r1 := r2) (e_bin (x := .lst (pts P)) (y := .lst (pts [bx X, by' Y])) (r1 := r) (r2 := r2) rfl (e_ifT (g _ rfl) rfl) (add _ rfl)))) ⟨_, _, rfl, _, rfl, h2, dP.app dr, sh _ f1.1 f1.2, by rw [List.length_append]; show 2 ≤ _ + 2; omega, by rw [List.length_append]; show _ + 2 ≤ 6; omega⟩
    · have g := g
      rw [beq_eq_false_iff_ne.mpr z] at g
      exact ho_ret (n_frz (n_ret (t := .lst (pts (P ++ [by' Y, bx X]))) (r1 := r2) (e_bin (x := .lst (pts P)) (y := .lst (pts [by' Y, bx X])) (r1 := r) (r2 := r2) rfl (e_ifF (g _ rfl) (x_revL (xs := pts [bx X, by' Y]) (r1 := r2) rfl)) (add _ rfl)))) ⟨_, _, rfl, _, rfl, h2, dP.app dr', sh _ f2.1 f2.2, by rw [List.length_append]; show 2 ≤ _ + 2; omega, by rw [List.length_append]; show _ + 2 ≤ 6; omega⟩
end K62
namespace K62
open PySem Ep L2
theorem e_ref {f : Ep.Env → M (List T)} {env : Ep.Env} {r r1 : RS} {xs : List T} (h : f env r = .ok xs r1) : fRef f env r = .ok (.ref r1.length) (r1 ++ [xs]) := by
  unfold fRef; rw [h]
theorem pool (ns : List Int) (h : ns.length ≤ 63) (k : Nat) (k1 : k < 64) (r : RS) : ∃ a b, F__law_pool [.kls (ns.map T.int), .int (k : Int)] r = .ok (.ref r.length) (r ++ [[.int a, .int b]]) := by
  have ln : lenT r (.kls (ns.map T.int)) = some (.int (ns.length : Int)) := by
    show some (T.int ((ns.map T.int).length : Nat)) = _
    rw [List.length_map]
  have tst : ∀ s2 s3 : Slot, fCmpB ltT (fVar 1) (fB1 lenT (fVar 0)) [.val (.kls (ns.map T.int)), .val (.int (k : Int)), s2, s3] r = .ok (decide ((k : Int) < (ns.length : Int))) r := fun s2 s3 => e_cmpB (x := .int (k : Int)) (y := .int (ns.length : Int)) (r1 := r) (r2 := r) rfl (e_b1 (x := .kls (ns.map T.int)) (r1 := r) rfl ln) (ltI _ _)
  obtain ⟨w, e1⟩ : ∃ w : Int, ∀ s2 s3 : Slot, (fIf (fCmpB ltT (fVar 1) (fB1 lenT (fVar 0))) (fBin max2T (fB1 intT (fIx (fVar 0) (fVar 1))) (fB1 intT (fBin subT (fUn negT (fC (.int 1))) (fIx (fVar 0) (fVar 1))))) (fC (.int 7))) [.val (.kls (ns.map T.int)), .val (.int (k : Int)), s2, s3] r = .ok (.int w) r := by
    by_cases q : k < ns.length
    · have ix : ixT r (.kls (ns.map T.int)) (.int (k : Int)) = some (.int ns[k]) := atI_nat (by rw [List.getElem?_map, List.getElem?_eq_getElem q]; rfl)
      have e : ∀ s2 s3 : Slot, (fIx (fVar 0) (fVar 1)) [.val (.kls (ns.map T.int)), .val (.int (k : Int)), s2, s3] r = .ok (.int ns[k]) r := fun s2 s3 => e_ix (x := .kls (ns.map T.int)) (y := .int (k : Int)) (r1 := r) (r2 := r) rfl rfl ix
      refine ⟨if -1 - ns[k] > ns[k] then -1 - ns[k] else ns[k], fun s2 s3 => ?_⟩
      have t := tst s2 s3
      rw [decide_eq_true (by omega)] at t
      exact e_ifT t (e_bin (x := .int ns[k]) (y := .int (-1 - ns[k])) (r1 := r) (r2 := r) (e_b1 (x := .int ns[k]) (r1 := r) (e s2 s3) rfl) (e_b1 (x := .int (-1 - ns[k])) (r1 := r) (e_bin (x := .int (-1)) (y := .int ns[k]) (r1 := r) (r2 := r) rfl (e s2 s3) rfl) rfl) rfl)
    · refine ⟨7, fun s2 s3 => ?_⟩
      have t := tst s2 s3
      rw [decide_eq_false (by omega)] at t
      exact e_ifF t rfl
  have m1 : mulT (.int 104729) (.int ((k : Int) + 1)) = some (.int (104729 * ((k : Int) + 1))) := mulL (by decide) (by decide)
  have m2 : ∀ z : Int, mulT (.int z) (.int 48271) = some (.int (z * 48271)) := fun z => mulR (by decide) (by decide)
  obtain ⟨s, es⟩ : ∃ s, s = (w % 2147483629 + 104729 * ((k : Int) + 1)) * 48271 % 2147483629 + 1 := ⟨_, rfl⟩
  have b0 : 0 ≤ s - 1 ∧ s - 1 < 2147483629 := by rw [es, Int.add_sub_cancel]; exact ⟨Int.emod_nonneg _ (by decide), Int.emod_lt_of_pos _ (by decide)⟩
  have e2 : ∀ s3 : Slot, (fBin addT (fBin modT (fB1 intT (fBin mulT (fBin addT (fBin modT (fB1 intT (fVar 2)) (fC (.int 2147483629))) (fBin mulT (fC (.int 104729)) (fBin addT (fVar 1) (fC (.int 1))))) (fC (.int 48271)))) (fC (.int 2147483629))) (fC (.int 1))) [.val (.kls (ns.map T.int)), .val (.int (k : Int)), .val (.int w), s3] r = .ok (.int s) r := fun s3 => by
    rw [es]
    refine e_bin (x := .int ((w % 2147483629 + 104729 * ((k : Int) + 1)) * 48271 % 2147483629)) (y := .int 1) (r1 := r) (r2 := r) (e_bin (x := .int ((w % 2147483629 + 104729 * ((k : Int) + 1)) * 48271)) (y := .int 2147483629) (r1 := r) (r2 := r) (e_b1 (x := .int ((w % 2147483629 + 104729 * ((k : Int) + 1)) * 48271)) (r1 := r)
      (e_bin (x := .int (w % 2147483629 + 104729 * ((k : Int) + 1))) (y := .int 48271) (r1 := r) (r2 := r) (e_bin (x := .int (w % 2147483629)) (y := .int (104729 * ((k : Int) + 1))) (r1 := r) (r2 := r) (e_bin (x := .int w) (y := .int 2147483629) (r1 := r) (r2 := r) (e_b1 (x := .int w) (r1 := r) rfl rfl) rfl (modP (by decide))) (e_bin (x := .int 104729) (y := .int ((k : Int) + 1)) (r1 := r) (r2 := r) rfl rfl m1) rfl) rfl (m2 _)) rfl) rfl (modP (by decide))) rfl rfl
  have g1 : geT (.int w) (.int (10 ^ 18)) = some (decide ((10 : Int) ^ 18 ≤ w)) := rfl
  have m3 : ∀ b : Bool, mulT (.int w) (.int (if b = true then 1 else 0)) = some (.int (w * (if b = true then 1 else 0))) := fun b => by cases b <;> exact mulR (by decide) (by decide)
  have m4 : mulT (.int s) (.int s) = some (.int (s * s)) := mulL (by omega) (by omega)
  have w1 : powT (.int 10) (.int 18) = some (.int (10 ^ 18)) := rfl
  refine ⟨w * (if decide ((10 : Int) ^ 18 ≤ w) = true then 1 else 0), s * s % 2147483629, ?_⟩
  refine n_fn (n_seq (n_set (t := .int w) (r1 := r) (e1 _ _)) (n_seq (n_set (t := .int s) (r1 := r) (e2 _)) (n_seqR (n_ret (e_ref (r1 := r) (e_cons (x := .int (w * (if decide ((10 : Int) ^ 18 ≤ w) = true then 1 else 0))) (r1 := r) (e_bin (x := .int w) (y := .int (if decide ((10 : Int) ^ 18 ≤ w) = true then 1 else 0)) (r1 := r) (r2 := r) rfl (e_b1 (x := .bl (decide ((10 : Int) ^ 18 ≤ w))) (r1 := r) (e_cmp (x := .int w) (y := .int (10 ^ 18)) (r1 := r) (r2 := r) rfl (e_bin (x := .int 10) (y := .int 18) (r1 := r) (r2 := r) rfl rfl w1) g1) rfl) (m3 _))
    (e_cons (x := .int (s * s % 2147483629)) (r1 := r) (e_bin (x := .int (s * s)) (y := .int 2147483629) (r1 := r) (r2 := r) (e_b1 (x := .int (s * s)) (r1 := r) (e_bin (x := .int s) (y := .int s) (r1 := r) (r2 := r) rfl rfl m4) rfl) rfl (modP (by decide))) rfl)))))))
/-! the law's steps -/
theorem mk {x y : Int} {P : List Part} (h : AllP P) (hl : P.length ≤ 6) {f g : Ep.Env → M T} {env : Ep.Env} {r : RS} (hf : f env r = .ok (pr x y) r) (hg : g env r = .ok (.lst (pts P)) r) : fMake 4 F_Walk_init [] [f, g] env r = .ok (wkc 4 x y P) r :=
  x_make (ts := [pr x y, .lst (pts P)]) (r1 := r) (e_cons (x := pr x y) (r1 := r) hf (e_cons (x := .lst (pts P)) (r1 := r) hg rfl)) (init h hl (.inl rfl) r)
theorem closedT {C : Nat} (hC : Cl C) {x y : Int} {P : List Part} (h : AllP P) (z : Shut P) (r : RS) : F_is_closed [wkc C x y P] r = .ok (.bl true) r := by
  rw [is_closed hC h r, decide_eq_true ⟨by rw [z.x, Int.add_zero], by rw [z.y, Int.add_zero]⟩]
abbrev quad (a b c d : Int) : T := .tup [.int a, .int b, .int c, .int d]
theorem ne_quad (a b c d : Int) : neT (quad a b c d) (quad a b c d) = some false := ne_self (sh_tup fun t ht => by
  simp only [List.mem_cons, List.not_mem_nil, or_false] at ht
  rcases ht with rfl | rfl | rfl | rfl <;> exact sh_int _) (by decide : 1 ≤ 64)
theorem ne_int (a : Int) : neT (.int a) (.int a) = some false := by rw [neI, beq_self_eq_true]; rfl
theorem ne_bl (b : Bool) : neT (.bl b) (.bl b) = some false := by cases b <;> rfl
theorem call1 {F : List T → M T} {f : Ep.Env → M T} {env : Ep.Env} {r r1 : RS} {t u : T} (h : f env r = .ok t r) (hF : F [t] r = .ok u r1) : fCall F [] [f] env r = .ok u r1 := x_call (ts := [t]) (r1 := r) (e_cons (x := t) (r1 := r) h rfl) hF
theorem call2 {F : List T → M T} {f g : Ep.Env → M T} {env : Ep.Env} {r r1 : RS} {t u v : T} (h : f env r = .ok t r) (h' : g env r = .ok v r) (hF : F [t, v] r = .ok u r1) : fCall F [] [f, g] env r = .ok u r1 := x_call (ts := [t, v]) (r1 := r) (e_cons (x := t) (r1 := r) h (e_cons (x := v) (r1 := r) h' rfl)) hF
theorem v_ {env : Ep.Env} {i : Nat} {t : T} (h : env[i]? = some (.val t)) (r : RS) : fVar i env r = .ok t r := by unfold fVar; rw [h]; rfl
theorem back_s {P : List Part} (h : AllP P) (z : Shut P) : Shut (backP P) := by
  have l := flat_ltr h
  exact ⟨by rw [flat_back, sx_back l, z.x]; rfl, by rw [flat_back, sy_back l, z.y]; rfl⟩
theorem back_path {P : List Part} (h : AllP P) (z : Shut P) (x y : Int) : path x y (flat (backP P)) = (path x y (flat P)).reverse := by
  have e := path_back (flat_ltr h) x y
  rw [z.x, z.y, Int.add_zero, Int.add_zero] at e
  rw [flat_back, e]
theorem back_pp {P : List Part} (h : AllP P) (z : Shut P) (x y : Int) (q : Pnt) : q ∈ pp x y (flat (backP P)) ↔ q ∈ pp x y (flat P) := by
  have e := back_path h z x y
  rw [path_pp, path_pp, ← List.map_reverse] at e
  have inj : ∀ a b : Pnt, pT a = pT b → a = b := fun a b e => by
    injection e with e
    injection e with e1 e2
    injection e1 with e1
    injection e2 with e2 _
    injection e2 with e2
    exact Prod.ext e1 e2
  rw [(List.map_inj_right inj).mp e, List.mem_reverse]
theorem back_ar {P : List Part} (h : AllP P) (z : Shut P) (x : Int) : ar x (flat (backP P)) = - ar x (flat P) := by
  have e := ar_back (flat_ltr h) x
  rw [z.x, Int.add_zero] at e
  rw [flat_back, e]
theorem cut_pts (P : List Part) (lo hi : Option Int) : ∃ Q, cutT (pts P) lo hi = pts Q ∧ (∀ q ∈ Q, q ∈ P) ∧ Q.length ≤ P.length := by
  refine ⟨(P.drop (HT.sIx (pts P).length 0 lo)).take (HT.sIx (pts P).length (pts P).length hi - HT.sIx (pts P).length 0 lo), ?_, fun q hq => List.mem_of_mem_drop (List.mem_of_mem_take hq), ?_⟩
  · unfold cutT
    rw [pts, pts, List.map_take, List.map_drop]
  · rw [List.length_take, List.length_drop]; omega
theorem cut_one (P : List Part) : ∃ Q, cutT (pts P) (some 1) none = pts Q ∧ (∀ q ∈ Q, q ∈ P) ∧ Q.length ≤ P.length - 1 := by
  refine ⟨P.drop 1, ?_, fun q hq => List.mem_of_mem_drop hq, by rw [List.length_drop]; omega⟩
  unfold cutT
  rw [show HT.sIx (pts P).length 0 (some 1) = min 1 (pts P).length from rfl, show HT.sIx (pts P).length (pts P).length none = (pts P).length from rfl, List.length_map]
  by_cases z : P.length = 0
  · rw [List.eq_nil_of_length_eq_zero z]; rfl
  · rw [Nat.min_eq_left (by omega), pts, pts, List.take_of_length_le (by rw [List.length_drop, List.length_map]; omega), List.map_drop]
end K62
namespace K62
open PySem Ep L2
/-! the law -/
def Lv (ns : List Int) (env : Ep.Env) (r : RS) : Prop := ∃ s1 s2 s3 s4 s5 s6 s7 s8 s9 s10 s11, env = [.val (.kls (ns.map T.int)), s1, s2, s3, s4, s5, s6, s7, s8, s9, s10, s11]
theorem rngN (ns : List Int) (hl : ns.length ≤ 63) (s1 s2 s3 s4 s5 s6 s7 s8 s9 s10 s11 : Slot) : ∃ n : Nat, (fRng1 (fBin max2T (fC (.int 1)) (fBin min2T (fB1 lenT (fVar 0)) (fC (.int 2))))) [.val (.kls (ns.map T.int)), s1, s2, s3, s4, s5, s6, s7, s8, s9, s10, s11] [] = .ok (rngL 0 n) [] ∧ n ≤ 2 := by
  have ln : lenT [] (.kls (ns.map T.int)) = some (.int (ns.length : Int)) := by
    show some (T.int ((ns.map T.int).length : Nat)) = _
    rw [List.length_map]
  obtain ⟨m, em, hm⟩ : ∃ m : Int, min2T (.int (ns.length : Int)) (.int 2) = some (.int m) ∧ m ≤ 2 := ⟨if 2 < (ns.length : Int) then 2 else ns.length, rfl, by split <;> omega⟩
  obtain ⟨q, eq, q1, q2⟩ : ∃ q : Int, max2T (.int 1) (.int m) = some (.int q) ∧ 1 ≤ q ∧ q ≤ 2 := ⟨if m > 1 then m else 1, rfl, by split <;> omega, by split <;> omega⟩
  refine ⟨q.toNat, rng1i (e_bin (x := .int 1) (y := .int m) (r1 := []) (r2 := []) rfl (e_bin (x := .int (ns.length : Int)) (y := .int 2) (r1 := []) (r2 := []) (e_b1 (x := .kls (ns.map T.int)) (r1 := []) rfl ln) rfl em) eq) (by omega), by omega⟩
theorem mem_rngN {n : Nat} {t : T} (h : t ∈ rngL 0 n) : ∃ i : Nat, t = .int (i : Int) ∧ i < n := rng0_mem h
theorem law_holds (ns : List Int) (hl : ns.length ≤ 63) : ∃ r, F_law [.kls (ns.map T.int)] [] = .ok (.bl true) r := by
  obtain ⟨n, en, n5⟩ := rngN ns hl .un .un .un .un .un .un .un .un .un .un .un
  have H : ∃ r', F_law [.kls (ns.map T.int)] [] = .ok (.bl true) r' ∧ True := ho_fnB ?_
  · obtain ⟨r', h, _⟩ := H
    exact ⟨r', h⟩
  refine ho_for (xs := rngL 0 n) (Lv ns) en ⟨_, _, _, _, _, _, _, _, _, _, _, rfl⟩ (fun x hx env r ⟨s1, s2, s3, s4, s5, s6, s7, s8, s9, s10, s11, ee⟩ => ?_) fun env r _ => ho_ret (n_ret (t := .bl true) (r1 := r) rfl) ⟨r, rfl, trivial⟩
  subst ee
  obtain ⟨i, rfl, hi⟩ := mem_rngN hx
  obtain ⟨w1, w2, q0⟩ := pool ns hl i (by omega) r
  have p0 : Pool r.length (r ++ [[.int w1, .int w2]]) := ⟨w1, w2, by simp⟩
  generalize hk : r.length = k at q0 p0
  generalize r ++ [[T.int w1, T.int w2]] = r0 at q0 p0
  obtain ⟨v1, r1, e1, p1, a0, a1⟩ := draw' (n := 9) p0 (by decide) (by decide)
  obtain ⟨v2, r2, e2, p2, b0, b1⟩ := draw' (n := 9) p1 (by decide) (by decide)
  obtain ⟨P, r3, e3, p3, dP, sP, l2, l6⟩ := loop_parts p2
  obtain ⟨x, ex⟩ : ∃ x, x = v1 - 4 := ⟨_, rfl⟩
  obtain ⟨y, ey⟩ : ∃ y, y = v2 - 4 := ⟨_, rfl⟩
  have hx10 : x.natAbs ≤ 10 := by omega
  have ok := dP.ok
  have ff := flat_few dP.few
  obtain ⟨A, hA⟩ : ∃ A, A = ar x (flat P) := ⟨_, rfl⟩
  obtain ⟨L, hL⟩ : ∃ L, L = path x y (flat P) := ⟨_, rfl⟩
  have lL : L.length = (flat P).length + 1 := by rw [hL, path_len]
  refine ⟨_, rfl, ?_⟩
  refine ho_seq (n_set (t := .ref k) (r1 := r0) (call2 (t := .kls (ns.map T.int)) (v := .int (i : Int)) rfl rfl q0)) ?_
  refine ho_seq (n_par2 (x := pr x y) (y := .lst (pts P)) (r1 := r2) (r2 := r3) ?_ (call2 (t := .ref k) (v := .int 4) rfl rfl e3)) ?_
  · rw [ex, ey]
    exact e_tup (e_cons (x := .int (v1 - 4)) (r1 := r1) (e_bin (x := .int v1) (y := .int 4) (r1 := r1) (r2 := r1) (call2 (t := .ref k) (v := .int 9) rfl rfl e1) rfl rfl) (e_cons (x := .int (v2 - 4)) (r1 := r2) (e_bin (x := .int v2) (y := .int 4) (r1 := r2) (r2 := r2) (call2 (t := .ref k) (v := .int 9) rfl rfl e2) rfl rfl) rfl))
  have cs := corners ok (by omega) x y r3
  rw [← hL] at cs
  obtain ⟨us, eu, ru, lu⟩ := uprights ok (by omega) (by omega) x y r3
  have ea := area ru (by omega) r3
  rw [← hA] at ea
  refine ho_seq (x_par3 (x := wkc 4 x y P) (y := .lst L) (z := .int A) (r1 := r3) (e_cons (x := wkc 4 x y P) (r1 := r3) (mk ok l6 rfl rfl) (e_cons (x := .lst L) (r1 := r3) (call2 (t := pr x y) (v := .lst (pts P)) rfl rfl cs) (e_cons (x := .int A) (r1 := r3) (call1 (t := .lst us) (call2 (t := pr x y) (v := .lst (pts P)) rfl rfl eu) ea) rfl)))) ?_
  obtain ⟨a, b, c, d, ends⟩ := ends_of (L := pp x y (flat P)) (fun h => by have := pp_hd (flat P) x y; rw [h] at this; cases this)
  have C4 : Cl 4 := .inl rfl
  have C5 : Cl 5 := .inr rfl
  have k1 := closedT C4 (x := x) (y := y) ok sP r3
  have k2 := reach C4 ok l6 ends r3
  have k3 := reach_due (L := pp x y (flat P)) (by rw [pp_len]; omega) ends r3
  rw [← path_pp, ← hL] at k3
  have k4 := enclosed C4 (x := x) (y := y) ok l6 sP (by omega) r3
  rw [← hA] at k4
  refine ho_seq (n_ifF (r1 := r3) (e_orBF (r1 := r3) (e_cmpB (x := .bl true) (y := .bl true) (r1 := r3) (r2 := r3) (call1 (t := wkc 4 x y P) rfl k1) rfl rfl) (e_orBF (r1 := r3) (e_cmpB (x := quad a b c d) (y := quad a b c d) (r1 := r3) (r2 := r3) (call1 (t := wkc 4 x y P) rfl k2) (call1 (t := .lst L) rfl k3) (ne_quad a b c d)) (e_cmpB (x := .int A) (y := .int A) (r1 := r3) (r2 := r3) (call1 (t := wkc 4 x y P) rfl k4) rfl (ne_int A)))) rfl) ?_
  have k5 := enclosed C4 (x := x + 10 ^ 30) (y := y - 7) ok l6 sP (by omega) r3
  rw [ar_sh, sP.y, Int.mul_zero, Int.add_zero, ← hA] at k5
  have w30 : powT (.int 10) (.int 30) = some (.int (10 ^ 30)) := rfl
  refine ho_seq (n_ifF (r1 := r3) (e_cmpB (x := .int A) (y := .int A) (r1 := r3) (r2 := r3) (call1 (t := wkc 4 (x + 10 ^ 30) (y - 7) P) (mk ok l6 (e_tup (e_cons (x := .int (x + 10 ^ 30)) (r1 := r3) (e_bin (x := .int x) (y := .int (10 ^ 30)) (r1 := r3) (r2 := r3) rfl (e_bin (x := .int 10) (y := .int 30) (r1 := r3) (r2 := r3) rfl rfl w30) rfl) rfl)) rfl) k5) rfl (ne_int A)) rfl) ?_
  have k6 := backwards C4 (x := x) (y := y) ok l6 r3
  rw [sP.x, sP.y, Int.add_zero, Int.add_zero] at k6
  obtain ⟨B, hB⟩ : ∃ B, B = backP P := ⟨_, rfl⟩
  have okB := backP_all ok
  have sB := back_s ok sP
  have lB := backP_len P
  have aB := back_ar ok sP x
  have pB := back_path ok sP x y
  have eB := ends_mem ends (back_pp ok sP x y)
  have fB : (flat (backP P)).length = (flat P).length := by rw [flat_back, back_len]
  rw [← hB] at k6 okB sB lB aB pB eB fB
  rw [← hA] at aB
  rw [← hL] at pB
  refine ho_seq (n_set (t := wkc 5 x y B) (r1 := r3) (call1 (t := wkc 4 x y P) rfl k6)) ?_
  have k7 := closedT C5 (x := x) (y := y) okB sB r3
  have k8 := reach C5 okB (by omega) eB r3
  have k9 := enclosed C5 (x := x) (y := y) okB (by omega) sB (by omega) r3
  rw [aB] at k9
  refine ho_seq (n_ifF (r1 := r3) (e_orBF (r1 := r3) (e_cmpB (x := .int (-A)) (y := .int (-A)) (r1 := r3) (r2 := r3) (call1 (t := wkc 5 x y B) rfl k9) (e_un (x := .int A) rfl rfl) (ne_int (-A))) (e_orBF (r1 := r3) (e_cmpB (x := quad a b c d) (y := quad a b c d) (r1 := r3) (r2 := r3) (call1 (t := wkc 5 x y B) rfl k8) (call1 (t := wkc 4 x y P) rfl k2) (ne_quad a b c d)) (e_cmpB (x := .bl true) (y := .bl true) (r1 := r3) (r2 := r3) (call1 (t := wkc 5 x y B) rfl k7) rfl rfl))) rfl) ?_
  have shL : ∀ t ∈ L.reverse, Sh 1 t := fun t ht => by
    rw [List.mem_reverse, hL] at ht
    exact path_sh _ _ _ t ht
  refine ho_seq (n_ifF (r1 := r3) (e_cmpB (x := .lst L.reverse) (y := .lst L.reverse) (r1 := r3) (r2 := r3) ?_ (x_revL rfl) (ne_self (sh_lst shL) (by decide))) rfl) ?_
  · have cm := comp_map (vs := [11]) (h := hName 11) (p := fYes) (f := fMethP [4, 5] F_Walk_at [] (fVar 8) [(fVar 11)]) (env := [.val (.kls (ns.map T.int)), .val (.int (i : Int)), .val (.ref k), .val (pr x y), .val (.lst (pts P)), .val (wkc 4 x y P), .val (.lst L), .val (.int A), .val (wkc 5 x y B), s9, s10, s11]) (mvT (flat B) x y) (rngL 0 ((flat B).length + 1)) [] r3 (fun t ht => by
      obtain ⟨j, rfl, hj⟩ := rng0_mem ht
      exact ⟨_, rfl, rfl, e_meth1i (C := 5) rfl rfl (mv_ok5 okB (by omega) hj r3)⟩) (by rw [rngL_len]; simp; omega)
    rw [List.nil_append, path_map, pB] at cm
    refine e_own (bind_ok (a := rngL 0 ((flat B).length + 1)) (r1 := r3) (rng1 (e_b1 (x := .lst L) (r1 := r3) rfl ?_) (by omega)) cm)
    show some (T.int (L.length : Nat)) = _
    rw [lL, fB]
  have dbl : ∀ env : Ep.Env, env[3]? = some (.val (pr x y)) → env[4]? = some (.val (.lst (pts P))) → env[7]? = some (.val (.int A)) → (fAndB (fCmpB ltT (fB1 lenT (fVar 4)) (fC (.int 4))) (fCmpB neT (fCall F_enclosed [] [(fMake 4 F_Walk_init [] [(fVar 3), (fBin addT (fVar 4) (fVar 4))])]) (fBin mulT (fC (.int 2)) (fVar 7)))) env r3 = .ok false r3 := fun env h3 h4 h7 => by
    have t : fCmpB ltT (fB1 lenT (fVar 4)) (fC (.int 4)) env r3 = .ok (decide ((P.length : Int) < 4)) r3 := e_cmpB (x := .int (P.length : Int)) (y := .int 4) (r1 := r3) (r2 := r3) (e_b1 (x := .lst (pts P)) (r1 := r3) (v_ h4 r3) (by show some (T.int ((pts P).length : Nat)) = _; rw [List.length_map])) rfl (ltI _ _)
    by_cases q : P.length < 4
    · rw [decide_eq_true (by omega)] at t
      have dd : Dr (P ++ P) := dP.app dP
      have ss : Shut (P ++ P) := ⟨by rw [flat_app, sx_app, sP.x]; rfl, by rw [flat_app, sy_app, sP.y]; rfl⟩
      have ad : addT (.lst (pts P)) (.lst (pts P)) = some (.lst (pts (P ++ P))) := by
        show (if (pts P).length + (pts P).length ≤ 100000 then some (T.lst (pts P ++ pts P)) else none) = _
        rw [if_pos (by rw [List.length_map]; omega), pts, pts, List.map_append]
      have l12 : (P ++ P).length ≤ 6 := by rw [List.length_append]; omega
      have kk := enclosed C4 (x := x) (y := y) dd.ok l12 ss (by omega) r3
      rw [flat_app, ar_app, sP.x, Int.add_zero, ← hA] at kk
      have m : mulT (.int 2) (.int A) = some (.int (A + A)) := by rw [mulL (by decide) (by decide), Int.two_mul]
      exact e_andBT t (e_cmpB (x := .int (A + A)) (y := .int (A + A)) (r1 := r3) (r2 := r3) (call1 (t := wkc 4 x y (P ++ P)) (mk dd.ok l12 (v_ h3 r3) (e_bin (x := .lst (pts P)) (y := .lst (pts P)) (r1 := r3) (r2 := r3) (v_ h4 r3) (v_ h4 r3) ad)) kk) (e_bin (x := .int 2) (y := .int A) (r1 := r3) (r2 := r3) rfl (v_ h7 r3) m) (ne_int _))
    · rw [decide_eq_false (by omega)] at t
      exact e_andBF t
  refine ho_seq (n_ifF (r1 := r3) (dbl _ rfl rfl rfl) rfl) ?_
  obtain ⟨Q1, c1, m1, n1⟩ := cut_pts P none (some (-1))
  obtain ⟨Q2, c2, m2, n2⟩ := cut_pts P none (some (-2))
  obtain ⟨Q3, c3, m3, n3⟩ := cut_one P
  have d1 := dP.sub m1
  have d2 := dP.sub m2
  have dE : Dr [(([69] : List Nat), 1)] := Dr.one ⟨all_cons lE all_nil, Nat.le_refl 1, (by decide : 1 ≤ 24), (by decide : 1 ≤ 1000)⟩ (by decide : 1 * 1 ≤ 60)
  have d3 := dE.app (dP.sub m3)
  have l3 : ([(([69] : List Nat), 1)] ++ Q3).length ≤ 6 := by rw [List.length_append]; show 1 + _ ≤ 6; omega
  have ad3 : addT (.lst [.tup [.str "E", .int 1]]) (.lst (pts Q3)) = some (.lst (pts ([(([69] : List Nat), 1)] ++ Q3))) := by
    show (if 1 + (pts Q3).length ≤ 100000 then some (T.lst ([.tup [.str "E", .int 1]] ++ pts Q3)) else none) = _
    rw [if_pos (by rw [List.length_map]; omega)]
    rfl
  refine ho_for (xs := [.lst (pts Q1), .lst (pts Q2), .lst (pts ([(([69] : List Nat), 1)] ++ Q3))]) (r1 := r3) (fun env _ => ∃ s9 s10 s11, env = [.val (.kls (ns.map T.int)), .val (.int (i : Int)), .val (.ref k), .val (pr x y), .val (.lst (pts P)), .val (wkc 4 x y P), .val (.lst L), .val (.int A), .val (wkc 5 x y B), s9, s10, s11]) (x_it (t := .lst [.lst (pts Q1), .lst (pts Q2), .lst (pts ([(([69] : List Nat), 1)] ++ Q3))]) (r1 := r3) ?_ rfl) ⟨_, _, _, rfl⟩ (fun z hz env r ⟨s9, s10, s11, ee⟩ => ?_) fun env r ⟨s9, s10, s11, ee⟩ => ho_nil ⟨env, r, rfl, _, _, _, _, _, _, _, _, s9, s10, s11, ee⟩
  · refine e_lst (e_cons (x := .lst (pts Q1)) (r1 := r3) (fSlN (x := .lst (pts P)) (j := -1) rfl rfl (by rw [← c1]; rfl)) (e_cons (x := .lst (pts Q2)) (r1 := r3) (fSlN (x := .lst (pts P)) (j := -2) rfl rfl (by rw [← c2]; rfl)) (e_cons (x := .lst (pts ([(([69] : List Nat), 1)] ++ Q3))) (r1 := r3) (e_bin (x := .lst [.tup [.str "E", .int 1]]) (y := .lst (pts Q3)) (r1 := r3) (r2 := r3) rfl (x_sl1 (x := .lst (pts P)) (y := .lst (pts Q3)) (j := 1) (r1 := r3) (r2 := r3) rfl rfl (by rw [← c3]; rfl)) ad3) rfl)))
  subst ee
  obtain ⟨Q, rfl, dQ, lQ⟩ : ∃ Q, z = .lst (pts Q) ∧ Dr Q ∧ Q.length ≤ 6 := by
    simp only [List.mem_cons, List.not_mem_nil, or_false] at hz
    rcases hz with rfl | rfl | rfl
    · exact ⟨Q1, rfl, d1, by omega⟩
    · exact ⟨Q2, rfl, d2, by omega⟩
    · exact ⟨_, rfl, d3, l3⟩
  have fQ := flat_few dQ.few
  have g1 := corners dQ.ok (by omega) x y r
  obtain ⟨a', b', c', d', ends'⟩ := ends_of (L := pp x y (flat Q)) (fun h => by have := pp_hd (flat Q) x y; rw [h] at this; cases this)
  have g2 := is_closed C4 (x := x) (y := y) dQ.ok r
  have g3 := reach C4 dQ.ok lQ ends' r
  have g4 := reach_due (L := pp x y (flat Q)) (by rw [pp_len]; omega) ends' r
  rw [← path_pp] at g4
  have f0 : atI (path x y (flat Q)) 0 = some (pr x y) := by
    have := path_nat (flat Q) x y 0 (Nat.zero_le _)
    rw [List.take_zero, show sx [] = 0 from rfl, show sy [] = 0 from rfl, Int.add_zero, Int.add_zero] at this
    exact this
  have f1 := path_lastI (flat Q) x y
  have same : decide (x + sx (flat Q) = x ∧ y + sy (flat Q) = y) = decide (x = x + sx (flat Q) ∧ y = y + sy (flat Q)) := decide_eq_decide.mpr ⟨fun h => ⟨h.1.symm, h.2.symm⟩, fun h => ⟨h.1.symm, h.2.symm⟩⟩
  rw [same] at g2
  refine ⟨_, rfl, ?_⟩
  refine ho_seq (n_set (t := .lst (path x y (flat Q))) (r1 := r) (call2 (t := pr x y) (v := .lst (pts Q)) rfl rfl g1)) ?_
  refine ho_seq (n_ifF (r1 := r) (e_orBF (r1 := r) (e_cmpB (x := .bl (decide (x = x + sx (flat Q) ∧ y = y + sy (flat Q)))) (y := .bl (decide (x = x + sx (flat Q) ∧ y = y + sy (flat Q)))) (r1 := r) (r2 := r) (call1 (t := wkc 4 x y Q) (mk dQ.ok lQ rfl rfl) g2) (e_cmp (x := pr x y) (y := pr (x + sx (flat Q)) (y + sy (flat Q))) (r1 := r) (r2 := r) (e_ix (x := .lst (path x y (flat Q))) (y := .int 0) (r1 := r) (r2 := r) rfl rfl f0) (e_ix (x := .lst (path x y (flat Q))) (y := .int (-1)) (r1 := r) (r2 := r) rfl rfl f1) (eq_pr _ _ _ _)) (ne_bl _)) (e_cmpB (x := quad a' b' c' d') (y := quad a' b' c' d') (r1 := r) (r2 := r) (call1 (t := wkc 4 x y Q) (mk dQ.ok lQ rfl rfl) g3) (call1 (t := .lst (path x y (flat Q))) rfl g4) (ne_quad _ _ _ _))) rfl) ?_
  exact ho_nil ⟨_, _, rfl, _, _, _, rfl⟩
end K62
namespace K62
open PySem PySem.Spec L2 He Ep
theorem final {w : World} {K : PySem.W.Frag} {h : Heap} {mg : Str → Option Value} {f0 : Addr} (KX : K.In h) (Ns : h.Ns mainGlobals mg) (hm : mg "law" = some (.ref f0)) (c : SaysD fa fns K) (ck : (chk K).all id = true)
    (h_OPPOSITE : dicW K (ga K "OPPOSITE") = some (keysIn w.params ["E", "N", "W", "S"])) (e_BadIndex : supW K (ma K (ga K "BadIndex") "__init__") = supV "BadIndex.__init__" s_BadIndex_init) (e_BadNumber : supW K (ma K (ga K "BadNumber") "__init__") = supV "BadNumber.__init__" s_BadNumber_init) (e_BadPart : supW K (ma K (ga K "BadPart") "__init__") = supV "BadPart.__init__" s_BadPart_init) (e_NotSo : supW K (ma K (ga K "NotSo") "__init__") = supV "NotSo.__init__" s_NotSo_init) :
    ∃ (G : Gm) (f : List T → M T) (fd : FuncData) (cs : List (Addr × Addr)), G.K = K ∧ G.mg = mg ∧ (∀ (s : Shared) (u : Value), BindsTo s fd ⟨[u], []⟩ [("_law_script", u)]) ∧
      (∀ p ∈ cs, ∃ y ∈ ([] : List Str), PySem.W.tabIn K y = some p) ∧ (∀ p ∈ cs, K.lookup p.2 = none) ∧ (∀ t ∈ G.tb, ∃ c, (c, t.1) ∈ cs) ∧
      (∀ ns : List Int, ns.length ≤ 63 → (∀ z ∈ ns, Builtin.Int.intBits z ≤ 1048576) → ∃ r, f [.kls (ns.map T.int)] [] = .ok (.bl true) r) ∧ ∀ base : Heap, K.In base → base.Ns mainGlobals mg → (∀ p ∈ cs, LamX.TabB base mg p.1 p.2) → FnOk PW w G.K G.mg base (L2.CX PW w) 7 f0 fd ["_law_script"] (spF G 1 f) := by
  obtain ⟨fd, F⟩ := c.def_ 40
  have cl : mg "law" = some (.ref (ga K "law")) := glo_ok KX Ns (c.fact 76)
  have e : f0 = ga K "law" := Value.ref.inj (Option.some.inj (hm.symm.trans cl))
  subst e
  refine ⟨GG K mg, F_law, fd, cs K, rfl, rfl, fun s u => F.bindsA (ps := ["_law_script"]) (fun _ _ _ _ _ _ us hl => match us, hl with | [_], _ => rfl) s [u] rfl, fun p hp => ?_, fun p hp => ?_, fun t ht => ?_, fun ns h _ => law_holds ns h, fun base _ _ TB => ?_⟩
  · exact absurd hp List.not_mem_nil
  · exact absurd hp List.not_mem_nil
  · exact absurd (show t ∈ ([] : List (Addr × Str)) from ht) List.not_mem_nil
  · exact run_law (tx_of (wd := w) KX Ns c ck h_OPPOSITE e_BadIndex e_BadNumber e_BadPart e_NotSo ) F
end K62
open PySem PySem.W
open PyProof.Rows
set_option maxHeartbeats 0 in
theorem PySem.Challenge.cw_endlessplane_k62_whole_closed_walks_holds : PySem.Challenge.rw_endlessplane_k62_whole_closed_walks.Holds := by
  w_on
  o_law
  k_head
  (case hw => w_witness2)
  k_fill
  refine Ep.law_endT (l := PySem.Challenge.rw_endlessplane_k62_whole_closed_walks) (x := "_law_script") 7 [] rfl rfl ⟨rfl, by decide, by decide⟩ (fun w h Y => PySem.W.kIn_of Y) ?hx ?F
  case hx =>
    intro y hy
    exact absurd hy List.not_mem_nil
  case F =>
    intro w mg fa h KX Ns hm
    refine' K62.final KX Ns hm ?c ?ck ?h_OPPOSITE ?e_BadIndex ?e_BadNumber ?e_BadPart ?e_NotSo
    (case c => show He.obsD _ _ _ = He.valD _; kernel_rfl)
    (case ck => kernel_rfl)
    (case h_OPPOSITE => kernel_rfl)
    (case e_BadIndex => kernel_rfl)
    (case e_BadNumber => kernel_rfl)
    (case e_BadPart => kernel_rfl)
    (case e_NotSo => kernel_rfl)
