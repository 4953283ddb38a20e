import PyProof.Rows.All
import Wide.All
import OpenK.AllK
import Wide.FinOn
import HandS.ForMost
import HandS.Walk
import HandS.Wide
import HandS.Defaults
import HandS.IsInst
import HandS.Exc
import HandS.Lambda
import HandS.CallSlots
import HandS.TupAny
import HandS.Deep
import HandS.Style
import HandS.TupMul
import PyProof.Rows.StrMul
import HandS.SortInts
import HandS.RaiseMore
import HandS.Text
import HandS.Zip
import HandS.TryOnly
import HandS.WordsExc
import HandS.Iter
import HandS.Comp
import HandS.Dict
import HandS.More
import KE.KIndexOf
import HandS.SlotsOwn
import HandS.HeadHook2
import HandS.HeadHook3
import HandS.EndTab
import HandS.ForExc
import HandS.ExcSuper
import KE.KExcSuper
import HandS.TryMany
import HandS.ExcIs
import PySem.Challenge.RW_endlessplane_k09_whole_lattices_put_toge
set_option Elab.async false
set_option linter.all false
set_option maxRecDepth 100000
set_option maxHeartbeats 8000000
/-! Values as trees, worlds, what a value denotes. -/
namespace Ep
open PySem PySem.Spec L2
/-- a value, tuples and lists by their items; kls: a list that is never changed (the script, one of the top); gl: a def or class of the top; ref: a list that is changed by several defs -/
inductive T where
  | non | bl (b : Bool) | int (i : Int) | str (x : Str)
  | tup (xs : List T) | lst (xs : List T) | kls (xs : List T)
  | obj (C : Nat) (vs : List T)
  | gl (x : Str) | cl (C : Nat) | ty (n : String) | ref (k : Nat)
  | dct (ks : List Key) (vs : List T) | dtt (ks : List (List Key)) (vs : List T)
abbrev RS := List (List T)
inductive Out (α : Type) where
  | ok (a : α) (r : RS) | exn (c : Nat) (p : T) (r : RS) | bad
def M (α : Type) := RS → Out α
@[simp] def M.pure {α : Type} (a : α) : M α := fun r => .ok a r
@[simp] def M.bind {α β : Type} (m : M α) (k : α → M β) : M β := fun r => match m r with
  | .ok a r' => k a r'
  | .exn c p r' => .exn c p r'
  | .bad => .bad
instance : Monad M where
  pure := M.pure
  bind := M.bind
@[simp] def M.bad {α : Type} : M α := fun _ => .bad
@[simp] def M.lift {α : Type} : Option α → M α
  | some a => M.pure a
  | none => M.bad
/-- the program: its written part, its names, the classes' names and their fields -/
structure Gm where
  K : PySem.W.Frag
  mg : Str → Option Value
  cn : Nat → Str
  fl : Nat → List Str
  tb : List (Addr × Str) := []
/-- a world: what stands still (public), the changed lists' addresses -/
structure Fx where
  me : Addr
  xa : Addr
  xd : Addr
structure Wd where
  P : Hp
  R : List Addr
  fx : Fx
/-- a tuple that stands: tracked, or of the written part -/
def TupAt (K : PySem.W.Frag) (H : Hp) (a : Addr) (xs : List V) : Prop := H a = some (.tup xs) ∨ ∃ (o : Obj) (its : Array Value) (n : Nat), K.lookup a = some o ∧ o.cls = .type "tuple" ∧ o.data = .seq its n ∧ its.size ≤ sizeLine ∧ Vals xs its.toList
theorem tup_sq {K : PySem.W.Frag} {P H : Hp} {a : Addr} {xs : List V} (s : Same P H) (h : TupAt K P a xs) : SqT K H a xs := by
  rcases h with h | h
  · exact .inl (.inl (s _ _ h))
  · exact .inr h
theorem TupAt.mono {K : PySem.W.Frag} {P H : Hp} {a : Addr} {xs : List V} (h : TupAt K P a xs) (s : Same P H) : TupAt K H a xs := by
  rcases h with h | h
  · exact .inl (s _ _ h)
  · exact .inr h
mutual
inductive Den (G : Gm) (w : Wd) : V → T → Prop
  | non : Den G w .non .non
  | bl (b : Bool) : Den G w (.bl b) (.bl b)
  | int (i : Int) : Den G w (.int i) (.int i)
  | str (x : Str) : Den G w (.str x) (.str x)
  | tup {a : Addr} {vs : List V} {ts : List T} (h : TupAt G.K w.P a vs) (z : ts.length ≤ sizeLine) (d : Dens G w vs ts) : Den G w (.ref a) (.tup ts)
  | lst {a : Addr} {vs : List V} {ts : List T} (h : w.P a = some (.lst vs)) (z : ts.length ≤ sizeLine) (d : Dens G w vs ts) : Den G w (.ref a) (.lst ts)
  | kls {a : Addr} {vs : List V} {ts : List T} (h : SqL G.K w.P a vs) (z : ts.length ≤ sizeLine) (d : Dens G w vs ts) : Den G w (.ref a) (.kls ts)
  | obj {a cA dx : Addr} {C : Nat} {vs : List V} {ts : List T} (c : G.mg (G.cn C) = some (.ref cA)) (h : w.P a = some (.ins cA dx ((G.fl C).zip vs))) (l : (G.fl C).length = vs.length) (d : Dens G w vs ts) : Den G w (.ref a) (.obj C ts)
  | gl {x : Str} {a : Addr} (h : G.mg x = some (.ref a)) : Den G w (.ref a) (.gl x)
  | cl {C : Nat} {a : Addr} (h : G.mg (G.cn C) = some (.ref a)) : Den G w (.ref a) (.cl C)
  | ty (n : String) : Den G w (.ty n) (.ty n)
  | ref {k : Nat} {a : Addr} (h : w.R[k]? = some a) : Den G w (.ref a) (.ref k)
  | dct {a : Addr} {ks : List Key} {vs : List V} {ts : List T} (h : w.P a = some (.dK (ks.zip vs))) (l : ks.length = ts.length) (d : Dens G w vs ts) : Den G w (.ref a) (.dct ks ts)
  | dtt {a : Addr} {ks : List (List Key)} {vs : List V} {ts : List T} (h : w.P a = some (.dT (ks.zip vs))) (l : ks.length = ts.length) (d : Dens G w vs ts) : Den G w (.ref a) (.dtt ks ts)
inductive Dens (G : Gm) (w : Wd) : List V → List T → Prop
  | nil : Dens G w [] []
  | cons {v : V} {vs : List V} {t : T} {ts : List T} (h : Den G w v t) (r : Dens G w vs ts) : Dens G w (v :: vs) (t :: ts)
end
/-- what a later world keeps -/
structure Later (w w' : Wd) : Prop where
  pub : Same w.P w'.P
  refs : ∃ more, w'.R = w.R ++ more
theorem Later.refl (w : Wd) : Later w w := ⟨Same.refl _, [], by simp⟩
theorem Later.trans {w w1 w2 : Wd} (a : Later w w1) (b : Later w1 w2) : Later w w2 := ⟨a.pub.trans b.pub, by
  obtain ⟨m, e⟩ := a.refs
  obtain ⟨m', e'⟩ := b.refs
  exact ⟨m ++ m', by rw [e', e, List.append_assoc]⟩⟩
theorem same_t {K : PySem.W.Frag} {H H' : Hp} {a : Addr} {xs : List V} (e : Same H H') (h : SqT K H a xs) : SqT K H' a xs := by
  rcases h with (h | ⟨o, h⟩) | h
  · exact .inl (.inl (e _ _ h))
  · exact .inl (.inr ⟨o, e _ _ h⟩)
  · exact .inr h
mutual
theorem Den.mono {G : Gm} {w w' : Wd} (L : Later w w') : ∀ {v : V} {t : T}, Den G w v t → Den G w' v t
  | _, _, .non => .non
  | _, _, .bl b => .bl b
  | _, _, .int i => .int i
  | _, _, .str x => .str x
  | _, _, .tup h z d => .tup (h.mono L.pub) z (Dens.mono L d)
  | _, _, .lst h z d => .lst (L.pub _ _ h) z (Dens.mono L d)
  | _, _, .kls h z d => .kls (L.pub.seq h) z (Dens.mono L d)
  | _, _, .obj c h l d => .obj c (L.pub _ _ h) l (Dens.mono L d)
  | _, _, .gl h => .gl h
  | _, _, .cl h => .cl h
  | _, _, .ty n => .ty n
  | _, _, .dct h l d => .dct (L.pub _ _ h) l (Dens.mono L d)
  | _, _, .dtt h l d => .dtt (L.pub _ _ h) l (Dens.mono L d)
  | _, _, .ref (k := k) (a := a) h => .ref (by
      obtain ⟨m, e⟩ := L.refs
      rw [e, List.getElem?_append_left (by
        have := (List.getElem?_eq_some_iff.mp h).1
        exact this)]
      exact h)
theorem Dens.mono {G : Gm} {w w' : Wd} (L : Later w w') : ∀ {vs : List V} {ts : List T}, Dens G w vs ts → Dens G w' vs ts
  | _, _, .nil => .nil
  | _, _, .cons h r => .cons (Den.mono L h) (Dens.mono L r)
end
theorem Dens.length {G : Gm} {w : Wd} : ∀ {vs : List V} {ts : List T}, Dens G w vs ts → vs.length = ts.length
  | _, _, .nil => rfl
  | _, _, .cons _ r => by simp [Dens.length r]
theorem Dens.append {G : Gm} {w : Wd} : ∀ {vs ws : List V} {ts us : List T}, Dens G w vs ts → Dens G w ws us → Dens G w (vs ++ ws) (ts ++ us)
  | _, _, _, _, .nil, s => s
  | _, _, _, _, .cons h r, s => .cons h (Dens.append r s)
theorem Dens.get {G : Gm} {w : Wd} : ∀ {vs : List V} {ts : List T} {i : Nat} {t : T}, Dens G w vs ts → ts[i]? = some t → ∃ v, vs[i]? = some v ∧ Den G w v t
  | _, _, _, _, .nil, e => by (simp at e)
  | _, _, 0, _, .cons h r, e => by simp at e; subst e; exact ⟨_, rfl, h⟩
  | _, _, i + 1, _, .cons h r, e => by
    obtain ⟨v, h1, h2⟩ := Dens.get (i := i) r (by simpa using e)
    exact ⟨v, by simpa using h1, h2⟩
theorem Dens.getV {G : Gm} {w : Wd} : ∀ {vs : List V} {ts : List T} {i : Nat} {v : V}, Dens G w vs ts → vs[i]? = some v → ∃ t, ts[i]? = some t ∧ Den G w v t
  | _, _, _, _, .nil, e => by (simp at e)
  | _, _, 0, _, .cons h r, e => by simp at e; subst e; exact ⟨_, rfl, h⟩
  | _, _, i + 1, _, .cons h r, e => by
    obtain ⟨v, h1, h2⟩ := Dens.getV (i := i) r (by simpa using e)
    exact ⟨v, by simpa using h1, h2⟩
theorem Dens.set {G : Gm} {w : Wd} {v : V} {t : T} (d : Den G w v t) : ∀ {vs : List V} {ts : List T} (i : Nat), Dens G w vs ts → Dens G w (vs.set i v) (ts.set i t)
  | _, _, _, .nil => .nil
  | _, _, 0, .cons _ r => .cons d r
  | _, _, i + 1, .cons h r => .cons h (Dens.set d i r)
theorem Dens.take {G : Gm} {w : Wd} : ∀ {vs : List V} {ts : List T} (n : Nat), Dens G w vs ts → Dens G w (vs.take n) (ts.take n)
  | _, _, 0, _ => .nil
  | _, _, n + 1, .nil => .nil
  | _, _, n + 1, .cons h r => .cons h (Dens.take n r)
theorem Dens.drop {G : Gm} {w : Wd} : ∀ {vs : List V} {ts : List T} (n : Nat), Dens G w vs ts → Dens G w (vs.drop n) (ts.drop n)
  | _, _, 0, h => h
  | _, _, n + 1, .nil => .nil
  | _, _, n + 1, .cons h r => Dens.drop n r
/-- the changed lists stand as r says -/
structure RefsOk (G : Gm) (w : Wd) (H : Hp) (r : RS) : Prop where
  nd : w.R.Nodup
  len : w.R.length = r.length
  out : ∀ a ∈ w.R, w.P a = none
  at_ : ∀ (k : Nat) (xs : List T), r[k]? = some xs → ∃ a vs, w.R[k]? = some a ∧ H a = some (.lst vs) ∧ Dens G w vs xs ∧ xs.length ≤ sizeLine
/-- no table of code objects -/
def NoTab (o : HO) : Prop := ∀ ps, o ≠ .tbl ps
/-- no table, nothing of the machine's own -/
structure Pl (o : HO) : Prop where
  tb : ∀ ps, o ≠ .tbl ps
  ex : ∀ f, o ≠ .ext f
/-- something stands there that is no table -/
def Vs (H : Hp) (a : Addr) : Prop := ∃ o, H a = some o ∧ NoTab o
theorem vs_of {H : Hp} {a : Addr} {o : HO} (h : H a = some o) (n : NoTab o := by intro ps e; cases e) : Vs H a := ⟨o, h, n⟩
theorem nvs {H : Hp} {a : Addr} (h : H a = none) : ¬ Vs H a := fun ⟨_, e, _⟩ => by rw [h] at e; cases e
theorem Vs.put {H : Hp} {a p : Addr} {o : HO} (h : Vs H a) (n : NoTab o) : Vs (upd H p o) a := by
  by_cases e : a = p
  · subst e; exact ⟨o, upd_same, n⟩
  · obtain ⟨u, h1, h2⟩ := h; exact ⟨u, by rw [upd_ne e]; exact h1, h2⟩
theorem ne_nv {H : Hp} {a p : Addr} {o : HO} (h : H a = some o) (n : NoTab o) (hp : ¬ Vs H p) : a ≠ p := fun e => hp (e ▸ ⟨o, h, n⟩)
structure Good (G : Gm) (w : Wd) (H : Hp) (r : RS) : Prop where
  sub : Same w.P H
  refs : RefsOk G w H r
  tabs : LamX.Tabs G.tb H
  nt : ∀ a o, w.P a = some o → NoTab o
theorem TabS.put {H : Hp} {T p : Addr} {q : Str} {o : HO} (t : LamX.TabS H T q) (h : H p = none ∨ ∃ u, H p = some u ∧ Pl u) : LamX.TabS (upd H p o) T q := by
  obtain ⟨ps, h1, h2, h3⟩ := t
  have nT : T ≠ p := fun e => by
    rcases h with z | ⟨u, z, k⟩
    · rw [e, z] at h1; cases h1
    · rw [e, z] at h1; exact k.tb ps (Option.some.inj h1)
  refine ⟨ps, by rw [upd_ne nT]; exact h1, h2, fun pos cv hc => ?_⟩
  obtain ⟨c, e1, e2⟩ := h3 pos cv hc
  have nc : c ≠ p := fun e => by
    rcases h with z | ⟨u, z, k⟩
    · rw [e, z] at e2; cases e2
    · rw [e, z] at e2; unfold LamX.CodeO at e2; exact k.ex _ (Option.some.inj e2)
  exact ⟨c, e1, by rw [upd_ne nc]; exact e2⟩
theorem tabs_put {tb : List (Addr × Str)} {H : Hp} {p : Addr} {o : HO} (t : LamX.Tabs tb H) (h : H p = none ∨ ∃ u, H p = some u ∧ Pl u) : LamX.Tabs tb (upd H p o) := fun q hq => TabS.put (t q hq) h
/-- from H to H': public things stay, the untracked of others stays hidden, all but the changed lists stays -/
structure Step (w : Wd) (H : Hp) (w' : Wd) (H' : Hp) : Prop where
  pub : Same w.P w'.P
  fr : ∀ a o, a ∉ w.R → H a = some o → NoTab o → H' a = some o
  keep : ∀ a, Vs H a → Vs H' a
  hid : ∀ a, a ∉ w.R → Vs H a → w.P a = none → w'.P a = none
  refs : ∃ more, w'.R = w.R ++ more ∧ ∀ a ∈ more, ¬ Vs H a
  me : w'.fx = w.fx
theorem Step.refl (w : Wd) (H : Hp) : Step w H w H := ⟨Same.refl _, fun _ _ _ h _ => h, fun _ h => h, fun _ _ _ h => h, ⟨[], by simp, by simp⟩, rfl⟩
theorem Step.later {w w' : Wd} {H H' : Hp} (s : Step w H w' H') : Later w w' := ⟨s.pub, by obtain ⟨m, e, _⟩ := s.refs; exact ⟨m, e⟩⟩
theorem Step.trans {w w1 w2 : Wd} {H H1 H2 : Hp} (a : Step w H w1 H1) (b : Step w1 H1 w2 H2) : Step w H w2 H2 := by
  obtain ⟨m, e, hm⟩ := a.refs
  obtain ⟨m2, e2, hm2⟩ := b.refs
  have notin : ∀ x, x ∉ w.R → Vs H x → x ∉ w1.R := fun x h1 h2 h3 => by
    rw [e] at h3
    rcases List.mem_append.mp h3 with h | h
    · exact h1 h
    · exact hm x h h2
  refine ⟨a.pub.trans b.pub, fun x o h1 h2 h4 => ?_, fun x h => b.keep x (a.keep x h), fun x h1 h2 h3 => ?_, ⟨m ++ m2, by rw [e2, e, List.append_assoc], fun x hx => ?_⟩, b.me.trans a.me⟩
  · exact b.fr x o (notin x h1 ⟨o, h2, h4⟩) (a.fr x o h1 h2 h4) h4
  · exact b.hid x (notin x h1 h2) (a.keep x h2) (a.hid x h1 h2 h3)
  · rcases List.mem_append.mp hx with h | h
    · exact hm x h
    · exact fun hn => hm2 x h (a.keep x hn)
theorem RefsOk.there {G : Gm} {w : Wd} {H : Hp} {r : RS} (x : RefsOk G w H r) {a : Addr} (h : a ∈ w.R) : ∃ vs, H a = some (.lst vs) := by
  obtain ⟨k, hk, e⟩ := List.getElem_of_mem h
  have hk' : k < r.length := by rw [← x.len]; exact hk
  obtain ⟨b, vs, h1, h2, _, _⟩ := x.at_ k r[k] (by simp [hk'])
  have : b = a := by
    rw [List.getElem?_eq_getElem hk] at h1
    exact (Option.some.inj h1).symm.trans e
  subst this
  exact ⟨vs, h2⟩
/-- a new thing, public at once -/
def Wd.add (w : Wd) (p : Addr) (o : HO) : Wd := ⟨upd w.P p o, w.R, w.fx⟩
section
variable {G : Gm} {w : Wd} {H : Hp} {r : RS} {p : Addr} {o : HO}
theorem Good.noref (g : Good G w H r) (hp : H p = none) : p ∉ w.R := fun h => by
  obtain ⟨vs, e⟩ := g.refs.there h
  rw [hp] at e
  cases e
theorem Good.nopub (g : Good G w H r) (hp : H p = none) : w.P p = none := by
  cases e : w.P p with
  | none => rfl
  | some u => exact absurd (g.sub p u e) (by rw [hp]; simp)
theorem Good.new (g : Good G w H r) (hp : H p = none) (no : NoTab o := by intro ps e; cases e) : Step w H (w.add p o) (upd H p o) ∧ Good G (w.add p o) (upd H p o) r := by
  have hP := g.nopub hp
  have hR := g.noref hp
  have st : Step w H (w.add p o) (upd H p o) := by
    refine ⟨fun a u e => ?_, fun a u _ e _ => ?_, fun a h => ?_, fun a _ h1 h2 => ?_, ⟨[], by simp [Wd.add], by simp⟩, rfl⟩
    · show upd w.P p o a = some u
      rw [upd_ne (ne_of_none e hP)]
      exact e
    · rw [upd_ne (ne_of_none e hp)]
      exact e
    · exact h.put no
    · show upd w.P p o a = none
      rw [upd_ne (fun e => nvs hp (by rw [← e]; exact h1))]
      exact h2
  refine ⟨st, fun a u e => ?_, ⟨g.refs.nd, g.refs.len, fun a ha => ?_, fun k xs hk => ?_⟩, tabs_put g.tabs (.inl hp), fun a u e => ?_⟩
  · have e : upd w.P p o a = some u := e
    by_cases h : a = p
    · subst h
      rw [upd_same] at e ⊢
      exact e
    · rw [upd_ne h] at e ⊢
      exact g.sub a u e
  · show upd w.P p o a = none
    rw [upd_ne (fun e => hR (by rw [← e]; exact ha))]
    exact g.refs.out a ha
  · obtain ⟨a, vs, h1, h2, h3, hz⟩ := g.refs.at_ k xs hk
    refine ⟨a, vs, h1, ?_, h3.mono st.later, hz⟩
    rw [upd_ne (ne_of_none h2 hp)]
    exact h2
  · have e : upd w.P p o a = some u := e
    by_cases h : a = p
    · subst h
      rw [upd_same] at e
      cases e
      exact no
    · rw [upd_ne h] at e
      exact g.nt a u e
end
/-- a slot of a def: nothing, a value, a list of its own that is still changed, an instance that is being made (its class's address, its fields so far) -/
inductive Pv where
  | lst (xs : List T) | ins (C : Nat) (vs : List T) | dk (ks : List Key) (vs : List T) | dt (ks : List (List Key)) (vs : List T)
inductive Slot where
  | un | val (t : T) | pv (o : Pv)
abbrev Slot.own (xs : List T) : Slot := .pv (.lst xs)
abbrev Slot.ins (C : Nat) (vs : List T) : Slot := .pv (.ins C vs)
abbrev Slot.dk (ks : List Key) (vs : List T) : Slot := .pv (.dk ks vs)
/-- a thing of a def's own, as it stands -/
inductive PvOk (G : Gm) (w : Wd) (a : Addr) : HO → Pv → Prop
  | lst {vs : List V} {xs : List T} (z : xs.length ≤ sizeLine) (d : Dens G w vs xs) : PvOk G w a (.lst vs) (.lst xs)
  | ins {C : Nat} {cA dx : Addr} {vs : List V} {ts : List T} (hm : a = w.fx.me) (c : G.mg (G.cn C) = some (.ref cA)) (l : ts.length ≤ (G.fl C).length) (d : Dens G w vs ts) : PvOk G w a (.ins cA dx (((G.fl C).take ts.length).zip vs)) (.ins C ts)
  | dk {ks : List Key} {vs : List V} {ts : List T} (l : ks.length = ts.length) (z : ks.length ≤ sizeLine) (d : Dens G w vs ts) : PvOk G w a (.dK (ks.zip vs)) (.dk ks ts)
  | dt {ks : List (List Key)} {vs : List V} {ts : List T} (l : ks.length = ts.length) (z : ks.length ≤ sizeLine) (d : Dens G w vs ts) : PvOk G w a (.dT (ks.zip vs)) (.dt ks ts)
theorem PvOk.mono {G : Gm} {w w' : Wd} {a : Addr} (L : Later w w') (em : w'.fx = w.fx) {o : HO} {p : Pv} (h : PvOk G w a o p) : PvOk G w' a o p := by
  cases h with
  | lst z d => exact .lst z (d.mono L)
  | ins hm c l d => exact .ins (hm.trans (by rw [em])) c l (d.mono L)
  | dk l z d => exact .dk l z (d.mono L)
  | dt l z d => exact .dt l z (d.mono L)
theorem PvOk.pl {G : Gm} {w : Wd} {a : Addr} {o : HO} {p : Pv} (h : PvOk G w a o p) : Pl o := by
  cases h <;> exact ⟨fun _ e => (by cases e), fun _ e => (by cases e)⟩
abbrev Env := List Slot
/-- the slots hold what env says; H0: the heap at the def's entry -/
def SlotAt (G : Gm) (w : Wd) (H0 H : Hp) (σ : L2.St) (oa : Nat → Addr) (i : Nat) : Slot → Prop
  | .un => True
  | .val t => ∃ v, σ[i]? = some (some v) ∧ Den G w v t
  | .pv q => σ[i]? = some (some (.ref (oa i))) ∧ w.P (oa i) = none ∧ oa i ∉ w.R ∧ ¬ Vs H0 (oa i) ∧ ∃ o, H (oa i) = some o ∧ PvOk G w (oa i) o q
def Slot.priv : Slot → Bool
  | .pv _ => true
  | _ => false
structure Slots (G : Gm) (w : Wd) (H0 H : Hp) (σ : L2.St) (env : Env) : Prop where
  len : σ.length = env.length
  ex : ∃ oa : Nat → Addr, (∀ (i : Nat) (s : Slot), env[i]? = some s → SlotAt G w H0 H σ oa i s) ∧ ∀ (i j : Nat) (s u : Slot), env[i]? = some s → env[j]? = some u → s.priv = true → u.priv = true → oa i = oa j → i = j
section
variable {G : Gm} {w w' : Wd} {H0 H H' : Hp} {r r' : RS} {σ : L2.St} {env : Env}
theorem Slots.step (s : Slots G w H0 H σ env) (st : Step w H w' H') : Slots G w' H0 H' σ env := by
  obtain ⟨oa, h1, h2⟩ := s.ex
  refine ⟨s.len, oa, fun i s hi => ?_, h2⟩
  have h := h1 i s hi
  have nr : ∀ a, a ∉ w.R → Vs H a → a ∉ w'.R := fun a ha hn hm => by
    obtain ⟨m, e, hm'⟩ := st.refs
    rw [e] at hm
    rcases List.mem_append.mp hm with z | z
    · exact ha z
    · exact hm' a z hn
  cases s with
  | un => trivial
  | val t =>
    obtain ⟨v, e, d⟩ := h
    exact ⟨v, e, d.mono st.later⟩
  | pv q =>
    obtain ⟨e, h3, h4, h5, o, h6, h7⟩ := h
    exact ⟨e, st.hid _ h4 ⟨o, h6, h7.pl.tb⟩ h3, nr _ h4 ⟨o, h6, h7.pl.tb⟩, h5, o, st.fr _ _ h4 h6 h7.pl.tb, h7.mono st.later st.me⟩
end
/-! ### what is wanted behind a computation -/
/-- an exception of the top's class c, made of one value -/
structure ExcIs (G : Gm) (w : Wd) (H : Hp) (c : Nat) (p : T) (cls : Value) (d : Option Addr) : Prop where
  ex : ∃ cA dd v f, G.mg (G.cn c) = some (.ref cA) ∧ cls = .ref cA ∧ d = some dd ∧ G.fl c = [f] ∧ H dd = some (.xd [(f, v)]) ∧ Den G w v p
def OutP {α : Type} (G : Gm) (w : Wd) (H : Hp) (E : XK) (okP : α → RS → Wd → Hp → Prop) : Out α → Prop
  | .ok a r' => ∀ w' H', Step w H w' H' → Good G w' H' r' → okP a r' w' H'
  | .exn c p r' => ∀ w' H' cls d, Step w H w' H' → Good G w' H' r' → ExcIs G w' H' c p cls d → E cls d H'
  | .bad => False
theorem OutP.mono {α : Type} {G : Gm} {w w1 : Wd} {H H1 : Hp} {E : XK} {P : α → RS → Wd → Hp → Prop} {o : Out α} (h : OutP G w H E P o) (s : Step w H w1 H1) : OutP G w1 H1 E P o := by
  cases o with
  | ok a r' => exact fun w' H' s' g => h w' H' (s.trans s') g
  | exn c p r' => exact fun w' H' cls d s' g x => h w' H' cls d (s.trans s') g x
  | bad => exact h
theorem OutP.imp {α : Type} {G : Gm} {w : Wd} {H : Hp} {E : XK} {P P' : α → RS → Wd → Hp → Prop} {o : Out α} (h : OutP G w H E P o) (hi : ∀ a r w' H', Step w H w' H' → Good G w' H' r → P a r w' H' → P' a r w' H') : OutP G w H E P' o := by
  cases o with
  | ok a r' => exact fun w' H' s' g => hi _ _ _ _ s' g (h w' H' s' g)
  | exn c p r' => exact h
  | bad => exact h
theorem OutP.bind {α β : Type} {G : Gm} {w : Wd} {H : Hp} {E : XK} {P : β → RS → Wd → Hp → Prop} {m : M α} {k : α → M β} {r : RS} (h : OutP G w H E P ((m >>= k) r)) :
    OutP G w H E (fun a r1 w1 H1 => OutP G w1 H1 E P (k a r1)) (m r) := by
  have e : (m >>= k) r = M.bind m k r := rfl
  rw [e] at h
  unfold M.bind at h
  cases q : m r with
  | ok a r' =>
    rw [q] at h
    exact fun w' H' s g => h.mono s
  | exn c p r' =>
    rw [q] at h
    exact h
  | bad =>
    rw [q] at h
    exact h
end Ep
namespace Ep
open PySem PySem.Spec L2
/-! ### readings by computations -/
abbrev WE0 (W : WX) (σ : L2.St) : XK := fun c d H => W c d σ H
def tS (G : Gm) (W : WX) (f : Env → M T) : TE := fun σ H Q => ∃ w H0 env r, Good G w H r ∧ Slots G w H0 H σ env ∧ OutP G w H (WE0 W σ) (fun t _ w' H' => ∀ v, Den G w' v t → Q v H') (f env r)
def tSB (G : Gm) (W : WX) (f : Env → M Bool) : TT := fun σ H Q => ∃ w H0 env r, Good G w H r ∧ Slots G w H0 H σ env ∧ OutP G w H (WE0 W σ) (fun b _ _ H' => Q b H') (f env r)
def fAll : List (Env → M T) → Env → M (List T)
  | [], _ => pure []
  | f :: fs, env => f env >>= fun x => fAll fs env >>= fun xs => pure (x :: xs)
def tSA (G : Gm) (W : WX) (fs : List (Env → M T)) : TA := fun σ H Q => ∃ w H0 env r, Good G w H r ∧ Slots G w H0 H σ env ∧ OutP G w H (WE0 W σ) (fun ts _ w' H' => ∀ vs, Dens G w' vs ts → ts.length = fs.length → Q vs H') (fAll fs env r)
abbrev SE (X : Cx) (G : Gm) (W : WX) (e : Expr) (f : Env → M T) : Prop := PE X e (tS G W f)
abbrev SB (X : Cx) (G : Gm) (W : WX) (e : Expr) (f : Env → M Bool) : Prop := PT X e (tSB G W f)
abbrev SW (X : Cx) (G : Gm) (W : WX) (e : Expr) (f : Env → M Bool) : Prop := PW X e (tSB G W f)
abbrev SA (X : Cx) (G : Gm) (W : WX) (es : List Expr) (fs : List (Env → M T)) : Prop := PA X es (tSA G W fs)
theorem pe_imp {X : Cx} {e : Expr} {t t' : TE} (h : PE X e t) (i : ∀ σ H Q, t' σ H Q → t σ H Q) : PE X e t' := ⟨fun pins s σ H Q I q => h.run pins s σ H Q I (i σ H Q q)⟩
theorem pt_imp {X : Cx} {e : Expr} {t t' : TT} (h : PT X e t) (i : ∀ σ H Q, t' σ H Q → t σ H Q) : PT X e t' := ⟨fun pins s σ H Q I q => h.run pins s σ H Q I (i σ H Q q)⟩
theorem pw_imp {X : Cx} {e : Expr} {t t' : TT} (h : PW X e t) (i : ∀ σ H Q, t' σ H Q → t σ H Q) : PW X e t' := ⟨fun wh pins s σ H Q I q => h.run wh pins s σ H Q I (i σ H Q q)⟩
theorem pa_imp {X : Cx} {e : List Expr} {t t' : TA} (h : PA X e t) (i : ∀ σ H Q, t' σ H Q → t σ H Q) : PA X e t' := ⟨fun pos pins s σ H Q I q => h.run pos pins s σ H Q I (i σ H Q q)⟩
section
variable {G : Gm} {W : WX} {w : Wd} {H0 H : Hp} {r : RS} {σ : L2.St} {env : Env}
/-- behind a first part the second one, in the world that is then -/
theorem seqE {α : Type} {f : Env → M T} {k : T → M α} {P : α → RS → Wd → Hp → Prop} {Q : VK} (g : Good G w H r) (s : Slots G w H0 H σ env) (h : OutP G w H (WE0 W σ) P ((f env >>= k) r))
    (n : ∀ t r1 w1 H1 v, Good G w1 H1 r1 → Slots G w1 H0 H1 σ env → Step w H w1 H1 → Den G w1 v t → OutP G w1 H1 (WE0 W σ) P (k t r1) → Q v H1) : tS G W f σ H Q :=
  ⟨w, H0, env, r, g, s, h.bind.imp fun t r1 w1 H1 st g1 o v d => n t r1 w1 H1 v g1 (s.step st) st d o⟩
theorem seqB {α : Type} {f : Env → M Bool} {k : Bool → M α} {P : α → RS → Wd → Hp → Prop} {Q : Bool → Hp → Prop} (g : Good G w H r) (s : Slots G w H0 H σ env) (h : OutP G w H (WE0 W σ) P ((f env >>= k) r))
    (n : ∀ b r1 w1 H1, Good G w1 H1 r1 → Slots G w1 H0 H1 σ env → Step w H w1 H1 → OutP G w1 H1 (WE0 W σ) P (k b r1) → Q b H1) : tSB G W f σ H Q :=
  ⟨w, H0, env, r, g, s, h.bind.imp fun t r1 w1 H1 st g1 o => n t r1 w1 H1 g1 (s.step st) st o⟩
theorem seqA {α : Type} {fs : List (Env → M T)} {k : List T → M α} {P : α → RS → Wd → Hp → Prop} {Q : List V → Hp → Prop} (g : Good G w H r) (s : Slots G w H0 H σ env) (h : OutP G w H (WE0 W σ) P ((fAll fs env >>= k) r))
    (n : ∀ t r1 w1 H1 v, Good G w1 H1 r1 → Slots G w1 H0 H1 σ env → Step w H w1 H1 → Dens G w1 v t → t.length = fs.length → OutP G w1 H1 (WE0 W σ) P (k t r1) → Q v H1) : tSA G W fs σ H Q :=
  ⟨w, H0, env, r, g, s, h.bind.imp fun t r1 w1 H1 st g1 o v d l => n t r1 w1 H1 v g1 (s.step st) st d l o⟩
theorem OutP.here {α : Type} {E : XK} {P : α → RS → Wd → Hp → Prop} {a : α} (g : Good G w H r) (h : OutP G w H E P (.ok a r)) : P a r w H := h w H (Step.refl _ _) g
end
/-! ### names, constants -/
section
variable {X : Cx} {G : Gm} {W : WX} {pos : Pos}
def fVar (i : Nat) : Env → M T := fun env => match env[i]? with
  | some (.val t) => pure t
  | _ => M.bad
theorem s_var {x : Str} (i : Nat) (hN : X.N[i]? = some x) (hv : Vis X.env.scope x) (hd : (x == ("__debug__" : Str)) = false := by decide) (hcd : (x == ("__classdict__" : Str)) = false := by decide) : SE X G W (.Name x pos) (fVar i) :=
  pe_imp (pe_var hN hv hd hcd) fun σ H Q ⟨w, H0, env, r, g, s, h⟩ => by
    unfold fVar at h
    cases e : env[i]? with
    | none => rw [e] at h; exact h.elim
    | some sl =>
      rw [e] at h
      cases sl with
      | val t =>
        obtain ⟨oa, hs, _⟩ := s.ex
        obtain ⟨v, e1, d⟩ := hs i _ e
        exact ⟨v, e1, OutP.here g h v d⟩
      | un => exact h.elim
      | pv _ => exact h.elim
def fC (t : T) : Env → M T := fun _ => pure t
theorem s_c {e : Expr} {v : V} {t : T} (h : PE X e (tC v)) (d : ∀ w, Den G w v t) : SE X G W e (fC t) := pe_imp h fun σ H Q ⟨w, H0, env, r, g, s, h⟩ => OutP.here g h v (d w)
theorem s_int {i : Int} {j : Nat} : SE X G W (.Constant (.int i) j pos) (fC (.int i)) := s_c pe_int fun _ => .int _
theorem s_bl {b : Bool} {j : Nat} : SE X G W (.Constant (.bool b) j pos) (fC (.bl b)) := s_c pe_bl fun _ => .bl _
theorem s_non {j : Nat} : SE X G W (.Constant .none j pos) (fC .non) := s_c pe_non fun _ => .non
theorem s_str {x : Str} {j : Nat} : SE X G W (.Constant (.str x) j pos) (fC (.str x)) := s_c pe_str fun _ => .str _
/-- a name of the top: its value denotes t in every world -/
theorem s_glob {x : Str} {v : V} {u : Value} {t : T} (hg : Gl X x) (hm : X.mg x = some u) (r : RelV v u) (d : ∀ w, Den G w v t) (hd : (x == ("__debug__" : Str)) = false := by decide) : SE X G W (.Name x pos) (fC t) := s_c (pe_glob hg hm r hd) d
theorem s_bltn {x : Str} {v : V} {u : Value} {t : T} (hg : Gl X x) (hm : X.mg x = none) (hv : bootBuiltins x = some u) (r : RelV v u) (d : ∀ w, Den G w v t) (hn : x ≠ "__name__" := by decide) (hd : (x == ("__debug__" : Str)) = false := by decide) : SE X G W (.Name x pos) (fC t) := s_c (pe_bltn hg hm hv r hn hd) d
end
/-! ### lists that are only looked at -/
/-- a value, or a list that the def still changes -/
def DenB (G : Gm) (w : Wd) (H : Hp) (v : V) (t : T) : Prop := Den G w v t ∨ ∃ a vs xs, v = .ref a ∧ t = .lst xs ∧ a ∉ w.R ∧ H a = some (.lst vs) ∧ Dens G w vs xs ∧ xs.length ≤ sizeLine
def tSK (G : Gm) (W : WX) (f : Env → M T) : TE := fun σ H Q => ∃ w H0 env r, Good G w H r ∧ Slots G w H0 H σ env ∧ OutP G w H (WE0 W σ) (fun t _ w' H' => ∀ v, DenB G w' H' v t → Q v H') (f env r)
abbrev SK (X : Cx) (G : Gm) (W : WX) (e : Expr) (f : Env → M T) : Prop := PE X e (tSK G W f)
theorem DenB.step {G : Gm} {w w' : Wd} {H H' : Hp} {v : V} {t : T} (d : DenB G w H v t) (s : Step w H w' H') : DenB G w' H' v t := by
  rcases d with d | ⟨a, vs, xs, e1, e2, h1, h2, h3, h4⟩
  · exact .inl (d.mono s.later)
  · refine .inr ⟨a, vs, xs, e1, e2, fun hm => ?_, s.fr _ _ h1 h2 (by intro _ e; cases e), h3.mono s.later, h4⟩
    obtain ⟨m, e, hm'⟩ := s.refs
    rw [e] at hm
    rcases List.mem_append.mp hm with z | z
    · exact h1 z
    · exact hm' a z (vs_of h2)
section
variable {X : Cx} {G : Gm} {W : WX} {pos : Pos} {a b : Expr} {f g : Env → M T}
theorem k_of (h : SE X G W a f) : SK X G W a f := pe_imp h fun σ H Q ⟨w, H0, env, r, g, s, h⟩ => ⟨w, H0, env, r, g, s, h.imp fun _ _ _ _ _ _ z v d => z v (.inl d)⟩
def fBor (i : Nat) : Env → M T := fun env => match env[i]? with
  | some (.val t) => pure t
  | some (.pv (.lst xs)) => pure (.lst xs)
  | _ => M.bad
theorem k_var {x : Str} (i : Nat) (hN : X.N[i]? = some x) (hv : Vis X.env.scope x) (hd : (x == ("__debug__" : Str)) = false := by decide) (hcd : (x == ("__classdict__" : Str)) = false := by decide) : SK X G W (.Name x pos) (fBor i) :=
  pe_imp (pe_var hN hv hd hcd) fun σ H Q ⟨w, H0, env, r, g, s, h⟩ => by
    unfold fBor at h
    cases e : env[i]? with
    | none => rw [e] at h; exact h.elim
    | some sl =>
      rw [e] at h
      obtain ⟨oa, hs, _⟩ := s.ex
      cases sl with
      | val t =>
        obtain ⟨v, e1, d⟩ := hs i _ e
        exact ⟨v, e1, OutP.here g h v (.inl d)⟩
      | pv o =>
        cases o with
        | lst xs =>
          obtain ⟨e1, h2, h3, h4, o, h5, h6⟩ := hs i _ e
          cases h6 with
          | lst hz h6 => exact ⟨_, e1, OutP.here g h _ (.inr ⟨_, _, xs, rfl, rfl, h3, h5, h6, hz⟩)⟩
        | _ => exact h.elim
      | un => exact h.elim
theorem seqK {α : Type} {w : Wd} {H0 H : Hp} {r : RS} {σ : L2.St} {env : Env} {k : T → M α} {P : α → RS → Wd → Hp → Prop} {Q : VK} (g : Good G w H r) (s : Slots G w H0 H σ env) (h : OutP G w H (WE0 W σ) P ((f env >>= k) r))
    (n : ∀ t r1 w1 H1 v, Good G w1 H1 r1 → Slots G w1 H0 H1 σ env → Step w H w1 H1 → DenB G w1 H1 v t → OutP G w1 H1 (WE0 W σ) P (k t r1) → Q v H1) : tSK G W f σ H Q :=
  ⟨w, H0, env, r, g, s, h.bind.imp fun t r1 w1 H1 st g1 o v d => n t r1 w1 H1 v g1 (s.step st) st d o⟩
end
/-! ### operators -/
section
variable {X : Cx} {G : Gm} {W : WX} {pos : Pos}
/-- a rule by values computes h -/
def OpV (G : Gm) (r2 : R2) (h : T → T → Option T) : Prop := ∀ w H r x y t u z Q, Good G w H r → Den G w x t → Den G w y u → h t u = some z → (∀ v w' H', Step w H w' H' → Good G w' H' r → Den G w' v z → Q v H') → r2 x y H Q
def fBin (h : T → T → Option T) (f g : Env → M T) : Env → M T := fun env => f env >>= fun x => g env >>= fun y => M.lift (h x y)
theorem liftP {α : Type} {w : Wd} {H : Hp} {E : XK} {r : RS} {P : α → RS → Wd → Hp → Prop} {o : Option α} (h : OutP G w H E P (M.lift o r)) : ∃ a, o = some a ∧ ∀ w' H', Step w H w' H' → Good G w' H' r → P a r w' H' := by
  cases o with
  | none => exact h.elim
  | some a => exact ⟨a, rfl, h⟩
variable {a b c : Expr} {f g k : Env → M T}
theorem op_use {r2 : R2} {h : T → T → Option T} {σ : L2.St} {H : Hp} {Q : VK} (hv : OpV G r2 h) (hq : tS G W (fBin h f g) σ H Q) : tOp r2 (tS G W f) (tS G W g) σ H Q := by
  obtain ⟨w, H0, env, r, g0, s, h0⟩ := hq
  refine seqE g0 s h0 fun t r1 w1 H1 x g1 s1 st1 d1 h1 => ?_
  refine seqE g1 s1 h1 fun u r2 w2 H2 y g2 s2 st2 d2 h2 => ?_
  obtain ⟨z, ez, hz⟩ := liftP h2
  exact hv w2 H2 r2 x y t u z Q g2 (d1.mono st2.later) d2 ez fun v w' H' st g' d => hz w' H' st g' v d
theorem s_bin {op : Operator} {r2 : R2} {h : T → T → Option T} (ho : OpR X (binaryOp op) r2) (hv : OpV G r2 h) (ha : SE X G W a f) (hb : SE X G W b g) : SE X G W (.BinOp a op b pos) (fBin h f g) :=
  pe_imp (pe_op ho ha hb) fun σ H Q hq => op_use hv hq
def UnV (G : Gm) (r1 : V → Hp → VK → Prop) (h : T → Option T) : Prop := ∀ w H r x t z Q, Good G w H r → Den G w x t → h t = some z → (∀ v w' H', Step w H w' H' → Good G w' H' r → Den G w' v z → Q v H') → r1 x H Q
def fUn (h : T → Option T) (f : Env → M T) : Env → M T := fun env => f env >>= fun x => M.lift (h x)
theorem s_un {op : UnaryOp} {r1 : V → Hp → VK → Prop} {h : T → Option T} (ho : UnR X (unaryOp op) r1) (hv : UnV G r1 h) (ha : SE X G W a f) : SE X G W (.UnaryOp op a pos) (fUn h f) :=
  pe_imp (pe_un ho ha) fun σ H Q ⟨w, H0, env, r, g0, s, h0⟩ => by
    refine seqE g0 s h0 fun t r1 w1 H1 x g1 s1 st1 d1 h1 => ?_
    obtain ⟨z, ez, hz⟩ := liftP h1
    exact hv w1 H1 r1 x t z Q g1 d1 ez fun v w' H' st g' d => hz w' H' st g' v d
/-- comparisons -/
def fCmp (h : T → T → Option Bool) (f g : Env → M T) : Env → M T := fBin (fun x y => (h x y).map T.bl) f g
def fCmpB (h : T → T → Option Bool) (f g : Env → M T) : Env → M Bool := fun env => f env >>= fun x => g env >>= fun y => M.lift (h x y)
def CmpV (G : Gm) (r2 : R2) (h : T → T → Option Bool) : Prop := ∀ w H r x y t u z Q, Good G w H r → DenB G w H x t → DenB G w H y u → h t u = some z → Q (.bl z) H → r2 x y H Q
theorem s_cmp {op : CmpOp} {r2 : R2} {h : T → T → Option Bool} (ho : OpR X (compareOp op) r2) (hv : CmpV G r2 h) (ha : SK X G W a f) (hb : SK X G W b g) (hm : behindInMarks op b = false) : SE X G W (.Compare a [op] [b] pos) (fCmp h f g) :=
  pe_imp (pe_cmpR ho ha hb hm) fun σ H Q ⟨w, H0, env, r, g0, s, h0⟩ => by
    refine seqK g0 s h0 fun t r1 w1 H1 x g1 s1 st1 d1 h1 => ?_
    refine seqK g1 s1 h1 fun u r2 w2 H2 y g2 s2 st2 d2 h2 => ?_
    obtain ⟨z, ez, hz⟩ := liftP h2
    have ez : (h t u).map T.bl = some z := ez
    cases e : h t u with
    | none => rw [e] at ez; cases ez
    | some b =>
      rw [e] at ez
      cases ez
      exact hv w2 H2 r2 x y t u b _ g2 (d1.step st2) d2 e (hz w2 H2 (Step.refl _ _) g2 _ (.bl b))
theorem s_cmpB {op : CmpOp} {r2 : R2} {h : T → T → Option Bool} (ho : OpR X (compareOp op) r2) (hv : CmpV G r2 h) (ha : SK X G W a f) (hb : SK X G W b g) (hm : behindInMarks op b = false) : SB X G W (.Compare a [op] [b] pos) (fCmpB h f g) :=
  pt_imp (pt_cmpR ho ha hb hm) fun σ H Q ⟨w, H0, env, r, g0, s, h0⟩ => by
    show tOp r2 (tSK G W f) (tSK G W g) σ H fun x H' => ∃ k, x = .bl k ∧ Q k H'
    refine seqK g0 s h0 fun t r1 w1 H1 x g1 s1 st1 d1 h1 => ?_
    refine seqK g1 s1 h1 fun u r2 w2 H2 y g2 s2 st2 d2 h2 => ?_
    obtain ⟨z, ez, hz⟩ := liftP h2
    exact hv w2 H2 r2 x y t u z _ g2 (d1.step st2) d2 ez ⟨z, rfl, hz w2 H2 (Step.refl _ _) g2⟩
def fChainB (h h' : T → T → Option Bool) (f g k : Env → M T) : Env → M Bool := fun env => f env >>= fun x => g env >>= fun y => M.lift (h x y) >>= fun c => if c = true then k env >>= fun z => M.lift (h' y z) else pure false
def fChain (h h' : T → T → Option Bool) (f g k : Env → M T) : Env → M T := fun env => f env >>= fun x => g env >>= fun y => M.lift (h x y) >>= fun c => if c = true then k env >>= fun z => M.lift ((h' y z).map T.bl) else pure (.bl false)
end
/-! ### chains, and, or, not, if .. else, arguments -/
section
variable {X : Cx} {G : Gm} {W : WX} {pos : Pos} {a b c : Expr} {f g k : Env → M T} {rest : List Expr} {p q : Env → M Bool}
theorem s_chain {op op' : CmpOp} {r2 r3 : R2} {h h' : T → T → Option Bool} (ho : OpR X (compareOp op) r2) (ho' : OpR X (compareOp op') r3) (hv : CmpV G r2 h) (hv' : CmpV G r3 h') (ha : SE X G W a f) (hb : SE X G W b g) (hc : SE X G W c k)
    (hm : lastMarks [op, op'] [b, c] = false) : SE X G W (.Compare a [op, op'] [b, c] pos) (fChain h h' f g k) :=
  pe_imp (pe_chain ho ho' ha hb hc hm) fun σ H Q ⟨w, H0, env, r, g0, s, h0⟩ => by
    refine seqE g0 s h0 fun t r1 w1 H1 x g1 s1 st1 d1 h1 => ?_
    refine seqE g1 s1 h1 fun u r2 w2 H2 y g2 s2 st2 d2 h2 => ?_
    obtain ⟨z, ez, h3⟩ := liftP h2.bind
    refine hv w2 H2 r2 x y t u z _ g2 (.inl (d1.mono st2.later)) (.inl d2) ez ⟨z, rfl, ?_⟩
    have h4 := h3 w2 H2 (Step.refl _ _) g2
    cases z with
    | true =>
      refine seqE g2 s2 h4 fun t3 r3 w3 H3 x3 g3 s3 st3 d3 h5 => ?_
      obtain ⟨z', ez', h6⟩ := liftP h5
      cases e : h' u t3 with
      | none => rw [e] at ez'; cases ez'
      | some b =>
        rw [e] at ez'
        cases ez'
        exact hv' w3 H3 r3 y x3 u t3 b _ g3 (.inl (d2.mono st3.later)) (.inl d3) e (h6 w3 H3 (Step.refl _ _) g3 _ (.bl b))
    | false => exact OutP.here g2 h4 _ (.bl false)
theorem s_chainB {op op' : CmpOp} {r2 r3 : R2} {h h' : T → T → Option Bool} (ho : OpR X (compareOp op) r2) (ho' : OpR X (compareOp op') r3) (hv : CmpV G r2 h) (hv' : CmpV G r3 h') (ha : SE X G W a f) (hb : SE X G W b g) (hc : SE X G W c k)
    (hm : lastMarks [op, op'] [b, c] = false) : SB X G W (.Compare a [op, op'] [b, c] pos) (fChainB h h' f g k) :=
  pt_imp (pt_chain ho ho' ha hb hc hm) fun σ H Q ⟨w, H0, env, r, g0, s, h0⟩ => by
    show tChain r2 r3 (tS G W f) (tS G W g) (tS G W k) σ H fun x H' => ∃ k, x = .bl k ∧ Q k H'
    refine seqE g0 s h0 fun t r1 w1 H1 x g1 s1 st1 d1 h1 => ?_
    refine seqE g1 s1 h1 fun u r2 w2 H2 y g2 s2 st2 d2 h2 => ?_
    obtain ⟨z, ez, h3⟩ := liftP h2.bind
    refine hv w2 H2 r2 x y t u z _ g2 (.inl (d1.mono st2.later)) (.inl d2) ez ⟨z, rfl, ?_⟩
    have h4 := h3 w2 H2 (Step.refl _ _) g2
    cases z with
    | true =>
      refine seqE g2 s2 h4 fun t3 r3 w3 H3 x3 g3 s3 st3 d3 h5 => ?_
      obtain ⟨z', ez', h6⟩ := liftP h5
      exact hv' w3 H3 r3 y x3 u t3 z' _ g3 (.inl (d2.mono st3.later)) (.inl d3) ez' ⟨z', rfl, h6 w3 H3 (Step.refl _ _) g3⟩
    | false => exact ⟨false, rfl, OutP.here g2 h4⟩
/-- a bool as a test -/
def fToB (f : Env → M T) : Env → M Bool := fun env => f env >>= fun x => match x with
  | .bl b => pure b
  | _ => M.bad
def fOfB (p : Env → M Bool) : Env → M T := fun env => p env >>= fun b => pure (.bl b)
theorem s_val (ha : SE X G W a f) (he : ∀ whole, isTrue a X.env whole = (do let v ← whole; standAt a.pos; holding [v] (truthy v)) := by intro _; rfl) : SB X G W a (fToB f) :=
  pt_imp (pt_val ha he) fun σ H Q ⟨w, H0, env, r, g0, s, h0⟩ => by
    refine seqE g0 s h0 fun t r1 w1 H1 x g1 s1 st1 d1 h1 => ?_
    cases d1 with
    | bl b => exact ⟨b, rfl, OutP.here g1 h1⟩
    | _ => exact h1.elim
/-- a value's truth -/
def truT : T → Option Bool
  | .non => some false
  | .bl b => some b
  | .int i => some (i != 0)
  | .str x => if x.length ≤ 100000 then some ((x.length : Int) != 0) else none
  | .tup xs => some (!xs.isEmpty)
  | .lst xs => some (!xs.isEmpty)
  | .kls xs => some (!xs.isEmpty)
  | _ => none
theorem Dens.emp {w : Wd} {vs : List V} {ts : List T} (d : Dens G w vs ts) : vs.isEmpty = ts.isEmpty := by cases d <;> rfl
def fTru (f : Env → M T) : Env → M Bool := fun env => f env >>= fun x => M.lift (truT x)
theorem s_tru (hK : X.K = G.K) (ha : SE X G W a f) (he : ∀ whole, isTrue a X.env whole = (do let v ← whole; standAt a.pos; holding [v] (truthy v)) := by intro _; rfl) : SB X G W a (fTru f) :=
  pt_imp (pt_truth ha he) fun σ H Q ⟨w, H0, env, r, g0, s, h0⟩ => by
    refine seqE g0 s h0 fun t r1 w1 H1 x g1 s1 st1 d1 h1 => ?_
    obtain ⟨z, ez, h2⟩ := liftP h1
    refine ⟨z, ?_, h2 w1 H1 (Step.refl _ _) g1⟩
    rw [hK]
    cases d1 with
    | non => cases ez; rfl
    | bl b => cases ez; rfl
    | int i => cases ez; rfl
    | str y =>
      have ez : (if y.length ≤ 100000 then some ((y.length : Int) != 0) else none) = some z := ez
      by_cases h : y.length ≤ 100000
      · rw [if_pos h] at ez
        cases ez
        exact ⟨Nat.le_trans h (by decide), rfl⟩
      · rw [if_neg h] at ez
        cases ez
    | tup hs _ d => cases ez; exact .inr (.inl ⟨_, tup_sq g1.sub hs, by rw [d.emp]⟩)
    | lst hs _ d => cases ez; exact .inl ⟨_, SqL.of (g1.sub _ _ hs), by rw [d.emp]⟩
    | kls hs _ d => cases ez; exact .inl ⟨_, g1.sub.seq hs, by rw [d.emp]⟩
    | _ => cases ez
def fAndB (p q : Env → M Bool) : Env → M Bool := fun env => p env >>= fun c => if c = true then q env else pure false
def fOrB (p q : Env → M Bool) : Env → M Bool := fun env => p env >>= fun c => if c = true then pure true else q env
def fNotB (p : Env → M Bool) : Env → M Bool := fun env => p env >>= fun c => pure (!c)
theorem w_and1 (ha : SB X G W a p) : SW X G W (.BoolOp .And [a] pos) p := pw_and1 ha
theorem w_or1 (ha : SB X G W a p) : SW X G W (.BoolOp .Or [a] pos) p := pw_or1 ha
theorem w_and (ha : SB X G W a p) (hb : SW X G W (.BoolOp .And (b :: rest) pos) q) : SW X G W (.BoolOp .And (a :: b :: rest) pos) (fAndB p q) :=
  pw_imp (pw_and ha hb) fun σ H Q ⟨w, H0, env, r, g0, s, h0⟩ => by
    refine seqB g0 s h0 fun t r1 w1 H1 g1 s1 st1 h1 => ?_
    cases t with
    | true => exact ⟨w1, H0, env, r1, g1, s1, h1⟩
    | false => exact OutP.here g1 h1
theorem w_or (ha : SB X G W a p) (hb : SW X G W (.BoolOp .Or (b :: rest) pos) q) : SW X G W (.BoolOp .Or (a :: b :: rest) pos) (fOrB p q) :=
  pw_imp (pw_or ha hb) fun σ H Q ⟨w, H0, env, r, g0, s, h0⟩ => by
    refine seqB g0 s h0 fun t r1 w1 H1 g1 s1 st1 h1 => ?_
    cases t with
    | false => exact ⟨w1, H0, env, r1, g1, s1, h1⟩
    | true => exact OutP.here g1 h1
theorem w_not (ha : SB X G W a p) : SB X G W (.UnaryOp .Not a pos) (fNotB p) :=
  pt_imp (pt_not ha) fun σ H Q ⟨w, H0, env, r, g0, s, h0⟩ => by
    refine seqB g0 s h0 fun t r1 w1 H1 g1 s1 st1 h1 => ?_
    exact OutP.here g1 h1
theorem w_t (ha : SW X G W a p) : SB X G W a p := ha.pt
/-- as values: bools -/
def fAnd (f g : Env → M T) : Env → M T := fun env => f env >>= fun x => match x with
  | .bl true => g env
  | .bl false => pure (.bl false)
  | _ => M.bad
def fOr (f g : Env → M T) : Env → M T := fun env => f env >>= fun x => match x with
  | .bl true => pure (.bl true)
  | .bl false => g env
  | _ => M.bad
def fNot (f : Env → M T) : Env → M T := fun env => f env >>= fun x => match x with
  | .bl b => pure (.bl (!b))
  | _ => M.bad
theorem s_one {op : BoolOp} (ha : SE X G W a f) : SE X G W (.BoolOp op [a] pos) f := pe_one ha
theorem s_and (ha : SE X G W a f) (hb : SE X G W (.BoolOp .And (b :: rest) pos) g) : SE X G W (.BoolOp .And (a :: b :: rest) pos) (fAnd f g) :=
  pe_imp (pe_and ha hb) fun σ H Q ⟨w, H0, env, r, g0, s, h0⟩ => by
    refine seqE g0 s h0 fun t r1 w1 H1 x g1 s1 st1 d1 h1 => ?_
    cases d1 with
    | bl b =>
      cases b with
      | true => exact ⟨true, rfl, w1, H0, env, r1, g1, s1, h1⟩
      | false => exact ⟨false, rfl, OutP.here g1 h1 _ (.bl false)⟩
    | _ => exact h1.elim
theorem s_or (ha : SE X G W a f) (hb : SE X G W (.BoolOp .Or (b :: rest) pos) g) : SE X G W (.BoolOp .Or (a :: b :: rest) pos) (fOr f g) :=
  pe_imp (pe_or ha hb) fun σ H Q ⟨w, H0, env, r, g0, s, h0⟩ => by
    refine seqE g0 s h0 fun t r1 w1 H1 x g1 s1 st1 d1 h1 => ?_
    cases d1 with
    | bl b =>
      cases b with
      | true => exact ⟨true, rfl, OutP.here g1 h1 _ (.bl true)⟩
      | false => exact ⟨false, rfl, w1, H0, env, r1, g1, s1, h1⟩
    | _ => exact h1.elim
theorem s_not (ha : SE X G W a f) : SE X G W (.UnaryOp .Not a pos) (fNot f) :=
  pe_imp (pe_not ha) fun σ H Q ⟨w, H0, env, r, g0, s, h0⟩ => by
    refine seqE g0 s h0 fun t r1 w1 H1 x g1 s1 st1 d1 h1 => ?_
    cases d1 with
    | bl b => exact ⟨b, rfl, OutP.here g1 h1 _ (.bl _)⟩
    | _ => exact h1.elim
def fIf (p : Env → M Bool) (f g : Env → M T) : Env → M T := fun env => p env >>= fun c => if c = true then f env else g env
theorem s_if (hc : SB X G W c p) (ha : SE X G W a f) (hb : SE X G W b g) : SE X G W (.IfExp c a b pos) (fIf p f g) :=
  pe_imp (pe_ifExp hc ha hb) fun σ H Q ⟨w, H0, env, r, g0, s, h0⟩ => by
    refine seqB g0 s h0 fun t r1 w1 H1 g1 s1 st1 h1 => ?_
    cases t with
    | true => exact ⟨w1, H0, env, r1, g1, s1, h1⟩
    | false => exact ⟨w1, H0, env, r1, g1, s1, h1⟩
theorem a_nil : SA X G W [] [] := pa_imp pa_nil fun σ H Q ⟨w, H0, env, r, g0, s, h0⟩ => OutP.here g0 h0 [] .nil rfl
theorem a_cons {e : Expr} {es : List Expr} {fs : List (Env → M T)} (ha : SE X G W e f) (hr : SA X G W es fs) (hs : starEach (e :: es) X.env = (false, eval e X.env) :: starEach es X.env := by rfl) : SA X G W (e :: es) (f :: fs) :=
  pa_imp (pa_cons ha hr hs) fun σ H Q ⟨w, H0, env, r, g0, s, h0⟩ => by
    refine seqE g0 s h0 fun t r1 w1 H1 x g1 s1 st1 d1 h1 => ?_
    refine seqA g1 s1 h1 fun ts r2 w2 H2 xs g2 s2 st2 d2 l h2 => ?_
    exact OutP.here g2 h2 (x :: xs) (.cons (d1.mono st2.later) d2) (by rw [List.length_cons, List.length_cons, l])
def fTup (fs : List (Env → M T)) : Env → M T := fun env => fAll fs env >>= fun ts => pure (.tup ts)
def fLst (fs : List (Env → M T)) : Env → M T := fun env => fAll fs env >>= fun ts => pure (.lst ts)
theorem s_tup {es : List Expr} {fs : List (Env → M T)} {j : Nat} (ha : SA X G W es fs) (hl : fs.length ≤ 1000 := by decide) : SE X G W (.Tuple es j pos) (fTup fs) :=
  pe_imp (pe_tup ha) fun σ H Q ⟨w, H0, env, r, g0, s, h0⟩ => by
    refine seqA g0 s h0 fun ts r1 w1 H1 vs g1 s1 st1 d1 l h1 => ?_
    have hz : ts.length ≤ sizeLine := by rw [l]; exact Nat.le_trans hl (by decide)
    refine ⟨by rw [d1.length]; exact hz, fun p hp => ?_⟩
    obtain ⟨st, g2⟩ := g1.new (o := .tup vs) hp
    exact h1 _ _ st g2 _ (.tup (.inl upd_same) hz (d1.mono st.later))
theorem s_lst {es : List Expr} {fs : List (Env → M T)} (ha : SA X G W es fs) (hl : fs.length ≤ 1000 := by decide) : SE X G W (.List es pos) (fLst fs) :=
  pe_imp (pe_lst ha) fun σ H Q ⟨w, H0, env, r, g0, s, h0⟩ => by
    refine seqA g0 s h0 fun ts r1 w1 H1 vs g1 s1 st1 d1 l h1 => ?_
    have hz : ts.length ≤ sizeLine := by rw [l]; exact Nat.le_trans hl (by decide)
    refine ⟨by rw [d1.length]; exact hz, fun p hp => ?_⟩
    obtain ⟨st, g2⟩ := g1.new (o := .lst vs) hp
    exact h1 _ _ st g2 _ (.lst upd_same hz (d1.mono st.later))
end
end Ep
namespace Ep
open PySem PySem.Spec L2
section
variable {X : Cx} {G : Gm} {W : WX} {pos : Pos} {a b : Expr} {f g : Env → M T}
/-- the items of a list, a tuple -/
def seqT (r : RS) : T → Option (List T)
  | .lst xs => some xs
  | .kls xs => some xs
  | .tup xs => some xs
  | .ref k => r[k]?
  | _ => none
inductive SeqD (G : Gm) (w : Wd) (H : Hp) (a : Addr) (xs : List T) : Prop where
  | l (vs : List V) (h : SqL G.K H a vs) (d : Dens G w vs xs) (z : xs.length ≤ sizeLine) : SeqD G w H a xs
  | t (vs : List V) (h : SqT G.K H a vs) (d : Dens G w vs xs) (z : xs.length ≤ sizeLine) : SeqD G w H a xs
theorem seq_of {w : Wd} {H : Hp} {r : RS} {v : V} {t : T} {xs : List T} (g : Good G w H r) (d : DenB G w H v t) (e : seqT r t = some xs) : ∃ a, v = .ref a ∧ SeqD G w H a xs := by
  rcases d with d | ⟨a, vs, ys, e1, e2, h1, h2, h3, h4⟩
  · cases d with
    | tup h z d => cases e; exact ⟨_, rfl, .t _ (tup_sq g.sub h) d z⟩
    | lst h z d => cases e; exact ⟨_, rfl, .l _ (SqL.of (g.sub _ _ h)) d z⟩
    | kls h z d => cases e; exact ⟨_, rfl, .l _ (g.sub.seq h) d z⟩
    | @ref k a h =>
      obtain ⟨b, vs, h1, h2, h3, h4⟩ := g.refs.at_ k xs e
      rw [h] at h1
      cases h1
      exact ⟨_, rfl, .l vs (SqL.of h2) h3 h4⟩
    | _ => cases e
  · subst e1 e2
    cases e
    exact ⟨_, rfl, .l vs (SqL.of h2) h3 h4⟩
theorem SeqD.z {w : Wd} {H : Hp} {a : Addr} {xs : List T} (h : SeqD G w H a xs) : xs.length ≤ sizeLine := by cases h <;> assumption
/-! ### items -/
def ixT (r : RS) (t : T) (i : T) : Option T := match t, i with
  | .str z, .int i => if z.length ≤ 100000 then (atI z.cps.toList i).map fun c => .str ⟨#[c]⟩ else none
  | t, .int i => (seqT r t).bind fun xs => atI xs i
  | _, _ => none
def fIx (f g : Env → M T) : Env → M T := fun env => f env >>= fun x => g env >>= fun y => fun r => M.lift (ixT r x y) r
theorem dens_at {w : Wd} {vs : List V} {xs : List T} {i : Int} {t : T} (d : Dens G w vs xs) (e : atI xs i = some t) : ∃ v, atI vs i = some v ∧ Den G w v t := by
  unfold atI at e ⊢
  rw [d.length]
  cases q : ixN xs.length i with
  | none => rw [q] at e; cases e
  | some j =>
    rw [q] at e
    exact d.get e
theorem s_ix (hK : X.K = G.K) (ha : SK X G W a f) (hb : SE X G W b g) (hs : PlainIx b) : SE X G W (.Subscript a b pos) (fIx f g) :=
  pe_imp (pe_ix ix_seq ha hb hs) fun σ H Q ⟨w, H0, env, r, g0, s, h0⟩ => by
    refine seqK g0 s h0 fun t r1 w1 H1 x g1 s1 st1 d1 h1 => ?_
    refine seqE g1 s1 h1 fun u r2 w2 H2 y g2 s2 st2 d2 h2 => ?_
    have d1 := d1.step st2
    obtain ⟨z, ez, h3⟩ := liftP h2
    have fin : ∀ v, Den G w2 v z → Q v H2 := fun v d => h3 w2 H2 (Step.refl _ _) g2 v d
    rw [hK]
    have seqs : ∀ i, y = .int i → ((seqT r2 t).bind fun xs => atI xs i) = some z → rIx G.K x y H2 Q := fun i ey e => by
      cases q : seqT r2 t with
      | none => rw [q] at e; cases e
      | some xs =>
        rw [q] at e
        obtain ⟨p, rfl, sd⟩ := seq_of g2 d1 q
        cases sd with
        | l vs hh dd _ =>
          obtain ⟨v, e1, e2⟩ := dens_at dd e
          exact .inl ⟨p, vs, i, v, rfl, ey, hh, e1, fin v e2⟩
        | t vs hh dd _ =>
          obtain ⟨v, e1, e2⟩ := dens_at dd e
          exact .inr (.inl ⟨p, vs, i, v, rfl, ey, hh, e1, fin v e2⟩)
    cases d2 with
    | int i =>
      cases t with
      | str zz =>
        have ez : (if zz.length ≤ 100000 then (atI zz.cps.toList i).map fun c => T.str ⟨#[c]⟩ else none) = some z := ez
        by_cases hz : zz.length ≤ 100000
        · rw [if_pos hz] at ez
          cases q : atI zz.cps.toList i with
          | none => rw [q] at ez; cases ez
          | some c =>
            rw [q] at ez
            cases ez
            have : x = .str zz := by
              rcases d1 with d1 | ⟨_, _, _, _, e2, _⟩
              · cases d1; rfl
              · cases e2
            subst this
            exact .inr (.inr ⟨zz, i, c, rfl, rfl, Nat.le_trans hz (by decide), q, fin _ (.str _)⟩)
        · rw [if_neg hz] at ez; cases ez
      | _ => exact seqs i rfl ez
    | _ => cases t <;> cases ez
/-! ### slices -/
def fO : Option (Env → M T) → Env → M (Option Int)
  | none, _ => pure none
  | some f, env => f env >>= fun x => match x with
    | .int i => pure (some i)
    | _ => M.bad
def tSO (G : Gm) (W : WX) (f : Option (Env → M T)) : TO := fun σ H Q => ∃ w H0 env r, Good G w H r ∧ Slots G w H0 H σ env ∧ OutP G w H (WE0 W σ) (fun o _ _ H' => Q o H') (fO f env r)
theorem po_imp {e : Option Expr} {t t' : TO} (h : PO X e t) (i : ∀ σ H Q, t' σ H Q → t σ H Q) : PO X e t' := ⟨fun pins s σ H Q I q => h.run pins s σ H Q I (i σ H Q q)⟩
theorem o_none : PO X none (tSO G W none) := po_imp po_none fun σ H Q ⟨w, H0, env, r, g, s, h⟩ => OutP.here g h
theorem o_some (ha : SE X G W a f) : PO X (some a) (tSO G W (some f)) := po_imp (po_some ha) fun σ H Q ⟨w, H0, env, r, g0, s, h0⟩ => by
  refine seqE g0 s h0 fun t r1 w1 H1 x g1 s1 st1 d1 h1 => ?_
  cases d1 with
  | int i => exact ⟨i, rfl, OutP.here g1 h1⟩
  | _ => exact h1.elim
def cutT (xs : List T) (lo hi : Option Int) : List T := (xs.drop (HT.sIx xs.length 0 lo)).take (HT.sIx xs.length xs.length hi - HT.sIx xs.length 0 lo)
def slT (r : RS) (t : T) (lo hi : Option Int) : Option T := match t with
  | .str z => if z.length ≤ 100000 then some (.str (cutS z lo hi)) else none
  | .lst xs => some (.lst (cutT xs lo hi))
  | .kls xs => some (.lst (cutT xs lo hi))
  | .ref k => r[k]?.map fun xs => .lst (cutT xs lo hi)
  | .tup xs => some (.tup (cutT xs lo hi))
  | _ => none
theorem Dens.cut {w : Wd} {vs : List V} {xs : List T} (d : Dens G w vs xs) (lo hi : Option Int) : Dens G w (cutV vs lo hi) (cutT xs lo hi) := by
  unfold cutV cutT
  rw [d.length]
  exact (d.drop _).take _
theorem cutT_length (xs : List T) (lo hi : Option Int) : (cutT xs lo hi).length ≤ xs.length := by
  unfold cutT
  rw [List.length_take, List.length_drop]
  omega
theorem tup_inj {K : PySem.W.Frag} : True := trivial
/-- a slice's value -/
def SlVal (X : Cx) (G : Gm) (r3 : V → Option Int → Option Int → Hp → VK → Prop) : Prop := ∀ w H r x t lo hi z Q, Good G w H r → DenB G w H x t → slT r t lo hi = some z → (∀ v w' H', Step w H w' H' → Good G w' H' r → Den G w' v z → Q v H') → r3 x lo hi H Q
theorem sl_use (hK : X.K = G.K) : SlVal X G (fun x lo hi H Q => rSlL X.K x lo hi H Q ∨ rSlA X.K x lo hi H Q ∨ rSlS x lo hi H Q) := by
  intro w H r x t lo hi z Q g d e q
  rw [hK]
  have lst : ∀ xs, seqT r t = some xs → z = .lst (cutT xs lo hi) → (∀ ys, t ≠ .tup ys) → rSlL G.K x lo hi H Q := fun xs e1 e2 nt => by
    obtain ⟨a, rfl, sd⟩ := seq_of g d e1
    have go : ∀ vs, SqL G.K H a vs → Dens G w vs xs → xs.length ≤ sizeLine → rSlL G.K (.ref a) lo hi H Q := fun vs h d z' => ⟨a, vs, rfl, h, fun p hp => by
      obtain ⟨st, g2⟩ := g.new (o := .lst (cutV vs lo hi)) hp
      subst e2
      exact q _ _ _ st g2 (.lst upd_same (Nat.le_trans (cutT_length _ _ _) z') ((d.cut lo hi).mono st.later))⟩
    rcases d with d | ⟨b, vs, ys, e3, e4, h1, h2, h3, h4⟩
    · cases d with
      | lst h z d => cases e1; exact go _ (SqL.of (g.sub _ _ h)) d z
      | kls h z d => cases e1; exact go _ (g.sub.seq h) d z
      | tup h z d => exact absurd rfl (nt _)
      | @ref k b h =>
        obtain ⟨b', vs, h1, h2, h3, h4⟩ := g.refs.at_ k xs e1
        rw [h] at h1
        cases h1
        exact go vs (SqL.of h2) h3 h4
      | _ => cases e1
    · cases e3
      subst e4
      cases e1
      exact go vs (SqL.of h2) h3 h4
  cases t with
  | str zz =>
    have e : (if zz.length ≤ 100000 then some (T.str (cutS zz lo hi)) else none) = some z := e
    by_cases hz : zz.length ≤ 100000
    · rw [if_pos hz] at e
      cases e
      have : x = .str zz := by
        rcases d with d1 | ⟨_, _, _, _, e2, _⟩
        · cases d1; rfl
        · cases e2
      subst this
      exact .inr (.inr ⟨zz, rfl, Nat.le_trans hz (by decide), q _ w H (Step.refl _ _) g (.str _)⟩)
    · rw [if_neg hz] at e; cases e
  | lst xs =>
    cases e
    exact .inl (lst xs rfl rfl fun _ => nofun)
  | kls xs =>
    cases e
    exact .inl (lst xs rfl rfl fun _ => nofun)
  | ref k =>
    have e : (r[k]?.map fun xs => T.lst (cutT xs lo hi)) = some z := e
    cases q' : r[k]? with
    | none => rw [q'] at e; cases e
    | some xs =>
      rw [q'] at e
      cases e
      exact .inl (lst xs q' rfl fun _ => nofun)
  | tup xs =>
    cases e
    rcases d with d1 | ⟨_, _, _, _, e2, _⟩
    · cases d1 with
      | @tup a vs _ h z d =>
        have hl : (cutT xs lo hi).length ≤ sizeLine := Nat.le_trans (cutT_length _ _ _) z
        refine .inr (.inl ⟨a, vs, rfl, tup_sq g.sub h, ?_, ?_⟩)
        · rw [d.length]
          rintro ⟨e1, e2⟩
          refine q _ w H (Step.refl _ _) g (.tup h hl ?_)
          unfold cutT
          rw [e1, e2]
          simpa using d
        · intro _ p hp
          obtain ⟨st, g2⟩ := g.new (o := .tup (cutV vs lo hi)) hp
          exact q _ _ _ st g2 (.tup (.inl upd_same) hl ((d.cut lo hi).mono st.later))
    · cases e2
  | _ => cases e
def fSl (f : Env → M T) (lo hi : Option (Env → M T)) : Env → M T := fun env => f env >>= fun x => fO lo env >>= fun i => fO hi env >>= fun j => fun r => M.lift (slT r x i j) r
theorem seqO {α : Type} {w : Wd} {H0 H : Hp} {r : RS} {σ : L2.St} {env : Env} {o : Option (Env → M T)} {k : Option Int → M α} {P : α → RS → Wd → Hp → Prop} {Q : Option Int → Hp → Prop} (g : Good G w H r) (s : Slots G w H0 H σ env) (h : OutP G w H (WE0 W σ) P ((fO o env >>= k) r))
    (n : ∀ t r1 w1 H1, Good G w1 H1 r1 → Slots G w1 H0 H1 σ env → Step w H w1 H1 → OutP G w1 H1 (WE0 W σ) P (k t r1) → Q t H1) : tSO G W o σ H Q :=
  ⟨w, H0, env, r, g, s, h.bind.imp fun t r1 w1 H1 st g1 o => n t r1 w1 H1 g1 (s.step st) st o⟩
theorem s_sl {lo hi : Option Expr} {fl fh : Option (Env → M T)} {p2 : Pos} (hK : X.K = G.K) (ha : SK X G W a f) (hl : PO X lo (tSO G W fl)) (hh : PO X hi (tSO G W fh)) : SE X G W (.Subscript a (.Slice lo hi none p2) pos) (fSl f fl fh) :=
  pe_imp (pe_slice (sl_list.or (sl_tupA.or sl_str)) ha hl hh) fun σ H Q ⟨w, H0, env, r, g0, s, h0⟩ => by
    refine seqK g0 s h0 fun t r1 w1 H1 x g1 s1 st1 d1 h1 => ?_
    refine seqO g1 s1 h1 fun i r2 w2 H2 g2 s2 st2 h2 => ?_
    refine seqO g2 s2 h2 fun j r3 w3 H3 g3 s3 st3 h3 => ?_
    obtain ⟨z, ez, h4⟩ := liftP h3
    exact sl_use hK w3 H3 r3 x t i j z Q g3 ((d1.step st2).step st3) ez fun v w' H' st g' d => h4 w' H' st g' v d
/-! ### new lists -/
def tSL (G : Gm) (W : WX) (f : Env → M (List T)) : TE := fun σ H Q => ∃ w H0 env r, Good G w H r ∧ Slots G w H0 H σ env ∧
  OutP G w H (WE0 W σ) (fun xs _ w' H' => ∀ p vs, ¬ Vs H p → w'.P p = none → p ∉ w'.R → H' p = some (.lst vs) → Dens G w' vs xs → xs.length ≤ sizeLine → Q (.ref p) H') (f env r)
abbrev SL (X : Cx) (G : Gm) (W : WX) (e : Expr) (f : Env → M (List T)) : Prop := PE X e (tSL G W f)
theorem Step.publish {w w' : Wd} {H H' : Hp} {p : Addr} {o : HO} (s : Step w H w' H') (h0 : ¬ Vs H p) (hP : w'.P p = none) : Step w H (w'.add p o) H' := by
  refine ⟨fun a u e => ?_, s.fr, s.keep, fun a h1 h2 h3 => ?_, s.refs, s.me⟩
  · show upd w'.P p o a = some u
    have := s.pub a u e
    rw [upd_ne (ne_of_none this hP)]
    exact this
  · show upd w'.P p o a = none
    rw [upd_ne (fun e => h0 (by rw [← e]; exact h2))]
    exact s.hid a h1 h2 h3
theorem Later.add {w : Wd} {p : Addr} {o : HO} (hP : w.P p = none) : Later w (w.add p o) := ⟨fun a u e => by
  show upd w.P p o a = some u
  rw [upd_ne (ne_of_none e hP)]
  exact e, [], by simp [Wd.add]⟩
theorem Good.publish {w : Wd} {H : Hp} {r : RS} {p : Addr} {o : HO} (g : Good G w H r) (hP : w.P p = none) (hR : p ∉ w.R) (h : H p = some o) (no : NoTab o := by intro ps e; cases e) : Good G (w.add p o) H r := by
  refine ⟨fun a u e => ?_, ⟨g.refs.nd, g.refs.len, fun a ha => ?_, fun k xs hk => ?_⟩, g.tabs, fun a u e => ?_⟩
  · have e : upd w.P p o a = some u := e
    by_cases q : a = p
    · subst q
      rw [upd_same] at e
      cases e
      exact h
    · rw [upd_ne q] at e
      exact g.sub a u e
  · show upd w.P p o a = none
    rw [upd_ne (fun e => hR (by rw [← e]; exact ha))]
    exact g.refs.out a ha
  · obtain ⟨a, vs, h1, h2, h3, hz⟩ := g.refs.at_ k xs hk
    exact ⟨a, vs, h1, h2, h3.mono (Later.add hP), hz⟩
  · have e : upd w.P p o a = some u := e
    by_cases q : a = p
    · subst q
      rw [upd_same] at e
      cases e
      exact no
    · rw [upd_ne q] at e
      exact g.nt a u e
def fOwn (f : Env → M (List T)) : Env → M T := fun env => f env >>= fun xs => pure (.lst xs)
theorem own_read {f : Env → M (List T)} {σ : L2.St} {H : Hp} {Q : VK} : tS G W (fOwn f) σ H Q → tSL G W f σ H Q := fun ⟨w, H0, env, r, g, s, h⟩ => by
  refine ⟨w, H0, env, r, g, s, ?_⟩
  have e : fOwn f env r = M.bind (f env) (fun xs => M.pure (T.lst xs)) r := rfl
  rw [e] at h
  unfold M.bind at h
  cases q : f env r with
  | ok xs r1 =>
    rw [q] at h
    intro w1 H1 st g1 p vs hp hP hR hh d z
    exact h _ _ (st.publish hp hP) (g1.publish hP hR hh) _ (.lst upd_same z (d.mono (Later.add hP)))
  | exn c p r1 =>
    rw [q] at h
    exact h
  | bad =>
    rw [q] at h
    exact h
theorem s_own {f : Env → M (List T)} (h : SL X G W a f) : SE X G W a (fOwn f) := pe_imp h fun σ H Q q => own_read q
theorem l_lst {es : List Expr} {fs : List (Env → M T)} (ha : SA X G W es fs) (hl : fs.length ≤ 1000 := by decide) : SL X G W (.List es pos) (fAll fs) :=
  pe_imp (pe_lst ha) fun σ H Q ⟨w, H0, env, r, g0, s, h0⟩ => by
    refine ⟨w, H0, env, r, g0, s, ?_⟩
    cases q : fAll fs env r with
    | ok ts r1 =>
      rw [q] at h0
      intro w1 H1 st g1 vs d l
      have hz : ts.length ≤ sizeLine := by rw [l]; exact Nat.le_trans hl (by decide)
      refine ⟨by rw [d.length]; exact hz, fun p hp => ?_⟩
      have hR := g1.noref hp
      have hP := g1.nopub hp
      have hH : ¬ Vs H p := fun z => nvs hp (st.keep p z)
      have st2 : Step w H w1 (upd H1 p (.lst vs)) := ⟨st.pub, fun a o h1 h2 h3 => by
        rw [upd_ne (ne_of_none (st.fr a o h1 h2 h3) hp)]
        exact st.fr a o h1 h2 h3, fun a h => by
        exact (st.keep a h).put (by intro _ e; cases e), st.hid, st.refs, st.me⟩
      have g2 : Good G w1 (upd H1 p (.lst vs)) r1 := ⟨fun a o e => by
        rw [upd_ne (ne_of_none (g1.sub a o e) hp)]
        exact g1.sub a o e, ⟨g1.refs.nd, g1.refs.len, g1.refs.out, fun k xs hk => by
        obtain ⟨a, us, h1, h2, h3, h4⟩ := g1.refs.at_ k xs hk
        exact ⟨a, us, h1, by rw [upd_ne (ne_of_none h2 hp)]; exact h2, h3, h4⟩⟩, tabs_put g1.tabs (.inl hp), g1.nt⟩
      exact h0 w1 _ st2 g2 p vs hH hP hR upd_same d hz
    | exn c p r1 =>
      rw [q] at h0
      exact h0
    | bad =>
      rw [q] at h0
      exact h0
end
end Ep
namespace Ep
open PySem PySem.Spec L2
section
variable {G : Gm} {w w1 : Wd} {H H1 : Hp} {r : RS} {p : Addr} {o : HO}
theorem Step.before (s : Step w H w1 H1) (h : H1 p = none) : ¬ Vs H p := fun z => nvs h (s.keep p z)
/-- a new thing that nobody else sees -/
theorem Step.priv (s : Step w H w1 H1) (hp : H1 p = none) (no : NoTab o := by intro ps e; cases e) : Step w H w1 (upd H1 p o) := ⟨s.pub, fun a u h1 h2 h3 => by
    rw [upd_ne (ne_of_none (s.fr a u h1 h2 h3) hp)]
    exact s.fr a u h1 h2 h3, fun a h => by
    exact (s.keep a h).put no, s.hid, s.refs, s.me⟩
/-- a private thing is changed -/
theorem Step.chg (s : Step w H w1 H1) (h0 : ¬ Vs H p) (no : NoTab o := by intro ps e; cases e) : Step w H w1 (upd H1 p o) := ⟨s.pub, fun a u h1 h2 h3 => by
    rw [upd_ne (ne_nv h2 h3 h0)]
    exact s.fr a u h1 h2 h3, fun a h => by
    exact (s.keep a h).put no, s.hid, s.refs, s.me⟩
theorem Good.priv (g : Good G w H r) (hP : w.P p = none) (hR : p ∉ w.R) (hq : H p = none ∨ ∃ u, H p = some u ∧ Pl u) : Good G w (upd H p o) r := ⟨fun a u e => by
    rw [upd_ne (ne_of_none e hP)]
    exact g.sub a u e, ⟨g.refs.nd, g.refs.len, g.refs.out, fun k xs hk => by
    obtain ⟨a, us, h1, h2, h3, h4⟩ := g.refs.at_ k xs hk
    refine ⟨a, us, h1, ?_, h3, h4⟩
    rw [upd_ne (fun e => hR (by rw [← e]; exact List.mem_of_getElem? h1))]
    exact h2⟩, tabs_put g.tabs hq, g.nt⟩
end
/-! ### fields -/
theorem lookup_zip {name : Str} : ∀ {l : List Str} {vs : List V} {j : Nat}, l.findIdx? (fun y => y == name) = some j → l.length = vs.length → (l.zip vs).lookup name = vs[j]?
  | [], _, _, h, _ => by simp at h
  | y :: l, [], _, _, e => by simp at e
  | y :: l, v :: vs, j, h, e => by
    rw [List.findIdx?_cons] at h
    rw [List.zip_cons_cons, List.lookup_cons]
    by_cases q : y = name
    · subst q
      have e1 : (y == y) = true := by simp
      rw [if_pos e1] at h
      cases h
      rw [e1]
      rfl
    · have e1 : (y == name) = false := by simp [q]
      have e2 : (name == y) = false := by simp [Ne.symm q]
      rw [e1, if_neg (by decide)] at h
      rw [e2]
      cases h2 : l.findIdx? (fun y => y == name) with
      | none => rw [h2] at h; cases h
      | some i =>
        rw [h2] at h
        cases h
        have := lookup_zip (vs := vs) h2 (by simpa using e)
        simpa using this
theorem lookup_zip_none {name : Str} : ∀ {l : List Str} {vs : List V}, name ∉ l → (l.zip vs).lookup name = none
  | [], _, _ => rfl
  | y :: l, [], _ => rfl
  | y :: l, v :: vs, h => by
    rw [List.zip_cons_cons, List.lookup_cons]
    have e2 : (name == y) = false := by
      have : name ≠ y := fun e => h (by rw [e]; exact List.mem_cons_self)
      simp [this]
    rw [e2]
    exact lookup_zip_none fun hm => h (List.mem_cons_of_mem _ hm)
/-- the classes whose instances have the field, and its place -/
structure FldOk (G : Gm) (name : Str) (C j : Nat) : Prop where
  at_ : (G.fl C).findIdx? (fun y => y == name) = some j
  cl : ∀ cA, G.mg (G.cn C) = some (.ref cA) → Cls G.K cA ∧ NoAttr G.K cA name
def fFld (m : Nat → Option Nat) (f : Env → M T) : Env → M T := fun env => f env >>= fun x => match x with
  | .obj C vs => M.lift ((m C).bind fun j => vs[j]?)
  | _ => M.bad
section
variable {X : Cx} {G : Gm} {W : WX} {pos : Pos} {a b : Expr} {f g : Env → M T} {name : Str}
theorem s_fld (hK : X.K = G.K) (m : Nat → Option Nat) (ok : ∀ C j, m C = some j → FldOk G name C j) (ha : SE X G W a f) (hb : attributeBase a name X.env (eval a X.env) = eval a X.env := by rfl) : SE X G W (.Attribute a name pos) (fFld m f) :=
  pe_imp (pe_fld ha hb) fun σ H Q ⟨w, H0, env, r, g0, s, h0⟩ => by
    refine seqE g0 s h0 fun t r1 w1 H1 x g1 s1 st1 d1 h1 => ?_
    cases d1 with
    | @obj p cA dx C vs ts c h l d =>
      obtain ⟨z, ez, h2⟩ := liftP h1
      cases q : m C with
      | none => rw [q] at ez; cases ez
      | some j =>
        rw [q] at ez
        have o := ok C j q
        obtain ⟨v, e1, e2⟩ := d.get (i := j) ez
        rw [hK]
        exact ⟨p, cA, dx, _, v, rfl, g1.sub _ _ h, (o.cl cA c).1, (o.cl cA c).2, by rw [lookup_zip o.at_ l]; exact e1, h2 w1 H1 (Step.refl _ _) g1 v e2⟩
    | _ => exact h1.elim
/-! ### calls -/
/-- a def computes F of n arguments -/
def spF (G : Gm) (n : Nat) (F : List T → M T) : Sp := fun vs H Q E => ∃ w r ts, Good G w H r ∧ Dens G w vs ts ∧ ts.length = n ∧ OutP G w H E (fun t _ w' H' => ∀ v, Den G w' v t → Q v H') (F ts r)
/-- an __init__ makes of n arguments the fields of an instance of C -/
def spI (G : Gm) (C n : Nat) (F : List T → M (List T)) : Sp := fun vs H Q E => ∃ w r ts x rest cA dx H1, vs = .ref x :: rest ∧ G.mg (G.cn C) = some (.ref cA) ∧ H1 x = none ∧ H1 dx = none ∧ dx ≠ x ∧ H = upd (upd H1 dx (.own x)) x (.ins cA dx []) ∧
  Good G w H1 r ∧ Dens G w rest ts ∧ ts.length = n ∧ OutP G w H1 E (fun fs _ w' H' => ∀ us dx', H' x = some (.ins cA dx' ((G.fl C).zip us)) → us.length = (G.fl C).length → Dens G w' us fs → w'.P x = none → x ∉ w'.R → Q .non H') (F ts r)
theorem spF_len {n : Nat} {F : List T → M T} {ps : List Str} (h : ps.length = n) : ∀ vs H Q E, spF G n F vs H Q E → vs.length = ps.length := fun vs H Q E ⟨w, r, ts, g, d, l, _⟩ => by rw [d.length, l, h]
theorem spI_len {C n : Nat} {F : List T → M (List T)} {ps : List Str} (h : ps.length = n + 1) : ∀ vs H Q E, spI G C n F vs H Q E → vs.length = ps.length := fun vs H Q E ⟨w, r, ts, x, rest, cA, dx, H1, e, _, _, _, _, _, g, d, l, _⟩ => by rw [e, List.length_cons, d.length, l, h]
/-- a def of the top: x its name, n its parameters, ds its last arguments where they are left out -/
structure DefOk (P : Program) (wd : World) (base : Heap) (G : Gm) (k : Nat) (x : Str) (n : Nat) (ds : List T) (F : List T → M T) : Prop where
  ex : ∃ f fd ps dvs dus, FnOk P wd G.K G.mg base (L2.CX P wd) k f fd ps (spF G n F) ∧ G.mg x = some (.ref f) ∧ PySem.W.keepIn G.K (.ref f) = true ∧ Binds G.K fd ps dus ∧ Vals dvs dus ∧ ∀ w, Dens G w dvs ds
/-- a class's making -/
structure MakeOk (P : Program) (wd : World) (base : Heap) (G : Gm) (k C n : Nat) (ds : List T) (F : List T → M (List T)) : Prop where
  ex : ∃ cA f fd ps dvs dus, G.mg (G.cn C) = some (.ref cA) ∧ Mk G.K cA f ∧ FnOk P wd G.K G.mg base (L2.CX P wd) k f fd ps (spI G C n F) ∧ Binds G.K fd ps dus ∧ Vals dvs dus ∧ ∀ w, Dens G w dvs ds
/-- a method of the class C: F takes the instance first -/
structure MethOk (P : Program) (wd : World) (base : Heap) (G : Gm) (k C : Nat) (m : Str) (n : Nat) (ds : List T) (F : List T → M T) : Prop where
  ex : ∃ cA f fd ps dvs dus, G.mg (G.cn C) = some (.ref cA) ∧ Cls G.K cA ∧ Meth G.K cA m f ∧ FnOk P wd G.K G.mg base (L2.CX P wd) k f fd ps (spF G n F) ∧ Binds G.K fd ps dus ∧ Vals dvs dus ∧ ∀ w, Dens G w dvs ds
  nof : m ∉ G.fl C
def fCall (F : List T → M T) (ds : List T) (fs : List (Env → M T)) : Env → M T := fun env => fAll fs env >>= fun ts => F (ts ++ ds)
def fMake (C : Nat) (F : List T → M (List T)) (ds : List T) (fs : List (Env → M T)) : Env → M T := fun env => fAll fs env >>= fun ts => F (ts ++ ds) >>= fun us => pure (.obj C us)
def fMeth (C : Nat) (F : List T → M T) (ds : List T) (f : Env → M T) (fs : List (Env → M T)) : Env → M T := fun env => f env >>= fun x => match x with
  | .obj C' vs => if C' = C then fAll fs env >>= fun ts => F (.obj C' vs :: (ts ++ ds)) else M.bad
  | _ => M.bad
variable {e : Expr} {es : List Expr} {fs : List (Env → M T)} {ds : List T} {j k n C : Nat} {p apos : Pos} {x : Str}
theorem call_use {F : List T → M T} {dvs : List V} (hn : fs.length + ds.length = n) (hd : ∀ w, Dens G w dvs ds) {σ : L2.St} {H : Hp} {Q : VK} (h : tS G W (fCall F ds fs) σ H Q) : tCallSD (spF G n F) dvs (WE W) (tSA G W fs) σ H Q := by
  obtain ⟨w, H0, env, r, g0, s, h0⟩ := h
  refine seqA g0 s h0 fun ts r1 w1 H1 vs g1 s1 st1 d1 l h1 => ?_
  exact ⟨w1, r1, ts ++ ds, g1, d1.append (hd w1), by rw [List.length_append, l, hn], h1⟩
theorem s_call {F : List T → M T} (D : DefOk X.prog X.w X.base G k x n ds F) (hK : X.K = G.K) (hM : X.mg = G.mg) (tk : Takes X W) (hr : Room j X.A) (hk : k ≤ j) (hg : Gl X x) (ha : SA X G W (e :: es) fs) (hn : fs.length + ds.length = n := by rfl)
    (hdb : (x == ("__debug__" : Str)) = false := by decide) (he : starEach (e :: es) X.env = (false, eval e X.env) :: starEach es X.env := by rfl) (hpl : (backTo pos (starEach es X.env)).any (·.1) = false := by rfl) : SE X G W (.Call (.Name x p) (e :: es) [] pos) (fCall F ds fs) := by
  obtain ⟨f, fd, ps, dvs, dus, h1, h2, h3, h4, h5, h6⟩ := D.ex
  rw [← hK, ← hM] at h1
  exact pe_imp (pe_callSD (E := WE W) h1 (hr.mono hk) hg (by rw [hM]; exact h2) (by rw [hK]; exact h3) (by rw [hK]; exact h4) h5 (fun σ => passAt tk σ) ha hdb he hpl) fun σ H Q h => call_use hn h6 h
theorem pe_call0SD {CX : CXT} {f : Addr} {fd : FuncData} {ps : List Str} {sp : Sp} {dvs : List V} {dus : List Value} {E : L2.St → XK} (F : FnOk X.prog X.w X.K X.mg X.base CX k f fd ps sp) (hr : Room k X.A) (hg : Gl X x) (hm : X.mg x = some (.ref f)) (hk : PySem.W.keepIn X.K (.ref f) = true) (hb : Binds X.K fd ps dus) (hd : Vals dvs dus) (hx : ∀ σ, PassesAt CX X σ (E σ))
    (hdb : (x == ("__debug__" : Str)) = false := by decide) : PE X (.Call (.Name x p) [] [] pos) (tCallSD sp dvs E tNil) := by
  refine ⟨fun pins s σ H Q I h => ?_⟩
  refine wpAny_Call_Name_kw (ld_glob I hg hm ?_ hdb)
  exact PySem.W.callWith_K0 I.kIn hk (run_fnSD (us := []) F hr hb hd (hx σ) I .nil h)
theorem s_call0 {F : List T → M T} (D : DefOk X.prog X.w X.base G k x n ds F) (hK : X.K = G.K) (hM : X.mg = G.mg) (tk : Takes X W) (hr : Room j X.A) (hk : k ≤ j) (hg : Gl X x) (hn : ds.length = n := by rfl)
    (hdb : (x == ("__debug__" : Str)) = false := by decide) : SE X G W (.Call (.Name x p) [] [] pos) (fCall F ds []) := by
  obtain ⟨f, fd, ps, dvs, dus, h1, h2, h3, h4, h5, h6⟩ := D.ex
  rw [← hK, ← hM] at h1
  refine pe_imp (pe_call0SD (E := WE W) h1 (hr.mono hk) hg (by rw [hM]; exact h2) (by rw [hK]; exact h3) (by rw [hK]; exact h4) h5 (fun σ => passAt tk σ) hdb) fun σ H Q ⟨w, H0, env, r, g0, s, h0⟩ => ?_
  exact ⟨w, r, [] ++ ds, g0, by simpa using h6 w, by simpa using hn, h0⟩
theorem s_meth {F : List T → M T} {m : Str} {o : Expr} {pl : Sem Bool} (D : MethOk X.prog X.w X.base G k C m n ds F) (hK : X.K = G.K) (hM : X.mg = G.mg) (tk : Takes X W) (hr : Room j X.A) (hk : k ≤ j) (ho : SE X G W o f) (ha : SA X G W (e :: es) fs) (hn : fs.length + ds.length + 1 = n := by rfl) (hst : starEach (e :: es) X.env = (false, eval e X.env) :: starEach es X.env := by rfl) (hpl : (backTo pos (starEach es X.env)).any (·.1) = false := by rfl)
    (ht : eval (.Call (.Attribute o m apos) (e :: es) [] pos) X.env = (do let ov ← eval o X.env; standAt apos.atName; let (f, first) ← holding [ov] (getMethod ov m pl); callWith pos f first (backTo pos (starEach (e :: es) X.env)) (backToKw pos (keywordEach [] X.env))) := by rfl) : SE X G W (.Call (.Attribute o m apos) (e :: es) [] pos) (fMeth C F ds f fs) := by
  obtain ⟨cA, fn, fd, ps, dvs, dus, c1, c2, c3, h1, h4, h5, h6⟩ := D.ex
  rw [← hK, ← hM] at h1
  refine ⟨fun pins s σ H Q I ⟨w, H0, env, r, g0, s0, h0⟩ => ?_⟩
  refine PySem.W.methodCall_KW (pl := pl) (thn (ho.run pins s σ H _ I (seqE g0 s0 h0 fun t r1 w1 H1 x g1 s1 st1 d1 h1 => show (∃ w1 r1 t, Good G w1 H1 r1 ∧ Slots G w1 H0 H1 σ env ∧ Den G w1 x t ∧ OutP G w1 H1 (WE0 W σ) (fun t x w' H' => ∀ (v : V), Den G w' v t → Q v H') ((match t with | .obj C' vs => if C' = C then fAll fs env >>= fun ts => F (.obj C' vs :: (ts ++ ds)) else M.bad | _ => M.bad : M T) r1)) from ⟨w1, r1, t, g1, s1, d1, h1⟩)) fun u s1 ⟨v, H1, I1, rv, w1, r1, t, g1, sl1, d1, h2⟩ => ?_) ht
  cases d1 with
  | @obj q cA' dx C' vs ts c h l d =>
    by_cases hC : C' = C
    · subst hC
      rw [c1] at c
      cases c
      obtain rfl : u = Value.ref q := rv
      have h2 : OutP G w1 H1 (WE0 W σ) (fun t x w' H' => ∀ (v : V), Den G w' v t → Q v H') ((fAll fs env >>= fun us => F (.obj C' ts :: (us ++ ds))) r1) := by simpa using h2
      refine getmeth_ok I1 (g1.sub _ _ h) (by rw [hK]; exact c2) (by rw [hK]; exact c3) (lookup_zip_none D.nof) ?_
      refine PySem.W.callWith_K (first := [.ref q]) (h₀ := X.base) I.ok.mod.kin (by rw [hK]; exact c3.kp) (thn (ha.run pos pins s1 σ H1 _ I1 (seqA g1 sl1 h2 fun us r2 w2 H2 ws g2 s2 st2 d2 l2 h3 => show (∃ w2 r2 us, Good G w2 H2 r2 ∧ Dens G w2 (.ref q :: (ws ++ dvs)) (.obj C' ts :: (us ++ ds)) ∧ us.length = fs.length ∧ OutP G w2 H2 (WE0 W σ) (fun t x w' H' => ∀ (v : V), Den G w' v t → Q v H') (F (.obj C' ts :: (us ++ ds)) r2)) from ⟨w2, r2, us, g2, .cons ((Den.obj c1 h l d).mono st2.later) (d2.append (h6 w2)), l2, h3⟩)) fun us s2 ⟨ws, H2, I2, rw2, w2, r2, us', g2, d2, l2, h3⟩ => ⟨I2.kIn, ?_⟩) hst hpl
      exact run_fnSD (us := .ref q :: us) (vs := .ref q :: ws) h1 (hr.mono hk) (by rw [hK]; exact h4) h5 (passAt tk σ) I2 (.cons rfl rw2) ⟨w2, r2, _, g2, d2, by rw [List.length_cons, List.length_append, l2, ← hn], h3⟩
    · have h2 : OutP G w1 H1 (WE0 W σ) (fun t x w' H' => ∀ (v : V), Den G w' v t → Q v H') ((M.bad : M T) r1) := by simpa [hC] using h2
      exact h2.elim
  | _ => exact h2.elim
theorem s_meth0 {F : List T → M T} {m : Str} {o : Expr} {pl : Sem Bool} (D : MethOk X.prog X.w X.base G k C m n ds F) (hK : X.K = G.K) (hM : X.mg = G.mg) (tk : Takes X W) (hr : Room j X.A) (hk : k ≤ j) (ho : SE X G W o f) (hn : ds.length + 1 = n := by rfl)
    (ht : eval (.Call (.Attribute o m apos) [] [] pos) X.env = (do let ov ← eval o X.env; standAt apos.atName; let (f, first) ← holding [ov] (getMethod ov m pl); callWith pos f first (backTo pos (starEach [] X.env)) (backToKw pos (keywordEach [] X.env))) := by rfl) : SE X G W (.Call (.Attribute o m apos) [] [] pos) (fMeth C F ds f []) := by
  obtain ⟨cA, fn, fd, ps, dvs, dus, c1, c2, c3, h1, h4, h5, h6⟩ := D.ex
  rw [← hK, ← hM] at h1
  refine ⟨fun pins s σ H Q I ⟨w, H0, env, r, g0, s0, h0⟩ => ?_⟩
  refine PySem.W.methodCall_KW (pl := pl) (thn (ho.run pins s σ H _ I (seqE g0 s0 h0 fun t r1 w1 H1 x g1 s1 st1 d1 h1 => show (∃ w1 r1 t, Good G w1 H1 r1 ∧ Slots G w1 H0 H1 σ env ∧ Den G w1 x t ∧ OutP G w1 H1 (WE0 W σ) (fun t x w' H' => ∀ (v : V), Den G w' v t → Q v H') ((match t with | .obj C' vs => if C' = C then fAll [] env >>= fun ts => F (.obj C' vs :: (ts ++ ds)) else M.bad | _ => M.bad : M T) r1)) from ⟨w1, r1, t, g1, s1, d1, h1⟩)) fun u s1 ⟨v, H1, I1, rv, w1, r1, t, g1, sl1, d1, h2⟩ => ?_) ht
  cases d1 with
  | @obj q cA' dx C' vs ts c h l d =>
    by_cases hC : C' = C
    · subst hC
      rw [c1] at c
      cases c
      obtain rfl : u = Value.ref q := rv
      have h2 : OutP G w1 H1 (WE0 W σ) (fun t x w' H' => ∀ (v : V), Den G w' v t → Q v H') (F (.obj C' ts :: ([] ++ ds)) r1) := by
        have h2 : OutP G w1 H1 (WE0 W σ) (fun t x w' H' => ∀ (v : V), Den G w' v t → Q v H') ((if C' = C' then (fAll [] env >>= fun us => F (.obj C' ts :: (us ++ ds))) else M.bad : M T) r1) := h2
        rw [if_pos rfl] at h2
        exact h2
      refine getmeth_ok I1 (g1.sub _ _ h) (by rw [hK]; exact c2) (by rw [hK]; exact c3) (lookup_zip_none D.nof) ?_
      exact PySem.W.callWith_K0 (first := [.ref q]) I1.kIn (by rw [hK]; exact c3.kp) (run_fnSD (us := [.ref q]) (vs := [.ref q]) h1 (hr.mono hk) (by rw [hK]; exact h4) h5 (passAt tk σ) I1 (.cons rfl .nil) ⟨w1, r1, _, g1, .cons (.obj c1 h l d) (h6 w1), by simpa using hn, h2⟩)
    · have h2 : OutP G w1 H1 (WE0 W σ) (fun t x w' H' => ∀ (v : V), Den G w' v t → Q v H') ((M.bad : M T) r1) := by simpa [hC] using h2
      exact h2.elim
  | _ => exact h2.elim
/-! ### instances made -/
theorem run_makeSD {CX : CXT} {cA f : Addr} {fd : FuncData} {ps : List Str} {sp : Sp} {dvs : List V} {dus : List Value} {E : L2.St → XK} {pins : List (Addr × Obj)} {σ : L2.St} {H : Hp} {s : Shared} {Q : VK} {us : List Value} {vs : List V} (Mk' : Mk X.K cA f) (F : FnOk X.prog X.w X.K X.mg X.base CX k f fd ps sp) (hr : Room (k + 1) X.A) (hb : Binds X.K fd ps dus) (hd : Vals dvs dus)
    (hx : ∀ σ, PassesAt CX X σ (E σ)) (I : L2.Inv X pins σ H s) (r : Vals vs us)
    (h : ∀ x dx, H x = none → H dx = none → dx ≠ x → sp (.ref x :: (vs ++ dvs)) (upd (upd H dx (.own x)) x (.ins cA dx [])) (fun v H2 => v = .non ∧ Q (.ref x) H2) (E σ)) :
    wpAny (model X.prog X.w) X.A (call (.ref cA) us) (EP X pins σ Q) X.xe s := by
  have fr0 : H s.heap.objs.size = none := I.hok.fresh (Nat.le_refl _)
  have fr1 : H (s.heap.objs.size + 1) = none := I.hok.fresh (Nat.le_succ _)
  have hq := h _ _ fr1 fr0 (Nat.ne_of_lt (Nat.lt_succ_self _))
  have J := L2.Inv.made (C := cA) I
  have rr : Vals (V.ref (s.heap.objs.size + 1) :: (vs ++ dvs)) (Value.ref (s.heap.objs.size + 1) :: (us ++ dus)) := .cons rfl (r.append hd)
  have hl : (Value.ref (s.heap.objs.size + 1) :: us ++ dus).length = ps.length := by
    have e1 := rr.length
    have e2 := F.len _ _ _ _ hq
    rw [e2] at e1
    exact e1.symm
  refine wpAny_call (make_map (f := f) I.kIn Mk'.makes Mk'.init (beq_iff_eq.mp Mk'.fn) ?_)
  refine codeAny_mono (F.run _ X.stack _ _ ⟨Value.ref (s.heap.objs.size + 1) :: us, []⟩ (Value.ref (s.heap.objs.size + 1) :: (us ++ dus)) _ _ (E σ) (hr.make cA us []) (J.env0.make cA us []) (hb _ (Value.ref (s.heap.objs.size + 1) :: us) J.kIn hl) rr hq) fun res s' hq' => ?_
  cases res with
  | error e => exact hx σ pins _ _ e s' J hq'
  | ok fl =>
    cases fl with
    | ret u =>
      obtain ⟨v, H', I3, rv, ev, q3⟩ := J.after hq'
      rw [ev] at rv
      exact ⟨rv, ⟨V.ref (s.heap.objs.size + 1), H', I3, rfl, q3⟩⟩
    | next => exact hq'.elim
    | brk => exact hq'.elim
    | cont => exact hq'.elim
theorem make_use {F : List T → M (List T)} {cA x dx : Addr} {w1 : Wd} {H1 : Hp} {r1 : RS} {vs : List V} {ts : List T} {σ : L2.St} {Q : VK} (c1 : G.mg (G.cn C) = some (.ref cA)) (g1 : Good G w1 H1 r1) (d1 : Dens G w1 vs ts) (l1 : ts.length = n)
    (h1 : OutP G w1 H1 (WE0 W σ) (fun t _ w' H' => ∀ v, Den G w' v t → Q v H') ((F ts >>= fun us => pure (T.obj C us)) r1)) (hf : H1 x = none) (hdx : H1 dx = none) (ne : dx ≠ x) :
    spI G C n F (.ref x :: vs) (upd (upd H1 dx (.own x)) x (.ins cA dx [])) (fun v H2 => v = .non ∧ Q (.ref x) H2) (WE W σ) := by
  refine ⟨w1, r1, ts, x, vs, cA, dx, H1, rfl, c1, hf, hdx, ne, rfl, g1, d1, l1, ?_⟩
  have e : ((F ts >>= fun us => pure (T.obj C us)) : M T) r1 = M.bind (F ts) (fun us => M.pure (T.obj C us)) r1 := rfl
  rw [e] at h1
  unfold M.bind at h1
  cases q : F ts r1 with
  | ok us r2 =>
    rw [q] at h1
    intro w' H' st g' ws dx' hh hl d hP hR
    refine ⟨rfl, h1 _ _ (st.publish (nvs hf) hP) (g'.publish hP hR hh) _ ?_⟩
    exact .obj c1 upd_same hl.symm (d.mono (Later.add hP))
  | exn c p r2 =>
    rw [q] at h1
    exact h1
  | bad =>
    rw [q] at h1
    exact h1
theorem s_make {F : List T → M (List T)} (D : MakeOk X.prog X.w X.base G k C n ds F) (hx : x = G.cn C) (hK : X.K = G.K) (hM : X.mg = G.mg) (tk : Takes X W) (hr : Room j X.A) (hk : k + 1 ≤ j) (hg : Gl X x) (ha : SA X G W (e :: es) fs) (hn : fs.length + ds.length = n := by rfl)
    (hdb : (x == ("__debug__" : Str)) = false := by decide) (he : starEach (e :: es) X.env = (false, eval e X.env) :: starEach es X.env := by rfl) (hpl : (backTo pos (starEach es X.env)).any (·.1) = false := by rfl) : SE X G W (.Call (.Name x p) (e :: es) [] pos) (fMake C F ds fs) := by
  obtain ⟨cA, f, fd, ps, dvs, dus, c1, mk, h1, h4, h5, h6⟩ := D.ex
  rw [← hK, ← hM] at h1
  refine ⟨fun pins s σ H Q I ⟨w, H0, env, r, g0, s0, h0⟩ => ?_⟩
  refine wpAny_Call_Name_kw (ld_glob I hg (by rw [hM, hx]; exact c1) ?_ hdb)
  refine PySem.W.callWith_K (h₀ := X.base) I.ok.mod.kin (by rw [hK]; exact mk.kp) (thn (ha.run pos pins s σ H _ I (seqA g0 s0 h0 fun us r2 w2 H2 ws g2 s2 st2 d2 l2 h3 => show (∃ w2 r2 us, Good G w2 H2 r2 ∧ Dens G w2 (ws ++ dvs) (us ++ ds) ∧ us.length = fs.length ∧ OutP G w2 H2 (WE0 W σ) (fun t x w' H' => ∀ (v : V), Den G w' v t → Q v H') ((F (us ++ ds) >>= fun us => pure (T.obj C us)) r2)) from ⟨w2, r2, us, g2, d2.append (h6 w2), l2, h3⟩)) fun us s1 ⟨vs, H1, I1, rv, w2, r2, us', g2, d2, l2, h3⟩ => ⟨I1.kIn, ?_⟩) he hpl
  exact run_makeSD (E := WE W) (by rw [hK]; exact mk) h1 (hr.mono hk) (by rw [hK]; exact h4) h5 (fun σ => passAt tk σ) I1 rv fun x dx e1 e2 ne => make_use c1 g2 d2 (by rw [List.length_append, l2, hn]) h3 e1 e2 ne
theorem s_make0 {F : List T → M (List T)} (D : MakeOk X.prog X.w X.base G k C n ds F) (hx : x = G.cn C) (hK : X.K = G.K) (hM : X.mg = G.mg) (tk : Takes X W) (hr : Room j X.A) (hk : k + 1 ≤ j) (hg : Gl X x) (hn : ds.length = n := by rfl)
    (hdb : (x == ("__debug__" : Str)) = false := by decide) : SE X G W (.Call (.Name x p) [] [] pos) (fMake C F ds []) := by
  obtain ⟨cA, f, fd, ps, dvs, dus, c1, mk, h1, h4, h5, h6⟩ := D.ex
  rw [← hK, ← hM] at h1
  refine ⟨fun pins s σ H Q I ⟨w, H0, env, r, g0, s0, h0⟩ => ?_⟩
  refine wpAny_Call_Name_kw (ld_glob I hg (by rw [hM, hx]; exact c1) ?_ hdb)
  exact PySem.W.callWith_K0 I.kIn (by rw [hK]; exact mk.kp) (run_makeSD (us := []) (vs := []) (E := WE W) (by rw [hK]; exact mk) h1 (hr.mono hk) (by rw [hK]; exact h4) h5 (fun σ => passAt tk σ) I .nil fun x dx e1 e2 ne => make_use c1 g0 (by simpa using h6 w) hn h0 e1 e2 ne)
end
end Ep
namespace Ep
open PySem PySem.Spec L2
section
variable {X : Cx} {G : Gm}
theorem OpV.or1 {r1 r2 : R2} {h : T → T → Option T} (a : OpV G r1 h) : OpV G (fun x y H Q => r1 x y H Q ∨ r2 x y H Q) h := fun w H r x y t u z Q g d1 d2 e q => .inl (a w H r x y t u z Q g d1 d2 e q)
/-! ### arithmetic -/
def addT : T → T → Option T
  | .int i, .int j => some (.int (i + j))
  | .int i, .bl k => some (.int (i + PyProof.Rows.b2i k))
  | .str a, .str b => if a.length + b.length ≤ 100000 then some (.str (a ++ b)) else none
  | .lst a, .lst b => if a.length + b.length ≤ 100000 then some (.lst (a ++ b)) else none
  | .tup a, .tup b => if a.length + b.length ≤ 100000 then some (.tup (a ++ b)) else none
  | _, _ => none
def rAddA (K : PySem.W.Frag) : R2 := fun x y H Q => (rI0 fun i j => .int (i + j)) x y H Q ∨ (∃ i k, x = .int i ∧ y = .bl k ∧ Q (.int (i + PyProof.Rows.b2i k)) H) ∨ (∃ i j, x = .str i ∧ y = .str j ∧ i.length + j.length ≤ sizeLine ∧ Q (.str (i ++ j)) H) ∨ rCat x y H Q ∨ rCatA K x y H Q
theorem op_addA : OpR X (binaryOp .Add) (rAddA X.K) := op_add.or (op_add_ib.or (op_add_str.or (op_cat.or op_catA)))
theorem le_size {n : Nat} (h : n ≤ 100000) : n ≤ sizeLine := Nat.le_trans h (by decide)
theorem v_add (hK : X.K = G.K) : OpV G (rAddA X.K) addT := by
  intro w H r x y t u z Q g d1 d2 e q
  rw [hK]
  cases d1 with
  | int i =>
    cases d2 with
    | int j => cases e; exact .inl ⟨i, j, rfl, rfl, q _ w H (Step.refl _ _) g (.int _)⟩
    | bl k => cases e; exact .inr (.inl ⟨i, k, rfl, rfl, q _ w H (Step.refl _ _) g (.int _)⟩)
    | _ => cases e
  | str a =>
    cases d2 with
    | str b =>
      have e : (if a.length + b.length ≤ 100000 then some (T.str (a ++ b)) else none) = some z := e
      by_cases h : a.length + b.length ≤ 100000
      · rw [if_pos h] at e
        cases e
        exact .inr (.inr (.inl ⟨a, b, rfl, rfl, le_size h, q _ w H (Step.refl _ _) g (.str _)⟩))
      · rw [if_neg h] at e; cases e
    | _ => cases e
  | @lst p vs ts h1 z1 dd =>
    cases d2 with
    | @lst p2 vs2 ts2 h2 z2 dd2 =>
      have e : (if ts.length + ts2.length ≤ 100000 then some (T.lst (ts ++ ts2)) else none) = some z := e
      by_cases h : ts.length + ts2.length ≤ 100000
      · rw [if_pos h] at e
        cases e
        refine .inr (.inr (.inr (.inl ⟨p, p2, vs, vs2, rfl, rfl, g.sub _ _ h1, g.sub _ _ h2, by rw [dd.length, dd2.length]; exact le_size h, fun a ha => ?_⟩)))
        obtain ⟨st, g2⟩ := g.new (o := .lst (vs ++ vs2)) ha
        exact q _ _ _ st g2 (.lst upd_same (by rw [List.length_append]; exact le_size h) ((dd.append dd2).mono st.later))
      · rw [if_neg h] at e; cases e
    | _ => cases e
  | @tup p vs ts h1 z1 dd =>
    cases d2 with
    | @tup p2 vs2 ts2 h2 z2 dd2 =>
      have e : (if ts.length + ts2.length ≤ 100000 then some (T.tup (ts ++ ts2)) else none) = some z := e
      by_cases h : ts.length + ts2.length ≤ 100000
      · rw [if_pos h] at e
        cases e
        refine .inr (.inr (.inr (.inr ⟨p, p2, vs, vs2, rfl, rfl, tup_sq g.sub h1, tup_sq g.sub h2, by rw [dd.length, dd2.length]; exact le_size h, fun e1 => ?_, fun _ e2 => ?_, fun _ _ a ha => ?_⟩)))
        · have : ts = [] := by cases dd with
            | nil => rfl
            | cons _ _ => cases e1
          subst this
          exact q _ w H (Step.refl _ _) g (.tup h2 z2 dd2)
        · have : ts2 = [] := by cases dd2 with
            | nil => rfl
            | cons _ _ => cases e2
          subst this
          rw [List.append_nil] at q
          exact q _ w H (Step.refl _ _) g (.tup h1 z1 dd)
        · obtain ⟨st, g2⟩ := g.new (o := .tup (vs ++ vs2)) ha
          exact q _ _ _ st g2 (.tup (.inl upd_same) (by rw [List.length_append]; exact le_size h) ((dd.append dd2).mono st.later))
      · rw [if_neg h] at e; cases e
    | _ => cases e
  | _ => cases e
def subT : T → T → Option T
  | .int i, .int j => some (.int (i - j))
  | _, _ => none
theorem v_sub : OpV G (rI0 fun i j => .int (i - j)) subT := fun w H r x y t u z Q g d1 d2 e q => by
  cases d1 with
  | int i =>
    cases d2 with
    | int j => cases e; exact ⟨i, j, rfl, rfl, q _ w H (Step.refl _ _) g (.int _)⟩
    | _ => cases e
  | _ => cases e
/-- one factor small, or both together below a million bits -/
def mulOk (i j : Int) : Bool := (decide (-(2 ^ 64) < i) && decide (i < 2 ^ 64)) || (decide (-(2 ^ 64) < j) && decide (j < 2 ^ 64)) || decide (i.natAbs.log2 + j.natAbs.log2 < 1000000)
def mulT : T → T → Option T
  | .int i, .int j => if mulOk i j = true then some (.int (i * j)) else none
  | .lst xs, .int k => if 0 ≤ k ∧ k ≤ 100000 ∧ xs.length * k.toNat ≤ 100000 then some (.lst (List.replicate k.toNat xs).flatten) else none
  | .tup xs, .int k => if xs.isEmpty = false ∧ 2 ≤ k ∧ k ≤ 1000 ∧ xs.length ≤ 1000 then some (.tup (List.replicate k.toNat xs).flatten) else none
  | .str a, .int k => if 0 ≤ k ∧ k ≤ 16384 ∧ a.length ≤ 1024 then some (.str (PySem.Txt.mul a k)) else none
  | _, _ => none
def rRepS : R2 := fun x y H Q => ∃ a k, x = .str a ∧ y = .int k ∧ 0 ≤ k ∧ k ≤ 16384 ∧ a.length ≤ 1024 ∧ Q (.str (PySem.Txt.mul a k)) H
theorem op_repS : OpR X (binaryOp .Mult) rRepS := by
  intro pins s σ H x y v u Q I rx ry h
  obtain ⟨a, k, rfl, rfl, h0, h1, h2, q⟩ := h
  obtain ⟨t, rfl⟩ := rx
  obtain ⟨t', rfl⟩ := ry
  exact SB.mul (PyProof.Rows.mulOk_of 1024 16384 h2 (by omega) (by omega) (by decide) (by decide)) fun t2 n => ⟨.str _, H, I.tok _, ⟨_, rfl⟩, q⟩
def rMulA (K : PySem.W.Frag) : R2 := fun x y H Q => (rI CMul fun i j => .int (i * j)) x y H Q ∨ (rI CMulW fun i j => .int (i * j)) x y H Q ∨ rRep x y H Q ∨ rRepT K x y H Q ∨ rRepS x y H Q
theorem op_mulA : OpR X (binaryOp .Mult) (rMulA X.K) := op_mul.or (op_mulW.or (op_rep.or (op_repT.or op_repS)))
theorem dens_rep {w : Wd} {vs : List V} {ts : List T} (d : Dens G w vs ts) : ∀ k : Nat, Dens G w (List.replicate k vs).flatten (List.replicate k ts).flatten
  | 0 => .nil
  | k + 1 => by
    rw [List.replicate_succ, List.replicate_succ, List.flatten_cons, List.flatten_cons]
    exact d.append (dens_rep d k)
theorem len_rep {α : Type} (xs : List α) : ∀ k : Nat, (List.replicate k xs).flatten.length = xs.length * k
  | 0 => rfl
  | k + 1 => by
    rw [List.replicate_succ, List.flatten_cons, List.length_append, len_rep xs k, Nat.mul_succ, Nat.add_comm]
theorem v_mul (hK : X.K = G.K) : OpV G (rMulA X.K) mulT := fun w H r x y t u z Q g d1 d2 e q => by
  rw [hK]
  cases d1 with
  | str a =>
    cases d2 with
    | int k =>
      have e : (if 0 ≤ k ∧ k ≤ 16384 ∧ a.length ≤ 1024 then some (T.str (PySem.Txt.mul a k)) else none) = some z := e
      by_cases h : 0 ≤ k ∧ k ≤ 16384 ∧ a.length ≤ 1024
      · rw [if_pos h] at e
        cases e
        exact .inr (.inr (.inr (.inr ⟨a, k, rfl, rfl, h.1, h.2.1, h.2.2, q _ w H (Step.refl _ _) g (.str _)⟩)))
      · rw [if_neg h] at e; cases e
    | _ => cases e
  | @tup p vs ts h1 z1 dd =>
    cases d2 with
    | int k =>
      have e : (if ts.isEmpty = false ∧ 2 ≤ k ∧ k ≤ 1000 ∧ ts.length ≤ 1000 then some (T.tup (List.replicate k.toNat ts).flatten) else none) = some z := e
      by_cases h : ts.isEmpty = false ∧ 2 ≤ k ∧ k ≤ 1000 ∧ ts.length ≤ 1000
      · rw [if_pos h] at e
        cases e
        obtain ⟨h0, ha, hb, hc⟩ := h
        refine .inr (.inr (.inr (.inl ⟨p, k, vs, rfl, rfl, tup_sq g.sub h1, fun e => ?_, ha, hb, by rw [dd.length]; exact hc, fun a ha => ?_⟩)))
        · subst e; cases dd; cases h0
        · obtain ⟨st, g2⟩ := g.new (o := .tup (List.replicate k.toNat vs).flatten) ha
          refine q _ _ _ st g2 (.tup (.inl upd_same) ?_ ((dens_rep dd _).mono st.later))
          rw [len_rep, sizeLine_eq]
          have := Nat.mul_le_mul hc (show k.toNat ≤ 1000 by omega)
          omega
      · rw [if_neg h] at e; cases e
    | _ => cases e
  | int i =>
    cases d2 with
    | int j =>
      have e : (if mulOk i j = true then some (T.int (i * j)) else none) = some z := e
      by_cases h : mulOk i j = true
      · rw [if_pos h] at e
        cases e
        have fin := q _ w H (Step.refl _ _) g (.int _)
        unfold mulOk at h
        simp only [Bool.or_eq_true, Bool.and_eq_true, decide_eq_true_eq] at h
        rcases h with (h | h) | h
        · exact .inl ⟨i, j, rfl, rfl, .inl h, fin⟩
        · exact .inl ⟨i, j, rfl, rfl, .inr h, fin⟩
        · exact .inr (.inl ⟨i, j, rfl, rfl, h, fin⟩)
      · rw [if_neg h] at e; cases e
    | _ => cases e
  | @lst p vs ts h1 z1 dd =>
    cases d2 with
    | int k =>
      have e : (if 0 ≤ k ∧ k ≤ 100000 ∧ ts.length * k.toNat ≤ 100000 then some (T.lst (List.replicate k.toNat ts).flatten) else none) = some z := e
      by_cases h : 0 ≤ k ∧ k ≤ 100000 ∧ ts.length * k.toNat ≤ 100000
      · rw [if_pos h] at e
        cases e
        obtain ⟨ha, hb, hc⟩ := h
        refine .inr (.inr (.inl ⟨p, k, vs, rfl, rfl, g.sub _ _ h1, by omega, by omega, by rw [dd.length]; exact le_size hc, fun a ha => ?_⟩))
        obtain ⟨st, g2⟩ := g.new (o := .lst (List.replicate k.toNat vs).flatten) ha
        exact q _ _ _ st g2 (.lst upd_same (by rw [len_rep]; exact le_size hc) ((dens_rep dd _).mono st.later))
      · rw [if_neg h] at e; cases e
    | _ => cases e
  | _ => cases e
/-- // and %: a divisor below 0 is a small one -/
def divT : T → T → Option T
  | .int i, .int j => if 0 < j ∧ j.natAbs.log2 < 9000 then some (.int (i / j)) else if j < 0 ∧ j.natAbs < 1073741824 then some (.int (i.fdiv j)) else none
  | _, _ => none
def rDivA : R2 := fun x y H Q => rI CDivW (fun i j => .int (i / j)) x y H Q ∨ rI CDivN (fun i j => .int (i.fdiv j)) x y H Q
theorem op_divA : OpR X (binaryOp .FloorDiv) rDivA := op_fdivW.or op_fdivN
theorem v_div : OpV G rDivA divT := fun w H r x y t u z Q g d1 d2 e q => by
  cases d1 with
  | int i =>
    cases d2 with
    | int j =>
      have e : (if 0 < j ∧ j.natAbs.log2 < 9000 then some (T.int (i / j)) else if j < 0 ∧ j.natAbs < 1073741824 then some (T.int (i.fdiv j)) else none) = some z := e
      by_cases h : 0 < j ∧ j.natAbs.log2 < 9000
      · rw [if_pos h] at e
        cases e
        exact .inl ⟨i, j, rfl, rfl, h, q _ w H (Step.refl _ _) g (.int _)⟩
      · rw [if_neg h] at e
        by_cases h2 : j < 0 ∧ j.natAbs < 1073741824
        · rw [if_pos h2] at e
          cases e
          exact .inr ⟨i, j, rfl, rfl, ⟨by omega, h2.2⟩, q _ w H (Step.refl _ _) g (.int _)⟩
        · rw [if_neg h2] at e; cases e
    | _ => cases e
  | _ => cases e
def modT : T → T → Option T
  | .int i, .int j => if 0 < j then some (.int (i % j)) else if j < 0 then some (.int (i.fmod j)) else none
  | _, _ => none
def rModA : R2 := fun x y H Q => rI (fun _ j => 0 < j) (fun i j => .int (i % j)) x y H Q ∨ rI (fun _ j => j ≠ 0) (fun i j => .int (i.fmod j)) x y H Q
theorem op_modA : OpR X (binaryOp .Mod) rModA := op_mod.or op_modN
theorem v_mod : OpV G rModA modT := fun w H r x y t u z Q g d1 d2 e q => by
  cases d1 with
  | int i =>
    cases d2 with
    | int j =>
      have e : (if 0 < j then some (T.int (i % j)) else if j < 0 then some (T.int (i.fmod j)) else none) = some z := e
      by_cases h : 0 < j
      · rw [if_pos h] at e
        cases e
        exact .inl ⟨i, j, rfl, rfl, h, q _ w H (Step.refl _ _) g (.int _)⟩
      · rw [if_neg h] at e
        by_cases h2 : j < 0
        · rw [if_pos h2] at e
          cases e
          exact .inr ⟨i, j, rfl, rfl, by omega, q _ w H (Step.refl _ _) g (.int _)⟩
        · rw [if_neg h2] at e; cases e
    | _ => cases e
  | _ => cases e
def powT : T → T → Option T
  | .int i, .int j => if 0 ≤ j ∧ j ≤ 1000 ∧ i.natAbs < 2 ^ 64 then some (.int (i ^ j.toNat)) else none
  | _, _ => none
theorem v_pow : OpV G (rI CPow fun i j => .int (i ^ j.toNat)) powT := fun w H r x y t u z Q g d1 d2 e q => by
  cases d1 with
  | int i =>
    cases d2 with
    | int j =>
      have e : (if 0 ≤ j ∧ j ≤ 1000 ∧ i.natAbs < 2 ^ 64 then some (T.int (i ^ j.toNat)) else none) = some z := e
      by_cases h : 0 ≤ j ∧ j ≤ 1000 ∧ i.natAbs < 2 ^ 64
      · rw [if_pos h] at e
        cases e
        exact ⟨i, j, rfl, rfl, ⟨h.1, by omega, h.2.2⟩, q _ w H (Step.refl _ _) g (.int _)⟩
      · rw [if_neg h] at e; cases e
    | _ => cases e
  | _ => cases e
def negT : T → Option T
  | .int i => some (.int (-i))
  | _ => none
theorem v_neg : UnV G (rU fun i => .int (-i)) negT := fun w H r x t z Q g d1 e q => by
  cases d1 with
  | int i => cases e; exact ⟨i, rfl, q _ w H (Step.refl _ _) g (.int _)⟩
  | _ => cases e
/-! ### comparisons -/
theorem DenB.int {w : Wd} {H : Hp} {v : V} {i : Int} (d : DenB G w H v (.int i)) : v = .int i := by
  rcases d with d | ⟨_, _, _, _, e, _⟩
  · cases d; rfl
  · cases e
theorem DenB.str {w : Wd} {H : Hp} {v : V} {i : Str} (d : DenB G w H v (.str i)) : v = .str i := by
  rcases d with d | ⟨_, _, _, _, e, _⟩
  · cases d; rfl
  · cases e
theorem DenB.bl {w : Wd} {H : Hp} {v : V} {i : Bool} (d : DenB G w H v (.bl i)) : v = .bl i := by
  rcases d with d | ⟨_, _, _, _, e, _⟩
  · cases d; rfl
  · cases e
theorem DenB.non {w : Wd} {H : Hp} {v : V} (d : DenB G w H v .non) : v = .non := by
  rcases d with d | ⟨_, _, _, _, e, _⟩
  · cases d; rfl
  · cases e
def cmpI (p : Int → Int → Bool) : T → T → Option Bool
  | .int i, .int j => some (p i j)
  | _, _ => none
theorem v_cmpI {p : Int → Int → Bool} : CmpV G (rI0 fun i j => .bl (p i j)) (cmpI p) := fun w H r x y t u z Q g d1 d2 e q => by
  cases t with
  | int i =>
    cases u with
    | int j =>
      cases e
      rw [d1.int, d2.int]
      exact ⟨i, j, rfl, rfl, q⟩
    | _ => cases e
  | _ => cases e
def ltT : T → T → Option Bool := cmpI fun i j => decide (i < j)
def leT : T → T → Option Bool := cmpI fun i j => decide (i ≤ j)
def gtT : T → T → Option Bool := cmpI fun i j => decide (j < i)
def geT : T → T → Option Bool := cmpI fun i j => decide (j ≤ i)
theorem v_lt : CmpV G (rI0 fun i j => .bl (decide (i < j))) ltT := v_cmpI
theorem v_le : CmpV G (rI0 fun i j => .bl (decide (i ≤ j))) leT := v_cmpI
theorem v_gt : CmpV G (rI0 fun i j => .bl (decide (j < i))) gtT := v_cmpI
theorem v_ge : CmpV G (rI0 fun i j => .bl (decide (j ≤ i))) geT := v_cmpI
/-- is None, is not None; is True .. -/
def isNon : T → Bool
  | .non => true
  | _ => false
def isT : T → T → Option Bool
  | t, .non => some (isNon t)
  | .bl a, .bl b => some (decide (a = b))
  | _, _ => none
def rIsA : R2 := fun x y H Q => (y = .non ∧ Q (.bl (decide (x = .non))) H) ∨ rIsB x y H Q
theorem op_isA : OpR X (compareOp .Is) rIsA := op_isN.or op_isBl
def rNotA : R2 := fun x y H Q => (y = .non ∧ Q (.bl (!decide (x = .non))) H) ∨ rNotB x y H Q
theorem op_notA : OpR X (compareOp .IsNot) rNotA := op_notN.or op_notBl
theorem DenB.isN {w : Wd} {H : Hp} {v : V} {t : T} (d : DenB G w H v t) : decide (v = .non) = isNon t := by
  rcases d with d | ⟨_, _, _, e1, e, _⟩
  · cases d <;> first | rfl | (simp)
  · subst e1 e
    simp [isNon]
theorem v_is : CmpV G rIsA isT := fun w H r x y t u z Q g d1 d2 e q => by
  cases u with
  | non =>
    have e : some (isNon t) = some z := by cases t <;> exact e
    cases e
    refine .inl ⟨d2.non, ?_⟩
    rw [d1.isN]
    exact q
  | bl b =>
    cases t with
    | bl a =>
      cases e
      exact .inr ⟨a, b, d1.bl, d2.bl, q⟩
    | _ => cases e
  | _ => cases t <;> cases e
def nisT (t u : T) : Option Bool := (isT t u).map (!·)
theorem v_nis : CmpV G rNotA nisT := fun w H r x y t u z Q g d1 d2 e q => by
  unfold nisT at e
  cases u with
  | non =>
    have e : (some (isNon t)).map (!·) = some z := by cases t <;> exact e
    cases e
    refine .inl ⟨d2.non, ?_⟩
    rw [d1.isN]
    exact q
  | bl b =>
    cases t with
    | bl a =>
      cases e
      exact .inr ⟨a, b, d1.bl, d2.bl, q⟩
    | _ => cases e
  | _ => cases t <;> cases e
end
/-! ### data -/
mutual
def pyT : T → Option PyData
  | .non => some .none
  | .bl b => some (.bool b)
  | .int i => some (.int i)
  | .str x => some (.str x)
  | .tup xs => (pyTs xs).map .tuple
  | .lst xs => (pyTs xs).map .list
  | .kls xs => (pyTs xs).map .list
  | _ => none
def pyTs : List T → Option (List PyData)
  | [] => some []
  | x :: xs => (pyT x).bind fun d => (pyTs xs).map (d :: ·)
end
mutual
theorem pyT_dp {G : Gm} {w : Wd} {H : Hp} (s : Same w.P H) : ∀ (t : T) (v : V) (d : PyData), Den G w v t → pyT t = some d → Dp G.K H v d
  | .non, _, _, h, e => by cases h; cases e; exact .non
  | .bl b, _, _, h, e => by cases h; cases e; exact .bl b
  | .int b, _, _, h, e => by cases h; cases e; exact .int b
  | .str b, _, _, h, e => by cases h; cases e; exact .str b
  | .tup xs, _, _, h, e => by
    cases h with
    | tup h z dd =>
      have e : (pyTs xs).map PyData.tuple = some _ := e
      cases q : pyTs xs with
      | none => rw [q] at e; cases e
      | some ds =>
        rw [q] at e
        cases e
        exact .tup (tup_sq s h) (pyTs_dp s xs _ _ dd q)
  | .lst xs, _, _, h, e => by
    cases h with
    | lst h z dd =>
      have e : (pyTs xs).map PyData.list = some _ := e
      cases q : pyTs xs with
      | none => rw [q] at e; cases e
      | some ds =>
        rw [q] at e
        cases e
        exact .lst (SqL.of (s _ _ h)) (pyTs_dp s xs _ _ dd q)
  | .kls xs, _, _, h, e => by
    cases h with
    | kls h z dd =>
      have e : (pyTs xs).map PyData.list = some _ := e
      cases q : pyTs xs with
      | none => rw [q] at e; cases e
      | some ds =>
        rw [q] at e
        cases e
        exact .lst (s.seq h) (pyTs_dp s xs _ _ dd q)
  | .obj _ _, _, _, _, e => by cases e
  | .gl _, _, _, _, e => by cases e
  | .cl _, _, _, _, e => by cases e
  | .ty _, _, _, _, e => by cases e
  | .ref _, _, _, _, e => by cases e
  | .dct _ _, _, _, _, e => by cases e
theorem pyTs_dp {G : Gm} {w : Wd} {H : Hp} (s : Same w.P H) : ∀ (ts : List T) (vs : List V) (ds : List PyData), Dens G w vs ts → pyTs ts = some ds → DpAll G.K H vs ds
  | [], _, _, h, e => by cases h; cases e; exact .nil
  | t :: ts, _, _, h, e => by
    cases h with
    | cons h1 h2 =>
      have e : ((pyT t).bind fun d => (pyTs ts).map (d :: ·)) = some _ := e
      cases q : pyT t with
      | none => rw [q] at e; cases e
      | some d =>
        rw [q] at e
        cases q2 : pyTs ts with
        | none => rw [q2] at e; cases e
        | some ds =>
          rw [q2] at e
          cases e
          exact .cons (pyT_dp s t _ _ h1 q) (pyTs_dp s ts _ _ h2 q2)
end
section
variable {X : Cx} {G : Gm}
theorem denB_dp {w : Wd} {H : Hp} {r : RS} {v : V} {t : T} {d : PyData} (g : Good G w H r) (h : DenB G w H v t) (e : pyT t = some d) : Dp G.K H v d := by
  rcases h with h | ⟨a, vs, xs, e1, e2, h1, h2, h3, h4⟩
  · exact pyT_dp g.sub t v d h e
  · subst e1 e2
    have e : (pyTs xs).map PyData.list = some _ := e
    cases q : pyTs xs with
    | none => rw [q] at e; cases e
    | some ds =>
      rw [q] at e
      cases e
      exact .lst (SqL.of h2) (pyTs_dp g.sub xs _ _ h3 q)
def eqT (t u : T) : Option Bool := match pyT t, pyT u with
  | some d, some e => if (SeqAt.shaped d && SeqAt.shaped e) = true then some (PyData.eqv d e) else none
  | _, _ => none
def neT (t u : T) : Option Bool := (eqT t u).map (!·)
theorem eq_use {w : Wd} {H : Hp} {r : RS} {x y : V} {t u : T} {z : Bool} (g : Good G w H r) (d1 : DenB G w H x t) (d2 : DenB G w H y u) (e : eqT t u = some z) : ∃ d e, Dp G.K H x d ∧ Dp G.K H y e ∧ SeqAt.shaped d = true ∧ SeqAt.shaped e = true ∧ z = PyData.eqv d e := by
  unfold eqT at e
  cases q1 : pyT t with
  | none => rw [q1] at e; cases e
  | some d =>
    cases q2 : pyT u with
    | none => rw [q1, q2] at e; cases e
    | some d' =>
      rw [q1, q2] at e
      have e : (if (SeqAt.shaped d && SeqAt.shaped d') = true then some (PyData.eqv d d') else none) = some z := e
      by_cases h : (SeqAt.shaped d && SeqAt.shaped d') = true
      · rw [if_pos h] at e
        cases e
        rw [Bool.and_eq_true] at h
        exact ⟨d, d', denB_dp g d1 q1, denB_dp g d2 q2, h.1, h.2, rfl⟩
      · rw [if_neg h] at e; cases e
theorem v_eq (hK : X.K = G.K) : CmpV G (rEqD X.K) eqT := fun w H r x y t u z Q g d1 d2 e q => by
  obtain ⟨d, d', h1, h2, h3, h4, e⟩ := eq_use g d1 d2 e
  subst e
  rw [hK]
  exact ⟨d, d', h1, h2, h3, h4, q⟩
theorem v_ne (hK : X.K = G.K) : CmpV G (rNeD X.K) neT := fun w H r x y t u z Q g d1 d2 e q => by
  unfold neT at e
  cases e' : eqT t u with
  | none => rw [e'] at e; cases e
  | some b =>
    rw [e'] at e
    cases e
    obtain ⟨d, d', h1, h2, h3, h4, e⟩ := eq_use g d1 d2 e'
    subst e
    rw [hK]
    exact ⟨d, d', h1, h2, h3, h4, q⟩
/-! ### in -/
/-- the flat value of a tree -/
def flT : T → Option V
  | .non => some .non
  | .bl b => some (.bl b)
  | .int i => some (.int i)
  | .str x => some (.str x)
  | _ => none
def flTs : List T → Option (List V)
  | [] => some []
  | t :: ts => (flT t).bind fun v => (flTs ts).map (v :: ·)
theorem flT_of {w : Wd} {v u : V} {t : T} (d : Den G w v t) (e : flT t = some u) : v = u ∧ flatV v = true := by
  cases d with
  | non => cases e; exact ⟨rfl, rfl⟩
  | bl b => cases e; exact ⟨rfl, rfl⟩
  | int i => cases e; exact ⟨rfl, rfl⟩
  | str x => cases e; exact ⟨rfl, rfl⟩
  | _ => cases e
theorem flTs_of {w : Wd} : ∀ {vs us : List V} {ts : List T}, Dens G w vs ts → flTs ts = some us → vs = us ∧ vs.all flatV = true
  | _, _, _, .nil, e => by cases e; exact ⟨rfl, rfl⟩
  | _, _, t :: ts, .cons h r, e => by
    have e : ((flT t).bind fun v => (flTs ts).map (v :: ·)) = some _ := e
    cases q : flT t with
    | none => rw [q] at e; cases e
    | some v =>
      rw [q] at e
      cases q2 : flTs ts with
      | none => rw [q2] at e; cases e
      | some vs =>
        rw [q2] at e
        cases e
        obtain ⟨e1, f1⟩ := flT_of h q
        obtain ⟨e2, f2⟩ := flTs_of r q2
        subst e1 e2
        exact ⟨rfl, by rw [List.all_cons, f1, f2]; rfl⟩
/-- x in a text (x one sign), a tuple of flat things, a list of data -/
def inT (t u : T) : Option Bool := match u with
  | .str z => match t with
    | .str c => if c.cps.size = 1 then some (decide (c.cps.getD 0 0 ∈ z.cps.toList)) else none
    | _ => none
  | .tup xs => (flT t).bind fun v => (flTs xs).map fun vs => inV v vs
  | u => match pyT t, pyT u with
    | some d, some (.list ds) => if (SeqAt.shaped d && SeqAt.shaped (.list ds)) = true then some (ds.any fun z => PyData.eqv z d) else none
    | _, _ => none
def ninT (t u : T) : Option Bool := (inT t u).map (!·)
def rInA (K : PySem.W.Frag) : R2 := fun x y H Q => (∃ (c : Nat) (z : Str), x = .str ⟨#[c]⟩ ∧ y = .str z ∧ Q (.bl (decide (c ∈ z.cps.toList))) H) ∨ rIn K false x y H Q ∨ rInD K x y H Q
def rNInA (K : PySem.W.Frag) : R2 := fun x y H Q => (∃ (c : Nat) (z : Str), x = .str ⟨#[c]⟩ ∧ y = .str z ∧ Q (.bl (!decide (c ∈ z.cps.toList))) H) ∨ rIn K true x y H Q ∨ rNotInD K x y H Q
theorem op_inA (hu : X.A.units + 65 < cLine) : OpR X (compareOp .In) (rInA X.K) := op_in_sign.or (op_in_seq.or (op_inD hu))
theorem op_ninA (hu : X.A.units + 65 < cLine) : OpR X (compareOp .NotIn) (rNInA X.K) := op_notIn_sign.or (op_notIn_seq.or (op_notInD hu))
theorem sign_eq {c : Str} (h : c.cps.size = 1) : c = ⟨#[c.cps.getD 0 0]⟩ := by
  obtain ⟨a⟩ := c
  obtain ⟨l⟩ := a
  match l, h with
  | [x], _ => rfl
theorem in_use {w : Wd} {H : Hp} {r : RS} {x y : V} {t u : T} {z : Bool} (g : Good G w H r) (d1 : DenB G w H x t) (d2 : DenB G w H y u) (e : inT t u = some z) :
    (∃ (c : Nat) (zz : Str), x = .str ⟨#[c]⟩ ∧ y = .str zz ∧ z = decide (c ∈ zz.cps.toList)) ∨ (∃ p vs, y = .ref p ∧ SqT G.K H p vs ∧ flatV x = true ∧ vs.all flatV = true ∧ z = inV x vs) ∨
    ∃ d ds, Dp G.K H x d ∧ Dp G.K H y (.list ds) ∧ SeqAt.shaped d = true ∧ SeqAt.shaped (.list ds) = true ∧ z = ds.any fun z => PyData.eqv z d := by
  have deep : (match pyT t, pyT u with
      | some d, some (.list ds) => if (SeqAt.shaped d && SeqAt.shaped (.list ds)) = true then some (ds.any fun z => PyData.eqv z d) else none
      | _, _ => none) = some z → ∃ d ds, Dp G.K H x d ∧ Dp G.K H y (.list ds) ∧ SeqAt.shaped d = true ∧ SeqAt.shaped (.list ds) = true ∧ z = ds.any fun z => PyData.eqv z d := fun e => by
    cases q1 : pyT t with
    | none => rw [q1] at e; cases e
    | some d =>
      cases q2 : pyT u with
      | none => rw [q1, q2] at e; cases e
      | some d' =>
        rw [q1, q2] at e
        cases d' with
        | list ds =>
          have e : (if (SeqAt.shaped d && SeqAt.shaped (.list ds)) = true then some (ds.any fun z => PyData.eqv z d) else none) = some z := e
          by_cases h : (SeqAt.shaped d && SeqAt.shaped (.list ds)) = true
          · rw [if_pos h] at e
            cases e
            rw [Bool.and_eq_true] at h
            exact ⟨d, ds, denB_dp g d1 q1, denB_dp g d2 q2, h.1, h.2, rfl⟩
          · rw [if_neg h] at e; cases e
        | _ => cases e
  cases u with
  | str zz =>
    cases t with
    | str c =>
      have e : (if c.cps.size = 1 then some (decide (c.cps.getD 0 0 ∈ zz.cps.toList)) else none) = some z := e
      by_cases h : c.cps.size = 1
      · rw [if_pos h] at e
        cases e
        exact .inl ⟨_, zz, by rw [d1.str]; exact congrArg V.str (sign_eq h), d2.str, rfl⟩
      · rw [if_neg h] at e; cases e
    | _ => cases e
  | tup xs =>
    have e : ((flT t).bind fun v => (flTs xs).map fun vs => inV v vs) = some z := e
    cases q : flT t with
    | none => rw [q] at e; cases e
    | some v =>
      rw [q] at e
      cases q2 : flTs xs with
      | none => rw [q2] at e; cases e
      | some vs =>
        rw [q2] at e
        cases e
        rcases d2 with d2 | ⟨_, _, _, _, e2, _⟩
        · cases d2 with
          | @tup p us _ h zz d =>
            obtain ⟨e3, f3⟩ := flTs_of d q2
            rcases d1 with d1 | ⟨_, _, _, _, e2, _⟩
            · obtain ⟨e4, f4⟩ := flT_of d1 q
              subst e3 e4
              exact .inr (.inl ⟨p, us, rfl, tup_sq g.sub h, f4, f3, rfl⟩)
            · subst e2; cases q
        · cases e2
  | lst xs => exact .inr (.inr (deep e))
  | kls xs => exact .inr (.inr (deep e))
  | _ =>
    have e := deep e
    exact .inr (.inr e)
theorem v_in (hK : X.K = G.K) : CmpV G (rInA X.K) inT := fun w H r x y t u z Q g d1 d2 e q => by
  rw [hK]
  rcases in_use g d1 d2 e with ⟨c, zz, e1, e2, e3⟩ | ⟨p, vs, e1, h1, h2, h3, e3⟩ | ⟨d, ds, h1, h2, h3, h4, e3⟩
  · subst e3; exact .inl ⟨c, zz, e1, e2, q⟩
  · subst e3; exact .inr (.inl ⟨p, vs, e1, .inr h1, h2, h3, q⟩)
  · subst e3; exact .inr (.inr ⟨d, ds, h1, h2, h3, h4, q⟩)
theorem v_nin (hK : X.K = G.K) : CmpV G (rNInA X.K) ninT := fun w H r x y t u z Q g d1 d2 e q => by
  unfold ninT at e
  cases e' : inT t u with
  | none => rw [e'] at e; cases e
  | some b =>
    rw [e'] at e
    cases e
    rw [hK]
    rcases in_use g d1 d2 e' with ⟨c, zz, e1, e2, e3⟩ | ⟨p, vs, e1, h1, h2, h3, e3⟩ | ⟨d, ds, h1, h2, h3, h4, e3⟩
    · subst e3; exact .inl ⟨c, zz, e1, e2, q⟩
    · subst e3; exact .inr (.inl ⟨p, vs, e1, .inr h1, h2, h3, q⟩)
    · subst e3; exact .inr (.inr ⟨d, ds, h1, h2, h3, h4, q⟩)
end
end Ep
namespace Ep
open PySem PySem.Spec L2
/-! ### built-ins of one and two arguments -/
section
variable {X : Cx} {G : Gm} {W : WX} {pos p : Pos} {a b : Expr} {f g : Env → M T} {x : Str} {id : String}
def B1 (G : Gm) (r1 : List V → Hp → VK → Prop) (h : RS → T → Option T) : Prop := ∀ w H r v t z Q, Good G w H r → DenB G w H v t → h r t = some z → (∀ v' w' H', Step w H w' H' → Good G w' H' r → Den G w' v' z → Q v' H') → r1 [v] H Q
def fB1 (h : RS → T → Option T) (f : Env → M T) : Env → M T := fun env => f env >>= fun x => fun r => M.lift (h r x) r
theorem b1_use {r1 : List V → Hp → VK → Prop} {h : RS → T → Option T} (hv : B1 G r1 h) {σ : L2.St} {H : Hp} {Q : VK} (q : tS G W (fB1 h f) σ H Q) : tCB r1 (tCons (tSK G W f) tNil) σ H Q := by
  obtain ⟨w, H0, env, r, g0, s, h0⟩ := q
  refine seqK g0 s h0 fun t r1 w1 H1 x g1 s1 st1 d1 h1 => ?_
  obtain ⟨z, ez, h2⟩ := liftP h1
  exact hv w1 H1 r1 x t z Q g1 d1 ez fun v' w' H' st g' d => h2 w' H' st g' v' d
theorem s_b1 {r1 : List V → Hp → VK → Prop} {h : RS → T → Option T} (hc : CallR X (.builtin id) r1) (hv : B1 G r1 h) (hg : Gl X x) (hm : X.mg x = none) (hb : bootBuiltins x = some (.builtin id)) (ha : SK X G W a f) (hs : starEach [a] X.env = (false, eval a X.env) :: starEach [] X.env := by rfl)
    (hn : x ≠ "__name__" := by decide) (hdb : (x == ("__debug__" : Str)) = false := by decide) (hpl : (backTo pos (starEach [] X.env)).any (·.1) = false := by rfl) : SE X G W (.Call (.Name x p) [a] [] pos) (fB1 h f) :=
  pe_imp (pe_callB hc hg hm hb (pa_cons ha pa_nil hs) hn hdb hs hpl) fun σ H Q q => b1_use hv q
theorem s_t1 {r1 : List V → Hp → VK → Prop} {h : RS → T → Option T} (hc : CallR X (.type id) r1) (hv : B1 G r1 h) (hg : Gl X x) (hm : X.mg x = none) (hb : bootBuiltins x = some (.type id)) (ha : SK X G W a f) (hs : starEach [a] X.env = (false, eval a X.env) :: starEach [] X.env := by rfl)
    (hn : x ≠ "__name__" := by decide) (hdb : (x == ("__debug__" : Str)) = false := by decide) (hpl : (backTo pos (starEach [] X.env)).any (·.1) = false := by rfl) : SE X G W (.Call (.Name x p) [a] [] pos) (fB1 h f) :=
  pe_imp (pe_callTy hc hg hm hb (pa_cons ha pa_nil hs) hn hdb hs hpl) fun σ H Q q => b1_use hv q
def B2 (G : Gm) (r1 : List V → Hp → VK → Prop) (h : T → T → Option T) : Prop := ∀ w H r v u t s z Q, Good G w H r → Den G w v t → Den G w u s → h t s = some z → (∀ v' w' H', Step w H w' H' → Good G w' H' r → Den G w' v' z → Q v' H') → r1 [v, u] H Q
theorem s_b2 {r1 : List V → Hp → VK → Prop} {h : T → T → Option T} (hc : CallR X (.builtin id) r1) (hv : B2 G r1 h) (hg : Gl X x) (hm : X.mg x = none) (hb : bootBuiltins x = some (.builtin id)) (ha : SE X G W a f) (hB : SE X G W b g)
    (hs : starEach [a, b] X.env = (false, eval a X.env) :: starEach [b] X.env := by rfl) (hs2 : starEach [b] X.env = (false, eval b X.env) :: starEach [] X.env := by rfl)
    (hn : x ≠ "__name__" := by decide) (hdb : (x == ("__debug__" : Str)) = false := by decide) (hpl : (backTo pos (starEach [b] X.env)).any (·.1) = false := by rfl) : SE X G W (.Call (.Name x p) [a, b] [] pos) (fBin h f g) :=
  pe_imp (pe_callB hc hg hm hb (pa_cons ha (pa_cons hB pa_nil hs2) hs) hn hdb hs hpl) fun σ H Q ⟨w, H0, env, r, g0, s, h0⟩ => by
    refine seqE g0 s h0 fun t r1 w1 H1 v g1 s1 st1 d1 h1 => ?_
    refine seqE g1 s1 h1 fun u r2 w2 H2 y g2 s2 st2 d2 h2 => ?_
    obtain ⟨z, ez, hz⟩ := liftP h2
    exact hv w2 H2 r2 v y t u z Q g2 (d1.mono st2.later) d2 ez fun v w' H' st g' d => hz w' H' st g' v d
def lenT (r : RS) (t : T) : Option T := match t with
  | .str z => if z.length ≤ 100000 then some (.int z.length) else none
  | t => (seqT r t).map fun xs => .int xs.length
def rLenA (K : PySem.W.Frag) : List V → Hp → VK → Prop := fun xs H Q => (∃ p ys, xs = [.ref p] ∧ (SqL K H p ys ∨ SqT K H p ys) ∧ Q (.int ys.length) H) ∨ ∃ z, xs = [.str z] ∧ z.length ≤ sizeLine ∧ Q (.int z.length) H
theorem c_len : CallR X (.builtin "len") (rLenA X.K) := call_len_seq.or call_len_str
theorem v_len (hK : X.K = G.K) : B1 G (rLenA X.K) lenT := fun w H r v t z Q g d e q => by
  rw [hK]
  have seqs : ((seqT r t).map fun xs => T.int xs.length) = some z → rLenA G.K [v] H Q := fun e => by
    cases q1 : seqT r t with
    | none => rw [q1] at e; cases e
    | some xs =>
      rw [q1] at e
      cases e
      obtain ⟨p, rfl, sd⟩ := seq_of g d q1
      cases sd with
      | l vs h dd zz => exact .inl ⟨p, vs, rfl, .inl h, by rw [dd.length]; exact q _ w H (Step.refl _ _) g (.int _)⟩
      | t vs h dd zz => exact .inl ⟨p, vs, rfl, .inr h, by rw [dd.length]; exact q _ w H (Step.refl _ _) g (.int _)⟩
  cases t with
  | str y =>
    have e : (if y.length ≤ 100000 then some (T.int y.length) else none) = some z := e
    by_cases h : y.length ≤ 100000
    · rw [if_pos h] at e
      cases e
      exact .inr ⟨y, by rw [d.str], le_size h, q _ w H (Step.refl _ _) g (.int _)⟩
    · rw [if_neg h] at e; cases e
  | _ => exact seqs e
def intT (_ : RS) (t : T) : Option T := match t with
  | .int i => some (.int i)
  | .bl k => some (.int (if k then 1 else 0))
  | _ => none
theorem v_int : B1 G (fun xs H Q => (∃ i, xs = [.int i] ∧ Q (.int i) H) ∨ ∃ k, xs = [.bl k] ∧ Q (.int (if k then 1 else 0)) H) intT := fun w H r v t z Q g d e q => by
  cases t with
  | int i => cases e; exact .inl ⟨i, by rw [d.int], q _ w H (Step.refl _ _) g (.int _)⟩
  | bl i => cases e; exact .inr ⟨i, by rw [d.bl], q _ w H (Step.refl _ _) g (.int _)⟩
  | _ => cases e
def absT (_ : RS) (t : T) : Option T := match t with
  | .int i => some (T.int (if i < 0 then -i else i))
  | _ => none
theorem v_abs : B1 G (fun xs H Q => ∃ i, xs = [.int i] ∧ Q (.int (if i < 0 then -i else i)) H) absT := fun w H r v t z Q g d e q => by
  cases t with
  | int i => cases e; exact ⟨i, by rw [d.int], q _ w H (Step.refl _ _) g (.int _)⟩
  | _ => cases e
def max2T : T → T → Option T
  | .int i, .int j => some (.int (if j > i then j else i))
  | _, _ => none
def min2T : T → T → Option T
  | .int i, .int j => some (.int (if j < i then j else i))
  | _, _ => none
theorem v_max2 : B2 G (fun xs H Q => ∃ i j, xs = [.int i, .int j] ∧ Q (.int (if j > i then j else i)) H) max2T := fun w H r v u t s z Q g d1 d2 e q => by
  cases d1 with
  | int i =>
    cases d2 with
    | int j => cases e; exact ⟨i, j, rfl, q _ w H (Step.refl _ _) g (.int _)⟩
    | _ => cases e
  | _ => cases e
theorem v_min2 : B2 G (fun xs H Q => ∃ i j, xs = [.int i, .int j] ∧ Q (.int (if j < i then j else i)) H) min2T := fun w H r v u t s z Q g d1 d2 e q => by
  cases d1 with
  | int i =>
    cases d2 with
    | int j => cases e; exact ⟨i, j, rfl, q _ w H (Step.refl _ _) g (.int _)⟩
    | _ => cases e
  | _ => cases e
/-- a list of ints, of bools, of texts -/
def intsT : List T → Option (List Int)
  | [] => some []
  | .int i :: r => (intsT r).map (i :: ·)
  | _ :: _ => none
def blsT : List T → Option (List Bool)
  | [] => some []
  | .bl i :: r => (blsT r).map (i :: ·)
  | _ :: _ => none
def strsT : List T → Option (List Str)
  | [] => some []
  | .str i :: r => (strsT r).map (i :: ·)
  | _ :: _ => none
theorem ints_of {w : Wd} : ∀ {ts : List T} {vs : List V} {ns : List Int}, Dens G w vs ts → intsT ts = some ns → vs = ns.map V.int
  | [], _, _, .nil, e => by cases e; rfl
  | t :: ts, _, _, .cons h r, e => by
    cases h with
    | int i =>
      have e : (intsT ts).map (i :: ·) = some _ := e
      cases q : intsT ts with
      | none => rw [q] at e; cases e
      | some ns => rw [q] at e; cases e; rw [ints_of r q]; rfl
    | _ => cases e
theorem bls_of {w : Wd} : ∀ {ts : List T} {vs : List V} {ns : List Bool}, Dens G w vs ts → blsT ts = some ns → vs = ns.map V.bl
  | [], _, _, .nil, e => by cases e; rfl
  | t :: ts, _, _, .cons h r, e => by
    cases h with
    | bl i =>
      have e : (blsT ts).map (i :: ·) = some _ := e
      cases q : blsT ts with
      | none => rw [q] at e; cases e
      | some ns => rw [q] at e; cases e; rw [bls_of r q]; rfl
    | _ => cases e
theorem strs_of {w : Wd} : ∀ {ts : List T} {vs : List V} {ns : List Str}, Dens G w vs ts → strsT ts = some ns → vs = ns.map V.str
  | [], _, _, .nil, e => by cases e; rfl
  | t :: ts, _, _, .cons h r, e => by
    cases h with
    | str i =>
      have e : (strsT ts).map (i :: ·) = some _ := e
      cases q : strsT ts with
      | none => rw [q] at e; cases e
      | some ns => rw [q] at e; cases e; rw [strs_of r q]; rfl
    | _ => cases e
/-- the items of a list -/
def lstT (r : RS) : T → Option (List T)
  | .lst xs => some xs
  | .kls xs => some xs
  | .ref k => r[k]?
  | _ => none
theorem lst_of {w : Wd} {H : Hp} {r : RS} {v : V} {t : T} {xs : List T} (g : Good G w H r) (d : DenB G w H v t) (e : lstT r t = some xs) : ∃ a vs, v = .ref a ∧ SqL G.K H a vs ∧ Dens G w vs xs ∧ xs.length ≤ sizeLine := by
  rcases d with d | ⟨a, vs, ys, e1, e2, h1, h2, h3, h4⟩
  · cases d with
    | lst h z d => cases e; exact ⟨_, _, rfl, SqL.of (g.sub _ _ h), d, z⟩
    | kls h z d => cases e; exact ⟨_, _, rfl, g.sub.seq h, d, z⟩
    | @ref k a h =>
      obtain ⟨b, vs, h1, h2, h3, h4⟩ := g.refs.at_ k xs e
      rw [h] at h1
      cases h1
      exact ⟨_, vs, rfl, SqL.of h2, h3, h4⟩
    | _ => cases e
  · subst e1 e2
    cases e
    exact ⟨_, vs, rfl, SqL.of h2, h3, h4⟩
def sumT (r : RS) (t : T) : Option T := (lstT r t).bind fun xs => (intsT xs).map fun ns => .int ns.sum
theorem v_sum (hK : X.K = G.K) : B1 G (rSum X.K) sumT := fun w H r v t z Q g d e q => by
  unfold sumT at e
  cases q1 : lstT r t with
  | none => rw [q1] at e; cases e
  | some xs =>
    rw [q1] at e
    have e : ((intsT xs).map fun ns => T.int ns.sum) = some z := e
    obtain ⟨a, vs, rfl, h, dd, zz⟩ := lst_of g d q1
    cases q2 : intsT xs with
    | none => rw [q2] at e; cases e
    | some ns =>
      rw [q2] at e
      cases e
      have := ints_of dd q2
      subst this
      rw [hK]
      exact ⟨a, ns, rfl, h, q _ w H (Step.refl _ _) g (.int _)⟩
def anyT (r : RS) (t : T) : Option T := (lstT r t).bind fun xs => (blsT xs).map fun bs => .bl (bs.any _root_.id)
def allT (r : RS) (t : T) : Option T := (lstT r t).bind fun xs => (blsT xs).map fun bs => .bl (bs.all _root_.id)
theorem v_any (hK : X.K = G.K) : B1 G (rAny X.K) anyT := fun w H r v t z Q g d e q => by
  unfold anyT at e
  cases q1 : lstT r t with
  | none => rw [q1] at e; cases e
  | some xs =>
    rw [q1] at e
    have e : ((blsT xs).map fun bs => T.bl (bs.any _root_.id)) = some z := e
    obtain ⟨a, vs, rfl, h, dd, zz⟩ := lst_of g d q1
    cases q2 : blsT xs with
    | none => rw [q2] at e; cases e
    | some ns =>
      rw [q2] at e
      cases e
      have := bls_of dd q2
      subst this
      rw [hK]
      exact ⟨a, ns, rfl, h, q _ w H (Step.refl _ _) g (.bl _)⟩
theorem v_all (hK : X.K = G.K) : B1 G (rAll X.K) allT := fun w H r v t z Q g d e q => by
  unfold allT at e
  cases q1 : lstT r t with
  | none => rw [q1] at e; cases e
  | some xs =>
    rw [q1] at e
    have e : ((blsT xs).map fun bs => T.bl (bs.all _root_.id)) = some z := e
    obtain ⟨a, vs, rfl, h, dd, zz⟩ := lst_of g d q1
    cases q2 : blsT xs with
    | none => rw [q2] at e; cases e
    | some ns =>
      rw [q2] at e
      cases e
      have := bls_of dd q2
      subst this
      rw [hK]
      exact ⟨a, ns, rfl, h, q _ w H (Step.refl _ _) g (.bl _)⟩
/-- greatest, least of a list of ints -/
def maxL : List Int → Option Int
  | [] => none
  | x :: xs => some (xs.foldl (fun a b => if b > a then b else a) x)
def minL : List Int → Option Int
  | [] => none
  | x :: xs => some (xs.foldl (fun a b => if b < a then b else a) x)
theorem foldmax_spec : ∀ (xs : List Int) (x : Int), (xs.foldl (fun a b => if b > a then b else a) x ∈ x :: xs) ∧ ∀ y ∈ x :: xs, y ≤ xs.foldl (fun a b => if b > a then b else a) x
  | [], x => by simp
  | y :: ys, x => by
    obtain ⟨h1, h2⟩ := foldmax_spec ys (if y > x then y else x)
    rw [List.foldl_cons]
    refine ⟨?_, fun z hz => ?_⟩
    · rcases List.mem_cons.mp h1 with e | e
      · rw [e]; split <;> simp
      · exact List.mem_cons_of_mem _ (List.mem_cons_of_mem _ e)
    · have h3 := h2 _ List.mem_cons_self
      rcases List.mem_cons.mp hz with e | e
      · subst e
        refine Int.le_trans ?_ h3
        split <;> omega
      · rcases List.mem_cons.mp e with e | e
        · subst e
          refine Int.le_trans ?_ h3
          split <;> omega
        · exact h2 z (List.mem_cons_of_mem _ e)
theorem foldmin_spec : ∀ (xs : List Int) (x : Int), (xs.foldl (fun a b => if b < a then b else a) x ∈ x :: xs) ∧ ∀ y ∈ x :: xs, xs.foldl (fun a b => if b < a then b else a) x ≤ y
  | [], x => by simp
  | y :: ys, x => by
    obtain ⟨h1, h2⟩ := foldmin_spec ys (if y < x then y else x)
    rw [List.foldl_cons]
    refine ⟨?_, fun z hz => ?_⟩
    · rcases List.mem_cons.mp h1 with e | e
      · rw [e]; split <;> simp
      · exact List.mem_cons_of_mem _ (List.mem_cons_of_mem _ e)
    · have h3 := h2 _ List.mem_cons_self
      rcases List.mem_cons.mp hz with e | e
      · subst e
        refine Int.le_trans h3 ?_
        split <;> omega
      · rcases List.mem_cons.mp e with e | e
        · subst e
          refine Int.le_trans h3 ?_
          split <;> omega
        · exact h2 z (List.mem_cons_of_mem _ e)
def maxT (r : RS) (t : T) : Option T := (lstT r t).bind fun xs => (intsT xs).bind fun ns => (maxL ns).map T.int
def minT (r : RS) (t : T) : Option T := (lstT r t).bind fun xs => (intsT xs).bind fun ns => (minL ns).map T.int
theorem v_max (hK : X.K = G.K) : B1 G (rMax X.K) maxT := fun w H r v t z Q g d e q => by
  unfold maxT at e
  cases q1 : lstT r t with
  | none => rw [q1] at e; cases e
  | some xs =>
    rw [q1] at e
    have e : ((intsT xs).bind fun ns => (maxL ns).map T.int) = some z := e
    obtain ⟨a, vs, rfl, h, dd, zz⟩ := lst_of g d q1
    cases q2 : intsT xs with
    | none => rw [q2] at e; cases e
    | some ns =>
      rw [q2] at e
      have := ints_of dd q2
      subst this
      cases ns with
      | nil => cases e
      | cons n ns =>
        cases e
        rw [hK]
        obtain ⟨h1, h2⟩ := foldmax_spec ns n
        refine ⟨a, n :: ns, rfl, h, Nat.succ_pos _, fun m hm hle => ?_⟩
        have : m = ns.foldl (fun a b => if b > a then b else a) n := Int.le_antisymm (h2 m hm) (hle _ h1)
        rw [this]
        exact q _ w H (Step.refl _ _) g (.int _)
theorem v_min (hK : X.K = G.K) : B1 G (rMin X.K) minT := fun w H r v t z Q g d e q => by
  unfold minT at e
  cases q1 : lstT r t with
  | none => rw [q1] at e; cases e
  | some xs =>
    rw [q1] at e
    have e : ((intsT xs).bind fun ns => (minL ns).map T.int) = some z := e
    obtain ⟨a, vs, rfl, h, dd, zz⟩ := lst_of g d q1
    cases q2 : intsT xs with
    | none => rw [q2] at e; cases e
    | some ns =>
      rw [q2] at e
      have := ints_of dd q2
      subst this
      cases ns with
      | nil => cases e
      | cons n ns =>
        cases e
        rw [hK]
        obtain ⟨h1, h2⟩ := foldmin_spec ns n
        refine ⟨a, n :: ns, rfl, h, Nat.succ_pos _, fun m hm hle => ?_⟩
        have : m = ns.foldl (fun a b => if b < a then b else a) n := Int.le_antisymm (hle _ h1) (h2 m hm)
        rw [this]
        exact q _ w H (Step.refl _ _) g (.int _)
/-- tuple(xs), list(xs) -/
def tupT (r : RS) (t : T) : Option T := (seqT r t).map .tup
def lisT (r : RS) (t : T) : Option T := (seqT r t).map .lst
theorem v_tup (hK : X.K = G.K) : B1 G (fun xs H Q => ∃ p ys, xs = [.ref p] ∧ ((SqL X.K H p ys ∧ ∀ l, H l = none → Q (.ref l) (upd H l (.tup ys))) ∨ (SqT X.K H p ys ∧ Q (.ref p) H))) tupT := fun w H r v t z Q g d e q => by
  unfold tupT at e
  cases q1 : seqT r t with
  | none => rw [q1] at e; cases e
  | some xs =>
    rw [q1] at e
    cases e
    rw [hK]
    cases t with
    | tup ys =>
      cases q1
      rcases d with d | ⟨_, _, _, _, e2, _⟩
      · cases d with
        | @tup a vs _ h zz dd => exact ⟨a, vs, rfl, .inr ⟨tup_sq g.sub h, q _ w H (Step.refl _ _) g (.tup h zz dd)⟩⟩
      · cases e2
    | lst ys =>
      obtain ⟨a, vs, rfl, h, dd, zz⟩ := lst_of g d (show lstT r (.lst ys) = some xs from q1)
      refine ⟨a, vs, rfl, .inl ⟨h, fun l hl => ?_⟩⟩
      obtain ⟨st, g2⟩ := g.new (o := .tup vs) hl
      exact q _ _ _ st g2 (.tup (.inl upd_same) zz (dd.mono st.later))
    | kls ys =>
      obtain ⟨a, vs, rfl, h, dd, zz⟩ := lst_of g d (show lstT r (.kls ys) = some xs from q1)
      refine ⟨a, vs, rfl, .inl ⟨h, fun l hl => ?_⟩⟩
      obtain ⟨st, g2⟩ := g.new (o := .tup vs) hl
      exact q _ _ _ st g2 (.tup (.inl upd_same) zz (dd.mono st.later))
    | ref ys =>
      obtain ⟨a, vs, rfl, h, dd, zz⟩ := lst_of g d (show lstT r (.ref ys) = some xs from q1)
      refine ⟨a, vs, rfl, .inl ⟨h, fun l hl => ?_⟩⟩
      obtain ⟨st, g2⟩ := g.new (o := .tup vs) hl
      exact q _ _ _ st g2 (.tup (.inl upd_same) zz (dd.mono st.later))
    | _ => cases q1
theorem v_lis (hK : X.K = G.K) : B1 G (fun xs H Q => ∃ p ys, xs = [.ref p] ∧ (SqL X.K H p ys ∨ SqT X.K H p ys) ∧ ∀ l, H l = none → Q (.ref l) (upd H l (.lst ys))) lisT := fun w H r v t z Q g d e q => by
  unfold lisT at e
  cases q1 : seqT r t with
  | none => rw [q1] at e; cases e
  | some xs =>
    rw [q1] at e
    cases e
    rw [hK]
    obtain ⟨p, rfl, sd⟩ := seq_of g d q1
    cases sd with
    | l vs h dd zz =>
      refine ⟨p, vs, rfl, .inl h, fun l hl => ?_⟩
      obtain ⟨st, g2⟩ := g.new (o := .lst vs) hl
      exact q _ _ _ st g2 (.lst upd_same zz (dd.mono st.later))
    | t vs h dd zz =>
      refine ⟨p, vs, rfl, .inr h, fun l hl => ?_⟩
      obtain ⟨st, g2⟩ := g.new (o := .lst vs) hl
      exact q _ _ _ st g2 (.lst upd_same zz (dd.mono st.later))
/-- isinstance(x, c) -/
def tagS : T → Option String
  | .non => some "NoneType"
  | .bl _ => some "bool"
  | .int _ => some "int"
  | .str _ => some "str"
  | .tup _ => some "tuple"
  | .lst _ => some "list"
  | .kls _ => some "list"
  | .ref _ => some "list"
  | _ => none
theorem ty_of {w : Wd} {H : Hp} {r : RS} {v : V} {t : T} {s : String} (g : Good G w H r) (d : Den G w v t) (e : tagS t = some s) : TyX G.K H v (.type s) := by
  cases d with
  | non => cases e; exact .base .non
  | bl b => cases e; exact .base (.bl b)
  | int i => cases e; exact .base (.int i)
  | str x => cases e; exact .base (.str x)
  | tup h z d =>
    cases e
    rcases h with h | ⟨o, its, n, h1, h2, _⟩
    · exact .base (.tup (g.sub _ _ h))
    · exact .kTuple h1 h2
  | lst h z d => cases e; exact .base (.lst (g.sub _ _ h))
  | kls h z d =>
    cases e
    rcases g.sub.seq h with (h | ⟨o, h⟩) | ⟨o, its, n, h1, h2, _⟩
    · exact .base (.lst h)
    · exact .base (.frz h)
    · exact .kList h1 h2
  | @ref k a h =>
    cases e
    obtain ⟨vs, q⟩ := g.refs.there (List.mem_of_getElem? h)
    exact .base (.lst q)
  | _ => cases e
/-- the kind of a value: a built-in type, an own class -/
inductive Kd where
  | b (s : String) | o (C : Nat)
  deriving DecidableEq
def kdT : T → Option Kd
  | .obj C _ => some (.o C)
  | t => (tagS t).map .b
/-- what the library tells of an own class -/
structure InsTy (K : PySem.W.Frag) (cA : Addr) : Prop where
  cl : Cls K cA
  ha : PySem.W.findIn K (.ref cA) "__class__" = some (some (.builtin "object.__class__"))
  hsp : PySem.W.specialIn K (.builtin "object.__class__") "__get__" = some (some (.builtin "getset_descriptor.__get__"))
  htak : PySem.W.takesIn K (.builtin "object.__class__") = some true
  hmr : PySem.W.mroIn K cA (.type "object") = some true
def KdV (G : Gm) (k : Kd) (u : Value) : Prop := match k with
  | .b s => u = .type s
  | .o C => ∃ cA, G.mg (G.cn C) = some (.ref cA) ∧ u = .ref cA ∧ InsTy G.K cA
/-- a class as a value -/
inductive Cl where
  | ty (n : String) | cl (C : Nat)
  deriving DecidableEq
def clT : T → Option Cl
  | .ty n => some (.ty n)
  | .cl C => some (.cl C)
  | _ => none
def ClV (G : Gm) (c : Cl) (u : Value) : Prop := match c with
  | .ty n => u = .type n
  | .cl C => ∃ cA, G.mg (G.cn C) = some (.ref cA) ∧ u = .ref cA
/-- a table of isinstance -/
def TabOk (G : Gm) (tb : Kd → Cl → Option Bool) : Prop := ∀ k c b, tb k c = some b → (∀ C, k = .o C → ∀ cA, G.mg (G.cn C) = some (.ref cA) → InsTy G.K cA) ∧ ∀ u z, KdV G k u → ClV G c z → PySem.W.kitOne G.K u z = some b
def isiL (tb : Kd → Cl → Option Bool) (k : Kd) : List T → Option Bool
  | [] => some false
  | c :: cs => match (clT c).bind (tb k) with
    | some true => (clsT cs).map fun _ => true
    | some false => isiL tb k cs
    | none => none
where clsT : List T → Option Unit
  | [] => some ()
  | c :: cs => (clT c).bind fun _ => clsT cs
def isiT (tb : Kd → Cl → Option Bool) (t c : T) : Option T := match c with
  | .tup cs => (kdT t).bind fun k => match cs with
    | [] => none
    | c :: cs => (isiL tb k (c :: cs)).map T.bl
  | c => (kdT t).bind fun k => (clT c).bind fun c => (tb k c).map T.bl
def rIsiA (K : PySem.W.Frag) : List V → Hp → VK → Prop := fun xs H Q => rIsi K xs H Q ∨ rIsiT K xs H Q ∨ rIsiK K xs H Q
theorem c_isi : CallR X (.builtin "isinstance") (rIsiA X.K) := call_isi.or (call_isiT.or call_isiK)
theorem cl_of {w : Wd} {v : V} {t : T} {c : Cl} (d : Den G w v t) (h : clT t = some c) : ∃ u, ClsV v u ∧ ClV G c u := by
  cases d with
  | ty n => cases h; exact ⟨_, .ty n, rfl⟩
  | @cl C a q => cases h; exact ⟨_, .own a, a, q, rfl⟩
  | _ => cases h
theorem kd_of {w : Wd} {H : Hp} {r : RS} {v : V} {t : T} {k : Kd} (g : Good G w H r) (d : Den G w v t) (e : kdT t = some k) (hi : ∀ C, k = .o C → ∀ cA, G.mg (G.cn C) = some (.ref cA) → InsTy G.K cA) : ∃ u, TyX G.K H v u ∧ KdV G k u := by
  have go : ∀ s, tagS t = some s → k = .b s → ∃ u, TyX G.K H v u ∧ KdV G k u := fun s e1 e2 => by
    subst e2
    exact ⟨_, ty_of g d e1, rfl⟩
  cases t with
  | obj C vs =>
    cases e
    cases d with
    | @obj a cA dx _ us _ c h l dd =>
      have i := hi C rfl cA c
      exact ⟨_, .base (.ins (g.sub _ _ h) i.cl i.ha i.hsp i.htak i.hmr), cA, c, rfl, i⟩
  | non => cases e; exact go _ rfl rfl
  | bl _ => cases e; exact go _ rfl rfl
  | int _ => cases e; exact go _ rfl rfl
  | str _ => cases e; exact go _ rfl rfl
  | tup _ => cases e; exact go _ rfl rfl
  | lst _ => cases e; exact go _ rfl rfl
  | kls _ => cases e; exact go _ rfl rfl
  | ref _ => cases e; exact go _ rfl rfl
  | _ => cases e
theorem cls_of {w : Wd} : ∀ {cs : List T} {vs : List V}, Dens G w vs cs → isiL.clsT cs = some () → ∃ us, Paired ClsV vs us
  | [], _, .nil, _ => ⟨[], .nil⟩
  | c :: cs, _, .cons h r, e => by
    have e : ((clT c).bind fun _ => isiL.clsT cs) = some () := e
    cases q : clT c with
    | none => rw [q] at e; cases e
    | some c' =>
      rw [q] at e
      obtain ⟨u, h1, _⟩ := cl_of h q
      obtain ⟨us, h2⟩ := cls_of r e
      exact ⟨u :: us, .cons h1 h2⟩
theorem isi_list {tb : Kd → Cl → Option Bool} (ok : TabOk G tb) {k : Kd} {u : Value} (hu : KdV G k u) {w : Wd} : ∀ {cs : List T} {vs : List V} {b : Bool}, Dens G w vs cs → isiL tb k cs = some b → ∃ us, Paired ClsV vs us ∧ PySem.W.kitAny G.K u us = some b
  | [], _, _, .nil, e => by cases e; exact ⟨[], .nil, kitAny_nil⟩
  | c :: cs, _, b, .cons h r, e => by
    unfold isiL at e
    cases q : clT c with
    | none => rw [q] at e; cases e
    | some c' =>
      rw [q] at e
      obtain ⟨z, h1, h2⟩ := cl_of h q
      have e : (match tb k c' with
        | some true => (isiL.clsT cs).map fun _ => true
        | some false => isiL tb k cs
        | none => none) = some b := e
      cases q2 : tb k c' with
      | none => rw [q2] at e; cases e
      | some b' =>
        rw [q2] at e
        have h3 := (ok k c' b' q2).2 u z hu h2
        cases b' with
        | true =>
          have e : ((isiL.clsT cs).map fun _ => true) = some b := e
          cases q3 : isiL.clsT cs with
          | none => rw [q3] at e; cases e
          | some _ =>
            rw [q3] at e
            cases e
            obtain ⟨us, hp⟩ := cls_of r q3
            exact ⟨z :: us, .cons h1 hp, kitAny_cons h3 (fun z => nomatch z) (fun _ => rfl)⟩
        | false =>
          obtain ⟨us, hp, ha⟩ := isi_list ok hu r e
          exact ⟨z :: us, .cons h1 hp, kitAny_cons h3 (fun _ => ha) (fun z => nomatch z)⟩
theorem v_isi {tb : Kd → Cl → Option Bool} (ok : TabOk G tb) (hK : X.K = G.K) : B2 G (rIsiA X.K) (isiT tb) := fun w H r v u t s z Q g d1 d2 e q => by
  rw [hK]
  have one : ((kdT t).bind fun k => (clT s).bind fun c => (tb k c).map T.bl) = some z → rIsiA G.K [v, u] H Q := fun e => by
    cases q1 : kdT t with
    | none => rw [q1] at e; cases e
    | some k =>
      rw [q1] at e
      have e : ((clT s).bind fun c => (tb k c).map T.bl) = some z := e
      cases q2 : clT s with
      | none => rw [q2] at e; cases e
      | some c =>
        rw [q2] at e
        have e : (tb k c).map T.bl = some z := e
        cases q3 : tb k c with
        | none => rw [q3] at e; cases e
        | some b =>
          rw [q3] at e
          cases e
          obtain ⟨hi, hk⟩ := ok k c b q3
          obtain ⟨z1, h1, h2⟩ := cl_of d2 q2
          obtain ⟨z2, h3, h4⟩ := kd_of g d1 q1 hi
          exact .inl ⟨v, u, z2, z1, b, rfl, h1, h3, hk _ _ h4 h2, q _ w H (Step.refl _ _) g (.bl b)⟩
  cases s with
  | tup cs =>
    have e : ((kdT t).bind fun k => match cs with
      | [] => none
      | c :: cs => (isiL tb k (c :: cs)).map T.bl) = some z := e
    cases q1 : kdT t with
    | none => rw [q1] at e; cases e
    | some k =>
      rw [q1] at e
      cases cs with
      | nil => cases e
      | cons c cs =>
        have e : (isiL tb k (c :: cs)).map T.bl = some z := e
        cases q3 : isiL tb k (c :: cs) with
        | none => rw [q3] at e; cases e
        | some b =>
          rw [q3] at e
          cases e
          have hi : ∀ C, k = .o C → ∀ cA, G.mg (G.cn C) = some (.ref cA) → InsTy G.K cA := by
            unfold isiL at q3
            cases q2 : clT c with
            | none => rw [q2] at q3; cases q3
            | some c' =>
              rw [q2] at q3
              cases q4 : tb k c' with
              | none =>
                have q3 : (match tb k c' with
                  | some true => (isiL.clsT cs).map fun _ => true
                  | some false => isiL tb k cs
                  | none => none) = some b := q3
                rw [q4] at q3
                cases q3
              | some b' => exact (ok k c' b' q4).1
          obtain ⟨z2, h3, h4⟩ := kd_of g d1 q1 hi
          cases d2 with
          | @tup p vs _ h zz dd =>
            obtain ⟨us, hp, ha⟩ := isi_list ok h4 dd q3
            rcases h with hT | ⟨⟨oc, od, dt, sl⟩, its, n, h1, h2, h5, _, h6⟩
            · exact .inr (.inl ⟨v, p, vs, z2, us, b, rfl, g.sub _ _ hT, hp, h3, ha, q _ w H (Step.refl _ _) g (.bl b)⟩)
            · have h2 : oc = .type "tuple" := h2
              have h5 : dt = .seq its n := h5
              subst h2 h5
              have e6 := ClsV.all hp h6
              have e7 : us.toArray = its := by rw [← e6]
              exact .inr (.inr ⟨v, p, od, us, n, sl, z2, b, rfl, by rw [e7]; exact h1, h3, ha, q _ w H (Step.refl _ _) g (.bl b)⟩)
  | _ => exact one e
end
end Ep
namespace Ep
open PySem PySem.Spec L2
/-! ### statements -/
inductive SO where
  | nx (e : Env) (r : RS) | rt (t : T) (r : RS) | bk (e : Env) (r : RS) | ct (e : Env) (r : RS) | exn (c : Nat) (p : T) (e : Env) (r : RS) | bad
abbrev Sm := Env → RS → SO
def FlowP (G : Gm) (W : WX) (w0 : Wd) (H0 : Hp) (D : Ends) : SO → Prop
  | .nx env r => ∀ w' H' σ', Step w0 H0 w' H' → Good G w' H' r → Slots G w' H0 H' σ' env → D.nx σ' H'
  | .rt t r => ∀ w' H' v, Step w0 H0 w' H' → Good G w' H' r → Den G w' v t → D.rt v H'
  | .bk env r => ∀ w' H' σ', Step w0 H0 w' H' → Good G w' H' r → Slots G w' H0 H' σ' env → D.bk σ' H'
  | .ct env r => ∀ w' H' σ', Step w0 H0 w' H' → Good G w' H' r → Slots G w' H0 H' σ' env → D.ct σ' H'
  | .exn c p env r => ∀ w' H' σ' cls d, Step w0 H0 w' H' → Good G w' H' r → Slots G w' H0 H' σ' env → ExcIs G w' H' c p cls d → W cls d σ' H'
  | .bad => False
/-- where a computation stands: the base, the world now, the slots -/
structure At (G : Gm) (w0 : Wd) (H0 : Hp) (w : Wd) (H : Hp) (σ : L2.St) (env : Env) (r : RS) : Prop where
  st : Step w0 H0 w H
  g : Good G w H r
  s : Slots G w H0 H σ env
def tSS (G : Gm) (W : WX) (w0 : Wd) (H0 : Hp) (g : Sm) : TS := fun D σ H => ∃ w env r, At G w0 H0 w H σ env r ∧ FlowP G W w0 H0 D (g env r)
abbrev SS (X : Cx) (G : Gm) (W : WX) (st : Stmt) (g : Sm) : Prop := ∀ w0 H0, PS X st (tSS G W w0 H0 g)
abbrev SSs (X : Cx) (G : Gm) (W : WX) (st : List Stmt) (g : Sm) : Prop := ∀ w0 H0, PSs X st (tSS G W w0 H0 g)
theorem ps_imp {X : Cx} {st : Stmt} {t t' : TS} (h : PS X st t) (i : ∀ D σ H, t' D σ H → t D σ H) : PS X st t' := ⟨fun pins s σ H D I q => h.run pins s σ H D I (i D σ H q)⟩
theorem pss_imp {X : Cx} {st : List Stmt} {t t' : TS} (h : PSs X st t) (i : ∀ D σ H, t' D σ H → t D σ H) : PSs X st t' := ⟨fun pins s σ H D I q => h.run pins s σ H D I (i D σ H q)⟩
def ofM {α : Type} (env : Env) (k : α → RS → SO) : Out α → SO
  | .ok a r => k a r
  | .exn c p r => .exn c p env r
  | .bad => .bad
section
variable {G : Gm} {W : WX} {w0 w : Wd} {H0 H : Hp} {σ : L2.St} {env : Env} {r : RS} {D : Ends}
theorem At.step (a : At G w0 H0 w H σ env r) {w' : Wd} {H' : Hp} {r' : RS} (st : Step w H w' H') (g : Good G w' H' r') : At G w0 H0 w' H' σ env r' := ⟨a.st.trans st, g, a.s.step st⟩
theorem FlowP.ofM {α : Type} {m : Out α} {k : α → RS → SO} (a : At G w0 H0 w H σ env r) (h : FlowP G W w0 H0 D (ofM env k m)) :
    OutP G w H (WE0 W σ) (fun x r' w' H' => At G w0 H0 w' H' σ env r' ∧ FlowP G W w0 H0 D (k x r')) m := by
  cases m with
  | ok x r' => exact fun w' H' st g => ⟨a.step st g, h⟩
  | exn c p r' => exact fun w' H' cls d st g x => h w' H' σ cls d (a.st.trans st) g (a.s.step st) x
  | bad => exact h
end
section
variable {X : Cx} {G : Gm} {W : WX} {st : Stmt} {rest : List Stmt} {g g' : Sm} {pos : Pos}
def qNil : Sm := fun env r => .nx env r
def qSeq (g g' : Sm) : Sm := fun env r => match g env r with
  | .nx env r => g' env r
  | o => o
theorem ss_nil : SSs X G W [] qNil := fun w0 H0 => pss_imp pss_nil fun D σ H ⟨w, env, r, a, h⟩ => h w H σ a.st a.g a.s
theorem ss_cons (h1 : SS X G W st g) (h2 : SSs X G W rest g') : SSs X G W (st :: rest) (qSeq g g') := fun w0 H0 => pss_imp (pss_cons (h1 w0 H0) (h2 w0 H0)) fun D σ H ⟨w, env, r, a, h⟩ => by
  refine ⟨w, env, r, a, ?_⟩
  unfold qSeq at h
  cases q : g env r with
  | nx env' r' =>
    rw [q] at h
    exact fun w' H' σ' st g s => ⟨w', env', r', ⟨st, g, s⟩, h⟩
  | rt t r' => rw [q] at h; exact h
  | bk e r' => rw [q] at h; exact h
  | ct e r' => rw [q] at h; exact h
  | exn c p e r' => rw [q] at h; exact h
  | bad => rw [q] at h; exact h
theorem ss_one (h1 : SS X G W st g) : SSs X G W [st] g := fun w0 H0 => pss_one (h1 w0 H0)
theorem ss_pass : SS X G W (.Pass pos) qNil := fun w0 H0 => ps_imp ps_pass fun D σ H ⟨w, env, r, a, h⟩ => h w H σ a.st a.g a.s
theorem ss_break : SS X G W (.Break pos) (fun env r => .bk env r) := fun w0 H0 => ps_imp ps_break fun D σ H ⟨w, env, r, a, h⟩ => h w H σ a.st a.g a.s
theorem ss_continue : SS X G W (.Continue pos) (fun env r => .ct env r) := fun w0 H0 => ps_imp ps_continue fun D σ H ⟨w, env, r, a, h⟩ => h w H σ a.st a.g a.s
/-- a statement that is never reached -/
theorem ss_never : SS X G W st (fun _ _ => .bad) := fun w0 H0 => ps_imp ps_never fun D σ H ⟨w, env, r, a, h⟩ => h
variable {e : Expr} {f : Env → M T}
def qRet (f : Env → M T) : Sm := fun env r => ofM env (fun t r => .rt t r) (f env r)
theorem at_e {w0 w : Wd} {H0 H : Hp} {σ : L2.St} {env : Env} {r : RS} {D : Ends} {k : T → RS → SO} {Q : VK} (a : At G w0 H0 w H σ env r) (h : FlowP G W w0 H0 D (ofM env k (f env r)))
    (n : ∀ t r1 w1 H1 v, At G w0 H0 w1 H1 σ env r1 → Den G w1 v t → FlowP G W w0 H0 D (k t r1) → Q v H1) : tS G W f σ H Q :=
  ⟨w, H0, env, r, a.g, a.s, (FlowP.ofM a h).imp fun t r1 w1 H1 _ _ q v d => n t r1 w1 H1 v q.1 d q.2⟩
theorem at_b {w0 w : Wd} {H0 H : Hp} {σ : L2.St} {env : Env} {r : RS} {D : Ends} {p : Env → M Bool} {k : Bool → RS → SO} {Q : Bool → Hp → Prop} (a : At G w0 H0 w H σ env r) (h : FlowP G W w0 H0 D (ofM env k (p env r)))
    (n : ∀ t r1 w1 H1, At G w0 H0 w1 H1 σ env r1 → FlowP G W w0 H0 D (k t r1) → Q t H1) : tSB G W p σ H Q :=
  ⟨w, H0, env, r, a.g, a.s, (FlowP.ofM a h).imp fun t r1 w1 H1 _ _ q => n t r1 w1 H1 q.1 q.2⟩
theorem ss_ret (he : SE X G W e f) : SS X G W (.Return (some e) pos) (qRet f) := fun w0 H0 => ps_imp (ps_ret he) fun D σ H ⟨w, env, r, a, h⟩ =>
  at_e a h fun t r1 w1 H1 v a1 d h1 => h1 w1 H1 v a1.st a1.g d
theorem ss_retN : SS X G W (.Return none pos) (fun _ r => .rt .non r) := fun w0 H0 => ps_imp ps_retN fun D σ H ⟨w, env, r, a, h⟩ => h w H _ a.st a.g .non
def qExpr (f : Env → M T) : Sm := fun env r => ofM env (fun _ r => .nx env r) (f env r)
theorem ss_expr (he : SE X G W e f) (hs : swapsWith e none pos.line X.env = pure false := by rfl) : SS X G W (.Expr e pos) (qExpr f) := fun w0 H0 => ps_imp (ps_expr he hs) fun D σ H ⟨w, env, r, a, h⟩ =>
  at_e a h fun t r1 w1 H1 v a1 d h1 => h1 w1 H1 σ a1.st a1.g a1.s
def qIf (p : Env → M Bool) (g g' : Sm) : Sm := fun env r => ofM env (fun c r => if c = true then g env r else g' env r) (p env r)
theorem ss_if {c : Expr} {p : Env → M Bool} {sa sb : List Stmt} (hc : SB X G W c p) (ha : SSs X G W sa g) (hb : SSs X G W sb g') : SS X G W (.If c sa sb pos) (qIf p g g') := fun w0 H0 => ps_imp (ps_if hc (ha w0 H0) (hb w0 H0)) fun D σ H ⟨w, env, r, a, h⟩ =>
  at_b a h fun t r1 w1 H1 a1 h1 => by
    cases t with
    | true => exact ⟨w1, env, r1, a1, h1⟩
    | false => exact ⟨w1, env, r1, a1, h1⟩
end
/-! ### slots set -/
section
variable {G : Gm} {w : Wd} {H0 H : Hp} {σ : L2.St} {env : Env} {r : RS}
theorem Slots.setVal {v : V} {t : T} (s : Slots G w H0 H σ env) (i : Nat) (d : Den G w v t) : Slots G w H0 H (σ.set i (some v)) (env.set i (.val t)) := by
  obtain ⟨oa, h1, h2⟩ := s.ex
  refine ⟨by simp [s.len], oa, fun j sl hj => ?_, fun j k u u' hj hk pj pk e => ?_⟩
  · by_cases hij : i = j
    · subst hij
      by_cases hl : i < env.length
      · rw [List.getElem?_set_self hl] at hj
        cases hj
        exact ⟨v, by rw [List.getElem?_set_self (by rw [s.len]; exact hl)], d⟩
      · rw [List.getElem?_eq_none (by simpa using hl)] at hj
        cases hj
    · rw [List.getElem?_set_ne hij] at hj
      have := h1 j sl hj
      unfold SlotAt at this ⊢
      cases sl <;> first | exact True.intro | (simp only [List.getElem?_set_ne hij]; exact this)
  · have ne : ∀ {m : Nat} {x : Slot}, (env.set i (.val t))[m]? = some x → x.priv = true → env[m]? = some x := fun {m x} hm px => by
      by_cases him : i = m
      · subst him
        by_cases hl : i < env.length
        · rw [List.getElem?_set_self hl] at hm
          cases hm
          cases px
        · rw [List.getElem?_eq_none (by simpa using hl)] at hm
          cases hm
      · rw [List.getElem?_set_ne him] at hm
        exact hm
    exact h2 j k u u' (ne hj pj) (ne hk pk) pj pk e
/-- an own list's address is none of a heap's that does not know it -/
theorem Slots.setOwn {p : Addr} {o : HO} {xs : Pv} (s : Slots G w H0 H σ env) (i : Nat) (nw : ∀ (j : Nat) (sl : Slot) (oa : Addr), env[j]? = some sl → sl.priv = true → σ[j]? = some (some (.ref oa)) → oa ≠ p)
    (hP : w.P p = none) (hR : p ∉ w.R) (h0 : ¬ Vs H0 p) (hh : H p = some o) (d : PvOk G w p o xs) : Slots G w H0 H (σ.set i (some (.ref p))) (env.set i (.pv xs)) := by
  obtain ⟨oa, h1, h2⟩ := s.ex
  have old : ∀ {m : Nat} {x : Slot}, i ≠ m → (env.set i (.pv xs))[m]? = some x → env[m]? = some x := fun {m x} him hm => by
    rw [List.getElem?_set_ne him] at hm
    exact hm
  have oan : ∀ {m : Nat} {x : Slot}, env[m]? = some x → x.priv = true → oa m ≠ p := fun {m x} hm px => by
    have := h1 m x hm
    cases x with
    | un => cases px
    | val _ => cases px
    | pv ys => exact nw m _ _ hm rfl this.1
  refine ⟨by simp [s.len], fun j => if j = i then p else oa j, fun j sl hj => ?_, fun j k u u' hj hk pj pk e => ?_⟩
  · by_cases hij : i = j
    · subst hij
      by_cases hl : i < env.length
      · rw [List.getElem?_set_self hl] at hj
        cases hj
        simp only [SlotAt, if_true]
        exact ⟨by rw [List.getElem?_set_self (by rw [s.len]; exact hl)], hP, hR, h0, o, hh, d⟩
      · rw [List.getElem?_eq_none (by simpa using hl)] at hj
        cases hj
    · have := h1 j sl (old hij hj)
      unfold SlotAt at this ⊢
      cases sl <;> first | exact True.intro | (simp only [List.getElem?_set_ne hij, if_neg (Ne.symm hij)]; exact this)
  · by_cases hij : i = j
    · by_cases hik : i = k
      · rw [← hij, ← hik]
      · have e : (if j = i then p else oa j) = (if k = i then p else oa k) := e
        rw [if_pos hij.symm, if_neg (Ne.symm hik)] at e
        exact absurd e.symm (oan (old hik hk) pk)
    · by_cases hik : i = k
      · have e : (if j = i then p else oa j) = (if k = i then p else oa k) := e
        rw [if_neg (Ne.symm hij), if_pos hik.symm] at e
        exact absurd e (oan (old hij hj) pj)
      · have e : (if j = i then p else oa j) = (if k = i then p else oa k) := e
        rw [if_neg (Ne.symm hij), if_neg (Ne.symm hik)] at e
        exact h2 j k u u' (old hij hj) (old hik hk) pj pk e
/-- an own list changes -/
theorem Slots.chg {o : HO} {xs ys : Pv} (s : Slots G w H0 H σ env) {i : Nat} {p : Addr} (he : env[i]? = some (.pv xs)) (hp : σ[i]? = some (some (.ref p))) (d : PvOk G w p o ys) : Slots G w H0 (upd H p o) σ (env.set i (.pv ys)) := by
  obtain ⟨oa, h1, h2⟩ := s.ex
  have hi := h1 i _ he
  have ep : oa i = p := by
    have := hi.1
    rw [hp] at this
    exact (V.ref.inj (Option.some.inj (Option.some.inj this))).symm
  have old : ∀ {m : Nat} {x : Slot}, i ≠ m → (env.set i (.pv ys))[m]? = some x → env[m]? = some x := fun {m x} him hm => by
    rw [List.getElem?_set_ne him] at hm
    exact hm
  have hl : i < env.length := (List.getElem?_eq_some_iff.mp he).1
  have pr : ∀ {m : Nat} {x : Slot}, (env.set i (.pv ys))[m]? = some x → x.priv = true → ∃ y : Slot, env[m]? = some y ∧ y.priv = true := fun {m x} hm px => by
    by_cases him : i = m
    · subst him; exact ⟨_, he, rfl⟩
    · exact ⟨x, old him hm, px⟩
  refine ⟨by simp [s.len], oa, fun j sl hj => ?_, fun j k u u' hj hk pj pk e => ?_⟩
  · by_cases hij : i = j
    · subst hij
      rw [List.getElem?_set_self hl] at hj
      cases hj
      obtain ⟨a1, a2, a3, a4, _⟩ := hi
      exact ⟨a1, a2, a3, a4, o, by rw [ep]; exact upd_same, by rw [ep]; exact d⟩
    · have q := old hij hj
      have := h1 j sl q
      cases sl with
      | un => trivial
      | val t => exact this
      | pv zs =>
        have ne : oa j ≠ p := fun e => hij (h2 i j _ _ he q rfl rfl (ep.trans e.symm))
        obtain ⟨a1, a2, a3, a4, u, a6, a7⟩ := this
        exact ⟨a1, a2, a3, a4, u, by rw [upd_ne ne]; exact a6, a7⟩
  · obtain ⟨y, e1, p1⟩ := pr hj pj
    obtain ⟨y', e2, p2⟩ := pr hk pk
    exact h2 j k y y' e1 e2 p1 p2 e
def Pv.frz : Pv → Option T
  | .lst xs => some (.lst xs)
  | .dk ks vs => some (.dct ks vs)
  | .dt ks vs => some (.dtt ks vs)
  | .ins _ _ => none
theorem PvOk.frz {o : HO} {p : Pv} {t : T} {a : Addr} (h : PvOk G w a o p) (e : p.frz = some t) (hP : w.P a = none) : Den G (w.add a o) (.ref a) t := by
  have L : Later w (w.add a o) := Later.add hP
  cases h with
  | lst z d => cases e; exact .lst upd_same z (d.mono L)
  | ins _ c l d => cases e
  | dk l z d => cases e; exact .dct upd_same l (d.mono L)
  | dt l z d => cases e; exact .dtt upd_same l (d.mono L)
/-- an own thing is a value from now on -/
theorem Slots.freeze {p : Pv} {t : T} (s : Slots G w H0 H σ env) (g : Good G w H r) {w0 : Wd} (st : Step w0 H0 w H) {i : Nat} (he : env[i]? = some (.pv p)) (hf : p.frz = some t) : ∃ w', Step w0 H0 w' H ∧ Good G w' H r ∧ Slots G w' H0 H σ (env.set i (.val t)) := by
  obtain ⟨oa, h1, h2⟩ := s.ex
  obtain ⟨a1, a2, a3, a4, o, a6, a7⟩ := h1 i _ he
  refine ⟨w.add (oa i) o, st.publish a4 a2, g.publish a2 a3 a6 a7.pl.tb, ?_⟩
  have L : Later w (w.add (oa i) o) := Later.add a2
  have hl : i < env.length := (List.getElem?_eq_some_iff.mp he).1
  have old : ∀ {m : Nat} {x : Slot}, i ≠ m → (env.set i (.val t))[m]? = some x → env[m]? = some x := fun {m x} him hm => by
    rw [List.getElem?_set_ne him] at hm
    exact hm
  have pr : ∀ {m : Nat} {x : Slot}, (env.set i (.val t))[m]? = some x → x.priv = true → env[m]? = some x := fun {m x} hm px => by
    by_cases him : i = m
    · subst him
      rw [List.getElem?_set_self hl] at hm
      cases hm
      cases px
    · exact old him hm
  refine ⟨by simp [s.len], oa, fun j sl hj => ?_, fun j k u u' hj hk pj pk e => h2 j k u u' (pr hj pj) (pr hk pk) pj pk e⟩
  by_cases hij : i = j
  · subst hij
    rw [List.getElem?_set_self hl] at hj
    cases hj
    exact ⟨_, a1, a7.frz hf a2⟩
  · have q := old hij hj
    have := h1 j sl q
    have nP : ∀ {x : Slot}, env[j]? = some x → x.priv = true → w.P (oa j) = none → (w.add (oa i) o).P (oa j) = none := fun {x} hx px hn => by
      show upd w.P (oa i) o (oa j) = none
      rw [upd_ne (fun e => hij (h2 i j _ _ he hx rfl px e.symm))]
      exact hn
    cases sl with
    | un => trivial
    | val t =>
      obtain ⟨v, e1, d1⟩ := this
      exact ⟨v, e1, d1.mono L⟩
    | pv zs =>
      obtain ⟨b1, b2, b3, b4, u, b6, b7⟩ := this
      exact ⟨b1, nP q rfl b2, b3, b4, u, b6, b7.mono L rfl⟩
end
/-- the own things of some slots become values -/
def frz1 (env : Env) (i : Nat) : Env := match env[i]? with
  | some (.pv p) => match p.frz with
    | some t => env.set i (.val t)
    | none => env
  | _ => env
def frz : List Nat → Env → Env
  | [], env => env
  | i :: is, env => frz is (frz1 env i)
theorem At.freeze1 {G : Gm} {w0 : Wd} {H0 H : Hp} {σ : L2.St} {r : RS} (i : Nat) {w : Wd} {env : Env} (a : At G w0 H0 w H σ env r) : ∃ w', At G w0 H0 w' H σ (frz1 env i) r := by
  unfold frz1
  cases q : env[i]? with
  | none => exact ⟨w, a⟩
  | some sl =>
    cases sl with
    | pv p =>
      cases e : p.frz with
      | none => exact ⟨w, by simpa [e] using a⟩
      | some t =>
        obtain ⟨w', h1, h2, h3⟩ := a.s.freeze a.g a.st q e
        exact ⟨w', by simpa [e] using (⟨h1, h2, h3⟩ : At G w0 H0 w' H σ (env.set i (.val t)) r)⟩
    | un => exact ⟨w, a⟩
    | val t => exact ⟨w, a⟩
theorem At.freeze {G : Gm} {w0 : Wd} {H0 H : Hp} {σ : L2.St} {r : RS} : ∀ (is : List Nat) {w : Wd} {env : Env}, At G w0 H0 w H σ env r → ∃ w', At G w0 H0 w' H σ (frz is env) r
  | [], w, env, a => ⟨w, a⟩
  | i :: is, w, env, a => by
    obtain ⟨w1, a1⟩ := a.freeze1 i
    exact At.freeze is a1
theorem ss_frz {X : Cx} {G : Gm} {W : WX} {st : Stmt} {g : Sm} (is : List Nat) (h : SS X G W st g) : SS X G W st (fun env r => g (frz is env) r) := fun w0 H0 => ps_imp (h w0 H0) fun D σ H ⟨w, env, r, a, q⟩ => by
  obtain ⟨w', a'⟩ := a.freeze is
  exact ⟨w', frz is env, r, a', q⟩
/-! ### assignments -/
section
variable {X : Cx} {G : Gm} {W : WX} {pos : Pos} {e : Expr} {f : Env → M T}
def qSet (i : Nat) (f : Env → M T) : Sm := fun env r => ofM env (fun t r => .nx (env.set i (.val t)) r) (f env r)
theorem ss_set {i : Nat} {x : Str} {pos' : Pos} (hN : X.N.Nodup) (hi : X.N[i]? = some x) (hx : Loc X.env.scope x) (he : SE X G W e f) (hs : swapsWith e (some (.Name x pos')) pos.line X.env = pure false := by rfl) (hf : X.fn x = true ∨ X.env.scope.names.lookup x = some .local := by first | exact .inl rfl | exact .inr rfl | assumption) :
    SS X G W (.Assign [.Name x pos'] e pos) (qSet i f) := fun w0 H0 => ps_imp (ps_set hN hi hx he hs hf) fun D σ H ⟨w, env, r, a, h⟩ =>
  at_e a h fun t r1 w1 H1 v a1 d h1 => h1 w1 H1 _ a1.st a1.g (a1.s.setVal i d)
theorem At.notNew {w0 w : Wd} {H0 H : Hp} {σ : L2.St} {env : Env} {r : RS} (a : At G w0 H0 w H σ env r) {j : Nat} {sl : Slot} {b p : Addr} (hj : env[j]? = some sl) (pj : sl.priv = true) (hb : σ[j]? = some (some (.ref b))) (hp : ¬ Vs H p) : b ≠ p := fun eb => by
  subst eb
  obtain ⟨oa, k1, k2⟩ := a.s.ex
  have := k1 j sl hj
  cases sl with
  | un => cases pj
  | val _ => cases pj
  | pv ys =>
    obtain ⟨b1, _, _, _, o, b6, _⟩ := this
    rw [hb] at b1
    cases b1
    rename_i b7
    exact hp ⟨o, b6, b7.pl.tb⟩
def qOwn (i : Nat) (f : Env → M (List T)) : Sm := fun env r => ofM env (fun xs r => .nx (env.set i (.own xs)) r) (f env r)
theorem at_own {i : Nat} {f : Env → M (List T)} {w0 w : Wd} {H0 H : Hp} {σ : L2.St} {env : Env} {r : RS} {D : Ends} (a : At G w0 H0 w H σ env r) (h : FlowP G W w0 H0 D (qOwn i f env r)) : tSL G W f σ H (fun v H1 => D.nx (σ.set i (some v)) H1) := by
  refine ⟨w, H0, env, r, a.g, a.s, (FlowP.ofM a h).imp fun xs r1 w1 H1 st g1 q p vs hp hP hR hh d z => ?_⟩
  obtain ⟨a1, h1⟩ := q
  refine h1 w1 H1 _ a1.st a1.g (a1.s.setOwn i (fun j sl b hj pj hb => a.notNew hj pj hb hp) hP hR (fun z => hp (a.st.keep _ z)) hh (.lst z d))
theorem ss_own {i : Nat} {x : Str} {pos' : Pos} {f : Env → M (List T)} (hN : X.N.Nodup) (hi : X.N[i]? = some x) (hx : Loc X.env.scope x) (he : SL X G W e f) (hs : swapsWith e (some (.Name x pos')) pos.line X.env = pure false := by rfl) (hf : X.fn x = true ∨ X.env.scope.names.lookup x = some .local := by first | exact .inl rfl | exact .inr rfl | assumption) :
    SS X G W (.Assign [.Name x pos'] e pos) (qOwn i f) := fun w0 H0 => ps_imp (ps_set hN hi hx he hs hf) fun D σ H ⟨w, env, r, a, h⟩ => at_own a h
/-- a, b = e, e' with plain names -/
def qPar2 (i j : Nat) (f g : Env → M T) : Sm := fun env r => ofM env (fun ts r => match ts with
  | [t, u] => .nx ((env.set i (.val t)).set j (.val u)) r
  | _ => .bad) (fAll [f, g] env r)
theorem at_a {w0 w : Wd} {H0 H : Hp} {σ : L2.St} {env : Env} {r : RS} {D : Ends} {fs : List (Env → M T)} {k : List T → RS → SO} {Q : List V → Hp → Prop} (a : At G w0 H0 w H σ env r) (h : FlowP G W w0 H0 D (ofM env k (fAll fs env r)))
    (n : ∀ ts r1 w1 H1 vs, At G w0 H0 w1 H1 σ env r1 → Dens G w1 vs ts → ts.length = fs.length → FlowP G W w0 H0 D (k ts r1) → Q vs H1) : tSA G W fs σ H Q :=
  ⟨w, H0, env, r, a.g, a.s, (FlowP.ofM a h).imp fun t r1 w1 H1 _ _ q v d l => n t r1 w1 H1 v q.1 d l q.2⟩
theorem ss_par2 {i j : Nat} {x y : Str} {e1 e2 : Expr} {f g : Env → M T} {px py pt : Pos} {kt k2 pt2} (hc : X.calm = true) (hN : X.N.Nodup) (hi : X.N[i]? = some x) (hj : X.N[j]? = some y) (hij : i ≠ j)
    (hx : X.env.scope.names.lookup x = some .local) (hy : X.env.scope.names.lookup y = some .local) (ha : SA X G W [e1, e2] [f, g])
    (hw : swappedStores [.Tuple [.Name x px, .Name y py] kt pt] (.Tuple [e1, e2] k2 pt2) X.env = pure (some [x, y]))
    (hs : swapsWithSole [.Tuple [.Name x px, .Name y py] kt pt] (.Tuple [e1, e2] k2 pt2) pos.line X.env = pure false := by rfl) :
    SS X G W (.Assign [.Tuple [.Name x px, .Name y py] kt pt] (.Tuple [e1, e2] k2 pt2) pos) (qPar2 i j f g) := fun w0 H0 => ps_imp (ps_par hc hN hi hj hij hx hy ha hw hs) fun D σ H ⟨w, env, r, a, h⟩ =>
  at_a a h fun ts r1 w1 H1 vs a1 d l h1 => by
    cases d with
    | nil => cases l
    | cons d1 d =>
      cases d with
      | nil => cases l
      | cons d2 d =>
        cases d with
        | cons _ _ => cases l
        | nil => exact ⟨_, _, rfl, h1 w1 H1 _ a1.st a1.g ((a1.s.setVal i d1).setVal j d2)⟩
def qPar3 (i j k : Nat) (fs : List (Env → M T)) : Sm := fun env r => ofM env (fun ts r => match ts with
  | [t, u, v] => .nx (((env.set i (.val t)).set j (.val u)).set k (.val v)) r
  | _ => .bad) (fAll fs env r)
theorem ss_par3 {i j l : Nat} {x y z : Str} {e1 e2 e3 : Expr} {f1 f2 f3 : Env → M T} {px py pz pt : Pos} {kt k2 pt2} (hc : X.calm = true) (hN : X.N.Nodup) (hi : X.N[i]? = some x) (hj : X.N[j]? = some y) (hl : X.N[l]? = some z) (hij : i ≠ j) (hil : i ≠ l) (hjl : j ≠ l)
    (hx : X.env.scope.names.lookup x = some .local) (hy : X.env.scope.names.lookup y = some .local) (hz : X.env.scope.names.lookup z = some .local) (ha : SA X G W [e1, e2, e3] [f1, f2, f3])
    (hw : swappedStores [.Tuple [.Name x px, .Name y py, .Name z pz] kt pt] (.Tuple [e1, e2, e3] k2 pt2) X.env = pure (some [x, y, z]))
    (hs : swapsWithSole [.Tuple [.Name x px, .Name y py, .Name z pz] kt pt] (.Tuple [e1, e2, e3] k2 pt2) pos.line X.env = pure false := by rfl) :
    SS X G W (.Assign [.Tuple [.Name x px, .Name y py, .Name z pz] kt pt] (.Tuple [e1, e2, e3] k2 pt2) pos) (qPar3 i j l [f1, f2, f3]) := fun w0 H0 => ps_imp (ps_par3 hc hN hi hj hl hij hil hjl hx hy hz ha hw hs) fun D σ H ⟨w, env, r, a, h⟩ =>
  at_a a h fun ts r1 w1 H1 vs a1 d l h1 => by
    cases d with
    | nil => cases l
    | cons d1 d =>
      cases d with
      | nil => cases l
      | cons d2 d =>
        cases d with
        | nil => cases l
        | cons d3 d =>
          cases d with
          | cons _ _ => cases l
          | nil => exact ⟨_, _, _, rfl, h1 w1 H1 _ a1.st a1.g (((a1.s.setVal _ d1).setVal _ d2).setVal _ d3)⟩
/-! ### targets -/
/-- all slots but those of vs stay -/
def But (vs : List Nat) (σ σ' : L2.St) : Prop := σ'.length = σ.length ∧ ∀ j, j ∉ vs → σ'[j]? = σ[j]?
theorem But.refl {vs : List Nat} {σ : L2.St} : But vs σ σ := ⟨rfl, fun _ _ => rfl⟩
theorem But.trans {vs us : List Nat} {σ σ1 σ2 : L2.St} (a : But vs σ σ1) (b : But us σ1 σ2) : But (vs ++ us) σ σ2 := ⟨b.1.trans a.1, fun j hj => (b.2 j fun h => hj (List.mem_append_right _ h)).trans (a.2 j fun h => hj (List.mem_append_left _ h))⟩
theorem But.set {σ : L2.St} {i : Nat} {v : Option V} : But [i] σ (σ.set i v) := ⟨List.length_set, fun j hj => List.getElem?_set_ne fun e => hj (by simp [e])⟩
def tG (G : Gm) (vs : List Nat) (w0 : Wd) (H0 : Hp) (h : T → Env → Option Env) : TG := fun v σ H Q => ∃ w env r t env', At G w0 H0 w H σ env r ∧ Den G w v t ∧ h t env = some env' ∧ ∀ σ', Slots G w H0 H σ' env' → But vs σ σ' → Q σ' H
def tGs (G : Gm) (us : List Nat) (w0 : Wd) (H0 : Hp) (h : List T → Env → Option Env) : TGs := fun vs σ H Q => ∃ w env r ts env', At G w0 H0 w H σ env r ∧ Dens G w vs ts ∧ h ts env = some env' ∧ ∀ σ', Slots G w H0 H σ' env' → But us σ σ' → Q σ' H
abbrev SG (X : Cx) (G : Gm) (vs : List Nat) (tg : Expr) (h : T → Env → Option Env) : Prop := ∀ w0 H0, PG X tg (tG G vs w0 H0 h)
abbrev SGs (X : Cx) (G : Gm) (vs : List Nat) (tg : List Expr) (h : List T → Env → Option Env) : Prop := ∀ w0 H0, PGs X tg (tGs G vs w0 H0 h)
theorem pg_imp {tg : Expr} {t t' : TG} (h : PG X tg t) (i : ∀ v σ H Q, t' v σ H Q → t v σ H Q) : PG X tg t' := ⟨fun pins s σ H v u Q I r q => h.run pins s σ H v u Q I r (i v σ H Q q)⟩
theorem pgs_imp {tg : List Expr} {t t' : TGs} (h : PGs X tg t) (i : ∀ v σ H Q, t' v σ H Q → t v σ H Q) : PGs X tg t' := ⟨fun pins s σ H v u Q I r q => h.run pins s σ H v u Q I r (i v σ H Q q)⟩
def hName (i : Nat) : T → Env → Option Env := fun t env => some (env.set i (.val t))
theorem g_name {i : Nat} {x : Str} (hN : X.N.Nodup) (hi : X.N[i]? = some x) (hx : Loc X.env.scope x) (hf : X.fn x = true ∨ X.env.scope.names.lookup x = some .local := by first | exact .inl rfl | exact .inr rfl | assumption) : SG X G [i] (.Name x pos) (hName i) := fun w0 H0 =>
  pg_imp (pg_name hN hi hx hf) fun v σ H Q ⟨w, env, r, t, env', a, d, e, q⟩ => by
    cases e
    exact q _ (a.s.setVal i d) But.set
def hNil : List T → Env → Option Env := fun ts env => match ts with
  | [] => some env
  | _ => none
def hCons (h : T → Env → Option Env) (hs : List T → Env → Option Env) : List T → Env → Option Env := fun ts env => match ts with
  | t :: ts => (h t env).bind (hs ts)
  | [] => none
theorem gs_nil : SGs X G [] [] hNil := fun w0 H0 => pgs_imp pgs_nil fun vs σ H Q ⟨w, env, r, ts, env', a, d, e, q⟩ => by
  cases d with
  | nil => cases e; exact ⟨rfl, q σ a.s But.refl⟩
  | cons _ _ => cases e
theorem gs_cons {tg : Expr} {tgs : List Expr} {h : T → Env → Option Env} {hs : List T → Env → Option Env} {us us' : List Nat} (h1 : SG X G us tg h) (h2 : SGs X G us' tgs hs) (he : (assignEach (tg :: tgs) X.env).map (·.2) = assign tg X.env :: (assignEach tgs X.env).map (·.2) := by rfl) : SGs X G (us ++ us') (tg :: tgs) (hCons h hs) := fun w0 H0 =>
  pgs_imp (pgs_cons (h1 w0 H0) (h2 w0 H0) he) fun vs σ H Q ⟨w, env, r, ts, env', a, d, e, q⟩ => by
    cases d with
    | nil => cases e
    | @cons v vs t ts d1 d2 =>
      have e : (h t env).bind (hs ts) = some env' := e
      cases e1 : h t env with
      | none => rw [e1] at e; cases e
      | some env1 =>
        rw [e1] at e
        exact ⟨v, vs, rfl, w, env, r, t, env1, a, d1, e1, fun σ' s' b => ⟨w, env1, r, ts, env', ⟨a.st, a.g, s'⟩, d2, e, fun σ2 s2 b2 => q σ2 s2 (b.trans b2)⟩⟩
def hTup (n : Nat) (hs : List T → Env → Option Env) : T → Env → Option Env := fun t env => match t with
  | .tup ts => if ts.length = n then hs ts env else none
  | _ => none
theorem g_tup {us : List Nat} {es : List Expr} {k n : Nat} {hs : List T → Env → Option Env} (hc : X.calm = true) (hK : X.K = G.K) (h : SGs X G us es hs) (hn : (assignEach es X.env).length = n := by rfl) (hst : (assignEach es X.env).findIdx? (·.1) = none := by rfl) : SG X G us (.Tuple es k pos) (hTup n hs) := fun w0 H0 =>
  pg_imp (pg_tup hc (h w0 H0) hn hst) fun v σ H Q ⟨w, env, r, t, env', a, d, e, q⟩ => by
    cases d with
    | @tup p vs ts hh z dd =>
      have e : (if ts.length = n then hs ts env else none) = some env' := e
      by_cases hl : ts.length = n
      · rw [if_pos hl] at e
        rw [hK]
        exact ⟨p, vs, rfl, tup_sq a.g.sub hh, by rw [dd.length]; exact hl, w, env, r, ts, env', a, dd, e, q⟩
      · rw [if_neg hl] at e; cases e
    | _ => cases e
def qAsg (f : Env → M T) (h : T → Env → Option Env) : Sm := fun env r => ofM env (fun t r => match h t env with
  | some env' => .nx env' r
  | none => .bad) (f env r)
theorem ss_asg {us : List Nat} {tg : Expr} {h : T → Env → Option Env} (he : SE X G W e f) (hg : SG X G us tg h) (hs : swapsWithSole [tg] e pos.line X.env = pure false := by rfl) (hw : swappedStores [tg] e X.env = pure none := by rfl)
    (h1 : (assignEach [tg] X.env).map (·.2) = [assign tg X.env] := by rfl) : SS X G W (.Assign [tg] e pos) (qAsg f h) := fun w0 H0 => ps_imp (ps_asg he (hg w0 H0) hs hw h1) fun D σ H ⟨w, env, r, a, hq⟩ =>
  at_e a hq fun t r1 w1 H1 v a1 d h2 => by
    cases q : h t env with
    | none => rw [q] at h2; exact h2.elim
    | some env' =>
      rw [q] at h2
      exact ⟨w1, env, r1, t, env', a1, d, q, fun σ' s' _ => h2 w1 H1 σ' a1.st a1.g s'⟩
end
end Ep
namespace Ep
open PySem PySem.Spec L2
/-! ### lists changed -/
section
variable {G : Gm} {w w0 : Wd} {H0 H : Hp} {σ : L2.St} {env : Env} {r : RS}
/-- a changed list of several defs -/
theorem At.ref (a : At G w0 H0 w H σ env r) {k : Nat} {p : Addr} {xs : List T} {vs : List V} (hp : w.R[k]? = some p) (hk : r[k]? = some xs) {ys : List T} (d : Dens G w vs ys) (hz : ys.length ≤ sizeLine) : At G w0 H0 w (upd H p (.lst vs)) σ env (r.set k ys) := by
  have hm : p ∈ w.R := List.mem_of_getElem? hp
  have hl : k < r.length := (List.getElem?_eq_some_iff.mp hk).1
  have st : Step w H w (upd H p (.lst vs)) := ⟨Same.refl _, fun b o h1 h2 _ => by
      rw [upd_ne (fun e => h1 (by rw [e]; exact hm))]
      exact h2, fun b h => by
      exact h.put (by intro _ e; cases e), fun _ _ _ h => h, ⟨[], by simp, by simp⟩, rfl⟩
  obtain ⟨vs0, ev0⟩ := a.g.refs.there hm
  refine a.step st ⟨fun b o e => ?_, ⟨a.g.refs.nd, by rw [List.length_set]; exact a.g.refs.len, a.g.refs.out, fun j zs hj => ?_⟩, tabs_put a.g.tabs (.inr ⟨_, ev0, ⟨fun _ e => (by cases e), fun _ e => (by cases e)⟩⟩), a.g.nt⟩
  · rw [upd_ne (fun q => by rw [q, a.g.refs.out p hm] at e; cases e)]
    exact a.g.sub b o e
  · by_cases hjk : k = j
    · subst hjk
      rw [List.getElem?_set_self hl] at hj
      cases hj
      exact ⟨p, vs, hp, upd_same, d, hz⟩
    · rw [List.getElem?_set_ne hjk] at hj
      obtain ⟨b, us, h1, h2, h3, h4⟩ := a.g.refs.at_ j zs hj
      refine ⟨b, us, h1, ?_, h3, h4⟩
      have hb : b ≠ p := fun e => by
        subst e
        obtain ⟨l1, e1⟩ := List.getElem?_eq_some_iff.mp hp
        obtain ⟨l2, e2⟩ := List.getElem?_eq_some_iff.mp h1
        exact hjk ((List.getElem_inj a.g.refs.nd).mp (e1.trans e2.symm))
      rw [upd_ne hb]
      exact h2
/-- an own thing is changed -/
theorem At.pv (a : At G w0 H0 w H σ env r) {i : Nat} {xs ys : Pv} {o : HO} {p : Addr} (he : env[i]? = some (.pv xs)) (hp : σ[i]? = some (some (.ref p))) (d : PvOk G w p o ys) : At G w0 H0 w (upd H p o) σ (env.set i (.pv ys)) r := by
  obtain ⟨oa, h1, h2⟩ := a.s.ex
  obtain ⟨b1, b2, b3, b4, u, b6, b7⟩ := h1 i _ he
  rw [hp] at b1
  cases b1
  exact ⟨a.st.chg b4 d.pl.tb, a.g.priv b2 b3 (.inr ⟨u, b6, b7.pl⟩), a.s.chg he hp d⟩
theorem At.own (a : At G w0 H0 w H σ env r) {i : Nat} {xs ys : List T} {vs : List V} {p : Addr} (he : env[i]? = some (.own xs)) (hp : σ[i]? = some (some (.ref p))) (d : Dens G w vs ys) (hz : ys.length ≤ sizeLine) : At G w0 H0 w (upd H p (.lst vs)) σ (env.set i (.own ys)) r :=
  a.pv he hp (.lst hz d)
/-- an own thing: its address -/
theorem At.thing (a : At G w0 H0 w H σ env r) {i : Nat} {q : Pv} (he : env[i]? = some (.pv q)) : ∃ p o, σ[i]? = some (some (.ref p)) ∧ H p = some o ∧ PvOk G w p o q := by
  obtain ⟨oa, h1, h2⟩ := a.s.ex
  obtain ⟨b1, b2, b3, b4, o, b6, b7⟩ := h1 i _ he
  exact ⟨_, o, b1, b6, b7⟩
/-- the list of a slot, to be changed: its address, its items -/
theorem At.lst (a : At G w0 H0 w H σ env r) {i : Nat} {xs : List T} (he : env[i]? = some (.own xs)) : ∃ p vs, σ[i]? = some (some (.ref p)) ∧ H p = some (.lst vs) ∧ Dens G w vs xs ∧ xs.length ≤ sizeLine := by
  obtain ⟨p, o, h1, h2, h3⟩ := a.thing he
  cases h3 with
  | lst z d => exact ⟨p, _, h1, h2, d, z⟩
theorem At.lstR (a : At G w0 H0 w H σ env r) {i k : Nat} {xs : List T} (he : env[i]? = some (.val (.ref k))) (hk : r[k]? = some xs) : ∃ p vs, σ[i]? = some (some (.ref p)) ∧ H p = some (.lst vs) ∧ Dens G w vs xs ∧ w.R[k]? = some p ∧ xs.length ≤ sizeLine := by
  obtain ⟨oa, h1, h2⟩ := a.s.ex
  obtain ⟨v, e1, d⟩ := h1 i _ he
  cases d with
  | ref h =>
    obtain ⟨b, us, h3, h4, h5, h6⟩ := a.g.refs.at_ k xs hk
    rw [h] at h3
    cases h3
    exact ⟨_, us, e1, h4, h5, h, h6⟩
end
section
variable {X : Cx} {G : Gm} {W : WX} {pos : Pos} {e ix : Expr} {f g : Env → M T}
theorem at_eS {w0 w : Wd} {H0 H : Hp} {σ : L2.St} {env : Env} {r : RS} {D : Ends} {k : T → RS → SO} {Q : VK} (a : At G w0 H0 w H σ env r) (h : FlowP G W w0 H0 D (ofM env k (f env r)))
    (n : ∀ t r1 w1 H1 v, Step w H w1 H1 → At G w0 H0 w1 H1 σ env r1 → Den G w1 v t → FlowP G W w0 H0 D (k t r1) → Q v H1) : tS G W f σ H Q :=
  ⟨w, H0, env, r, a.g, a.s, (FlowP.ofM a h).imp fun t r1 w1 H1 st _ q v d => n t r1 w1 H1 v st q.1 d q.2⟩
/-- may the slot's list be changed: an own one, or one of several defs -/
def isMut (env : Env) (i : Nat) : Bool := match env[i]? with
  | some (.pv (.lst _)) => true
  | some (.val (.ref _)) => true
  | _ => false
/-- the items of the slot's list; a new list in its place -/
def mutGet (env : Env) (i : Nat) (r : RS) : Option (List T) := match env[i]? with
  | some (.pv (.lst xs)) => some xs
  | some (.val (.ref k)) => r[k]?
  | _ => none
def mutSet (env : Env) (i : Nat) (r : RS) (ys : List T) : SO := match env[i]? with
  | some (.pv (.lst _)) => .nx (env.set i (.own ys)) r
  | some (.val (.ref k)) => .nx env (r.set k ys)
  | _ => .bad
theorem At.mutA {w w0 : Wd} {H0 H : Hp} {σ : L2.St} {env : Env} {r : RS} (a : At G w0 H0 w H σ env r) {i : Nat} (hm : isMut env i = true) : ∃ p vs, σ[i]? = some (some (.ref p)) ∧ H p = some (.lst vs) := by
  unfold isMut at hm
  cases q : env[i]? with
  | none => rw [q] at hm; cases hm
  | some sl =>
    rw [q] at hm
    cases sl with
    | pv o =>
      cases o with
      | lst xs =>
        obtain ⟨p, vs, e1, hp, _⟩ := a.lst q
        exact ⟨p, vs, e1, hp⟩
      | _ => cases hm
    | val t =>
      cases t with
      | ref k =>
        obtain ⟨oa, k1, k2⟩ := a.s.ex
        obtain ⟨v0, e1, d0⟩ := k1 i _ q
        cases d0 with
        | ref hp =>
          obtain ⟨vs, hh⟩ := a.g.refs.there (List.mem_of_getElem? hp)
          exact ⟨_, vs, e1, hh⟩
      | _ => cases hm
    | un => cases hm
theorem At.mutG {w w0 : Wd} {H0 H : Hp} {σ : L2.St} {env : Env} {r : RS} (a : At G w0 H0 w H σ env r) {i : Nat} {xs : List T} (hm : mutGet env i r = some xs) : ∃ p vs, σ[i]? = some (some (.ref p)) ∧ H p = some (.lst vs) ∧ Dens G w vs xs ∧ xs.length ≤ sizeLine ∧
    ∀ us ys, Dens G w us ys → ys.length ≤ sizeLine → ∀ (D : Ends), FlowP G W w0 H0 D (mutSet env i r ys) → D.nx σ (upd H p (.lst us)) := by
  unfold mutGet at hm
  cases q : env[i]? with
  | none => rw [q] at hm; cases hm
  | some sl =>
    rw [q] at hm
    cases sl with
    | pv o =>
      cases o with
      | lst ys =>
        cases hm
        obtain ⟨p, vs, e1, hp, d, hz⟩ := a.lst q
        refine ⟨p, vs, e1, hp, d, hz, fun us ys dd hl D h => ?_⟩
        unfold mutSet at h
        rw [q] at h
        have a2 := a.own q e1 dd hl
        exact h _ _ _ a2.st a2.g a2.s
      | _ => cases hm
    | val t =>
      cases t with
      | ref k =>
        obtain ⟨p, vs, e1, hp, d, hR, hz⟩ := a.lstR q hm
        refine ⟨p, vs, e1, hp, d, hz, fun us ys dd hl D h => ?_⟩
        unfold mutSet at h
        rw [q] at h
        have a2 := a.ref hR hm dd hl
        exact h _ _ _ a2.st a2.g a2.s
      | _ => cases hm
    | un => cases hm
/-- xs.append(e) -/
def qApp (i : Nat) (f : Env → M T) : Sm := fun env r => if isMut env i = true then ofM env (fun t r => match mutGet env i r with
  | some xs => if xs.length < 100000 then mutSet env i r (xs ++ [t]) else .bad
  | none => .bad) (f env r) else .bad
theorem ss_app {x : Str} {px apos cpos : Pos} (hK : X.K = G.K) (i : Nat) (hN : X.N[i]? = some x) (hv : Vis X.env.scope x) (he : SE X G W e f) (hbase : attributeBase (.Name x px) "append" X.env (eval (.Name x px) X.env) = eval (.Name x px) X.env := by rfl)
    (hfew : ((backTo cpos (starEach [e] X.env)).all (fun x => !x.1) && (backToKw cpos (keywordEach [] X.env)).all (fun x => x.1.isSome) && decide (([e] : List Expr).length + ([] : List Keyword).length + (if ([] : List Keyword).isEmpty then 0 else 1) < 30)) = true := by rfl)
    (hline : (apos.endLine == cpos.line) = true := by rfl) (hs : starEach [e] X.env = (false, eval e X.env) :: starEach [] X.env := by rfl) (hplain : (backTo cpos (starEach [] X.env)).any (·.1) = false := by rfl)
    (hd : (x == ("__debug__" : Str)) = false := by decide) (hcd : (x == ("__classdict__" : Str)) = false := by decide) :
    SS X G W (.Expr (.Call (.Attribute (.Name x px) "append" apos) [e] [] cpos) pos) (qApp i f) := fun w0 H0 =>
  ps_imp (ps_expr (pe_bm PySem.F.plainAttrs_list PySem.F.slot_list_append PySem.F.type_list_append mt_append (pe_var hN hv hd hcd) (pa_cons he pa_nil hs) hbase hfew hline hs hplain)) fun D σ H ⟨w, env, r, a, h⟩ => by
    rw [hK]
    unfold qApp at h
    by_cases hm : isMut env i = true
    · rw [if_pos hm] at h
      obtain ⟨p, vs, e1, hp⟩ := a.mutA hm
      refine ⟨_, e1, .inl ⟨rfl, vs, SqL.of hp⟩, at_e a h fun t r1 w1 H1 v a1 d h1 => ?_⟩
      cases q : mutGet env i r1 with
      | none => rw [q] at h1; exact h1.elim
      | some xs =>
        rw [q] at h1
        have h1 : FlowP G W w0 H0 D (if xs.length < 100000 then mutSet env i r1 (xs ++ [t]) else .bad) := h1
        by_cases hl : xs.length < 100000
        · rw [if_pos hl] at h1
          obtain ⟨p', vs', e2, hp', dd, hz', go⟩ := a1.mutG (W := W) q
          rw [e1] at e2
          cases e2
          exact ⟨p, vs', v, rfl, rfl, hp', by rw [dd.length]; exact Nat.lt_of_lt_of_le hl (by decide), go _ _ (dd.append (.cons d .nil)) (by rw [List.length_append]; exact Nat.le_trans (Nat.succ_le_of_lt hl) (by decide)) D h1⟩
        · rw [if_neg hl] at h1; exact h1.elim
    · rw [if_neg hm] at h; exact h.elim
/-- xs.extend(e) -/
def qExt (i : Nat) (f : Env → M T) : Sm := fun env r => if isMut env i = true then ofM env (fun t r => match mutGet env i r, t with
  | some xs, .lst ys => if xs.length + ys.length ≤ 100000 then mutSet env i r (xs ++ ys) else .bad
  | _, _ => .bad) (f env r) else .bad
theorem ss_ext {x : Str} {px apos cpos : Pos} (hK : X.K = G.K) (i : Nat) (hN : X.N[i]? = some x) (hv : Vis X.env.scope x) (he : SE X G W e f) (hbase : attributeBase (.Name x px) "extend" X.env (eval (.Name x px) X.env) = eval (.Name x px) X.env := by rfl)
    (hfew : ((backTo cpos (starEach [e] X.env)).all (fun x => !x.1) && (backToKw cpos (keywordEach [] X.env)).all (fun x => x.1.isSome) && decide (([e] : List Expr).length + ([] : List Keyword).length + (if ([] : List Keyword).isEmpty then 0 else 1) < 30)) = true := by rfl)
    (hline : (apos.endLine == cpos.line) = true := by rfl) (hs : starEach [e] X.env = (false, eval e X.env) :: starEach [] X.env := by rfl) (hplain : (backTo cpos (starEach [] X.env)).any (·.1) = false := by rfl)
    (hd : (x == ("__debug__" : Str)) = false := by decide) (hcd : (x == ("__classdict__" : Str)) = false := by decide) :
    SS X G W (.Expr (.Call (.Attribute (.Name x px) "extend" apos) [e] [] cpos) pos) (qExt i f) := fun w0 H0 =>
  ps_imp (ps_expr (pe_bm PySem.F.plainAttrs_list PySem.F.slot_list_extend PySem.F.type_list_extend mt_extend (pe_var hN hv hd hcd) (pa_cons he pa_nil hs) hbase hfew hline hs hplain)) fun D σ H ⟨w, env, r, a, h⟩ => by
    rw [hK]
    unfold qExt at h
    by_cases hm : isMut env i = true
    · rw [if_pos hm] at h
      obtain ⟨p, vs, e1, hp⟩ := a.mutA hm
      refine ⟨_, e1, .inl ⟨rfl, vs, SqL.of hp⟩, at_e a h fun t r1 w1 H1 v a1 d h1 => ?_⟩
      cases q : mutGet env i r1 with
      | none => rw [q] at h1; exact h1.elim
      | some xs =>
        rw [q] at h1
        cases d with
        | @lst b us ys hb zb db =>
          have h1 : FlowP G W w0 H0 D (if xs.length + ys.length ≤ 100000 then mutSet env i r1 (xs ++ ys) else .bad) := h1
          by_cases hl : xs.length + ys.length ≤ 100000
          · rw [if_pos hl] at h1
            obtain ⟨p', vs', e2, hp', dd, hz', go⟩ := a1.mutG (W := W) q
            rw [e1] at e2
            cases e2
            exact ⟨p, b, vs', us, rfl, rfl, hp', a1.g.sub _ _ hb, by rw [dd.length, db.length]; exact le_size hl, go _ _ (dd.append db) (by rw [List.length_append]; exact le_size hl) D h1⟩
          · rw [if_neg hl] at h1; exact h1.elim
        | _ => exact h1.elim
    · rw [if_neg hm] at h; exact h.elim
/-- xs[i] = e -/
def qSetIx (i : Nat) (f g : Env → M T) : Sm := fun env r => if isMut env i = true then ofM env (fun t r => ofM env (fun u r => match mutGet env i r, u with
  | some xs, .int k => match ixN xs.length k with
    | some j => mutSet env i r (xs.set j t)
    | none => .bad
  | _, _ => .bad) (g env r)) (f env r) else .bad
theorem ss_setIx {x : Str} {px spos : Pos} (i : Nat) (hN : X.N[i]? = some x) (hv : Vis X.env.scope x) (he : SE X G W e f) (hi : SE X G W ix g)
    (ha : ∀ v, assign (.Subscript (.Name x px) ix spos) X.env v = (do let ov ← holding [v] (eval (.Name x px) X.env); let iv ← holding [v, ov] (eval ix X.env); standAt spos; holding [v, ov, iv] (setItem ov iv v); release [v, ov, iv] []) := by intro _; rfl)
    (hs : swapsWithSole [.Subscript (.Name x px) ix spos] e pos.line X.env = pure false := by rfl) (hw : swappedStores [.Subscript (.Name x px) ix spos] e X.env = pure none := by rfl)
    (h1 : (assignEach [.Subscript (.Name x px) ix spos] X.env).map (·.2) = [assign (.Subscript (.Name x px) ix spos) X.env] := by rfl) (hd : (x == ("__debug__" : Str)) = false := by decide) (hcd : (x == ("__classdict__" : Str)) = false := by decide) :
    SS X G W (.Assign [.Subscript (.Name x px) ix spos] e pos) (qSetIx i f g) := fun w0 H0 =>
  ps_imp (ps_asg he (pg_sub (pe_var hN hv hd hcd) hi set_list ha) hs hw h1) fun D σ H ⟨w, env, r, a, h⟩ => by
    unfold qSetIx at h
    by_cases hm : isMut env i = true
    · rw [if_pos hm] at h
      refine at_e a h fun t r1 w1 H1 v a1 d h1 => ?_
      obtain ⟨p, vs, e1, hp⟩ := a1.mutA hm
      refine ⟨_, e1, at_eS a1 h1 fun u r2 w2 H2 y st2 a2 d2 h2 => ?_⟩
      have d := d.mono st2.later
      cases q : mutGet env i r2 with
      | none => rw [q] at h2; exact h2.elim
      | some xs =>
        rw [q] at h2
        cases d2 with
        | int k =>
          obtain ⟨p', vs', e2, hp', dd, hz', go⟩ := a2.mutG (W := W) q
          rw [e1] at e2
          cases e2
          have h2 : FlowP G W w0 H0 D (match ixN xs.length k with
            | some j => mutSet env i r2 (xs.set j t)
            | none => .bad) := h2
          cases q2 : ixN xs.length k with
          | none => rw [q2] at h2; exact h2.elim
          | some j =>
            rw [q2] at h2
            exact ⟨p, vs', k, j, rfl, rfl, hp', by rw [dd.length]; exact q2, go _ _ (dd.set d j) (by rw [List.length_set]; exact hz') D h2⟩
        | _ => exact h2.elim
    · rw [if_neg hm] at h; exact h.elim
/-- a list that several defs change, from a new one -/
def fRef (f : Env → M (List T)) : Env → M T := fun env r => match f env r with
  | .ok xs r' => .ok (.ref r'.length) (r' ++ [xs])
  | .exn c p r' => .exn c p r'
  | .bad => .bad
theorem s_ref {f : Env → M (List T)} (h : SL X G W e f) : SE X G W e (fRef f) := pe_imp h fun σ H Q ⟨w, H0, env, r, g, s, h⟩ => by
  refine ⟨w, H0, env, r, g, s, ?_⟩
  unfold fRef at h
  cases q : f env r with
  | ok xs r1 =>
    rw [q] at h
    intro w1 H1 st g1 p vs hp hP hR hh d z
    have L : Later w1 ⟨w1.P, w1.R ++ [p], w1.fx⟩ := ⟨Same.refl _, [p], rfl⟩
    have st2 : Step w H ⟨w1.P, w1.R ++ [p], w1.fx⟩ H1 := ⟨st.pub, st.fr, st.keep, st.hid, by
      obtain ⟨m, e, hm⟩ := st.refs
      exact ⟨m ++ [p], by show w1.R ++ [p] = _; rw [e, List.append_assoc], fun a ha => by
        rcases List.mem_append.mp ha with z | z
        · exact hm a z
        · rw [List.mem_singleton.mp z]; exact hp⟩, st.me⟩
    have g2 : Good G ⟨w1.P, w1.R ++ [p], w1.fx⟩ H1 (r1 ++ [xs]) := ⟨g1.sub, ⟨List.nodup_append.mpr ⟨g1.refs.nd, by simp, fun a ha b hb e => hR (by rw [← List.mem_singleton.mp hb, ← e]; exact ha)⟩, by simp [g1.refs.len], fun a ha => by
        rcases List.mem_append.mp ha with z | z
        · exact g1.refs.out a z
        · rw [List.mem_singleton.mp z]; exact hP, fun k ys hk => by
        by_cases hl : k < r1.length
        · rw [List.getElem?_append_left hl] at hk
          obtain ⟨a, us, h1, h2, h3, h4⟩ := g1.refs.at_ k ys hk
          exact ⟨a, us, by show (w1.R ++ [p])[k]? = some a; rw [List.getElem?_append_left (by rw [g1.refs.len]; exact hl)]; exact h1, h2, h3.mono L, h4⟩
        · have hk' : k = r1.length := by
            have := (List.getElem?_eq_some_iff.mp hk).1
            rw [List.length_append, List.length_singleton] at this
            omega
          subst hk'
          rw [List.getElem?_append_right (Nat.le_refl _), Nat.sub_self] at hk
          cases hk
          exact ⟨p, vs, by show (w1.R ++ [p])[r1.length]? = some p; rw [List.getElem?_append_right (by rw [g1.refs.len]; exact Nat.le_refl _), g1.refs.len, Nat.sub_self]; rfl, hh, d.mono L, z⟩⟩, g1.tabs, g1.nt⟩
    refine h _ _ st2 g2 _ (.ref ?_)
    show (w1.R ++ [p])[r1.length]? = some p
    rw [List.getElem?_append_right (by rw [g1.refs.len]; exact Nat.le_refl _), g1.refs.len, Nat.sub_self]
    rfl
  | exn c p r1 =>
    rw [q] at h
    exact h
  | bad =>
    rw [q] at h
    exact h
/-- self.f = e in an __init__ -/
def qFld (i C n : Nat) (f : Env → M T) : Sm := fun env r => match env[i]? with
  | some (.pv (.ins C' ts)) => if C' = C ∧ ts.length = n then ofM env (fun t r => .nx (env.set i (.ins C (ts ++ [t]))) r) (f env r) else .bad
  | _ => .bad
theorem putF_new {name : Str} {v : V} : ∀ {fs : List (Str × V)}, fs.lookup name = none → putF name v fs = fs ++ [(name, v)]
  | [], _ => rfl
  | (y, u) :: fs, h => by
    rw [List.lookup_cons] at h
    by_cases q : name = y
    · subst q
      rw [show (name == name) = true by simp] at h
      cases h
    · rw [show (name == y) = false by simp [q]] at h
      have e : ¬ y = name := fun z => q z.symm
      unfold putF
      rw [if_neg e, putF_new h]
      rfl
theorem At.ins {w w0 : Wd} {H0 H : Hp} {σ : L2.St} {env : Env} {r : RS} (a : At G w0 H0 w H σ env r) {i C : Nat} {ts : List T} (he : env[i]? = some (.ins C ts)) : ∃ p cA dx vs, σ[i]? = some (some (.ref p)) ∧ G.mg (G.cn C) = some (.ref cA) ∧ H p = some (.ins cA dx (((G.fl C).take ts.length).zip vs)) ∧ vs.length = ts.length ∧ ts.length ≤ (G.fl C).length ∧
    ∀ v t, Den G w v t → ts.length < (G.fl C).length → At G w0 H0 w (upd H p (.ins cA dx (((G.fl C).take (ts ++ [t]).length).zip (vs ++ [v])))) σ (env.set i (.ins C (ts ++ [t]))) r := by
  obtain ⟨p, o, h1, h2, h3⟩ := a.thing he
  cases h3 with
  | ins hm c l d => exact ⟨p, _, _, _, h1, c, h2, d.length, l, fun v t dd hl => a.pv he h1 (.ins hm c (by rw [List.length_append, List.length_singleton]; exact hl) (d.append (.cons dd .nil)))⟩
/-- the class's n-th field is the name, and stands but once among those ahead -/
structure NthFld (G : Gm) (C n : Nat) (name : Str) : Prop where
  at_ : (G.fl C)[n]? = some name
  new : name ∉ (G.fl C).take n
  few : (G.fl C).length < 1000
  cl : ∀ cA, G.mg (G.cn C) = some (.ref cA) → Cls G.K cA ∧ NoAttr G.K cA name
theorem zip_snoc {l : List Str} {n : Nat} {name : Str} {vs : List V} {v : V} (h : l[n]? = some name) (hv : vs.length = n) : (l.take n).zip vs ++ [(name, v)] = (l.take (n + 1)).zip (vs ++ [v]) := by
  obtain ⟨hl, e⟩ := List.getElem?_eq_some_iff.mp h
  rw [List.take_succ, h]
  simp only [Option.toList]
  rw [List.zip_append (by rw [List.length_take, hv]; omega)]
  rfl
theorem ss_fld {x name : Str} {px fpos : Pos} {C n : Nat} (hK : X.K = G.K) (i : Nat) (hN : X.N[i]? = some x) (hv : Vis X.env.scope x) (ok : NthFld G C n name) (he : SE X G W e f)
    (hs : swapsWith e (some (.Attribute (.Name x px) name fpos)) pos.line X.env = pure false := by rfl) (hd : (x == ("__debug__" : Str)) = false := by decide) (hcd : (x == ("__classdict__" : Str)) = false := by decide) :
    SS X G W (.Assign [.Attribute (.Name x px) name fpos] e pos) (qFld i C n f) := fun w0 H0 =>
  ps_imp (ps_fld (pe_var hN hv hd hcd) he hs) fun D σ H ⟨w, env, r, a, h⟩ => by
    rw [hK]
    unfold qFld at h
    cases q : env[i]? with
    | none => rw [q] at h; exact h.elim
    | some sl =>
      rw [q] at h
      cases sl with
      | pv o =>
       cases o with
       | ins C' ts =>
        have h : FlowP G W w0 H0 D (if C' = C ∧ ts.length = n then ofM env (fun t r => .nx (env.set i (.ins C (ts ++ [t]))) r) (f env r) else .bad) := h
        by_cases hCn : C' = C ∧ ts.length = n
        · rw [if_pos hCn] at h
          obtain ⟨hCC, hn⟩ := hCn
          subst hCC
          refine at_e a h fun t r1 w1 H1 v a1 d h1 => ?_
          obtain ⟨p, cA, dx, vs, e1, c1, e2, l1, l2, go⟩ := a1.ins q
          have hl : ts.length < (G.fl C').length := by
            rw [hn]
            exact (List.getElem?_eq_some_iff.mp ok.at_).1
          have a2 := go v t d hl
          refine ⟨_, e1, p, cA, dx, _, rfl, e2, (ok.cl cA c1).1, (ok.cl cA c1).2, ?_, ?_⟩
          · rw [List.length_zip, List.length_take]
            have := ok.few
            omega
          · rw [putF_new (lookup_zip_none (by rw [hn]; exact ok.new)), zip_snoc (by rw [hn]; exact ok.at_) l1]
            have e3 : ts.length + 1 = (ts ++ [t]).length := by simp
            rw [e3]
            exact h1 _ _ _ a2.st a2.g a2.s
        · rw [if_neg hCn] at h; exact h.elim
       | _ => exact h.elim
      | _ => exact h.elim
end
end Ep
namespace Ep
open PySem PySem.Spec L2
/-! ### another base -/
theorem Slots.base {G : Gm} {w : Wd} {H0 Hb H : Hp} {σ : L2.St} {env : Env} (h : ∀ a, ¬ Vs Hb a → ¬ Vs H0 a) (s : Slots G w Hb H σ env) : Slots G w H0 H σ env := by
  obtain ⟨oa, h1, h2⟩ := s.ex
  refine ⟨s.len, oa, fun i sl hi => ?_, h2⟩
  have := h1 i sl hi
  cases sl with
  | un => trivial
  | val t => exact this
  | pv o =>
    obtain ⟨a1, a2, a3, a4, a5⟩ := this
    exact ⟨a1, a2, a3, h _ a4, a5⟩
theorem FlowP.base {G : Gm} {W : WX} {w0 w : Wd} {H0 Hb : Hp} {D : Ends} {o : SO} (h : FlowP G W w0 H0 D o) (st : Step w0 H0 w Hb) : FlowP G W w Hb D o := by
  have b : ∀ a, ¬ Vs Hb a → ¬ Vs H0 a := fun a ha z => ha (st.keep a z)
  cases o with
  | nx env r => exact fun w' H' σ' s g sl => h w' H' σ' (st.trans s) g (sl.base b)
  | rt t r => exact fun w' H' v s g d => h w' H' v (st.trans s) g d
  | bk env r => exact fun w' H' σ' s g sl => h w' H' σ' (st.trans s) g (sl.base b)
  | ct env r => exact fun w' H' σ' s g sl => h w' H' σ' (st.trans s) g (sl.base b)
  | exn c p env r => exact fun w' H' σ' cls d s g sl x => h w' H' σ' cls d (st.trans s) g (sl.base b) x
  | bad => exact h
open Classical in
/-- the world as it is, the def's own things left out -/
theorem Slots.rebase {G : Gm} {w : Wd} {H0 H : Hp} {σ : L2.St} {env : Env} {r : RS} (s : Slots G w H0 H σ env) (g : Good G w H r) : ∃ Hb, At G w Hb w H σ env r ∧ ∀ w0, Step w0 H0 w H → Step w0 H0 w Hb := by
  obtain ⟨oa, h1, h2⟩ := s.ex
  let own : Addr → Prop := fun b => ∃ i sl, env[i]? = some sl ∧ Slot.priv sl = true ∧ oa i = b
  have hown : ∀ b, own b → ¬ Vs H0 b ∧ w.P b = none ∧ b ∉ w.R := fun b ⟨i, sl, e1, p1, e2⟩ => by
    have := h1 i sl e1
    subst e2
    cases sl with
    | un => cases p1
    | val _ => cases p1
    | pv o =>
      obtain ⟨a1, a2, a3, a4, a5⟩ := this
      exact ⟨a4, a2, a3⟩
  let Hb : Hp := fun b => if own b then none else H b
  have hb1 : ∀ b, own b → Hb b = none := fun b h => if_pos h
  have hb2 : ∀ b, ¬ own b → Hb b = H b := fun b h => if_neg h
  refine ⟨Hb, ⟨⟨Same.refl _, fun b o e1 e2 _ => ?_, fun b e => ?_, fun b _ _ e => e, ⟨[], by simp, by simp⟩, rfl⟩, g, s.len, oa, fun i sl hi => ?_, h2⟩, fun w0 st => ⟨st.pub, fun b o e1 e2 e3 => ?_, fun b e => ?_, fun b e1 e2 e3 => st.hid b e1 e2 e3, st.refs, st.me⟩⟩
  · by_cases q : own b
    · rw [hb1 b q] at e2; cases e2
    · rw [hb2 b q] at e2; exact e2
  · by_cases q : own b
    · exact absurd e (nvs (hb1 b q))
    · obtain ⟨o, e1, e2⟩ := e
      rw [hb2 b q] at e1
      exact ⟨o, e1, e2⟩
  · have := h1 i sl hi
    cases sl with
    | un => trivial
    | val t => exact this
    | pv o =>
      obtain ⟨a1, a2, a3, a4, a5⟩ := this
      exact ⟨a1, a2, a3, nvs (hb1 _ ⟨i, _, hi, rfl, rfl⟩), a5⟩
  · rw [hb2 b (fun q => (hown b q).1 ⟨o, e2, e3⟩)]
    exact st.fr b o e1 e2 e3
  · obtain ⟨o, e1, e2⟩ := st.keep b e
    exact ⟨o, by rw [hb2 b (fun q => (hown b q).1 e)]; exact e1, e2⟩
theorem At.rebase {G : Gm} {w0 w : Wd} {H0 H : Hp} {σ : L2.St} {env : Env} {r : RS} (a : At G w0 H0 w H σ env r) : ∃ Hb, Step w0 H0 w Hb ∧ At G w Hb w H σ env r := by
  obtain ⟨Hb, h1, h2⟩ := a.s.rebase a.g
  exact ⟨Hb, h2 w0 a.st, h1⟩
/-! ### what is walked -/
def ItOk (G : Gm) (w : Wd) (J : It) (xs : List T) : Prop := ∃ Gd Y, Walk J xs.length Gd Y ∧ (∀ w' H' r', Later w w' → Good G w' H' r' → Gd H') ∧
  ∀ i H1 v H2 w1 r1, Later w w1 → Good G w1 H1 r1 → i < xs.length → Y i H1 v H2 → ∃ t w2, xs[i]? = some t ∧ Step w1 H1 w2 H2 ∧ Good G w2 H2 r1 ∧ Den G w2 v t
def tSI (G : Gm) (W : WX) (f : Env → M (List T)) : TI := fun σ H R => ∃ w H0 env r, Good G w H r ∧ Slots G w H0 H σ env ∧ OutP G w H (WE0 W σ) (fun xs _ w' H' => ∀ J, ItOk G w' J xs → R J H') (f env r)
abbrev SI (X : Cx) (G : Gm) (W : WX) (tg e : Expr) (f : Env → M (List T)) : Prop := PI X tg e (tSI G W f)
/-- a def's own names in the target change the environment so -/
def loopF (h : T → Env → Option Env) (g : Sm) : List T → Sm
  | [], env, r => .nx env r
  | x :: xs, env, r => match h x env with
    | none => .bad
    | some env1 => match g env1 r with
      | .nx e r' => loopF h g xs e r'
      | .ct e r' => loopF h g xs e r'
      | .bk e r' => .nx e r'
      | .rt t r' => .rt t r'
      | .exn c p e r' => .exn c p e r'
      | .bad => .bad
def qFor (f : Env → M (List T)) (h : T → Env → Option Env) (g : Sm) : Sm := fun env r => ofM env (fun xs r => loopF h g xs env r) (f env r)
section
variable {X : Cx} {G : Gm} {W : WX} {pos : Pos}
def tSSx (G : Gm) (W : WX) (g : Sm) : TS := fun D σ H => ∃ w0 H0, tSS G W w0 H0 g D σ H
theorem pss_x {body : List Stmt} {g : Sm} (hb : SSs X G W body g) : PSs X body (tSSx G W g) := ⟨fun pins s σ H D I ⟨w0, H0, q⟩ => (hb w0 H0).run pins s σ H D I q⟩
def tGx (G : Gm) (us : List Nat) (h : T → Env → Option Env) : TG := fun v σ H Q => ∃ w0 H0, tG G us w0 H0 h v σ H Q
theorem pg_x {us : List Nat} {tg : Expr} {h : T → Env → Option Env} (hg : SG X G us tg h) : PG X tg (tGx G us h) := ⟨fun pins s σ H v u Q I r ⟨w0, H0, q⟩ => (hg w0 H0).run pins s σ H v u Q I r q⟩
theorem ss_for {us : List Nat} {iter tg : Expr} {body : List Stmt} {f : Env → M (List T)} {h : T → Env → Option Env} {g : Sm} (hp : PassesOwn (model X.prog X.w) X.A X.env X.xe) (hc : X.calm = true) (hi : SI X G W tg iter f) (hg : SG X G us tg h) (hb : SSs X G W body g)
    (hs : ∀ x, foldedSetIterable iter X.env x = pure x := by intro _; rfl) : SS X G W (.For tg iter body [] pos) (qFor f h g) := by
  intro w0 H0
  refine ⟨fun pins s σ H D I ⟨w, env, r, a, hq⟩ => ?_⟩
  refine (ps_for hp hc hi (pg_x hg) (pss_x hb) hs).run pins s σ H D I ?_
  refine ⟨w, H0, env, r, a.g, a.s, (FlowP.ofM a hq).imp fun xs r1 w1 H1 st1 g1 q J it => ?_⟩
  obtain ⟨a1, hf⟩ := q
  obtain ⟨Gd, Y, wk, hG, hY⟩ := it
  obtain ⟨Hc, stc, ac⟩ := a1.rebase
  refine for_it wk (fun i σ H => ∃ w' env r, At G w1 Hc w' H σ env r ∧ FlowP G W w1 Hc D (loopF h g (xs.drop i) env r)) ⟨w1, env, r1, ac, hf.base stc⟩ (fun i σ' H' _ ⟨w', env', r', a', _⟩ => hG w' H' r' a'.st.later a'.g) ?_ ?_
  · rintro i x σ' H2 H3 hlt ⟨w', env', r', a', hl⟩ y
    obtain ⟨t, w2, ht, st2, g2, d⟩ := hY i H2 x H3 w' r' a'.st.later a'.g hlt y
    have a2 := a'.step st2 g2
    have ed : xs.drop i = t :: xs.drop (i + 1) := by
      rw [List.drop_eq_getElem_cons hlt]
      rw [List.getElem?_eq_getElem hlt] at ht
      cases ht
      rfl
    rw [ed] at hl
    unfold loopF at hl
    cases q : h t env' with
    | none => rw [q] at hl; exact hl.elim
    | some env1 =>
      rw [q] at hl
      refine ⟨w1, Hc, w2, env', r', t, env1, a2, d, q, fun σ2 s2 _ => ⟨w1, Hc, w2, env1, r', ⟨a2.st, a2.g, s2⟩, ?_⟩⟩
      simp only at hl
      cases o : g env1 r' with
      | nx e r2 => rw [o] at hl; exact fun w3 H4 σ3 st g s => ⟨w3, e, r2, ⟨st, g, s⟩, hl⟩
      | ct e r2 => rw [o] at hl; exact fun w3 H4 σ3 st g s => ⟨w3, e, r2, ⟨st, g, s⟩, hl⟩
      | bk e r2 => rw [o] at hl; exact hl
      | rt u r2 => rw [o] at hl; exact hl
      | exn c p e r2 => rw [o] at hl; exact hl
      | bad => rw [o] at hl; exact hl
  · rintro σ' H2 ⟨w', env', r', a', hl⟩
    rw [List.drop_length] at hl
    exact hl w' H2 σ' a'.st a'.g a'.s
/-- while, with fuel in the reading alone -/
def whileF (p : Env → M Bool) (g : Sm) : Nat → Sm
  | 0, _, _ => .bad
  | n + 1, env, r => ofM env (fun c r => if c = true then (match g env r with
    | .nx e r' => whileF p g n e r'
    | .ct e r' => whileF p g n e r'
    | .bk e r' => .nx e r'
    | .rt t r' => .rt t r'
    | .exn c p e r' => .exn c p e r'
    | .bad => .bad) else .nx env r) (p env r)
theorem ss_while {c : Expr} {body : List Stmt} {p : Env → M Bool} {g : Sm} (n : Env → RS → Nat) (hp : PassesOwn (model X.prog X.w) X.A X.env X.xe) (hc : SB X G W c p) (hb : SSs X G W body g) : SS X G W (.While c body [] pos) (fun env r => whileF p g (n env r) env r) := by
  intro w0 H0
  refine ⟨fun pins s σ H D I ⟨w, env, r, a, hq⟩ => ?_⟩
  refine (ps_while hp hc (hb w0 H0)).run pins s σ H D I ?_
  refine ⟨fun m σ H => ∃ w env r, At G w0 H0 w H σ env r ∧ FlowP G W w0 H0 D (whileF p g m env r), ⟨_, w, env, r, a, hq⟩, ?_⟩
  rintro m σ1 H1 ⟨w1, env1, r1, a1, h1⟩
  cases m with
  | zero => exact h1.elim
  | succ m =>
    unfold whileF at h1
    refine at_b a1 h1 fun b r2 w2 H2 a2 h2 => ?_
    cases b with
    | false => exact h2 w2 H2 σ1 a2.st a2.g a2.s
    | true =>
      refine ⟨fun σ H => ∃ w env r, At G w0 H0 w H σ env r ∧ FlowP G W w0 H0 D (whileF p g m env r), fun σ' H' q => ⟨m, Nat.lt_succ_self m, q⟩, w2, env1, r2, a2, ?_⟩
      rw [if_pos rfl] at h2
      cases o : g env1 r2 with
      | nx e r2 => rw [o] at h2; exact fun w3 H4 σ3 st g s => ⟨w3, e, r2, ⟨st, g, s⟩, h2⟩
      | ct e r2 => rw [o] at h2; exact fun w3 H4 σ3 st g s => ⟨w3, e, r2, ⟨st, g, s⟩, h2⟩
      | bk e r2 => rw [o] at h2; exact h2
      | rt u r2 => rw [o] at h2; exact h2
      | exn c p e r2 => rw [o] at h2; exact h2
      | bad => rw [o] at h2; exact h2
end
end Ep
namespace Ep
open PySem PySem.Spec L2
/-! ### what can be walked -/
def iSeqA (K : PySem.W.Frag) (te : TE) : TI := fun σ H R => te σ H fun x H1 => (∃ a xs, x = .ref a ∧ SqL K H1 a xs ∧ R (Itl K a) H1) ∨ (∃ a xs, x = .ref a ∧ SqT K H1 a xs ∧ R (Itt K a) H1) ∨ ∃ z, x = .str z ∧ R (Its z) H1
section
variable {X : Cx} {G : Gm} {W : WX} {pos : Pos} {tg e : Expr} {f : Env → M T}
theorem pi_seqA {te : TE} (he : PE X e te) : PI X tg e (iSeqA X.K te) := by
  refine ⟨fun pins s σ H R I h => ?_⟩
  refine thn (he.run pins s σ H _ I h) fun v s1 ⟨x, H1, I1, r1, q1⟩ => ?_
  have one : ∀ {b : Addr}, b ∈ [s1.heap.objs.size] → FpOk X pins H1 b := fun {b} hb => by
    obtain rfl : b = s1.heap.objs.size := by simpa using hb
    exact I1.fpOk (Nat.le_refl _) (I1.hok.fresh (Nat.le_refl _))
  rcases q1 with ⟨a, xs, ex, hq, q⟩ | ⟨a, xs, ex, hq, q⟩ | ⟨z, ex, q⟩
  · subst ex
    cases r1
    obtain ⟨its, rv, p, hz⟩ := I1.list hq
    exact wpAny_pyIter_list p.isList ⟨s1.heap.objs.size, [s1.heap.objs.size], _, _, H1, rfl, I1.kept (t' := s1.toks) fun b o ho => Heap.get?_push_of_some _ ho, turn_list a _, ⟨_, Heap.get?_push_size _ rfl, rfl, rfl⟩, fun b hb => one hb, q⟩
  · subst ex
    cases r1
    obtain ⟨its, rv, p, hz⟩ := I1.tuple hq
    exact wpAny_pyIter_tuple (show s1.heap.IsTuple a its.toArray from p) ⟨s1.heap.objs.size, [s1.heap.objs.size], _, _, H1, rfl, I1.kept (t' := s1.toks) fun b o ho => Heap.get?_push_of_some _ ho, turn_tuple a _, ⟨_, Heap.get?_push_size _ rfl, rfl, rfl⟩, fun b hb => one hb, q⟩
  · subst ex
    obtain ⟨t, rfl⟩ := r1
    cases ha : z.cps.all (· < 128) with
    | false => exact wpAny_pyIter_wide ha (pi_one (tk := s1.toks) I1 _ (turn_str _ z t "str_iterator" (.inr rfl)) ⟨_, Heap.get?_push_size _ rfl, rfl, rfl⟩ q)
    | true => exact wpAny_pyIter_ascii ha (pi_one (tk := s1.toks) I1 _ (turn_str _ z t "str_ascii_iterator" (.inl rfl)) ⟨_, Heap.get?_push_size _ rfl, rfl, rfl⟩ q)
def chrT (z : Str) : List T := z.cps.toList.map fun c => .str ⟨#[c]⟩
def iterT : T → Option (List T)
  | .lst xs => some xs
  | .kls xs => some xs
  | .tup xs => some xs
  | .str z => some (chrT z)
  | _ => none
def fIter (f : Env → M T) : Env → M (List T) := fun env => f env >>= fun t => M.lift (iterT t)
theorem pi_imp {t t' : TI} (h : PI X tg e t) (i : ∀ σ H Q, t' σ H Q → t σ H Q) : PI X tg e t' := ⟨fun pins s σ H Q I q => h.run pins s σ H Q I (i σ H Q q)⟩
theorem it_l {w : Wd} {a : Addr} {vs : List V} {xs : List T} (h : SqL G.K w.P a vs) (d : Dens G w vs xs) : ItOk G w (Itl G.K a) xs := by
  refine ⟨_, _, by rw [← d.length]; exact walk_list (xs := vs), fun w' H' r' L g => g.sub.seq (L.pub.seq h), fun i H1 v H2 w1 r1 L g hi y => ?_⟩
  obtain ⟨e, y⟩ := y
  subst e
  obtain ⟨t, ht, hd⟩ := d.getV y
  exact ⟨t, w1, ht, Step.refl _ _, g, hd.mono L⟩
theorem it_t {w : Wd} {a : Addr} {vs : List V} {xs : List T} (h : TupAt G.K w.P a vs) (d : Dens G w vs xs) : ItOk G w (Itt G.K a) xs := by
  refine ⟨_, _, by rw [← d.length]; exact walk_tup (xs := vs), fun w' H' r' L g => tup_sq g.sub (h.mono L.pub), fun i H1 v H2 w1 r1 L g hi y => ?_⟩
  obtain ⟨e, y⟩ := y
  subst e
  obtain ⟨t, ht, hd⟩ := d.getV y
  exact ⟨t, w1, ht, Step.refl _ _, g, hd.mono L⟩
theorem it_s {w : Wd} {z : Str} : ItOk G w (Its z) (chrT z) := by
  refine ⟨_, _, by rw [show (chrT z).length = z.cps.size by simp [chrT]]; exact walk_str, fun _ _ _ _ _ => trivial, fun i H1 v H2 w1 r1 L g hi y => ?_⟩
  obtain ⟨e, c, hc, y⟩ := y
  subst e y
  exact ⟨.str ⟨#[c]⟩, w1, by simp [chrT, hc], Step.refl _ _, g, .str _⟩
theorem i_seq (hK : X.K = G.K) (he : SE X G W e f) : SI X G W tg e (fIter f) :=
  pi_imp (pi_seqA he) fun σ H R ⟨w, H0, env, r, g, s, h⟩ => by
    refine seqE g s h fun t r1 w1 H1 v g1 s1 st1 d1 h1 => ?_
    obtain ⟨xs, e1, h2⟩ := liftP h1
    have h3 := h2 w1 H1 (Step.refl _ _) g1
    rw [hK]
    cases d1 with
    | lst h z d => cases e1; exact .inl ⟨_, _, rfl, .inl (.inl (g1.sub _ _ h)), h3 _ (it_l (.inl (.inl h)) d)⟩
    | kls h z d => cases e1; exact .inl ⟨_, _, rfl, g1.sub.seq h, h3 _ (it_l h d)⟩
    | tup h z d => cases e1; exact .inr (.inl ⟨_, _, rfl, tup_sq g1.sub h, h3 _ (it_t h d)⟩)
    | str z => cases e1; exact .inr (.inr ⟨z, rfl, h3 _ it_s⟩)
    | _ => cases e1
/-! ### ranges -/
def rngL (lo : Int) (n : Nat) : List T := (List.range n).map fun i => .int (lo + (i : Nat))
theorem it_r {w : Wd} {lo : Int} {n : Nat} : ItOk G w (Itr lo n) (rngL lo n) := by
  refine ⟨_, _, by rw [show (rngL lo n).length = n by simp [rngL]]; exact walk_range, fun _ _ _ _ _ => trivial, fun i H1 v H2 w1 r1 L g hi y => ?_⟩
  obtain ⟨e, y⟩ := y
  subst e y
  have hi : i < n := by simpa [rngL] using hi
  exact ⟨.int (lo + (i : Nat)), w1, by simp [rngL, hi], Step.refl _ _, g, .int _⟩
def rng1T : List T → Option (List T)
  | [.int j] => if -(2 ^ 62) ≤ j ∧ j < 2 ^ 62 then some (rngL 0 j.toNat) else none
  | _ => none
def rng2T : List T → Option (List T)
  | [.int i, .int j] => if -(2 ^ 62) ≤ i ∧ i < 2 ^ 62 ∧ -(2 ^ 62) ≤ j ∧ j < 2 ^ 62 then some (rngL i (j - i).toNat) else none
  | _ => none
def fRng1 (f : Env → M T) : Env → M (List T) := fun env => fAll [f] env >>= fun ts => M.lift (rng1T ts)
def fRng2 (f g : Env → M T) : Env → M (List T) := fun env => fAll [f, g] env >>= fun ts => M.lift (rng2T ts)
theorem i_range1 {a : Expr} {p : Pos} (hg : Gl X "range") (hm : X.mg "range" = none) (ha : SE X G W a f) (hs : starEach [a] X.env = [(false, eval a X.env)] := by rfl) : SI X G W tg (.Call (.Name "range" p) [a] [] pos) (fRng1 f) :=
  pi_imp (pi_range1 hg hm (a_cons ha a_nil hs) hs) fun σ H R ⟨w, H0, env, r, g, s, h⟩ => by
    refine seqA g s h fun ts r1 w1 H1 vs g1 s1 st1 d1 l h1 => ?_
    obtain ⟨xs, e1, h2⟩ := liftP h1
    have h3 := h2 w1 H1 (Step.refl _ _) g1
    cases d1 with
    | nil => cases e1
    | cons d d' =>
      cases d' with
      | cons _ _ => cases l
      | nil =>
        cases d with
        | int j =>
          have e1 : (if -(2 ^ 62) ≤ j ∧ j < 2 ^ 62 then some (rngL 0 j.toNat) else none) = some xs := e1
          split at e1
          · cases e1
            rename_i q
            exact ⟨j, rfl, q.1, q.2, h3 _ it_r⟩
          · cases e1
        | _ => cases e1
theorem i_range2 {a b : Expr} {f' : Env → M T} {p : Pos} (hg : Gl X "range") (hm : X.mg "range" = none) (ha : SE X G W a f) (hb : SE X G W b f') (hs : starEach [a, b] X.env = [(false, eval a X.env), (false, eval b X.env)] := by rfl) (hs2 : starEach [b] X.env = [(false, eval b X.env)] := by rfl) :
    SI X G W tg (.Call (.Name "range" p) [a, b] [] pos) (fRng2 f f') :=
  pi_imp (pi_range2 hg hm (a_cons ha (a_cons hb a_nil hs2) (hs.trans (by rw [hs2]))) hs hs2) fun σ H R ⟨w, H0, env, r, g, s, h⟩ => by
    refine seqA g s h fun ts r1 w1 H1 vs g1 s1 st1 d1 l h1 => ?_
    obtain ⟨xs, e1, h2⟩ := liftP h1
    have h3 := h2 w1 H1 (Step.refl _ _) g1
    cases d1 with
    | nil => cases e1
    | cons d d' =>
      cases d' with
      | nil => cases l
      | cons d2 d' =>
        cases d' with
        | cons _ _ => cases l
        | nil =>
          cases d with
          | int i =>
            cases d2 with
            | int j =>
              have e1 : (if -(2 ^ 62) ≤ i ∧ i < 2 ^ 62 ∧ -(2 ^ 62) ≤ j ∧ j < 2 ^ 62 then some (rngL i (j - i).toNat) else none) = some xs := e1
              split at e1
              · cases e1
                rename_i q
                exact ⟨i, j, rfl, q, h3 _ it_r⟩
              · cases e1
            | _ => cases e1
          | _ => cases e1
/-! ### pairs: enumerate, zip -/
theorem pair_new {w1 : Wd} {H1 H2 : Hp} {r1 : RS} {x y : V} {t u : T} {p : Addr} (g : Good G w1 H1 r1) (hp : H1 p = none) (e : H2 = upd H1 p (.tup [x, y])) (d1 : Den G w1 x t) (d2 : Den G w1 y u) : ∃ w2, Step w1 H1 w2 H2 ∧ Good G w2 H2 r1 ∧ Den G w2 (.ref p) (.tup [t, u]) := by
  subst e
  obtain ⟨st, g2⟩ := g.new (o := .tup [x, y]) hp
  exact ⟨_, st, g2, .tup (.inl upd_same) (by rw [sizeLine_eq]; exact Nat.le_of_lt (by simp)) (.cons (d1.mono st.later) (.cons (d2.mono st.later) .nil))⟩
def enumL : Nat → List T → List T
  | _, [] => []
  | n, x :: xs => .tup [.int (n : Nat), x] :: enumL (n + 1) xs
theorem enumL_len : ∀ (xs : List T) (n : Nat), (enumL n xs).length = xs.length
  | [], _ => rfl
  | x :: xs, n => by simp [enumL, enumL_len xs]
theorem enumL_at : ∀ (xs : List T) (n i : Nat) (x : T), xs[i]? = some x → (enumL n xs)[i]? = some (.tup [.int ((n + i : Nat) : Int), x])
  | [], _, _, _, e => by simp at e
  | x :: xs, n, 0, y, e => by
    simp at e; subst e; rfl
  | x :: xs, n, i + 1, y, e => by
    have := enumL_at xs (n + 1) i y (by simpa using e)
    simp only [enumL, List.getElem?_cons_succ]
    rw [this, show n + 1 + i = n + (i + 1) by omega]
theorem it_e {w : Wd} {a : Addr} {vs : List V} {xs : List T} (h : SqL G.K w.P a vs) (d : Dens G w vs xs) : ItOk G w (Ite G.K a) (enumL 0 xs) := by
  refine ⟨_, _, by rw [enumL_len, ← d.length]; exact walk_enum (xs := vs), fun w' H' r' L g => g.sub.seq (L.pub.seq h), fun i H1 v H2 w1 r1 L g hi y => ?_⟩
  obtain ⟨p, x, y, ev, hp, e2, ex, ey⟩ := y
  subst ev
  cases ex
  obtain ⟨t, ht, hd⟩ := d.getV ey
  obtain ⟨w2, st, g2, d2⟩ := pair_new g hp e2 (.int (i : Nat)) (hd.mono L)
  exact ⟨_, w2, by rw [enumL_at xs 0 i t ht, Nat.zero_add], st, g2, d2⟩
def lstOnly : T → Option (List T)
  | .lst xs => some xs
  | .kls xs => some xs
  | _ => none
def fEnum (f : Env → M T) : Env → M (List T) := fun env => fAll [f] env >>= fun ts => M.lift (match ts with
  | [t] => (lstOnly t).map (enumL 0)
  | _ => none)
theorem lst_pub {w : Wd} {v : V} {t : T} {xs : List T} (d : Den G w v t) (e : lstOnly t = some xs) : ∃ a vs, v = .ref a ∧ SqL G.K w.P a vs ∧ Dens G w vs xs := by
  cases d with
  | lst h z d => cases e; exact ⟨_, _, rfl, .inl (.inl h), d⟩
  | kls h z d => cases e; exact ⟨_, _, rfl, h, d⟩
  | _ => cases e
theorem i_enum {a : Expr} {p tpos : Pos} {elts : List Expr} {kk : Nat} (hK : X.K = G.K) (hg : Gl X "enumerate") (hm : X.mg "enumerate" = none) (ha : SE X G W a f) (hs : starEach [a] X.env = [(false, eval a X.env)] := by rfl) :
    SI X G W (.Tuple elts kk tpos) (.Call (.Name "enumerate" p) [a] [] pos) (fEnum f) :=
  pi_imp (pi_enum hg hm (a_cons ha a_nil hs) hs) fun σ H R ⟨w, H0, env, r, g, s, h⟩ => by
    refine seqA g s h fun ts r1 w1 H1 vs g1 s1 st1 d1 l h1 => ?_
    obtain ⟨xs, e1, h2⟩ := liftP h1
    have h3 := h2 w1 H1 (Step.refl _ _) g1
    cases d1 with
    | nil => cases e1
    | @cons v vs t ts d d' =>
      cases d' with
      | cons _ _ => cases l
      | nil =>
        have e1 : (lstOnly t).map (enumL 0) = some xs := e1
        cases e2 : lstOnly t with
        | none => rw [e2] at e1; cases e1
        | some ys =>
          rw [e2] at e1
          cases e1
          obtain ⟨b, us, ev, hq, dd⟩ := lst_pub d e2
          subst ev
          rw [hK]
          exact ⟨b, us, rfl, g1.sub.seq hq, h3 _ (it_e hq dd)⟩
theorem walk_zipT {K : PySem.W.Frag} {a b : Addr} {xs ys : List V} : Walk (RZ.ItzT K a b) (min xs.length ys.length) (fun H => SqT K H a xs ∧ SqT K H b ys) (YPair (fun i => xs[i]?) (fun i => ys[i]?)) where
  goes i H lt both := ⟨xs, ys, _, _, both.1, both.2, List.getElem?_eq_getElem (Nat.lt_of_lt_of_le lt (Nat.min_le_left _ _)), List.getElem?_eq_getElem (Nat.lt_of_lt_of_le lt (Nat.min_le_right _ _))⟩
  stops H both := ⟨xs, ys, both.1, both.2, (Nat.le_total xs.length ys.length).imp (fun short => Nat.le_min.mpr ⟨Nat.le_refl _, short⟩) (fun short => Nat.le_min.mpr ⟨short, Nat.le_refl _⟩)⟩
  yields i H v H' lt both := fun ⟨p, l, m, ev, new, eH, fst, snd⟩ => ⟨p, l, m, ev, new, eH, fst xs both.1, snd ys both.2⟩
def zipL : List T → List T → List T
  | x :: xs, y :: ys => .tup [x, y] :: zipL xs ys
  | _, _ => []
theorem zipL_len : ∀ (xs ys : List T), (zipL xs ys).length = min xs.length ys.length
  | [], _ => by simp [zipL]
  | x :: xs, [] => by simp [zipL]
  | x :: xs, y :: ys => by simp [zipL, zipL_len xs ys]
theorem zipL_at : ∀ (xs ys : List T) (i : Nat) (x y : T), xs[i]? = some x → ys[i]? = some y → (zipL xs ys)[i]? = some (.tup [x, y])
  | [], _, _, _, _, e, _ => by simp at e
  | x :: xs, [], _, _, _, _, e => by simp at e
  | x :: xs, y :: ys, 0, _, _, e1, e2 => by simp at e1 e2; subst e1 e2; rfl
  | x :: xs, y :: ys, i + 1, x', y', e1, e2 => by
    have := zipL_at xs ys i x' y' (by simpa using e1) (by simpa using e2)
    simpa [zipL] using this
theorem it_zY {w : Wd} {us vs : List V} {xs ys : List T} (d : Dens G w us xs) (d' : Dens G w vs ys) {i : Nat} {H1 : Hp} {v : V} {H2 : Hp} {w1 : Wd} {r1 : RS} (L : Later w w1) (g : Good G w1 H1 r1) (y : YPair (fun i => us[i]?) (fun i => vs[i]?) i H1 v H2) :
    ∃ t w2, (zipL xs ys)[i]? = some t ∧ Step w1 H1 w2 H2 ∧ Good G w2 H2 r1 ∧ Den G w2 v t := by
  obtain ⟨p, x, y, ev, hp, e2, ex, ey⟩ := y
  subst ev
  obtain ⟨t, ht, hd⟩ := d.getV ex
  obtain ⟨u, hu, hd'⟩ := d'.getV ey
  obtain ⟨w2, st, g2, d2⟩ := pair_new g hp e2 (hd.mono L) (hd'.mono L)
  exact ⟨_, w2, zipL_at xs ys i t u ht hu, st, g2, d2⟩
theorem it_zl {w : Wd} {a b : Addr} {us vs : List V} {xs ys : List T} (h : SqL G.K w.P a us) (h' : SqL G.K w.P b vs) (d : Dens G w us xs) (d' : Dens G w vs ys) : ItOk G w (Itz G.K a b) (zipL xs ys) := by
  refine ⟨_, _, by rw [zipL_len, ← d.length, ← d'.length]; exact walk_zip (xs := us) (ys := vs) rfl, fun w' H' r' L g => And.intro (g.sub.seq (L.pub.seq h)) (g.sub.seq (L.pub.seq h')), fun i H1 v H2 w1 r1 L g _ y => it_zY d d' L g y⟩
theorem it_zt {w : Wd} {a b : Addr} {us vs : List V} {xs ys : List T} (h : TupAt G.K w.P a us) (h' : TupAt G.K w.P b vs) (d : Dens G w us xs) (d' : Dens G w vs ys) : ItOk G w (RZ.ItzT G.K a b) (zipL xs ys) := by
  refine ⟨_, _, by rw [zipL_len, ← d.length, ← d'.length]; exact walk_zipT (xs := us) (ys := vs), fun w' H' r' L g => And.intro (tup_sq g.sub (h.mono L.pub)) (tup_sq g.sub (h'.mono L.pub)), fun i H1 v H2 w1 r1 L g _ y => it_zY d d' L g y⟩
def zipT (t u : T) : Option (List T) := match t, u with
  | .tup xs, .tup ys => some (zipL xs ys)
  | t, u => (lstOnly t).bind fun xs => (lstOnly u).map fun ys => zipL xs ys
def fZip (f f' : Env → M T) : Env → M (List T) := fun env => fAll [f, f'] env >>= fun ts => M.lift (match ts with
  | [t, u] => zipT t u
  | _ => none)
theorem zip_cases {t u : T} {xs : List T} (e : zipT t u = some xs) : (∃ ys zs, t = .tup ys ∧ u = .tup zs ∧ xs = zipL ys zs) ∨ ∃ ys zs, lstOnly t = some ys ∧ lstOnly u = some zs ∧ xs = zipL ys zs := by
  have lo : ((lstOnly t).bind fun xs => (lstOnly u).map fun ys => zipL xs ys) = some xs → ∃ ys zs, lstOnly t = some ys ∧ lstOnly u = some zs ∧ xs = zipL ys zs := fun e => by
    cases e1 : lstOnly t with
    | none => rw [e1] at e; cases e
    | some ys =>
      rw [e1] at e
      cases e2 : lstOnly u with
      | none => rw [e2] at e; cases e
      | some zs => rw [e2] at e; cases e; exact ⟨ys, zs, rfl, rfl, rfl⟩
  unfold zipT at e
  split at e
  · cases e; exact .inl ⟨_, _, rfl, rfl, rfl⟩
  · exact .inr (lo e)
theorem i_zip {a b : Expr} {f' : Env → M T} {p tpos : Pos} {elts : List Expr} {kk : Nat} (hK : X.K = G.K) (hg : Gl X "zip") (hm : X.mg "zip" = none) (ha : SE X G W a f) (hb : SE X G W b f')
    (hs : starEach [a, b] X.env = (false, eval a X.env) :: starEach [b] X.env := by rfl) (hs2 : starEach [b] X.env = (false, eval b X.env) :: starEach [] X.env := by rfl) (hpl : (backTo pos (starEach [b] X.env)).any (·.1) = false := by rfl) :
    SI X G W (.Tuple elts kk tpos) (.Call (.Name "zip" p) [a, b] [] pos) (fZip f f') :=
  pi_imp (RZ.pi_zipA hg hm (a_cons ha (a_cons hb a_nil hs2) hs) hs hpl) fun σ H R ⟨w, H0, env, r, g, s, h⟩ => by
    refine seqA g s h fun ts r1 w1 H1 vs g1 s1 st1 d1 l h1 => ?_
    obtain ⟨xs, e1, h2⟩ := liftP h1
    have h3 := h2 w1 H1 (Step.refl _ _) g1
    cases d1 with
    | nil => cases e1
    | @cons v vs t ts d d' =>
      cases d' with
      | nil => cases l
      | @cons v' vs u ts d2 d' =>
        cases d' with
        | cons _ _ => cases l
        | nil =>
          rw [hK]
          rcases zip_cases e1 with ⟨ys, zs, rfl, rfl, rfl⟩ | ⟨ys, zs, e2, e3, rfl⟩
          · cases d with
            | tup hh z dd =>
              cases d2 with
              | tup hh' z' dd' => exact ⟨_, _, _, _, rfl, .inr ⟨tup_sq g1.sub hh, tup_sq g1.sub hh', h3 _ (it_zt hh hh' dd dd')⟩⟩
          · obtain ⟨a, us, ev, hq, dd⟩ := lst_pub d e2
            obtain ⟨b, ws, ev', hq', dd'⟩ := lst_pub d2 e3
            subst ev ev'
            exact ⟨_, _, _, _, rfl, .inl ⟨g1.sub.seq hq, g1.sub.seq hq', h3 _ (it_zl hq hq' dd dd')⟩⟩
end
end Ep
namespace Ep
open PySem PySem.Spec L2
/-! ### comprehensions -/
def wipeE (env : Env) : List Nat → Env
  | [] => env
  | v :: vs => (wipeE env vs).set v .un
section
variable {G : Gm} {w : Wd} {H0 H : Hp} {σ : L2.St} {env : Env} {r : RS}
theorem Slots.setUn {o : Option V} (s : Slots G w H0 H σ env) (i : Nat) : Slots G w H0 H (σ.set i o) (env.set i .un) := by
  obtain ⟨oa, h1, h2⟩ := s.ex
  have old : ∀ {m : Nat} {x : Slot}, (env.set i .un)[m]? = some x → x ≠ .un → i ≠ m ∧ env[m]? = some x := fun {m x} hm px => by
    by_cases him : i = m
    · subst him
      by_cases hl : i < env.length
      · rw [List.getElem?_set_self hl] at hm
        cases hm
        exact absurd rfl px
      · rw [List.getElem?_eq_none (by simpa using hl)] at hm
        cases hm
    · rw [List.getElem?_set_ne him] at hm
      exact ⟨him, hm⟩
  have np : ∀ {x : Slot}, x.priv = true → x ≠ .un := fun {x} p e => by subst e; cases p
  refine ⟨by simp [s.len], oa, fun j sl hj => ?_, fun j k u u' hj hk pj pk e => h2 j k u u' (old hj (np pj)).2 (old hk (np pk)).2 pj pk e⟩
  cases sl with
  | un => trivial
  | val t =>
    obtain ⟨ne, e⟩ := old hj (by simp)
    obtain ⟨v, e1, d⟩ := h1 j _ e
    exact ⟨v, by rw [List.getElem?_set_ne ne]; exact e1, d⟩
  | pv q =>
    obtain ⟨ne, e⟩ := old hj (by simp)
    obtain ⟨b1, b2⟩ := h1 j _ e
    exact ⟨by rw [List.getElem?_set_ne ne]; exact b1, b2⟩
theorem Slots.wiped (s : Slots G w H0 H σ env) : ∀ vs : List Nat, Slots G w H0 H (wipe σ vs) (wipeE env vs)
  | [] => s
  | v :: vs => (s.wiped vs).setUn v
theorem wipe_at : ∀ (vs : List Nat) (j : Nat), (wipe σ vs)[j]? = if j ∈ vs then (σ[j]?).map fun _ => none else σ[j]?
  | [], j => by simp [wipe]
  | v :: vs, j => by
    unfold wipe
    by_cases e : v = j
    · subst e
      rw [List.getElem?_set]
      simp only [wipe_length]
      by_cases hl : v < σ.length
      · simp [hl]
      · simp [hl]
    · rw [List.getElem?_set_ne e, wipe_at vs j]
      by_cases hj : j ∈ vs
      · simp [hj]
      · have : ¬ j = v := fun q => e q.symm
        simp [hj, this]
theorem wipe_but {us vs : List Nat} {σ2 : L2.St} (b : But us (wipe σ vs) σ2) (h : ∀ j ∈ us, j ∈ vs) : wipe σ2 vs = wipe σ vs := by
  apply List.ext_getElem?
  intro j
  rw [wipe_at, wipe_at]
  by_cases hj : j ∈ vs
  · rw [if_pos hj, if_pos hj]
    have := b.1
    rw [wipe_length] at this
    by_cases hl : j < σ.length
    · have h2 : j < σ2.length := by omega
      simp [hl, h2]
    · have h2 : ¬ j < σ2.length := by omega
      simp [hl, h2]
  · rw [if_neg hj, if_neg hj]
    rw [b.2 j (fun q => hj (h j q)), wipe_at, if_neg hj]
end
def noEx {α : Type} (m : M α) : M α := fun r => match m r with
  | .ok a r => .ok a r
  | _ => .bad
theorem noEx_ok {α : Type} {m : M α} {r r' : RS} {a : α} (h : noEx m r = .ok a r') : m r = .ok a r' := by
  unfold noEx at h
  split at h
  · rename_i e; rw [e, h]
  · cases h
def W0 : WX := fun _ _ _ _ => False
def compF (vs : List Nat) (h : T → Env → Option Env) (p : Env → M Bool) (f : Env → M T) : List T → List T → Env → M (List T)
  | [], acc, _ => pure acc
  | x :: xs, acc, env => match h x (wipeE env vs) with
    | none => M.bad
    | some env1 => noEx (p env1) >>= fun b => if b = true then noEx (f env1) >>= fun y => if acc.length < sizeLine then compF vs h p f xs (acc ++ [y]) env else M.bad else compF vs h p f xs acc env
def fComp (vs : List Nat) (h : T → Env → Option Env) (p : Env → M Bool) (f : Env → M T) (fi : Env → M (List T)) : Env → M (List T) := fun env => fi env >>= fun xs => compF vs h p f xs [] env
def fYes : Env → M Bool := fun _ => pure true
abbrev STs (X : Cx) (G : Gm) (ifs : List Expr) (p : Env → M Bool) : Prop := PTs X ifs (tSB G W0 p)
section
variable {X : Cx} {G : Gm} {W : WX} {pos : Pos} {f : Env → M T} {p : Env → M Bool} {env : Env} {r : RS} {w : Wd} {H0 H : Hp} {σ : L2.St}
theorem pts_imp {ifs : List Expr} {t t' : TT} (h : PTs X ifs t) (i : ∀ σ H Q, t' σ H Q → t σ H Q) : PTs X ifs t' := ⟨fun pins s σ H Q I q => h.run pins s σ H Q I (i σ H Q q)⟩
theorem ts_nil : STs X G [] fYes := pts_imp pts_nil fun σ H Q ⟨w, H0, env, r, g, s, h⟩ => OutP.here g h
theorem ts_one {c : Expr} (h : SB X G W0 c p) : STs X G [c] p := pts_one h
theorem seqI {α : Type} {fi : Env → M (List T)} {k : List T → M α} {P : α → RS → Wd → Hp → Prop} {R : It → Hp → Prop} (g : Good G w H r) (s : Slots G w H0 H σ env) (h : OutP G w H (WE0 W σ) P ((fi env >>= k) r))
    (n : ∀ xs r1 w1 H1 J, Good G w1 H1 r1 → Slots G w1 H0 H1 σ env → Step w H w1 H1 → ItOk G w1 J xs → OutP G w1 H1 (WE0 W σ) P (k xs r1) → R J H1) : tSI G W fi σ H R :=
  ⟨w, H0, env, r, g, s, h.bind.imp fun xs r1 w1 H1 st g1 q J it => n xs r1 w1 H1 J g1 (s.step st) st it q⟩
theorem noEx_use {α β : Type} {w' : Wd} {H' : Hp} {E E' : XK} {m : M α} {k : α → M β} {P : β → RS → Wd → Hp → Prop} (h : OutP G w H E P ((noEx m >>= k) r)) : OutP G w' H' E' (fun a r2 _ _ => OutP G w H E P (k a r2)) (m r) := by
  have e : (noEx m >>= k) r = M.bind (noEx m) k r := rfl
  rw [e] at h
  unfold M.bind noEx at h
  cases q : m r with
  | ok a r' => rw [q] at h; exact fun _ _ _ _ => h
  | exn c p r' => rw [q] at h; exact h.elim
  | bad => rw [q] at h; exact h.elim
theorem comp_use {us vs : List Nat} {h : T → Env → Option Env} {fi : Env → M (List T)} {Q : VK} (hu : ∀ j ∈ us, j ∈ vs) (hq : tSL G W (fComp vs h p f fi) σ H Q) : tLc (tSI G W fi) (tGx G us h) (tSB G W0 p) (tS G W0 f) vs σ H Q := by
  obtain ⟨w, H0, env, r, g, s, hq⟩ := hq
  refine seqI g s hq fun xs r1 w1 H1 J g1 s1 st1 it h1 => ?_
  intro D hD
  obtain ⟨Gd, Y, wk, hG, hY⟩ := it
  have hD0 : ¬ Vs H D := st1.before hD
  have stD : Step w1 H1 w1 (upd H1 D (.lst [])) := (Step.refl w1 H1).priv hD
  refine lc_it wk (fun i H' => ∃ w' r' acc vs', Step w1 H1 w' H' ∧ Good G w' H' r' ∧ w'.P D = none ∧ D ∉ w'.R ∧ H' D = some (.lst vs') ∧ Dens G w' vs' acc ∧ OutP G w1 H1 (WE0 W σ) (fun xs _ w' H' => ∀ p vs, ¬ Vs H p → w'.P p = none → p ∉ w'.R → H' p = some (.lst vs) → Dens G w' vs xs → xs.length ≤ sizeLine → Q (.ref p) H') (compF vs h p f (xs.drop i) acc env r') ∧ acc.length ≤ sizeLine)
    ⟨w1, r1, [], [], stD, g1.priv (g1.nopub hD) (g1.noref hD) (.inl hD), g1.nopub hD, g1.noref hD, upd_same, .nil, h1, Nat.zero_le _⟩
    (fun i H' _ ⟨w', r', _, _, st, g', _⟩ => hG w' H' r' st.later g') ?_ ?_
  · rintro i x H2 H3 hlt ⟨w', r', acc, us', st, g', hP, hR, hh, d, hc, hz⟩ y
    obtain ⟨t, w2, ht, st2, g2, dx⟩ := hY i H2 x H3 w' r' st.later g' hlt y
    have hP2 := st2.hid D hR (vs_of hh) hP
    have nr : ∀ {wa wb : Wd} {Ha Hb : Hp}, Step wa Ha wb Hb → D ∉ wa.R → Vs Ha D → D ∉ wb.R := fun {wa wb Ha Hb} s h1 h2 h3 => by
      obtain ⟨m, e, hm⟩ := s.refs
      rw [e] at h3
      rcases List.mem_append.mp h3 with z | z
      · exact h1 z
      · exact hm D z h2
    have hR2 := nr st2 hR (vs_of hh)
    have hh2 := st2.fr D _ hR hh (by intro _ e; cases e)
    have d2 := d.mono st2.later
    have s2 := ((s1.step st).step st2).wiped vs
    obtain ⟨Hb, aB, _⟩ := s2.rebase g2
    have ed : xs.drop i = t :: xs.drop (i + 1) := by
      rw [List.drop_eq_getElem_cons hlt]
      rw [List.getElem?_eq_getElem hlt] at ht
      cases ht
      rfl
    rw [ed] at hc
    unfold compF at hc
    cases q : h t (wipeE env vs) with
    | none => rw [q] at hc; exact hc.elim
    | some env1 =>
      rw [q] at hc
      refine ⟨w2, Hb, w2, _, r', t, env1, aB, dx, q, fun σ2 sl b => ⟨wipe_but b hu, ?_⟩⟩
      refine ⟨w2, Hb, env1, r', g2, sl, (noEx_use hc).imp fun b r3 w3 H4 st3 g3 hc => ?_⟩
      have hP3 := st3.hid D hR2 (vs_of hh2) hP2
      have hR3 := nr st3 hR2 (vs_of hh2)
      have hh3 := st3.fr D _ hR2 hh2 (by intro _ e; cases e)
      have d3 := d2.mono st3.later
      have stA := (st.trans st2).trans st3
      cases b with
      | false => exact ⟨w3, r3, acc, us', stA, g3, hP3, hR3, hh3, d3, hc, hz⟩
      | true =>
        have hc : OutP G w1 H1 (WE0 W σ) (fun xs _ w' H' => ∀ p vs, ¬ Vs H p → w'.P p = none → p ∉ w'.R → H' p = some (.lst vs) → Dens G w' vs xs → xs.length ≤ sizeLine → Q (.ref p) H') ((noEx (f env1) >>= fun y => if acc.length < sizeLine then compF vs h p f (xs.drop (i + 1)) (acc ++ [y]) env else M.bad) r3) := hc
        refine ⟨w3, Hb, env1, r3, g3, sl.step st3, (noEx_use hc).imp fun y r4 w4 H5 st4 g4 hc v dv => ?_⟩
        have hP4 := st4.hid D hR3 (vs_of hh3) hP3
        have hR4 := nr st4 hR3 (vs_of hh3)
        have hh4 := st4.fr D _ hR3 hh3 (by intro _ e; cases e)
        have d4 := d3.mono st4.later
        have stB := stA.trans st4
        by_cases hl : acc.length < sizeLine
        · rw [if_pos hl] at hc
          exact ⟨us', hh4, by rw [d4.length]; exact hl, w4, r4, acc ++ [y], us' ++ [v], stB.chg (nvs hD), g4.priv hP4 hR4 (.inr ⟨_, hh4, ⟨fun _ e => (by cases e), fun _ e => (by cases e)⟩⟩), hP4, hR4, upd_same, d4.append (.cons dv .nil), hc, by rw [List.length_append, List.length_singleton]; exact hl⟩
        · rw [if_neg hl] at hc
          exact hc.elim
  · rintro H2 ⟨w', r', acc, us', st, g', hP, hR, hh, d, hc, hz⟩
    rw [List.drop_length] at hc
    exact hc w' H2 st g' D us' hD0 hP hR hh d hz
variable {elt tg iter : Expr} {ifs : List Expr} {scope : Scope} {own : List (Str × Nat)} {us : List Nat} {h : T → Env → Option Env} {fi : Env → M (List T)}
theorem l_comp (hc : X.calm = true) (hN : X.N.Nodup) (hi : SI X G W tg iter fi) (ok : BlkOk X.N X.env.scope scope own) (hu : ∀ j ∈ us, j ∈ own.map (·.2))
    (hg : ∀ (s : Shared) (H : Hp) (C : Addr) (cl : List (Str × Addr)) (fp : List Addr), SG (X.blk s H scope (compEnvC scope cl C X.env) fp) G us tg h) (ht : ∀ (s : Shared) (H : Hp) (C : Addr) (cl : List (Str × Addr)) (fp : List Addr), STs (X.blk s H scope (compEnvC scope cl C X.env) fp) G ifs p)
    (he : ∀ (s : Shared) (H : Hp) (C : Addr) (cl : List (Str × Addr)) (fp : List Addr), SE (X.blk s H scope (compEnvC scope cl C X.env) fp) G W0 elt f) (hs : ∀ x, foldedSetIterable iter X.env x = pure x := by intro _; rfl) : SL X G W (.ListComp elt [⟨tg, iter, ifs, 0⟩] scope pos) (fComp (own.map (·.2)) h p f fi) :=
  pe_imp (pe_lc hc hN hi ok (fun s H C cl fp => pg_x (hg s H C cl fp)) ht he hs) fun σ H Q q => comp_use hu q
theorem ss_comp {i : Nat} {y : Str} {py spos : Pos} (hc : X.calm = true) (hN : X.N.Nodup) (hy : X.N[i]? = some y) (hyl : X.env.scope.names.lookup y = some .local)
    (hsw : swapsWith (.ListComp elt [⟨tg, iter, ifs, 0⟩] scope pos) (some (.Name y py)) spos.line X.env = pure true) (hi : SI X G W tg iter fi) (ok : BlkOk X.N X.env.scope scope own) (hu : ∀ j ∈ us, j ∈ own.map (·.2))
    (hg : ∀ (s : Shared) (H : Hp) (C : Addr) (cl : List (Str × Addr)) (fp : List Addr), SG (X.blk s H scope (compEnvC scope cl C X.env) fp) G us tg h) (ht : ∀ (s : Shared) (H : Hp) (C : Addr) (cl : List (Str × Addr)) (fp : List Addr), STs (X.blk s H scope (compEnvC scope cl C X.env) fp) G ifs p)
    (he : ∀ (s : Shared) (H : Hp) (C : Addr) (cl : List (Str × Addr)) (fp : List Addr), SE (X.blk s H scope (compEnvC scope cl C X.env) fp) G W0 elt f) (hs : ∀ x, foldedSetIterable iter X.env x = pure x := by intro _; rfl) : SS X G W (.Assign [.Name y py] (.ListComp elt [⟨tg, iter, ifs, 0⟩] scope pos) spos) (qOwn i (fComp (own.map (·.2)) h p f fi)) := fun w0 H0 =>
  ps_imp (ps_setLc hc hN hy hyl hsw hi ok (fun s H C cl fp => pg_x (hg s H C cl fp)) ht he hs) fun D σ H ⟨w, env, r, a, q⟩ => comp_use hu (at_own a q)
theorem ss_compV {i : Nat} {y : Str} {py spos : Pos} (hc : X.calm = true) (hN : X.N.Nodup) (hy : X.N[i]? = some y) (hyl : X.env.scope.names.lookup y = some .local)
    (hsw : swapsWith (.ListComp elt [⟨tg, iter, ifs, 0⟩] scope pos) (some (.Name y py)) spos.line X.env = pure true) (hi : SI X G W tg iter fi) (ok : BlkOk X.N X.env.scope scope own) (hu : ∀ j ∈ us, j ∈ own.map (·.2))
    (hg : ∀ (s : Shared) (H : Hp) (C : Addr) (cl : List (Str × Addr)) (fp : List Addr), SG (X.blk s H scope (compEnvC scope cl C X.env) fp) G us tg h) (ht : ∀ (s : Shared) (H : Hp) (C : Addr) (cl : List (Str × Addr)) (fp : List Addr), STs (X.blk s H scope (compEnvC scope cl C X.env) fp) G ifs p)
    (he : ∀ (s : Shared) (H : Hp) (C : Addr) (cl : List (Str × Addr)) (fp : List Addr), SE (X.blk s H scope (compEnvC scope cl C X.env) fp) G W0 elt f) (hs : ∀ x, foldedSetIterable iter X.env x = pure x := by intro _; rfl) : SS X G W (.Assign [.Name y py] (.ListComp elt [⟨tg, iter, ifs, 0⟩] scope pos) spos) (qSet i (fOwn (fComp (own.map (·.2)) h p f fi))) := fun w0 H0 =>
  ps_imp (ps_setLc hc hN hy hyl hsw hi ok (fun s H C cl fp => pg_x (hg s H C cl fp)) ht he hs) fun D σ H ⟨w, env, r, a, q⟩ => comp_use hu (own_read (at_e a q fun t r1 w1 H1 v a1 d h1 => h1 w1 H1 _ a1.st a1.g (a1.s.setVal i d)))
end
end Ep
namespace Ep
open PySem PySem.Spec L2
open PyProof.Rows (envOfC)
/-! ### defs -/
def WD (E : XK) : WX := fun cls d _ H => E cls d H
def envOf (m : Nat) (ts : List T) : Env := ts.map .val ++ List.replicate m .un
/-- what a def computes: m slots beyond its parameters -/
def fnS (m : Nat) (g : Sm) : List T → M T := fun ts r => match g (envOf m ts) r with
  | .nx _ r => .ok .non r
  | .rt t r => .ok t r
  | .exn c p _ r => .exn c p r
  | _ => .bad
def insOf : Option Slot → Option (Nat × List T)
  | some (.pv (.ins D fs)) => some (D, fs)
  | _ => none
def fnI (G : Gm) (C m : Nat) (g : Sm) : List T → M (List T) := fun ts r => match g (.ins C [] :: envOf m ts) r with
  | .nx env r => match insOf env[0]? with
    | some (D, fs) => if D = C ∧ fs.length = (G.fl C).length then .ok fs r else .bad
    | none => .bad
  | .exn c p _ r => .exn c p r
  | _ => .bad
/-- another instance in the making -/
def Wd.re (w : Wd) (b : Addr) : Wd := ⟨w.P, w.R, { w.fx with me := b }⟩
theorem Later.re (w : Wd) (b : Addr) : Later w (w.re b) := ⟨Same.refl _, [], by simp [Wd.re]⟩
theorem Later.er (w : Wd) (b : Addr) : Later (w.re b) w := ⟨Same.refl _, [], by simp [Wd.re]⟩
theorem Step.re {w w' : Wd} {H H' : Hp} {b : Addr} (s : Step (w.re b) H w' H') : Step w H (w'.re w.fx.me) H' := ⟨s.pub, s.fr, s.keep, s.hid, s.refs, by show { w'.fx with me := w.fx.me } = w.fx; rw [s.me]; rfl⟩
theorem Good.re {G : Gm} {w : Wd} {H : Hp} {r : RS} (g : Good G w H r) (b : Addr) : Good G (w.re b) H r := ⟨g.sub, ⟨g.refs.nd, g.refs.len, g.refs.out, fun k xs hk => by
  obtain ⟨a, vs, h1, h2, h3, h4⟩ := g.refs.at_ k xs hk
  exact ⟨a, vs, h1, h2, h3.mono (Later.re w b), h4⟩⟩, g.tabs, g.nt⟩
theorem ExcIs.re {G : Gm} {w : Wd} {H : Hp} {c : Nat} {p : T} {cls : Value} {d : Option Addr} (x : ExcIs G w H c p cls d) (b : Addr) : ExcIs G (w.re b) H c p cls d := by
  obtain ⟨cA, dd, v, f, h1, h2, h3, h4, h5, h6⟩ := x.ex
  exact ⟨cA, dd, v, f, h1, h2, h3, h4, h5, h6.mono (Later.re w b)⟩
/-- a body's context -/
abbrev cxB (P : Program) (wd : World) (G : Gm) (base : Heap) (N : List Str) (qual : Str) (st : Stmt) (f : Addr) (cdv : Value) (A : Around) (outer : List PySem.Env) (s : Shared) (H : Hp) (E : XK) : Cx := cxOf (L2.CX P wd) P wd G.K G.mg base N qual (defScope st) f cdv A outer s H E
section
variable {P : Program} {wd : World} {base : Heap} {G : Gm} {k : Nat} {x qual : Str} {st : Stmt} {f : Addr} {fd : FuncData} {N ps : List Str} {n m : Nat} {g : Sm} {dv : List V} {kw : List (Str × V)}
theorem start_slots {w : Wd} {H : Hp} {vs : List V} {ts : List T} (d : Dens G w vs ts) (m : Nat) (hN : N.length - vs.length = m) : Slots G w H H (L2.start N vs) (envOf m ts) := by
  have np : ∀ (i : Nat) (s : Slot), (envOf m ts)[i]? = some s → s = .un ∨ ∃ t, s = .val t ∧ ts[i]? = some t := fun i s hi => by
    unfold envOf at hi
    by_cases hl : i < ts.length
    · rw [List.getElem?_append_left (by simpa using hl)] at hi
      rw [List.getElem?_map] at hi
      cases q : ts[i]? with
      | none => rw [q] at hi; cases hi
      | some t => rw [q] at hi; cases hi; exact .inr ⟨t, rfl, rfl⟩
    · rw [List.getElem?_append_right (by simpa using Nat.le_of_not_lt hl)] at hi
      exact .inl (List.eq_of_mem_replicate (List.mem_of_getElem? hi))
  refine ⟨by simp [L2.start, envOf, d.length, ← hN], fun _ => 0, fun i s hi => ?_, fun i j s u hi hj pi pj _ => ?_⟩
  · rcases np i s hi with e | ⟨t, e, ht⟩
    · subst e; trivial
    · subst e
      obtain ⟨v, hv, dv⟩ := d.get ht
      refine ⟨v, ?_, dv⟩
      unfold L2.start
      rw [List.getElem?_append_left (by rw [List.length_map]; exact (List.getElem?_eq_some_iff.mp hv).1), List.getElem?_map, hv]
      rfl
  · rcases np i s hi with e | ⟨t, e, ht⟩ <;> (subst e; cases pi)
theorem fn_run (F : FunD G.K x qual (defArgs st) (defBody st) (defScope st) dv kw f fd) (S : FnScope N ps (defScope st)) (hps : ps.length = n) (hm : N.length - n = m)
    (hb : ∀ cdv A outer s H E, Room k (A.deeper (envOfC qual (defScope st) s.heap.objs.size f cdv)) → SSs (cxB P wd G base N qual st f cdv A outer s H E) G (WD E) (defBody st) g) :
    FnOk P wd G.K G.mg base (L2.CX P wd) (k + 1) f fd ps (spF G n (fnS m g)) := by
  refine F.ok (CX := L2.CX P wd) S (spF_len hps) fun cdv A outer s H vs Q E hr ⟨w, r, ts, gd, d, l, h⟩ => ?_
  refine ⟨_, hb cdv A outer s H E hr w H, w, _, r, ⟨Step.refl _ _, gd, start_slots d m (by rw [d.length, l]; exact hm)⟩, ?_⟩
  have h : OutP G w H E (fun t _ w' H' => ∀ v, Den G w' v t → Q v H') (fnS m g ts r) := h
  unfold fnS at h
  cases o : g (envOf m ts) r with
  | nx env' r' => rw [o] at h; exact fun w' H' σ' st g' _ => h w' H' st g' _ .non
  | rt t r' => rw [o] at h; exact fun w' H' v st g' dv => h w' H' st g' v dv
  | bk e r' => rw [o] at h; exact h.elim
  | ct e r' => rw [o] at h; exact h.elim
  | exn c p e r' => rw [o] at h; exact fun w' H' σ' cls dd st g' _ x => h w' H' cls dd st g' x
  | bad => rw [o] at h; exact h.elim
theorem def_ok {ds : List T} {dvs : List V} {dus : List Value} (F : FunD G.K x qual (defArgs st) (defBody st) (defScope st) dv kw f fd) (S : FnScope N ps (defScope st)) (hps : ps.length = n) (hm : N.length - n = m) (hg : G.mg x = some (.ref f)) (hB : Binds G.K fd ps dus) (hv : Vals dvs dus) (hd : ∀ w, Dens G w dvs ds)
    (hb : ∀ cdv A outer s H E, Room k (A.deeper (envOfC qual (defScope st) s.heap.objs.size f cdv)) → SSs (cxB P wd G base N qual st f cdv A outer s H E) G (WD E) (defBody st) g) : DefOk P wd base G (k + 1) x n ds (fnS m g) :=
  ⟨f, fd, ps, dvs, dus, fn_run F S hps hm hb, hg, F.kp, hB, hv, hd⟩
theorem meth_ok {C : Nat} {cA : Addr} {ds : List T} {dvs : List V} {dus : List Value} (F : FunD G.K x qual (defArgs st) (defBody st) (defScope st) dv kw f fd) (S : FnScope N ps (defScope st)) (hps : ps.length = n) (hm : N.length - n = m) (hc : G.mg (G.cn C) = some (.ref cA)) (hC : Cls G.K cA) (hM : Meth G.K cA x f) (hB : Binds G.K fd ps dus) (hv : Vals dvs dus) (hd : ∀ w, Dens G w dvs ds) (nof : x ∉ G.fl C)
    (hb : ∀ cdv A outer s H E, Room k (A.deeper (envOfC qual (defScope st) s.heap.objs.size f cdv)) → SSs (cxB P wd G base N qual st f cdv A outer s H E) G (WD E) (defBody st) g) : MethOk P wd base G (k + 1) C x n ds (fnS m g) :=
  ⟨⟨cA, f, fd, ps, dvs, dus, hc, hC, hM, fn_run F S hps hm hb, hB, hv, hd⟩, nof⟩
theorem make_run {C : Nat} (F : FunD G.K x qual (defArgs st) (defBody st) (defScope st) dv kw f fd) (S : FnScope N ps (defScope st)) (hps : ps.length = n + 1) (hm : N.length - (n + 1) = m)
    (hb : ∀ cdv A outer s H E, Room k (A.deeper (envOfC qual (defScope st) s.heap.objs.size f cdv)) → SSs (cxB P wd G base N qual st f cdv A outer s H E) G (WD E) (defBody st) g) :
    FnOk P wd G.K G.mg base (L2.CX P wd) (k + 1) f fd ps (spI G C n (fnI G C m g)) := by
  refine F.ok (CX := L2.CX P wd) S (spI_len hps) fun cdv A outer s H vs Q E hr ⟨w, r, ts, xx, rest, cA, dx, H1, ev, c, hx, hdx, ne, eH, gd, d, l, h⟩ => ?_
  subst ev
  subst eH
  have hdx' : (upd H1 dx (.own xx)) xx = none := by rw [upd_ne (Ne.symm ne)]; exact hx
  have st1 : Step (w.re xx) H1 (w.re xx) (upd (upd H1 dx (.own xx)) xx (.ins cA dx [])) := ((Step.refl (w.re xx) H1).priv hdx).priv hdx'
  have g1 : Good G (w.re xx) (upd (upd H1 dx (.own xx)) xx (.ins cA dx [])) r := ((gd.re xx).priv (gd.nopub hdx) (gd.noref hdx) (.inl hdx)).priv (gd.nopub hx) (gd.noref hx) (.inl hdx')
  have sl : Slots G (w.re xx) H1 (upd (upd H1 dx (.own xx)) xx (.ins cA dx [])) (L2.start N (.ref xx :: rest)) (.ins C [] :: envOf m ts) := by
    have s0 : Slots G (w.re xx) H1 H1 (rest.map some ++ List.replicate (N.length - (rest.length + 1)) none) (envOf m ts) := by
      have := start_slots (N := N.drop 1) (H := H1) (d.mono (Later.re w xx)) m (by rw [List.length_drop, d.length, l]; omega)
      unfold L2.start at this
      rw [List.length_drop, show N.length - 1 - rest.length = N.length - (rest.length + 1) by omega] at this
      exact this
    obtain ⟨oa, k1, k2⟩ := s0.ex
    have nv : ∀ (j : Nat) (u : Slot), (envOf m ts)[j]? = some u → u.priv = false := fun j u hj => by
      unfold envOf at hj
      rcases List.mem_append.mp (List.mem_of_getElem? hj) with z | z
      · obtain ⟨t, _, rfl⟩ := List.mem_map.mp z; rfl
      · rw [List.eq_of_mem_replicate z]; rfl
    refine ⟨by have := s0.len; simp [L2.start] at this ⊢; omega, fun _ => xx, fun i u hi => ?_, fun i j u u' hi hj pi pj _ => ?_⟩
    · cases i with
      | zero =>
        cases hi
        exact ⟨rfl, gd.nopub hx, gd.noref hx, nvs hx, .ins cA dx [], upd_same, .ins (vs := []) rfl c (Nat.zero_le _) .nil⟩
      | succ i =>
        have hi : (envOf m ts)[i]? = some u := by simpa using hi
        have := k1 i u hi
        have np := nv i u hi
        cases u with
        | un => trivial
        | val t =>
          obtain ⟨v, e1, d1⟩ := this
          exact ⟨v, by simpa [L2.start] using e1, d1⟩
        | pv q => cases np
    · cases i with
      | zero =>
        cases j with
        | zero => rfl
        | succ j => rw [nv j u' (by simpa using hj)] at pj; cases pj
      | succ i => rw [nv i u (by simpa using hi)] at pi; cases pi
  refine ⟨_, hb cdv A outer s _ E hr (w.re xx) H1, w.re xx, _, r, ⟨st1, g1, sl⟩, ?_⟩
  unfold fnI at h
  cases o : g (.ins C [] :: envOf m ts) r with
  | nx env' r' =>
    rw [o] at h
    intro w' H' σ' st g' s'
    simp only at h
    cases q : env'[0]? with
    | none => rw [q] at h; exact h.elim
    | some u =>
      rw [q] at h
      cases u with
      | un => exact h.elim
      | val _ => exact h.elim
      | pv o =>
        cases o with
        | ins D fs =>
          have h : OutP G w H1 E (fun fs _ w' H' => ∀ us dx', H' xx = some (.ins cA dx' ((G.fl C).zip us)) → us.length = (G.fl C).length → Dens G w' us fs → w'.P xx = none → xx ∉ w'.R → Q .non H') (if D = C ∧ fs.length = (G.fl C).length then .ok fs r' else .bad) := h
          by_cases hC : D = C ∧ fs.length = (G.fl C).length
          · rw [if_pos hC] at h
            obtain ⟨e1, e2⟩ := hC
            subst e1
            have g2 := g'.re w.fx.me
            obtain ⟨oa, k1, k2⟩ := s'.ex
            obtain ⟨b1, b2, b3, b4, o, b5, b6⟩ := k1 0 _ q
            cases b6 with
            | @ins _ cA' dx' vs _ hm c' l' d' =>
              have ea : oa 0 = xx := hm.trans (by rw [st.me]; rfl)
              rw [ea] at b2 b3 b5
              have ez : (G.fl D).take fs.length = G.fl D := by rw [e2, List.take_length]
              rw [ez] at b5
              rw [c] at c'
              cases c'
              exact h (w'.re w.fx.me) H' st.re g2 vs dx' b5 (by rw [d'.length]; exact e2) (d'.mono (Later.re w' w.fx.me)) b2 b3
          · rw [if_neg hC] at h; exact h.elim
        | _ => exact h.elim
  | rt t r' => rw [o] at h; exact h.elim
  | bk e r' => rw [o] at h; exact h.elim
  | ct e r' => rw [o] at h; exact h.elim
  | exn c p e r' => rw [o] at h; exact fun w' H' σ' cls dd st g' _ x => h _ H' cls dd st.re (g'.re _) (x.re _)
  | bad => rw [o] at h; exact h.elim
theorem make_ok {C : Nat} {cA : Addr} {ds : List T} {dvs : List V} {dus : List Value} (F : FunD G.K x qual (defArgs st) (defBody st) (defScope st) dv kw f fd) (S : FnScope N ps (defScope st)) (hps : ps.length = n + 1) (hm : N.length - (n + 1) = m) (hc : G.mg (G.cn C) = some (.ref cA)) (hM : Mk G.K cA f) (hB : Binds G.K fd ps dus) (hv : Vals dvs dus) (hd : ∀ w, Dens G w dvs ds)
    (hb : ∀ cdv A outer s H E, Room k (A.deeper (envOfC qual (defScope st) s.heap.objs.size f cdv)) → SSs (cxB P wd G base N qual st f cdv A outer s H E) G (WD E) (defBody st) g) : MakeOk P wd base G (k + 1) C n ds (fnI G C m g) :=
  ⟨cA, f, fd, ps, dvs, dus, hc, hM, make_run F S hps hm hb, hB, hv, hd⟩
end
end Ep
namespace Ep
open PySem PySem.Spec L2
/-! ### dicts as two lists -/
section
variable {κ α : Type} [DecidableEq κ]
def gK : List κ → List α → κ → Option α
  | k' :: ks, t :: ts, k => if k' = k then some t else gK ks ts k
  | _, _, _ => none
def repK : List κ → List α → κ → α → List α
  | k' :: ks, t' :: ts, k, t => (if k' = k then t else t') :: repK ks ts k t
  | _, ts, _, _ => ts
def hasK (ks : List κ) (k : κ) : Bool := ks.any fun k' => decide (k' = k)
def putKs (ks : List κ) (k : κ) : List κ := if hasK ks k = true then ks else ks ++ [k]
def putVs (ks : List κ) (ts : List α) (k : κ) (t : α) : List α := if hasK ks k = true then repK ks ts k t else ts ++ [t]
theorem valV_gK (k : κ) : ∀ (ks : List κ) (vs : List V), valV (ks.zip vs) k = gK ks vs k
  | [], _ => rfl
  | _ :: _, [] => rfl
  | k' :: ks, v :: vs => by
    rw [List.zip_cons_cons]
    unfold gK
    by_cases e : k' = k
    · rw [if_pos e, valV_pos e]
    · rw [if_neg e, valV_neg e, valV_gK k ks vs]
theorem repK_len (k : κ) (t : α) : ∀ (ks : List κ) (ts : List α), (repK ks ts k t).length = ts.length
  | [], _ => rfl
  | _ :: _, [] => rfl
  | k' :: ks, t' :: ts => by simp [repK, repK_len k t ks ts]
theorem zip_map (k : κ) (v : V) : ∀ (ks : List κ) (vs : List V), ((ks.zip vs).map fun kv => if kv.1 = k then (kv.1, v) else kv) = ks.zip (repK ks vs k v)
  | [], _ => by simp
  | _ :: _, [] => by simp [repK]
  | k' :: ks, v' :: vs => by
    rw [List.zip_cons_cons, List.map_cons, zip_map k v ks vs]
    show _ = (k' :: ks).zip ((if k' = k then v else v') :: repK ks vs k v)
    rw [List.zip_cons_cons]
    by_cases e : k' = k
    · simp [e]
    · simp [e]
theorem any_zip (k : κ) : ∀ (ks : List κ) (vs : List V), ks.length = vs.length → ((ks.zip vs).any fun kv => decide (kv.1 = k)) = hasK ks k
  | [], _, _ => rfl
  | _ :: _, [], e => by cases e
  | k' :: ks, v' :: vs, e => by
    rw [List.zip_cons_cons]
    simp only [List.any_cons, hasK]
    rw [any_zip k ks vs (by simpa using e)]
    rfl
theorem putK_zip (k : κ) (v : V) {ks : List κ} {vs : List V} (l : ks.length = vs.length) : putK (ks.zip vs) k v = (putKs ks k).zip (putVs ks vs k v) := by
  unfold putK putKs putVs
  rw [any_zip k ks vs l]
  cases e : hasK ks k with
  | true => simp only [if_true]; exact zip_map k v ks vs
  | false =>
    simp only [Bool.false_eq_true, if_false]
    rw [List.zip_append l]
    rfl
theorem putKV_len (k : κ) (t : α) {ks : List κ} {ts : List α} (l : ks.length = ts.length) : (putKs ks k).length = (putVs ks ts k t).length := by
  unfold putKs putVs
  split
  · rw [repK_len]; exact l
  · simp [l]
theorem putKs_len (k : κ) (ks : List κ) : (putKs ks k).length ≤ ks.length + 1 := by
  unfold putKs
  split <;> simp
end
theorem Dens.gK {κ : Type} [DecidableEq κ] {G : Gm} {w : Wd} {k : κ} : ∀ {ks : List κ} {vs : List V} {ts : List T} {t : T}, Dens G w vs ts → Ep.gK ks ts k = some t → ∃ v, Ep.gK ks vs k = some v ∧ Den G w v t
  | [], _, _, _, _, e => by cases e
  | _ :: _, _, _, _, .nil, e => by cases e
  | k' :: ks, _, _, t, .cons h r, e => by
    unfold Ep.gK at e ⊢
    by_cases q : k' = k
    · rw [if_pos q] at e ⊢
      cases e
      exact ⟨_, rfl, h⟩
    · rw [if_neg q] at e ⊢
      exact Dens.gK r e
theorem Dens.gKn {κ : Type} [DecidableEq κ] {G : Gm} {w : Wd} {k : κ} : ∀ {ks : List κ} {vs : List V} {ts : List T}, Dens G w vs ts → Ep.gK ks ts k = none → Ep.gK ks vs k = none
  | [], _, _, _, e => rfl
  | _ :: _, _, _, .nil, e => rfl
  | k' :: ks, _, _, .cons h r, e => by
    unfold Ep.gK at e ⊢
    by_cases q : k' = k
    · rw [if_pos q] at e; cases e
    · rw [if_neg q] at e ⊢
      exact Dens.gKn r e
theorem Dens.rep {κ : Type} [DecidableEq κ] {G : Gm} {w : Wd} {k : κ} {v : V} {t : T} (d : Den G w v t) : ∀ {ks : List κ} {vs : List V} {ts : List T}, Dens G w vs ts → Dens G w (repK ks vs k v) (repK ks ts k t)
  | [], _, _, h => h
  | _ :: _, _, _, .nil => .nil
  | k' :: ks, _, _, .cons h r => by
    unfold repK
    by_cases q : k' = k
    · rw [if_pos q, if_pos q]; exact .cons d (Dens.rep d r)
    · rw [if_neg q, if_neg q]; exact .cons h (Dens.rep d r)
theorem Dens.put {κ : Type} [DecidableEq κ] {G : Gm} {w : Wd} {k : κ} {v : V} {t : T} (d : Den G w v t) {ks : List κ} {vs : List V} {ts : List T} (h : Dens G w vs ts) : Dens G w (putVs ks vs k v) (putVs ks ts k t) := by
  unfold putVs
  split
  · exact h.rep d
  · exact h.append (.cons d .nil)
def keyT : T → Option Key
  | .int i => some (.inl i)
  | .str x => some (.inr x)
  | _ => none
theorem key_of' {G : Gm} {w : Wd} {v : V} {t : T} {k : Key} (d : Den G w v t) (e : keyT t = some k) : v = kV k := by
  cases d <;> first | (cases e; rfl) | cases e
def keysT : List T → Option (List Key)
  | [] => some []
  | t :: ts => (keyT t).bind fun k => (keysT ts).map fun ks => k :: ks
theorem keys_of {G : Gm} {w : Wd} : ∀ {vs : List V} {ts : List T} {ks : List Key}, Dens G w vs ts → keysT ts = some ks → vs = ks.map kV
  | _, _, _, .nil, e => by cases e; rfl
  | _, _, ks, .cons (t := t) (ts := ts) h r, e => by
    unfold keysT at e
    cases q : keyT t with
    | none => rw [q] at e; cases e
    | some k =>
      rw [q] at e
      cases q2 : keysT ts with
      | none => simp [q2] at e
      | some ks' =>
        simp [q2] at e
        subst e
        rw [List.map_cons, key_of' h q, keys_of r q2]
/-! ### a dict to be looked into -/
/-- ks at ts: the dict at v, its keys, its values; of either kind of keys -/
inductive DenD (G : Gm) (w : Wd) (H : Hp) : V → T → Prop
  | k {a : Addr} {ks : List Key} {vs : List V} {ts : List T} (h : H a = some (.dK (ks.zip vs))) (n : a ∉ w.R) (l : ks.length = ts.length) (d : Dens G w vs ts) : DenD G w H (.ref a) (.dct ks ts)
  | t {a : Addr} {ks : List (List Key)} {vs : List V} {ts : List T} (h : H a = some (.dT (ks.zip vs))) (n : a ∉ w.R) (l : ks.length = ts.length) (d : Dens G w vs ts) : DenD G w H (.ref a) (.dtt ks ts)
section
variable {X : Cx} {G : Gm} {W : WX} {pos : Pos} {a b e ix : Expr} {f g : Env → M T} {w w' : Wd} {H H' H0 : Hp} {r : RS} {σ : L2.St} {env : Env} {v : V} {t : T}
theorem Step.noR {a : Addr} (s : Step w H w' H') (h1 : a ∉ w.R) (h2 : Vs H a) : a ∉ w'.R := fun h3 => by
  obtain ⟨m, e, hm⟩ := s.refs
  rw [e] at h3
  rcases List.mem_append.mp h3 with z | z
  · exact h1 z
  · exact hm a z h2
theorem DenD.step (d : DenD G w H v t) (s : Step w H w' H') : DenD G w' H' v t := by
  cases d with
  | k h n l d => exact .k (s.fr _ _ n h (by intro _ e; cases e)) (s.noR n (vs_of h)) l (d.mono s.later)
  | t h n l d => exact .t (s.fr _ _ n h (by intro _ e; cases e)) (s.noR n (vs_of h)) l (d.mono s.later)
theorem DenD.of (g : Good G w H r) (d : Den G w v t) : (∃ ks ts, t = .dct ks ts) ∨ (∃ ks ts, t = .dtt ks ts) → DenD G w H v t := fun h => by
  have nr : ∀ {a : Addr} {o : HO}, w.P a = some o → a ∉ w.R := fun {a o} h hm => by rw [g.refs.out a hm] at h; cases h
  cases d with
  | dct q l d => exact .k (g.sub _ _ q) (nr q) l d
  | dtt q l d => exact .t (g.sub _ _ q) (nr q) l d
  | _ => rcases h with ⟨_, _, e⟩ | ⟨_, _, e⟩ <;> cases e
def isD : T → Bool
  | .dct _ _ => true
  | .dtt _ _ => true
  | _ => false
def tSD (G : Gm) (W : WX) (f : Env → M T) : TE := fun σ H Q => ∃ w H0 env r, Good G w H r ∧ Slots G w H0 H σ env ∧ OutP G w H (WE0 W σ) (fun t _ w' H' => ∀ v, DenD G w' H' v t → Q v H') (f env r)
abbrev SD (X : Cx) (G : Gm) (W : WX) (e : Expr) (f : Env → M T) : Prop := PE X e (tSD G W f)
def fD (f : Env → M T) : Env → M T := fun env => f env >>= fun t => if isD t = true then pure t else M.bad
theorem d_of (h : SE X G W a f) : SD X G W a (fD f) := pe_imp h fun σ H Q ⟨w, H0, env, r, g, s, h⟩ => by
  refine seqE g s h fun t r1 w1 H1 v g1 s1 st1 d1 h1 => ?_
  cases q : isD t with
  | false => rw [if_neg (by rw [q]; simp)] at h1; exact h1.elim
  | true =>
    rw [if_pos q] at h1
    refine OutP.here g1 h1 v (DenD.of g1 d1 ?_)
    cases t <;> first | exact .inl ⟨_, _, rfl⟩ | exact .inr ⟨_, _, rfl⟩ | cases q
def fBorD (i : Nat) : Env → M T := fun env => match env[i]? with
  | some (.val t) => if isD t = true then pure t else M.bad
  | some (.pv (.dk ks ts)) => pure (.dct ks ts)
  | some (.pv (.dt ks ts)) => pure (.dtt ks ts)
  | _ => M.bad
theorem d_var {x : Str} (i : Nat) (hN : X.N[i]? = some x) (hv : Vis X.env.scope x) (hd : (x == ("__debug__" : Str)) = false := by decide) (hcd : (x == ("__classdict__" : Str)) = false := by decide) : SD X G W (.Name x pos) (fBorD i) :=
  pe_imp (pe_var hN hv hd hcd) fun σ H Q ⟨w, H0, env, r, g, s, h⟩ => by
    unfold fBorD at h
    cases e : env[i]? with
    | none => rw [e] at h; exact h.elim
    | some sl =>
      rw [e] at h
      obtain ⟨oa, hs, _⟩ := s.ex
      cases sl with
      | un => exact h.elim
      | val t =>
        obtain ⟨v, e1, d⟩ := hs i _ e
        simp only at h
        cases q : isD t with
        | false => rw [if_neg (by rw [q]; simp)] at h; exact h.elim
        | true =>
          rw [if_pos q] at h
          refine ⟨v, e1, OutP.here g h v (DenD.of g d ?_)⟩
          cases t <;> first | exact .inl ⟨_, _, rfl⟩ | exact .inr ⟨_, _, rfl⟩ | cases q
      | pv p =>
        obtain ⟨e1, h2, h3, h4, o, h5, h6⟩ := hs i _ e
        cases h6 with
        | lst _ _ => exact h.elim
        | ins _ _ _ _ => exact h.elim
        | dk l z d => exact ⟨_, e1, OutP.here g h _ (.k h5 h3 l d)⟩
        | dt l z d => exact ⟨_, e1, OutP.here g h _ (.t h5 h3 l d)⟩
theorem seqD {α : Type} {k : T → M α} {P : α → RS → Wd → Hp → Prop} {Q : VK} (g : Good G w H r) (s : Slots G w H0 H σ env) (h : OutP G w H (WE0 W σ) P ((f env >>= k) r))
    (n : ∀ t r1 w1 H1 v, Good G w1 H1 r1 → Slots G w1 H0 H1 σ env → Step w H w1 H1 → DenD G w1 H1 v t → OutP G w1 H1 (WE0 W σ) P (k t r1) → Q v H1) : tSD G W f σ H Q :=
  ⟨w, H0, env, r, g, s, h.bind.imp fun t r1 w1 H1 st g1 q v d => n t r1 w1 H1 v g1 (s.step st) st d q⟩
/-- what a dict holds at a key; the outer none: no key of its kind -/
def lookT (d i : T) : Option (Option T) := match d with
  | .dct ks ts => (keyT i).map fun k => gK ks ts k
  | _ => none
theorem look_of {d i : T} {o : Option T} {y : V} (hd : DenD G w H v d) (hi : Den G w y i) (e : lookT d i = some o) : ∃ a, v = .ref a ∧ ∃ u, DGet H a y u ∧ (∀ t, o = some t → ∃ x, u = some x ∧ Den G w x t) ∧ (o = none → u = none) := by
  cases hd with
  | @k a ks vs ts h n l d =>
    cases q : keyT i with
    | none => simp [lookT, q] at e
    | some k =>
      simp [lookT, q] at e
      subst e
      rw [key_of' hi q]
      refine ⟨a, rfl, _, DGet.k h, fun t ht => ?_, fun hn => ?_⟩
      · rw [valV_gK]; exact d.gK ht
      · rw [valV_gK]; exact d.gKn hn
  | t h n l d => cases e
def fDget (f g : Env → M T) : Env → M T := fun env => f env >>= fun d => g env >>= fun i => M.lift ((lookT d i).bind id)
theorem s_dget (hu : X.A.units + 1 < cLine) (ha : SD X G W a f) (hi : SE X G W ix g) (hs : NoSl ix) : SE X G W (.Subscript a ix pos) (fDget f g) :=
  pe_imp (pe_dget hu ha hi hs) fun σ H Q ⟨w, H0, env, r, g0, s, h0⟩ => by
    refine seqD g0 s h0 fun d r1 w1 H1 x g1 s1 st1 d1 h1 => ?_
    refine seqE g1 s1 h1 fun i r2 w2 H2 y g2 s2 st2 d2 h2 => ?_
    obtain ⟨z, ez, h3⟩ := liftP h2
    cases q : lookT d i with
    | none => rw [q] at ez; cases ez
    | some o =>
      rw [q] at ez
      have ez : o = some z := ez
      obtain ⟨p, e1, u, dg, hh, _⟩ := look_of (d1.step st2) d2 q
      obtain ⟨xx, e2, dx⟩ := hh z ez
      subst e1 e2
      exact ⟨p, xx, rfl, dg, h3 w2 H2 (Step.refl _ _) g2 xx dx⟩
def fDgetD (f g k : Env → M T) : Env → M T := fun env => f env >>= fun d => g env >>= fun i => k env >>= fun z => M.lift ((lookT d i).map fun o => o.getD z)
theorem s_dgetD {apos : Pos} {c : Expr} {k : Env → M T} (hu : X.A.units + 1 < cLine) (ha : SD X G W a f) (hi : SE X G W ix g) (hc : SE X G W c k) (m : M2 X a "get" apos ix c pos) : SE X G W (.Call (.Attribute a "get" apos) [ix, c] [] pos) (fDgetD f g k) :=
  pe_imp (pe_dget2 hu ha hi hc m) fun σ H Q ⟨w, H0, env, r, g0, s, h0⟩ => by
    refine seqD g0 s h0 fun d r1 w1 H1 x g1 s1 st1 d1 h1 => ?_
    have e1 : ∃ p, x = .ref p ∧ IsD H1 p := by
      cases d1 with
      | k h n l d => exact ⟨_, rfl, .inl ⟨_, .inl h⟩⟩
      | t h n l d => exact ⟨_, rfl, .inr ⟨_, .inl h⟩⟩
    obtain ⟨p, rfl, hp⟩ := e1
    refine ⟨p, rfl, hp, seqE g1 s1 h1 fun i r2 w2 H2 y g2 s2 st2 d2 h2 => ?_⟩
    refine seqE g2 s2 h2 fun z r3 w3 H3 zz g3 s3 st3 d3 h3 => ?_
    obtain ⟨t, et, h4⟩ := liftP h3
    cases q : lookT d i with
    | none => rw [q] at et; cases et
    | some o =>
      rw [q] at et
      have et : o.getD z = t := by cases et; rfl
      obtain ⟨p', e1, u, dg, hh, hn⟩ := look_of ((d1.step st2).step st3) (d2.mono st3.later) q
      cases e1
      refine ⟨u, dg, h4 w3 H3 (Step.refl _ _) g3 _ ?_⟩
      cases o with
      | none => rw [hn rfl]; cases et; exact d3
      | some t' =>
        obtain ⟨xx, e2, dx⟩ := hh t' rfl
        rw [e2]
        cases et
        exact dx
/-- a display of a dict -/
def SPs (X : Cx) (G : Gm) (W : WX) (pos : Pos) (keys : List (Option Expr)) (values : List Expr) (fs : List ((Env → M T) × (Env → M T))) : Prop := PPs X pos keys values (fs.map fun p => (tS G W p.1, tS G W p.2))
theorem sp_nil : SPs X G W pos [] [] [] := pps_nil
theorem sp_cons {k v : Expr} {ks : List (Option Expr)} {vs : List Expr} {fs : List ((Env → M T) × (Env → M T))} (hk : SE X G W k f) (hv : SE X G W v g) (h : SPs X G W pos ks vs fs) : SPs X G W pos (some k :: ks) (v :: vs) ((f, g) :: fs) := pps_cons hk hv h
def fPairs : List ((Env → M T) × (Env → M T)) → Env → M (List Key × List T)
  | [], _ => pure ([], [])
  | (f, g) :: fs, env => f env >>= fun k => g env >>= fun v => M.lift (keyT k) >>= fun k => fPairs fs env >>= fun p => pure (k :: p.1, v :: p.2)
def mergeT {α : Type} (ks : List Key) (ts : List α) : List Key → List α → List Key × List α
  | k :: ks', t :: ts' => mergeT (putKs ks k) (putVs ks ts k t) ks' ts'
  | _, _ => (ks, ts)
theorem merge_zip : ∀ (ks' : List Key) (vs' : List V) (ks : List Key) (vs : List V), ks.length = vs.length → mergeK (ks.zip vs) (ks'.zip vs') = (mergeT ks vs ks' vs').1.zip (mergeT ks vs ks' vs').2 ∧ (mergeT ks vs ks' vs').1.length = (mergeT ks vs ks' vs').2.length
  | [], _, ks, vs, l => ⟨rfl, l⟩
  | _ :: _, [], ks, vs, l => ⟨rfl, l⟩
  | k :: ks', v :: vs', ks, vs, l => by
    rw [List.zip_cons_cons]
    show mergeK (putK (ks.zip vs) k v) (ks'.zip vs') = _ ∧ _
    rw [putK_zip k v l]
    exact merge_zip ks' vs' _ _ (putKV_len k v l)
theorem merge_den : ∀ {ks' : List Key} {vs' : List V} {ts' : List T} {ks : List Key} {vs : List V} {ts : List T}, Dens G w vs ts → Dens G w vs' ts' → Dens G w (mergeT ks vs ks' vs').2 (mergeT ks ts ks' ts').2 ∧ (mergeT ks vs ks' vs').1 = (mergeT ks ts ks' ts').1
  | [], _, _, ks, vs, ts, h, _ => ⟨h, rfl⟩
  | _ :: _, _, _, ks, vs, ts, h, .nil => ⟨h, rfl⟩
  | k :: ks', v :: vs', t :: ts', ks, vs, ts, h, .cons d r => by
    show Dens G w (mergeT (putKs ks k) (putVs ks vs k v) ks' vs').2 (mergeT (putKs ks k) (putVs ks ts k t) ks' ts').2 ∧ (mergeT (putKs ks k) (putVs ks vs k v) ks' vs').1 = (mergeT (putKs ks k) (putVs ks ts k t) ks' ts').1
    exact merge_den (h.put d) r
theorem mergeT_len {α : Type} : ∀ (ks' : List Key) (ts' : List α) (ks : List Key) (ts : List α), (mergeT ks ts ks' ts').1.length ≤ ks.length + ks'.length
  | [], _, ks, ts => by simp [mergeT]
  | _ :: _, [], ks, ts => by simp [mergeT]
  | k :: ks', t :: ts', ks, ts => by
    have h1 := mergeT_len ks' ts' (putKs ks k) (putVs ks ts k t)
    have h2 := putKs_len k ks
    show (mergeT (putKs ks k) (putVs ks ts k t) ks' ts').1.length ≤ _
    rw [List.length_cons]
    omega
theorem pairs_use : ∀ {fs : List ((Env → M T) × (Env → M T))} {w : Wd} {H : Hp} {r : RS} {α : Type} {k : List Key × List T → M α} {P : α → RS → Wd → Hp → Prop} {Q : List (V × V) → Hp → Prop}, Good G w H r → Slots G w H0 H σ env → OutP G w H (WE0 W σ) P ((fPairs fs env >>= k) r) →
    (∀ p r1 w1 H1 vs, Good G w1 H1 r1 → Slots G w1 H0 H1 σ env → Step w H w1 H1 → Dens G w1 vs p.2 → p.1.length = p.2.length → p.1.length = fs.length → OutP G w1 H1 (WE0 W σ) P (k p r1) → Q ((p.1.zip vs).map fun kv => (kV kv.1, kv.2)) H1) → tPairs (fs.map fun p => (tS G W p.1, tS G W p.2)) σ H Q
  | [], w, H, r, α, k, P, Q, g0, s, h, n => n ([], []) r w H [] g0 s (Step.refl _ _) .nil rfl rfl h
  | (f, g) :: fs, w, H, r, α, k, P, Q, g0, s, h, n => by
    have e : (fPairs ((f, g) :: fs) env >>= k) r = (f env >>= fun kk => g env >>= fun v => M.lift (keyT kk) >>= fun kk => fPairs fs env >>= fun p => k (kk :: p.1, v :: p.2)) r := by
      show M.bind (M.bind (f env) _) k r = M.bind (f env) _ r
      unfold M.bind
      cases f env r with
      | bad => rfl
      | exn c p r' => rfl
      | ok a r' =>
        show M.bind (M.bind (g env) _) k r' = M.bind (g env) _ r'
        unfold M.bind
        cases g env r' with
        | bad => rfl
        | exn c p r' => rfl
        | ok b r' =>
          show M.bind (M.bind (M.lift (keyT a)) _) k r' = M.bind (M.lift (keyT a)) _ r'
          unfold M.bind
          cases keyT a with
          | none => rfl
          | some kk =>
            show M.bind (M.bind (fPairs fs env) _) k r' = M.bind (fPairs fs env) _ r'
            unfold M.bind
            cases fPairs fs env r' <;> rfl
    rw [e] at h
    refine seqE g0 s h fun kk r1 w1 H1 x g1 s1 st1 d1 h1 => ?_
    refine seqE g1 s1 h1 fun v r2 w2 H2 y g2 s2 st2 d2 h2 => ?_
    cases q : keyT kk with
    | none => rw [q] at h2; exact h2.elim
    | some key =>
      rw [q] at h2
      have h2 : OutP G w2 H2 (WE0 W σ) P ((fPairs fs env >>= fun p => k (key :: p.1, v :: p.2)) r2) := h2
      refine pairs_use g2 s2 h2 fun p r3 w3 H3 vs g3 s3 st3 d3 l1 l2 h3 => ?_
      have := n (key :: p.1, v :: p.2) r3 w3 H3 (y :: vs) g3 s3 ((st1.trans st2).trans st3) (.cons (d2.mono st3.later) d3) (by simpa using l1) (by simpa using l2) h3
      rw [key_of' d1 q]
      exact this
def fDisp (fs : List ((Env → M T) × (Env → M T))) : Env → M (List Key × List T) := fun env => fPairs fs env >>= fun p => pure (mergeT [] [] p.1 p.2)
/-- a new dict -/
def tSN (G : Gm) (W : WX) (f : Env → M (List Key × List T)) : TE := fun σ H Q => ∃ w H0 env r, Good G w H r ∧ Slots G w H0 H σ env ∧
  OutP G w H (WE0 W σ) (fun p _ w' H' => ∀ a vs, ¬ Vs H a → w'.P a = none → a ∉ w'.R → H' a = some (.dK (p.1.zip vs)) → p.1.length = p.2.length → p.1.length ≤ sizeLine → Dens G w' vs p.2 → Q (.ref a) H') (f env r)
abbrev SN (X : Cx) (G : Gm) (W : WX) (e : Expr) (f : Env → M (List Key × List T)) : Prop := PE X e (tSN G W f)
theorem n_disp {keys : List (Option Expr)} {values : List Expr} {fs : List ((Env → M T) × (Env → M T))} (h : SPs X G W pos keys values fs) (hall : keys.all (·.isSome) = true) (hl : keys.length = values.length) (h0 : keys ≠ []) (h15 : keys.length ≤ 15) (hf : fs.length ≤ 15) : SN X G W (.Dict keys values pos) (fDisp fs) :=
  pe_imp (pe_disp h hall hl h0 h15) fun σ H Q ⟨w, H0, env, r, g0, s, h0⟩ => by
    intro p hp
    have st0 : Step w H w (upd H p (.dK [])) := (Step.refl w H).priv hp
    have g1 : Good G w (upd H p (.dK [])) r := g0.priv (g0.nopub hp) (g0.noref hp) (.inl hp)
    have hk : OutP G w (upd H p (.dK [])) (WE0 W σ) (fun q r1 _ _ => OutP G w H (WE0 W σ) (fun p _ w' H' => ∀ a vs, ¬ Vs H a → w'.P a = none → a ∉ w'.R → H' a = some (.dK (p.1.zip vs)) → p.1.length = p.2.length → p.1.length ≤ sizeLine → Dens G w' vs p.2 → Q (.ref a) H') (.ok (mergeT [] [] q.1 q.2) r1)) ((fPairs fs env >>= M.pure) r) := by
      have h0 : OutP G w H (WE0 W σ) (fun p _ w' H' => ∀ a vs, ¬ Vs H a → w'.P a = none → a ∉ w'.R → H' a = some (.dK (p.1.zip vs)) → p.1.length = p.2.length → p.1.length ≤ sizeLine → Dens G w' vs p.2 → Q (.ref a) H') (M.bind (fPairs fs env) (fun p => M.pure (mergeT [] [] p.1 p.2)) r) := h0
      show OutP G w (upd H p (.dK [])) (WE0 W σ) _ (M.bind (fPairs fs env) M.pure r)
      unfold M.bind at h0 ⊢
      cases q : fPairs fs env r with
      | ok a r' => rw [q] at h0; exact fun _ _ _ _ => h0
      | exn c p r' => rw [q] at h0; exact fun w' H' cls d s1 g' x => h0 w' H' cls d (st0.trans s1) g' x
      | bad => rw [q] at h0; exact h0
    refine pairs_use g1 (s.step st0) hk fun q r1 w1 H1 vs g2 s2 st2 d2 l1 l2 h1 => ?_
    have h1 := OutP.here g2 h1
    have hh : H1 p = some (.dK []) := st2.fr _ _ (g0.noref hp) upd_same (by intro _ e; cases e)
    have hP := st2.hid p (g0.noref hp) (vs_of upd_same) (g0.nopub hp)
    have hR := st2.noR (g0.noref hp) (vs_of upd_same)
    refine ⟨hh, q.1.zip vs, rfl, by rw [List.length_zip, d2.length]; omega, ?_⟩
    obtain ⟨m1, m2⟩ := merge_zip q.1 vs [] [] rfl
    obtain ⟨m3, m4⟩ := merge_den (ks' := q.1) (ks := []) (Dens.nil (G := G) (w := w1)) d2
    have em : mergeK [] (q.1.zip vs) = (mergeT [] [] q.1 q.2).1.zip (mergeT [] [] q.1 vs).2 := by
      have := m1
      rw [m4] at this
      exact this
    rw [em]
    have hz : (mergeT [] [] q.1 q.2).1.length ≤ sizeLine := by
      have := mergeT_len q.1 q.2 [] []
      rw [sizeLine_eq]
      simp only [List.length_nil] at this
      omega
    refine h1 w1 _ ((st0.trans st2).chg (nvs hp)) (g2.priv hP hR (.inr ⟨_, hh, ⟨fun _ e => (by cases e), fun _ e => (by cases e)⟩⟩)) p _ (nvs hp) hP hR upd_same ?_ hz m3
    rw [m4] at m2
    rw [m2, m3.length]
def qOwnD (i : Nat) (f : Env → M (List Key × List T)) : Sm := fun env r => ofM env (fun p r => .nx (env.set i (.pv (.dk p.1 p.2))) r) (f env r)
theorem ss_ownD {i : Nat} {x : Str} {pos' : Pos} {f : Env → M (List Key × List T)} (hN : X.N.Nodup) (hi : X.N[i]? = some x) (hx : Loc X.env.scope x) (he : SN X G W e f) (hs : swapsWith e (some (.Name x pos')) pos.line X.env = pure false := by rfl) (hf : X.fn x = true ∨ X.env.scope.names.lookup x = some .local := by first | exact .inl rfl | exact .inr rfl | assumption) :
    SS X G W (.Assign [.Name x pos'] e pos) (qOwnD i f) := fun w0 H0 => ps_imp (ps_set hN hi hx he hs hf) fun D σ H ⟨w, env, r, a, h⟩ => by
  refine ⟨w, H0, env, r, a.g, a.s, (FlowP.ofM a h).imp fun xs r1 w1 H1 st g1 q p vs hp hP hR hh hl hz d => ?_⟩
  obtain ⟨a1, h1⟩ := q
  exact h1 w1 H1 _ a1.st a1.g (a1.s.setOwn i (fun j sl b hj pj hb => a.notNew hj pj hb hp) hP hR (fun z => hp (a.st.keep _ z)) hh (.dk hl hz d))
def fNewD (f : Env → M (List Key × List T)) : Env → M T := fun env => f env >>= fun p => pure (.dct p.1 p.2)
theorem s_newD {f : Env → M (List Key × List T)} (h : SN X G W a f) : SE X G W a (fNewD f) := pe_imp h fun σ H Q ⟨w, H0, env, r, g, s, h⟩ => by
  refine ⟨w, H0, env, r, g, s, ?_⟩
  have h : OutP G w H (WE0 W σ) (fun t _ w' H' => ∀ v, Den G w' v t → Q v H') (M.bind (f env) (fun p => M.pure (T.dct p.1 p.2)) r) := h
  unfold M.bind at h
  cases q : f env r with
  | ok p r1 =>
    rw [q] at h
    intro w1 H1 st g1 a vs ha hP hR hh hl hz d
    exact h (w1.add a _) H1 (st.publish ha hP) (g1.publish hP hR hh) _ (.dct upd_same hl (d.mono (Later.add hP)))
  | exn c p r1 => rw [q] at h; exact h
  | bad => rw [q] at h; exact h
/-! ### stores into an own dict -/
def dkAt (env : Env) (i : Nat) : Option (List Key × List T) := match env[i]? with
  | some (.pv (.dk ks ts)) => some (ks, ts)
  | _ => none
theorem dkAt_eq {i : Nat} {ks : List Key} {ts : List T} (h : dkAt env i = some (ks, ts)) : env[i]? = some (.pv (.dk ks ts)) := by
  unfold dkAt at h
  split at h
  · rename_i e; cases h; exact e
  · cases h
/-- what d[k] = v makes of the slots -/
def putD (i : Nat) (env : Env) (t k : T) : Option Env := (dkAt env i).bind fun p => (keyT k).bind fun k => if p.1.length < sizeLine then some (env.set i (.pv (.dk (putKs p.1 k) (putVs p.1 p.2 k t)))) else none
theorem At.putD {w0 w : Wd} (a : At G w0 H0 w H σ env r) {i : Nat} {v y : V} {t k : T} {env' : Env} (dv : Den G w v t) (dk : Den G w y k) (h : Ep.putD i env t k = some env') : ∃ p H', σ[i]? = some (some (.ref p)) ∧ DPut H p y v H' ∧ At G w0 H0 w H' σ env' r := by
  unfold Ep.putD at h
  cases q : dkAt env i with
  | none => rw [q] at h; cases h
  | some kt =>
    obtain ⟨ks, ts⟩ := kt
    rw [q] at h
    cases q2 : keyT k with
    | none => simp [q2] at h
    | some key =>
      simp only [q2, Option.bind_some] at h
      by_cases hl : ks.length < sizeLine
      · rw [if_pos hl] at h
        cases h
        obtain ⟨p, o, e1, e2, ok⟩ := a.thing (dkAt_eq q)
        cases ok with
        | @dk _ vs _ l z d =>
          refine ⟨p, _, e1, by rw [key_of' dk q2]; exact DPut.k e2 (by rw [List.length_zip, d.length]; omega), ?_⟩
          rw [putK_zip key v (by rw [l, d.length])]
          exact a.pv (dkAt_eq q) e1 (.dk (putKV_len key t l) (Nat.le_trans (putKs_len key ks) hl) (d.put dv))
      · rw [if_neg hl] at h; cases h
def qDput (i : Nat) (f g : Env → M T) : Sm := fun env r => if (dkAt env i).isSome = true then ofM env (fun t r => ofM env (fun k r => match putD i env t k with
  | some env' => .nx env' r
  | none => .bad) (g env r)) (f env r) else .bad
theorem At.dkA {w0 w : Wd} (a : At G w0 H0 w H σ env r) {i : Nat} (h : (dkAt env i).isSome = true) : ∃ p, σ[i]? = some (some (.ref p)) := by
  cases q : dkAt env i with
  | none => rw [q] at h; cases h
  | some kt =>
    obtain ⟨p, o, e1, _, _⟩ := a.thing (dkAt_eq (ks := kt.1) (ts := kt.2) q)
    exact ⟨p, e1⟩
theorem ss_dput {x : Str} {px spos : Pos} (i : Nat) (hu : X.A.units + 1 < cLine) (hN : X.N[i]? = some x) (hv : Vis X.env.scope x) (he : SE X G W e f) (hi : SE X G W ix g) (hs : swapsWith e (some (.Subscript (.Name x px) ix spos)) pos.line X.env = pure false := by rfl)
    (hd : (x == ("__debug__" : Str)) = false := by decide) (hcd : (x == ("__classdict__" : Str)) = false := by decide) : SS X G W (.Assign [.Subscript (.Name x px) ix spos] e pos) (qDput i f g) := fun w0 H0 =>
  ps_imp (ps_dput hu (pe_var hN hv hd hcd) hi he hs) fun D σ H ⟨w, env, r, a, h⟩ => by
    unfold qDput at h
    by_cases hc : (dkAt env i).isSome = true
    · rw [if_pos hc] at h
      refine at_e a h fun t r1 w1 H1 v a1 d h1 => ?_
      obtain ⟨p, e1⟩ := a1.dkA hc
      refine ⟨_, e1, at_eS a1 h1 fun k r2 w2 H2 y st2 a2 d2 h2 => ?_⟩
      cases q : putD i env t k with
      | none => rw [q] at h2; exact h2.elim
      | some env' =>
        rw [q] at h2
        obtain ⟨p', H', e2, dp, a3⟩ := a2.putD (d.mono st2.later) d2 q
        rw [e1] at e2
        cases e2
        exact ⟨p, H', rfl, dp, h2 w2 H' σ a3.st a3.g a3.s⟩
    · rw [if_neg hc] at h; exact h.elim
/-! ### targets that are places -/
abbrev nxD (Q : L2.St → Hp → Prop) : Ends := { nx := Q, rt := fun _ _ => False }
def tGq (G : Gm) (W : WX) (h : T → Sm) : TG := fun v σ H Q => ∃ w0 H0 w env r t, At G w0 H0 w H σ env r ∧ Den G w v t ∧ FlowP G W w0 H0 (nxD Q) (h t env r)
def tGqs (G : Gm) (W : WX) (h : List T → Sm) : TGs := fun vs σ H Q => ∃ w0 H0 w env r ts, At G w0 H0 w H σ env r ∧ Dens G w0 vs ts ∧ FlowP G W w0 H0 (nxD Q) (h ts env r)
abbrev SGq (X : Cx) (G : Gm) (W : WX) (tg : Expr) (h : T → Sm) : Prop := PG X tg (tGq G W h)
abbrev SGqs (X : Cx) (G : Gm) (W : WX) (tg : List Expr) (h : List T → Sm) : Prop := PGs X tg (tGqs G W h)
def hqOf (h : T → Env → Option Env) : T → Sm := fun t env r => match h t env with
  | some env' => .nx env' r
  | none => .bad
theorem gq_of {us : List Nat} {tg : Expr} {h : T → Env → Option Env} (hg : SG X G us tg h) : SGq X G W tg (hqOf h) := pg_imp (pg_x hg) fun v σ H Q ⟨w0, H0, w, env, r, t, a, d, fl⟩ => by
  unfold hqOf at fl
  cases q : h t env with
  | none => rw [q] at fl; exact fl.elim
  | some env' =>
    rw [q] at fl
    exact ⟨w0, H0, w, env, r, t, env', a, d, q, fun σ' s' _ => fl w H σ' a.st a.g s'⟩
def hqNil : List T → Sm := fun ts env r => match ts with
  | [] => .nx env r
  | _ => .bad
def hqCons (h : T → Sm) (hs : List T → Sm) : List T → Sm := fun ts env r => match ts with
  | t :: ts => (match h t env r with
    | .nx env' r' => hs ts env' r'
    | .exn c p e r' => .exn c p e r'
    | _ => .bad)
  | [] => .bad
theorem gqs_nil : SGqs X G W [] hqNil := pgs_imp pgs_nil fun vs σ H Q ⟨w0, H0, w, env, r, ts, a, d, fl⟩ => by
  cases d with
  | nil => exact ⟨rfl, fl w H σ a.st a.g a.s⟩
  | cons _ _ => exact fl.elim
theorem gqs_cons {tg : Expr} {tgs : List Expr} {h : T → Sm} {hs : List T → Sm} (h1 : SGq X G W tg h) (h2 : SGqs X G W tgs hs) (he : (assignEach (tg :: tgs) X.env).map (·.2) = assign tg X.env :: (assignEach tgs X.env).map (·.2) := by rfl) : SGqs X G W (tg :: tgs) (hqCons h hs) :=
  pgs_imp (pgs_cons h1 h2 he) fun vs σ H Q ⟨w0, H0, w, env, r, ts, a, d, fl⟩ => by
    cases d with
    | nil => exact fl.elim
    | @cons v vs t ts d1 d2 =>
      unfold hqCons at fl
      simp only at fl
      refine ⟨v, vs, rfl, w0, H0, w, env, r, t, a, d1.mono a.st.later, ?_⟩
      cases o : h t env r with
      | nx env' r' => rw [o] at fl; exact fun w' H' σ' st g s => ⟨w0, H0, w', env', r', ts, ⟨st, g, s⟩, d2, fl⟩
      | exn c p e r' => rw [o] at fl; exact fl
      | _ => rw [o] at fl; exact fl.elim
def hqTup (n : Nat) (hs : List T → Sm) : T → Sm := fun t env r => match t with
  | .tup ts => if ts.length = n then hs ts env r else .bad
  | _ => .bad
theorem gq_tup {es : List Expr} {k n : Nat} {hs : List T → Sm} (hc : X.calm = true) (hK : X.K = G.K) (h : SGqs X G W es hs) (hn : (assignEach es X.env).length = n := by rfl) (hst : (assignEach es X.env).findIdx? (·.1) = none := by rfl) : SGq X G W (.Tuple es k pos) (hqTup n hs) :=
  pg_imp (pg_tup hc h hn hst) fun v σ H Q ⟨w0, H0, w, env, r, t, a, d, fl⟩ => by
    cases d with
    | @tup p vs ts hh z dd =>
      have fl : FlowP G W w0 H0 (nxD Q) (if ts.length = n then hs ts env r else .bad) := fl
      by_cases hl : ts.length = n
      · rw [if_pos hl] at fl
        obtain ⟨Hb, st, ab⟩ := a.rebase
        rw [hK]
        exact ⟨p, vs, rfl, tup_sq a.g.sub hh, by rw [dd.length]; exact hl, w, Hb, w, env, r, ts, ab, dd, fl.base st⟩
      · rw [if_neg hl] at fl; exact fl.elim
    | _ => exact fl.elim
def hqDput (i : Nat) (g : Env → M T) : T → Sm := fun t env r => if (dkAt env i).isSome = true then ofM env (fun k r => match putD i env t k with
  | some env' => .nx env' r
  | none => .bad) (g env r) else .bad
theorem pset_d (hu : X.A.units + 1 < cLine) : PSet X (fun o y v H Q => ∃ a H', o = .ref a ∧ DPut H a y v H' ∧ Q H') := by
  intro pins s σ H o i v ov iv u Q I r1 r2 r3 ⟨a, H', e, dp, q⟩
  subst e
  obtain rfl : ov = Value.ref a := r1
  exact d_setItem hu I dp r2 r3 fun s' I' => ⟨H', I', q⟩
theorem gq_dput {x : Str} {px : Pos} (i : Nat) (hu : X.A.units + 1 < cLine) (hN : X.N[i]? = some x) (hv : Vis X.env.scope x) (hi : SE X G W ix g)
    (ha : ∀ v, assign (.Subscript (.Name x px) ix pos) X.env v = (do let ov ← holding [v] (eval (.Name x px) X.env); let iv ← holding [v, ov] (eval ix X.env); standAt pos; holding [v, ov, iv] (setItem ov iv v); release [v, ov, iv] []) := by intro _; rfl) (hd : (x == ("__debug__" : Str)) = false := by decide) (hcd : (x == ("__classdict__" : Str)) = false := by decide) : SGq X G W (.Subscript (.Name x px) ix pos) (hqDput i g) :=
  pg_imp (pg_sub (pe_var hN hv hd hcd) hi (pset_d hu) ha) fun v σ H Q ⟨w0, H0, w, env, r, t, a, d, fl⟩ => by
    unfold hqDput at fl
    by_cases hc : (dkAt env i).isSome = true
    · rw [if_pos hc] at fl
      obtain ⟨p, e1⟩ := a.dkA hc
      refine ⟨_, e1, at_eS a fl fun k r2 w2 H2 y st2 a2 d2 h2 => ?_⟩
      cases q : putD i env t k with
      | none => rw [q] at h2; exact h2.elim
      | some env' =>
        rw [q] at h2
        obtain ⟨p', H', e2, dp, a3⟩ := a2.putD (d.mono st2.later) d2 q
        rw [e1] at e2
        cases e2
        exact ⟨p, H', rfl, dp, h2 w2 H' σ a3.st a3.g a3.s⟩
    · rw [if_neg hc] at fl; exact fl.elim
def qAsgq (f : Env → M T) (h : T → Sm) : Sm := fun env r => ofM env (fun t r => match h t env r with
  | .nx env' r' => .nx env' r'
  | .exn c p e r' => .exn c p e r'
  | _ => .bad) (f env r)
theorem ss_asgq {tg : Expr} {h : T → Sm} (he : SE X G W e f) (hg : SGq X G W tg h) (hs : swapsWithSole [tg] e pos.line X.env = pure false := by rfl) (hw : swappedStores [tg] e X.env = pure none := by rfl)
    (h1 : (assignEach [tg] X.env).map (·.2) = [assign tg X.env] := by rfl) : SS X G W (.Assign [tg] e pos) (qAsgq f h) := fun w0 H0 => ps_imp (ps_asg he hg hs hw h1) fun D σ H ⟨w, env, r, a, hq⟩ =>
  at_e a hq fun t r1 w1 H1 v a1 d h2 => by
    refine ⟨w0, H0, w1, env, r1, t, a1, d, ?_⟩
    cases o : h t env r1 with
    | nx env' r' => rw [o] at h2; exact h2
    | exn c p e r' => rw [o] at h2; exact h2
    | _ => rw [o] at h2; exact h2.elim
/-! ### dicts of the top, str keys -/
structure GdOk (wd : World) (G : Gm) (x : Str) (tb : Str → Option T) : Prop where
  ex : ∃ p es n, G.mg x = some (.ref p) ∧ G.K.lookup p = some ⟨.type "dict", none, .dict es n, #[]⟩ ∧ PySem.W.KeysLit wd.params es.toList ∧ (p == sysModules) = false ∧ ∀ z, (∀ t, tb z = some t → ∃ u v, PySem.W.nsIn G.K p z = some (some u) ∧ RelV v u ∧ ∀ w, Den G w v t)
def fGd (tb : Str → Option T) (f : Env → M T) : Env → M T := fun env => f env >>= fun t => match t with
  | .str z => M.lift (tb z)
  | _ => M.bad
theorem s_gd {x : Str} {px : Pos} {tb : Str → Option T} (ok : GdOk X.w G x tb) (hK : X.K = G.K) (hM : X.mg = G.mg) (hg : Gl X x) (hi : SE X G W ix f) (hs : PlainIx ix) (hd : (x == ("__debug__" : Str)) = false := by decide) : SE X G W (.Subscript (.Name x px) ix pos) (fGd tb f) := by
  obtain ⟨p, es, n, h1, h2, h3, _, h4⟩ := ok.ex
  refine pe_imp (pe_ix ix_kdict (pe_glob (v := .ref p) hg (by rw [hM]; exact h1) rfl hd) hi hs) fun σ H Q ⟨w, H0, env, r, g0, s, h0⟩ => ?_
  refine seqE g0 s h0 fun t r1 w1 H1 y g1 s1 st1 d1 hq => ?_
  cases d1 with
  | str z =>
    obtain ⟨u, eu, h5⟩ := liftP hq
    obtain ⟨uu, v, e1, e2, e3⟩ := h4 z u eu
    rw [hK]
    exact ⟨p, z, v, rfl, rfl, ⟨es, n, uu, h2, h3, e1, e2⟩, h5 w1 H1 (Step.refl _ _) g1 v (e3 w1)⟩
  | _ => exact hq.elim
end
end Ep
namespace Ep
open PySem PySem.Spec L2
/-! ### operators by a class's own defs -/
def own2 (C : Nat) (F : List T → M T) : T → T → M T := fun x y => match x with
  | .obj D vs => if D = C then noEx (F [.obj D vs, y]) else M.bad
  | _ => M.bad
def fOwn2 (C : Nat) (F : List T → M T) (f g : Env → M T) : Env → M T := fun env => f env >>= fun x => g env >>= fun y => own2 C F x y
def r2own (G : Gm) (C : Nat) (h : T → T → M T) : R2 := fun x y H Q => ∃ w r t u, Good G w H r ∧ Den G w x t ∧ Den G w y u ∧ OutP G w H (fun _ _ _ => False) (fun t _ w' H' => ∀ v, Den G w' v t → Q v H') (h t u r)
section
variable {X : Cx} {G : Gm} {W : WX} {pos : Pos} {a b : Expr} {f g : Env → M T} {C j k : Nat} {F : List T → M T} {m : Str}
theorem own_use {h : T → T → M T} {σ : L2.St} {H : Hp} {Q : VK} (hne : ∀ t u r c p r', h t u r ≠ .exn c p r') (hq : tS G W (fun env => f env >>= fun x => g env >>= fun y => h x y) σ H Q) : tOp (r2own G C h) (tS G W f) (tS G W g) σ H Q := by
  obtain ⟨w, H0, env, r, g0, s, h0⟩ := hq
  refine seqE g0 s h0 fun t r1 w1 H1 x g1 s1 st1 d1 h1 => ?_
  refine seqE g1 s1 h1 fun u r2 w2 H2 y g2 s2 st2 d2 h2 => ?_
  refine ⟨w2, r2, t, u, g2, d1.mono st2.later, d2, ?_⟩
  cases o : h t u r2 with
  | ok z r3 => rw [o] at h2; exact h2
  | exn c p r3 => exact absurd o (hne t u r2 c p r3)
  | bad => rw [o] at h2; exact h2
theorem noEx_ne {α : Type} (m : M α) (r : RS) (c : Nat) (p : T) (r' : RS) : noEx m r ≠ .exn c p r' := by
  unfold noEx
  cases m r <;> simp
theorem own2_ne (t u : T) (r : RS) (c : Nat) (p : T) (r' : RS) : own2 C F t u r ≠ .exn c p r' := by
  unfold own2
  split
  · split
    · exact noEx_ne _ _ _ _ _
    · simp
  · simp
/-- the two operands, the def that is called -/
theorem own_args {x y : V} {v u : Value} {pins : List (Addr × Obj)} {s : Shared} {σ : L2.St} {H : Hp} {Q : VK} (D : MethOk X.prog X.w X.base G k C m 2 [] F) (hK : X.K = G.K) (hM : X.mg = G.mg) (hr : Room j X.A) (hk : k ≤ j) (I : L2.Inv X pins σ H s) (rx : RelV x v) (ry : RelV y u)
    (h : r2own G C (own2 C F) x y H Q) : ∃ (p cA fn : Addr) (od : Obj × Option Obj), v = .ref p ∧ G.mg (G.cn C) = some (.ref cA) ∧ PySem.W.InstAt s.heap p od.1 cA od.2 ∧ PySem.W.findIn X.K (.ref cA) m = some (some (.ref fn)) ∧ PySem.W.isFn X.K (.ref fn) = true ∧
      ∀ A : Around, Room k A → Env0 X.prog X.w X.K X.mg X.base A X.stack s H → wpAny (model X.prog X.w) A (call (.ref fn) [.ref p, u]) (EP X pins σ Q) X.xe s := by
  obtain ⟨w, r, t, u', g0, d1, d2, h⟩ := h
  obtain ⟨cA, fn, fd, ps, dvs, dus, c1, c2, c3, h1, h4, h5, h6⟩ := D.ex
  rw [← hK, ← hM] at h1
  cases d1 with
  | @obj p cA' dx C' vs ts c hh l d =>
    by_cases hC : C' = C
    · subst hC
      have h : OutP G w H (fun _ _ _ => False) (fun t _ w' H' => ∀ v, Den G w' v t → Q v H') (noEx (F [.obj C' ts, u']) r) := by simpa [own2] using h
      rw [c1] at c
      cases c
      obtain rfl : v = Value.ref p := rx
      obtain ⟨mA, J, _⟩ := ins_get I.hok (g0.sub _ _ hh)
      obtain ⟨od, J, _⟩ := J.look
      have hd0 : dvs = [] := by
        have := h6 w
        generalize dvs = q at this
        cases this; rfl
      subst hd0
      cases h5
      refine ⟨p, cA, fn, (_, _), rfl, c1, J, by rw [hK]; exact c3.at_, by rw [hK]; exact c3.fn, fun A hrA e0 => ?_⟩
      have hsp : spF G 2 F [.ref p, y] H Q (fun _ _ _ => False) := by
        refine ⟨w, r, [.obj C' ts, u'], g0, .cons (.obj c1 hh l d) (.cons d2 .nil), rfl, ?_⟩
        unfold noEx at h
        cases o : F [.obj C' ts, u'] r with
        | ok z r' => rw [o] at h; exact h
        | exn c p r' => rw [o] at h; exact h.elim
        | bad => rw [o] at h; exact h.elim
      have hl := h1.len _ _ _ _ hsp
      refine wpAny_call (codeAny_mono (h1.run A X.stack s H ⟨[.ref p, u], []⟩ [.ref p, u] [.ref p, y] Q (fun _ _ _ => False) hrA e0 (by
        have := h4 s [.ref p, u] (by rw [← hK]; exact I.kIn) (by simpa using hl)
        simpa using this) (.cons rfl (.cons ry .nil)) hsp) fun res s' hq => ?_)
      cases res with
      | error e => exact passAt (W := fun _ _ _ _ => False) takes0 σ pins H s e s' I hq
      | ok fl =>
        cases fl with
        | ret u => exact I.after hq
        | next => exact False.elim hq
        | brk => exact False.elim hq
        | cont => exact False.elim hq
    · have h : OutP G w H (fun _ _ _ => False) (fun t _ w' H' => ∀ v, Den G w' v t → Q v H') ((M.bad : M T) r) := by simpa [own2, hC] using h
      exact h.elim
  | _ => exact h.elim
/-- y is of the same class -/
def sameT (C : Nat) : T → T → Bool
  | _, .obj D _ => decide (D = C)
  | _, _ => false
def own2s (C : Nat) (F : List T → M T) : T → T → M T := fun x y => if sameT C x y = true then own2 C F x y else M.bad
theorem own2s_ne (t u : T) (r : RS) (c : Nat) (p : T) (r' : RS) : own2s C F t u r ≠ .exn c p r' := by
  unfold own2s
  split
  · exact own2_ne _ _ _ _ _ _
  · simp
theorem same_of {x y : V} {H : Hp} {Q : VK} (h : r2own G C (own2s C F) x y H Q) : r2own G C (own2 C F) x y H Q ∧ ∃ p cA dx fs, y = .ref p ∧ G.mg (G.cn C) = some (.ref cA) ∧ H p = some (.ins cA dx fs) := by
  obtain ⟨w, r, t, u, g0, d1, d2, h⟩ := h
  unfold own2s at h
  by_cases hs : sameT C t u = true
  · rw [if_pos hs] at h
    refine ⟨⟨w, r, t, u, g0, d1, d2, h⟩, ?_⟩
    cases d2 with
    | obj c hh l d =>
      have := of_decide_eq_true hs
      subst this
      exact ⟨_, _, _, _, rfl, c, g0.sub _ _ hh⟩
    | _ => simp [sameT] at hs
  · rw [if_neg hs] at h; exact h.elim
/-- a op b, both of the class -/
theorem op_ownB {op : Operator} (D : MethOk X.prog X.w X.base G k C (PySem.dunder op.info.2) 2 [] F) (hK : X.K = G.K) (hM : X.mg = G.mg) (hr : Room j X.A) (hk : k ≤ j) (hf : ∀ cA, G.mg (G.cn C) = some (.ref cA) → PySem.W.selfFirst G.K cA = true) : OpR X (binaryOp op) (r2own G C (own2s C F)) := by
  intro pins s σ H x y v u Q I rx ry h
  obtain ⟨h, q, cA', dx, fs, e, c', hq⟩ := same_of h
  obtain ⟨p, cA, fn, od, rfl, c, J, fi, ff, run⟩ := own_args D hK hM hr hk I rx ry h
  rw [c] at c'
  cases c'
  subst e
  obtain rfl : u = Value.ref q := ry
  obtain ⟨mA, J', _⟩ := ins_get I.hok hq
  obtain ⟨od', J', _⟩ := J'.look
  obtain ⟨m, hF⟩ := I.fr
  refine PySem.W.binop_K hF I.ok.mod.kin J J'.type (by rw [hK]; exact hf _ c) fi ff (wpAny_mono (run X.A (hr.mono hk) I.env0) (fun w s' z => ?_) fun _ _ e => e)
  obtain ⟨z', H', I', rz, qz⟩ := z
  exact SlX.cmpback rz ⟨z', H', I', rz, qz⟩
theorem s_ownB {op : Operator} (D : MethOk X.prog X.w X.base G k C (PySem.dunder op.info.2) 2 [] F) (hK : X.K = G.K) (hM : X.mg = G.mg) (hr : Room j X.A) (hk : k ≤ j) (hf : ∀ cA, G.mg (G.cn C) = some (.ref cA) → PySem.W.selfFirst G.K cA = true) (ha : SE X G W a f) (hb : SE X G W b g) :
    SE X G W (.BinOp a op b pos) (fun env => f env >>= fun x => g env >>= fun y => own2s C F x y) := pe_imp (pe_op (op_ownB D hK hM hr hk hf) ha hb) fun σ H Q hq => own_use own2s_ne hq
theorem op_ownC {op : CmpOp} (hop : ∀ a b, compareOp op a b = richCompare op a b) (D : MethOk X.prog X.w X.base G k C (cmpInfo op).2.1 2 [] F) (hK : X.K = G.K) (hM : X.mg = G.mg) (hr : Room j X.A) (hk : k ≤ j) : OpR X (compareOp op) (r2own G C (own2s C F)) := by
  intro pins s σ H x y v u Q I rx ry h
  obtain ⟨h, q, cA', dx, fs, e, c', hq⟩ := same_of h
  obtain ⟨p, cA, fn, od, rfl, c, J, fi, ff, run⟩ := own_args D hK hM hr hk I rx ry h
  rw [c] at c'
  cases c'
  subst e
  obtain rfl : u = Value.ref q := ry
  obtain ⟨mA, J', _⟩ := ins_get I.hok hq
  obtain ⟨od', J', _⟩ := J'.look
  obtain ⟨m, hF⟩ := I.fr
  rw [hop]
  refine PySem.W.cmp_K (op := op) (tb := .ref cA') hr.units0 hF I.ok.mod.kin J J'.type (by simp [PySem.W.notFirst]) fi ff (wpAny_mono (run X.A (hr.mono hk) I.env0) (fun w s' z => ?_) fun _ _ e => e)
  obtain ⟨z', H', I', rz, qz⟩ := z
  exact SlX.cmpback rz ⟨z', H', I', rz, qz⟩
theorem s_ownC {op : CmpOp} (hop : ∀ a b, compareOp op a b = richCompare op a b) (D : MethOk X.prog X.w X.base G k C (cmpInfo op).2.1 2 [] F) (hK : X.K = G.K) (hM : X.mg = G.mg) (hr : Room j X.A) (hk : k ≤ j) (ha : SE X G W a f) (hb : SE X G W b g) (hm : behindInMarks op b = false) :
    SE X G W (.Compare a [op] [b] pos) (fun env => f env >>= fun x => g env >>= fun y => own2s C F x y) := pe_imp (pe_cmpR (op_ownC hop D hK hM hr hk) ha hb hm) fun σ H Q hq => own_use own2s_ne hq
/-- a != b, the class with an own == and no own != -/
structure NeOk (G : Gm) (C : Nat) : Prop where
  ok : ∀ cA, G.mg (G.cn C) = some (.ref cA) → PySem.W.findIn G.K (.ref cA) "__ne__" = some (some (.builtin "object.__ne__")) ∧ PySem.W.mroIn G.K cA (.type "object") = some true
/-- what a class says of != where it keeps the object's own: that slot, bound to the instance -/
theorem ne_bound {M : Model} {A : Around} {E : Value → Shared → Prop} {s : Shared} {K : PySem.W.Frag} {x cA : Addr} {ox : Obj} {od : Option Obj} {Q : Option (Value × List Value) → Shared → Prop} (kin : K.In s.heap) (at_x : PySem.W.InstAt s.heap x ox cA od)
    (own : PySem.W.findIn K (.ref cA) "__ne__" = some (some (.builtin "object.__ne__"))) (h : Q (some (.builtin "object.__ne__", [.ref x])) s) : wpAny M A (bindSpecialIfBound? (.ref x) "__ne__") Q E s := by
  have bnd : wpAny M A (bindSpecial (.builtin "object.__ne__") (.ref x) >>= fun m => pure (some m)) Q E s := wpAny_of_eq (PySem.F.cmp_object.ne.bind _ ▸ rfl) h
  unfold bindSpecialIfBound?
  exact wpAny_bind (wpAny_bind (at_x.type.here (PySem.W.looks_findIn kin own |>.here (wpAny_bind (wpAny_askSetting (wpAny_ite (by split <;> first | exact bnd | exact wpAny_tryCatch bnd)))))))
theorem ifBound_ne {M : Model} {A : Around} {E : Value → Shared → Prop} {s : Shared} {K : PySem.W.Frag} {x cA : Addr} {ox : Obj} {od : Option Obj} {args : List Value} {Q : Option Value → Shared → Prop} (kin : K.In s.heap) (at_x : PySem.W.InstAt s.heap x ox cA od)
    (own : PySem.W.findIn K (.ref cA) "__ne__" = some (some (.builtin "object.__ne__"))) (h : wpAny M A (call (.builtin "object.__ne__") (.ref x :: args)) (fun v => Q (some v)) E s) : wpAny M A (callSpecialIfBound? (.ref x) "__ne__" args) Q E s :=
  wpAny_holding (wpAny_bind (ne_bound kin at_x own (wpAny_bind (wpAny_mono h (fun _ _ => wpAny_pure) fun _ _ => id))))
def negB : T → M T
  | .bl b => pure (.bl !b)
  | _ => M.bad
def own2n (C : Nat) (F : List T → M T) : T → T → M T := fun x y => own2s C F x y >>= negB
theorem own2n_ne (t u : T) (r : RS) (c : Nat) (p : T) (r' : RS) : own2n C F t u r ≠ .exn c p r' := by
  show M.bind (own2s C F t u) negB r ≠ _
  unfold M.bind
  cases o : own2s C F t u r with
  | ok a r2 => cases a <;> simp [negB, M.bad, pure, M.pure]
  | exn c' p' r2 => exact absurd o (own2s_ne t u r c' p' r2)
  | bad => simp
theorem neg_of {x y : V} {H : Hp} {Q : VK} (h : r2own G C (own2n C F) x y H Q) : r2own G C (own2s C F) x y H (fun v H' => ∃ b, v = .bl b ∧ Q (.bl !b) H') := by
  obtain ⟨w, r, t, u, g0, d1, d2, h⟩ := h
  refine ⟨w, r, t, u, g0, d1, d2, ?_⟩
  have h : OutP G w H (fun _ _ _ => False) (fun t _ w' H' => ∀ v, Den G w' v t → Q v H') (M.bind (own2s C F t u) negB r) := h
  unfold M.bind at h
  cases o : own2s C F t u r with
  | ok a r2 =>
    rw [o] at h
    cases a with
    | bl b =>
      intro w' H' st g' v d
      cases d
      exact ⟨b, rfl, h w' H' st g' _ (.bl !b)⟩
    | _ => exact h.elim
  | exn c' p' r2 => rw [o] at h; exact h
  | bad => rw [o] at h; exact h.elim
theorem objNe_entry {prog : Program} {w : World} {A : Around} {E : Value → Shared → Prop} {s : Shared} {K : PySem.W.Frag} {x cA fn : Addr} {y : Value} {ox : Obj} {od : Option Obj} {Q : Fin → Shared → Prop} (kin : K.In s.heap) (at_x : PySem.W.InstAt s.heap x ox cA od) (own : PySem.W.findIn K (.ref cA) "__eq__" = some (some (.ref fn))) (def_ : PySem.W.isFn K (.ref fn) = true) (room : A.units < cLine)
    (asked : wpAny (model prog w) A (call (.ref fn) [.ref x, y]) (fun v s' => ∃ b, v = .bool b ∧ Q (.done (.ret (.bool (!b)))) s') E s) : wpAny (model prog w) A (Builtin.«object.__ne__» ⟨[.ref x, y], []⟩) Q E s := by
  show wpAny _ A (cRoomFor "comparison" [.ref x, y] >>= _) Q E s
  refine wpAny_bind (wpAny_cRoomFor room (wpAny_bind (PySem.W.ifBound_K kin at_x own def_ (wpAny_mono asked (fun v s' said => ?_) fun _ _ => id))))
  obtain ⟨b, rfl, said⟩ := said
  exact wpAny_bind (wpAny_truthy_bool (wpAny_pure said))
/-- != of two things of one class, where the left one's own != answers -/
theorem rich_ne {M : Model} {A : Around} {E : Value → Shared → Prop} {s : Shared} {l r cA : Addr} {ol oR : Obj} {dl dr : Option Obj} {Q : Value → Shared → Prop} (left : PySem.W.InstAt s.heap l ol cA dl) (right : PySem.W.InstAt s.heap r oR cA dr) (room : A.units < cLine)
    (answer : wpAny M A (tryCompare (.ref l) "__ne__" (.ref r)) (fun o s' => ∃ v, o = some v ∧ Q v s') E s) : wpAny M A (richCompare .NotEq (.ref l) (.ref r)) Q E s := by
  have alike : ¬ ((Value.ref cA != Value.ref cA) = true) := by rw [bne_self_eq_false]; exact Bool.false_ne_true
  unfold richCompare
  rw [PySem.oneThing_ref]
  refine wpAny_holding (wpAny_bind (wpAny_cRoomFor room (wpAny_bind (left.type.here (wpAny_bind (right.type.here ?_))))))
  dsimp only
  rw [if_neg alike]
  refine wpAny_bind (wpAny_pure ?_)
  rw [if_neg Bool.false_ne_true]
  refine (wpAny_bind (wpAny_mono answer (fun o s' said => ?_) fun _ _ => id))
  obtain ⟨v, rfl, said⟩ := said
  exact wpAny_pure said
theorem op_ownN (D : MethOk X.prog X.w X.base G k C "__eq__" 2 [] F) (ne : NeOk G C) (hK : X.K = G.K) (hM : X.mg = G.mg) (hr : Room j X.A) (hk : k + 1 ≤ j) : OpR X (compareOp .NotEq) (r2own G C (own2n C F)) := by
  intro pins s σ H x y v u Q I rx ry asked
  obtain ⟨asked, q, cA', dx, fs, e, c', at_q⟩ := same_of (neg_of asked)
  obtain ⟨p, cA, fn, od, rfl, c, left, found, isdef, run⟩ := own_args D hK hM hr (Nat.le_of_succ_le hk) I rx ry asked
  cases c.symm.trans c'
  subst e
  cases (show u = Value.ref q from ry)
  obtain ⟨_, right, _⟩ := ins_get I.hok at_q
  obtain ⟨_, right, _⟩ := right.look
  have says := ne.ok _ c
  rw [← hK] at says
  have room : Room k X.A.in1 := (hr.mono hk).in1
  have answer : wpAny (model X.prog X.w) X.A.in1 (call (.ref fn) [.ref p, .ref q]) (fun v s' => ∃ b, v = .bool b ∧ EP X pins σ Q (.bool !b) s') X.xe s := wpAny_mono (run X.A.in1 room I.env0.in1) (fun v s' told => by
    obtain ⟨_, H', I', rz, b, rfl, told⟩ := told
    exact ⟨b, rz, .bl !b, H', I', rfl, told⟩) fun _ _ => id
  refine rich_ne left right hr.units0 (wpAny_bind (ifBound_ne I.kIn left says.1 (wpAny_call (codeAny_call_builtin PySem.F.cmp_object.ne.plain PySem.F.cmpEntry_ne (PySem.W.check_slot PySem.F.cmpKind_ne PySem.F.cmpSplit_ne (left.type.andThen (PySem.W.looks_mroIn I.kIn says.2)) (PySem.F.cmpArgs_ne _ _) (objNe_entry I.kIn left found isdef room.units0 (wpAny_mono answer (fun v s' told => ?_) fun _ _ => id)))))))
  obtain ⟨b, rfl, told⟩ := told
  exact ⟨b, rfl, wpAny_pure ⟨_, rfl, told⟩⟩
theorem s_ownN (D : MethOk X.prog X.w X.base G k C "__eq__" 2 [] F) (ne : NeOk G C) (hK : X.K = G.K) (hM : X.mg = G.mg) (hr : Room j X.A) (hk : k + 1 ≤ j) (ha : SE X G W a f) (hb : SE X G W b g) (hm : behindInMarks .NotEq b = false) :
    SE X G W (.Compare a [.NotEq] [b] pos) (fun env => f env >>= fun x => g env >>= fun y => own2n C F x y) := pe_imp (pe_cmpR (op_ownN D ne hK hM hr hk) ha hb hm) fun σ H Q hq => own_use own2n_ne hq
end
end Ep
namespace Ep
open PySem PySem.Spec L2
open PyProof.Rows (envOfC)
/-! ### NotImplemented by an own == -/
theorem tup_declines {prog : Program} {w : World} {A : Around} {E : Value → Shared → Prop} {s : Shared} {l b : Addr} {Q : Fin → Shared → Prop} (L : PySem.W.Looks (model prog w) s.heap (isInstance (.ref b) (.type "tuple")) false) (h : Q (.done (.ret .notImplemented)) s) :
    wpAny (model prog w) A (Builtin.«tuple.__eq__» ⟨[.ref l, .ref b], []⟩) Q E s := by
  unfold Builtin.«tuple.__eq__»
  repeat (first
    | (refine wpAny_bind (m := isInstance (.ref b) (.type "tuple")) (L.here ?_))
    | wp_step)
  exact h
/-- the def of == gives NotImplemented where p says so -/
def NiRun (P : Program) (wd : World) (base : Heap) (G : Gm) (k : Nat) (f : Addr) (fd : FuncData) (ps : List Str) (p : List T → RS → Option RS) : Prop :=
  ∀ (A : Around) (outer : List PySem.Env) (s : Shared) (H : Hp) (args : Args) (us : List Value) (vs : List V) (Q : Hp → Prop), Room k A → Env0 P wd G.K G.mg base A outer s H → BindsTo s fd args (ps.zip us) → Vals vs us →
    (∃ w r ts r', Good G w H r ∧ Dens G w vs ts ∧ ts.length = ps.length ∧ p ts r = some r' ∧ ∀ w' H', Step w H w' H' → Good G w' H' r' → Q H') →
    codeAny (model P wd) A (.call (.ref f) args) (fun r s' => match r with
      | .ok (.ret u) => u = .notImplemented ∧ CE outer P wd H s (fun _ H' => Q H') .none s'
      | .ok _ => False
      | .error e => L2.CX P wd outer H s (fun _ _ _ => False) e s') s
def niP (m : Nat) (q : Env → M Bool) : List T → RS → Option RS := fun ts r => match q (envOf m ts) r with
  | .ok true r' => some r'
  | _ => none
/-- where a def's parameters stand -/
theorem par_kinds {N ps : List Str} {sc : Scope} (S : FnScope N ps sc) (us : List Value) (at_ : Nat) : ∀ y ∈ ps.zip us, sc.names.lookup y.1 = some .local ∨ (sc.names.lookup y.1 = some .cell ∧ ((cellsFrom at_ sc.names []).lookup y.1).isSome = true) := fun y hy =>
  (S.par y.1 (List.of_mem_zip (show (y.1, y.2) ∈ _ from hy)).1).imp id fun is_cell => ⟨is_cell, PySem.W.cellsFrom_some _ _ _ (.inl is_cell)⟩
theorem niP_at {m : Nat} {q : Env → M Bool} {ts : List T} {r r' : RS} (h : niP m q ts r = some r') : q (envOf m ts) r = .ok true r' := by
  unfold niP at h
  split at h
  · next e => cases h; exact e
  · cases h
theorem ni_run {P : Program} {wd : World} {base : Heap} {G : Gm} {k : Nat} {x qual : Str} {st : Stmt} {f : Addr} {fd : FuncData} {N ps : List Str} {m : Nat} {c : Expr} {rest : List Stmt} {q1 q2 q3 : Pos} {p : Env → M Bool} {dv : List V} {kw : List (Str × V)} (F : FunD G.K x qual (defArgs st) (defBody st) (defScope st) dv kw f fd) (S : FnScope N ps (defScope st)) (hm : N.length - ps.length = m)
    (hbod : defBody st = .If c [.Return (some (.Name "NotImplemented" q1)) q2] [] q3 :: rest) (hni : G.mg "NotImplemented" = none) (hgl : ∀ cdv A outer s H E, Gl (cxB P wd G base N qual st f cdv A outer s H E) "NotImplemented")
    (hc : ∀ cdv A outer s H E, Room k (A.deeper (PyProof.Rows.envOfC qual (defScope st) s.heap.objs.size f cdv)) → SB (cxB P wd G base N qual st f cdv A outer s H E) G (WD E) c p) : NiRun P wd base G (k + 1) f fd ps (niP m p) := by
  intro A outer s H args us vs Q room e0 bound vals ⟨w, rr, ts, rr', gd, d, l, asked, told⟩
  have yes := niP_at asked
  have many : vs.length = ps.length := d.length.trans l
  have still : ∀ b o, base.get? b = some o → s.heap.get? b = some o := fun b o at_b => (e0.bs b o at_b).1
  obtain ⟨_, _, _, _, _, _, _, cdv, _, _, rfl, at_f, code, _, _⟩ := F.ex
  refine codeAny_call_function room.depth (e0.mod.kin.keeps still _ _ at_f) rfl S.co S.gen rfl (PySem.W.codeRec_of (e0.mod.kin.keeps still) code) (bound _ _ _ _ (wpAny_newFunctionEnv_cells S.kind (par_kinds S us _) fun env is_env s1 inside => ?_))
  subst is_env
  have I : L2.Inv (cxB P wd G base N qual st f cdv A outer s H (fun _ _ _ => False)) [] (L2.start N vs) H s1 := inv_start S room.hd e0 many vals inside
  refine ⟨(e0.mod.nolimit.keeps still).keeps inside.toInCall.keep, codeAny_func ?_⟩
  rw [hbod]
  have test := (hc cdv A outer s H (fun _ _ _ => False) (room.deeper _)).run [] s1 (L2.start N vs) H (fun b H' => b = true ∧ Q H') I ⟨w, H, envOf m ts, rr, gd, start_slots d m (by rw [many]; exact hm), by
    rw [yes]
    exact fun w' H' st g' => ⟨rfl, told w' H' st g'⟩⟩
  refine wpAny_execs_cons (wpAny_If (wpAny_mono test (fun b s2 after => ?_) fun _ _ => id))
  obtain ⟨H2, I2, rfl, held⟩ := after
  exact wpAny_execs_cons (wpAny_Return_some (ld_blt I2 (hgl cdv A outer s H _) hni (u := .notImplemented) rfl ⟨rfl, .non, H2, I2.os, I2.bare, I2.base, I2.hok, rfl, held⟩))
structure NiOk (P : Program) (wd : World) (base : Heap) (G : Gm) (k C : Nat) (p : List T → RS → Option RS) : Prop where
  ex : ∃ cA f fd ps, G.mg (G.cn C) = some (.ref cA) ∧ Meth G.K cA "__eq__" f ∧ NiRun P wd base G k f fd ps p ∧ Binds G.K fd ps [] ∧ ps.length = 2 ∧ PySem.W.subIn G.K (.type "tuple") (.ref cA) = some false ∧ PySem.W.mroIn G.K cA (.type "tuple") = some false
def isTupT : T → Bool
  | .tup _ => true
  | _ => false
def ownE (C : Nat) (F : List T → M T) (p : List T → RS → Option RS) : T → T → M T := fun x y => match x with
  | .obj D vs => if D = C then (if isTupT y = true then (fun r => match p [.obj D vs, y] r with
    | some r' => .ok (.bl false) r'
    | none => .bad) else own2s C F (.obj D vs) y) else M.bad
  | _ => M.bad
theorem ownE_ne {C : Nat} {F : List T → M T} {p : List T → RS → Option RS} (t u : T) (r : RS) (c : Nat) (q : T) (r' : RS) : ownE C F p t u r ≠ .exn c q r' := by
  cases t with
  | obj D vs =>
    by_cases hD : D = C
    · by_cases ht : isTupT u = true
      · subst hD
        cases hp : p [.obj D vs, u] r with
        | none => simp [ownE, ht, hp]
        | some r2 => simp [ownE, ht, hp]
      · have e : ownE C F p (.obj D vs) u = own2s C F (.obj D vs) u := by simp [ownE, hD, ht]
        rw [e]
        exact own2s_ne _ _ _ _ _ _
    · simp [ownE, hD, M.bad]
  | _ => simp [ownE, M.bad]
section
variable {X : Cx} {G : Gm} {W : WX} {pos : Pos} {a b : Expr} {f g : Env → M T} {C j k k' : Nat} {F : List T → M T} {p : List T → RS → Option RS}
theorem op_ownE (D : MethOk X.prog X.w X.base G k C "__eq__" 2 [] F) (N : NiOk X.prog X.w X.base G k' C p) (hK : X.K = G.K) (hM : X.mg = G.mg) (hr : Room j X.A) (hk : k ≤ j) (hk' : k' ≤ j) : OpR X (compareOp .Eq) (r2own G C (ownE C F p)) := by
  intro pins s σ H x y v u Q I rx ry h
  have h0 := h
  obtain ⟨w, r, t, u', g0, d1, d2, h⟩ := h
  cases d1 with
  | @obj pp cA' dx D' vs ts c hh l d =>
    by_cases hD : D' = C
    · subst hD
      by_cases ht : isTupT u' = true
      · -- a tuple
        have hfin : OutP G w H (fun _ _ _ => False) (fun t _ w' H' => ∀ v, Den G w' v t → Q v H') (match p [.obj D' ts, u'] r with
          | some r' => .ok (.bl false) r'
          | none => .bad) := by simpa [ownE, ht] using h
        cases hp : p [.obj D' ts, u'] r with
        | none => rw [hp] at hfin; exact hfin.elim
        | some rr =>
          rw [hp] at hfin
          obtain ⟨cA, fn, fd, ps, c1, hM', run, hB, hps, hs1, hs2⟩ := N.ex
          rw [c1] at c
          cases c
          cases d2 with
          | @tup q us xs hq z dd =>
            obtain rfl : v = Value.ref pp := rx
            obtain rfl : u = Value.ref q := ry
            obtain ⟨mA, J, _⟩ := ins_get I.hok (g0.sub _ _ hh)
            obtain ⟨od, J, _⟩ := J.look
            have hqT := tup_sq g0.sub hq
            rw [← hK] at hqT
            obtain ⟨its, rv, tq, hz⟩ := I.tuple hqT
            have tyq : s.TypeIs (.ref q) "tuple" := by
              obtain ⟨o, h1, h2, _⟩ := id tq
              exact ⟨o, h1, h2⟩
            have X1 := I.kIn
            have inst : ∀ {s' : Shared} {w' : Wd} {H' : Hp} {r' : RS}, L2.Inv X pins σ H' s' → Step w H w' H' → Good G w' H' r' → ∃ od, PySem.W.InstAt s'.heap pp (PySem.W.instObj cA' dx) cA' (some od) ∧ s'.TypeIs (.ref q) "tuple" ∧ pp ≠ q ∧ ∃ o, s'.heap.get? q = some o := fun {s' w' H' r'} I' st g' => by
              obtain ⟨mA, J, _⟩ := ins_get I'.hok (g'.sub _ _ (st.pub _ _ hh))
              obtain ⟨od, J, _⟩ := J.look
              have hqT := tup_sq g'.sub (hq.mono st.pub)
              rw [← hK] at hqT
              obtain ⟨its, rv, ⟨o, h1, h2, _⟩, hz⟩ := I'.tuple hqT
              refine ⟨od, J, ⟨o, h1, h2⟩, fun e => ?_, o, h1⟩
              subst e
              have := J.at_
              rw [h1] at this
              cases this
              cases h2
            have one : wpAny (model X.prog X.w) X.A (tryCompare (.ref pp) "__eq__" (.ref q)) (fun r0 s' => r0 = none ∧ ∃ w' H', L2.Inv X pins σ H' s' ∧ Step w H w' H' ∧ Good G w' H' rr) X.xe s := by
              unfold tryCompare
              refine wpAny_bind (PySem.W.ifBound_K X1 J (by rw [hK]; exact hM'.at_) (by rw [hK]; exact hM'.fn) (wpAny_call (codeAny_mono (run X.A X.stack s H ⟨[.ref pp, .ref q], []⟩ [.ref pp, .ref q] [.ref pp, .ref q] (fun H' => ∃ w', Step w H w' H' ∧ Good G w' H' rr) (hr.mono hk') (by
                have := I.env0
                rw [hK, hM] at this
                exact this) (by
                have := hB s [.ref pp, .ref q] (by rw [← hK]; exact X1) (by simp [hps])
                simpa using this) (.cons rfl (.cons rfl .nil)) ⟨w, r, _, rr, g0, .cons (.obj c1 hh l d) (.cons (.tup hq z dd) .nil), by simp [hps], hp, fun w' H' st g' => ⟨w', st, g'⟩⟩) fun res s' hq' => ?_)))
              cases res with
              | error e => exact passAt (W := fun _ _ _ _ => False) takes0 σ pins H s e s' I hq'
              | ok fl =>
                cases fl with
                | ret u =>
                  obtain ⟨eu, ce⟩ := hq'
                  subst eu
                  obtain ⟨v', H', I', _, w', st, g'⟩ := I.after ce
                  exact wpAny_pure ⟨rfl, w', H', I', st, g'⟩
                | next => exact False.elim hq'
                | brk => exact False.elim hq'
                | cont => exact False.elim hq'
            show wpAny (model X.prog X.w) X.A (richCompare .Eq (.ref pp) (.ref q)) (EP X pins σ Q) X.xe s
            unfold richCompare
            simp only [PySem.oneThing_ref]
            refine wpAny_holding (wpAny_bind (wpAny_cRoomFor hr.units0 ?_))
            refine wpAny_bind (J.type.here ?_)
            refine wpAny_bind (wpAny_typeOf tyq ?_)
            rw [show (Value.ref cA' != Value.type "tuple") = true from rfl]
            simp only [if_true]
            refine wpAny_bind ((PySem.W.looks_subIn X1 (by rw [hK]; exact hs1)).here ?_)
            simp only [Bool.false_eq_true, if_false, Bool.not_false, if_true]
            refine wpAny_bind (wpAny_mono one (fun r0 s1 z1 => ?_) fun _ _ e => e)
            obtain ⟨z1, w1, H1, I1, st1, g1⟩ := z1
            subst z1
            obtain ⟨od1, J1, ty1, hne, o1, ho1⟩ := inst I1 st1 g1
            refine wpAny_bind (wpAny_tryCompare_declines ty1 PySem.F.slot_tuple_eq_refl (wpAny_call_entry PySem.F.slot_tuple_eq_refl ty1 PySem.F.entry_tuple_eq (tup_declines (J1.type.andThen (PySem.W.looks_mroIn I1.kIn (by rw [hK]; exact hs2))) ⟨_, rfl, rfl, ?_⟩) (PySem.F.args_tuple_eq_2 _ _)))
            refine wpAny_bind (wpAny_rule (wpAny_bind ?_))
            have fin : EP X pins σ Q (.bool false) s1 := ⟨.bl false, H1, I1, rfl, hfin w1 H1 st1 g1 _ (.bl false)⟩
            have e1 := J1.at_
            show wpAny _ _ (if (pp == q) = true then pure true else _) _ _ _
            rw [if_neg (by simpa using hne)]
            refine wpAny_bind (wpAny_load e1 (wpAny_bind (wpAny_load ho1 ?_)))
            show wpAny _ _ (pure false) _ _ _
            exact wpAny_pure (wpAny_pure fin)
          | _ => cases ht
      · have e : ownE D' F p (.obj D' ts) u' = own2s D' F (.obj D' ts) u' := by simp [ownE, ht]
        rw [e] at h
        exact op_ownC (op := .Eq) (fun _ _ => rfl) D hK hM hr hk pins s σ H _ y v u Q I rx ry ⟨w, r, _, u', g0, .obj c hh l d, d2, h⟩
    · have h : OutP G w H (fun _ _ _ => False) (fun t _ w' H' => ∀ v, Den G w' v t → Q v H') ((M.bad : M T) r) := by simpa [ownE, hD] using h
      exact h.elim
  | _ => exact h.elim
theorem s_ownE (D : MethOk X.prog X.w X.base G k C "__eq__" 2 [] F) (N : NiOk X.prog X.w X.base G k' C p) (hK : X.K = G.K) (hM : X.mg = G.mg) (hr : Room j X.A) (hk : k ≤ j) (hk' : k' ≤ j) (ha : SE X G W a f) (hb : SE X G W b g) (hm : behindInMarks .Eq b = false) :
    SE X G W (.Compare a [.Eq] [b] pos) (fun env => f env >>= fun x => g env >>= fun y => ownE C F p x y) := pe_imp (pe_cmpR (op_ownE D N hK hM hr hk hk') ha hb hm) fun σ H Q hq => own_use ownE_ne hq
end
end Ep
namespace Ep
open PySem PySem.Spec L2
/-! ### index -/
def idxT (xs : List T) (t : T) : Option T := match t with
  | .str x => (strsT xs).bind fun ys => if x ∈ ys then some (.int (ys.idxOf x : Nat)) else none
  | .int i => (intsT xs).bind fun ys => if i ∈ ys then some (.int (ys.idxOf i : Nat)) else none
  | _ => none
/-- by values -/
def rIdx (K : PySem.W.Frag) : V → List V → Hp → VK → Prop := fun v us H Q => ∃ p, v = .ref p ∧
  ((∃ (ys : List Str) (x : Str), us = [.str x] ∧ x ∈ ys ∧ ys.length ≤ sizeLine ∧ SqL K H p (ys.map V.str) ∧ Q (.int (ys.idxOf x : Nat)) H) ∨ (∃ (ys : List Int) (i : Int), us = [.int i] ∧ i ∈ ys ∧ ys.length ≤ sizeLine ∧ SqL K H p (ys.map V.int) ∧ Q (.int (ys.idxOf i : Nat)) H))
def rIdxT (K : PySem.W.Frag) : V → List V → Hp → VK → Prop := fun v us H Q => ∃ p, v = .ref p ∧
  ((∃ (ys : List Str) (x : Str), us = [.str x] ∧ x ∈ ys ∧ ys.length ≤ sizeLine ∧ SqT K H p (ys.map V.str) ∧ Q (.int (ys.idxOf x : Nat)) H) ∨ (∃ (ys : List Int) (i : Int), us = [.int i] ∧ i ∈ ys ∧ ys.length ≤ sizeLine ∧ SqT K H p (ys.map V.int) ∧ Q (.int (ys.idxOf i : Nat)) H))
section
variable {X : Cx} {G : Gm} {W : WX} {pos apos : Pos} {a b e : Expr} {f g : Env → M T}
theorem mt_idx : MtR X "list.index" (rIdx X.K) := by
  intro pins s σ H x vs v us Q I rx rv h
  obtain ⟨p, rfl, h⟩ := h
  obtain rfl : v = Value.ref p := rx
  rcases h with ⟨ys, x, rfl, hm, hz, hs, q⟩ | ⟨ys, x, rfl, hm, hz, hs, q⟩
  · obtain ⟨u, rfl, ru⟩ := rv.one
    obtain ⟨t, rfl⟩ := (show ∃ t, u = Value.str x t from ru)
    obtain ⟨its, r, pl, _⟩ := I.list hs
    exact PySem.SeqAt.list_index_strs pl.isList (Vals.strs r) hz hm ⟨.int _, H, I.tok _, ⟨_, rfl⟩, q⟩
  · obtain ⟨u, rfl, ru⟩ := rv.one
    obtain ⟨t, rfl⟩ := (show ∃ t, u = Value.int x t from ru)
    obtain ⟨its, r, pl, _⟩ := I.list hs
    exact PySem.SeqAt.list_index_ints pl.isList (Vals.ints r) hz hm ⟨.int _, H, I.tok _, ⟨_, rfl⟩, q⟩
theorem mt_idxT : MtR X "tuple.index" (rIdxT X.K) := by
  intro pins s σ H x vs v us Q I rx rv h
  obtain ⟨p, rfl, h⟩ := h
  obtain rfl : v = Value.ref p := rx
  rcases h with ⟨ys, x, rfl, hm, hz, hs, q⟩ | ⟨ys, x, rfl, hm, hz, hs, q⟩
  · obtain ⟨u, rfl, ru⟩ := rv.one
    obtain ⟨t, rfl⟩ := (show ∃ t, u = Value.str x t from ru)
    obtain ⟨its, r, pl, _⟩ := I.tuple hs
    exact PySem.SeqAt.tuple_index_strs (show s.heap.IsTuple p its.toArray from pl) (Vals.strs r) hm ⟨.int _, H, I.tok _, ⟨_, rfl⟩, q⟩
  · obtain ⟨u, rfl, ru⟩ := rv.one
    obtain ⟨t, rfl⟩ := (show ∃ t, u = Value.int x t from ru)
    obtain ⟨its, r, pl, _⟩ := I.tuple hs
    exact PySem.SeqAt.tuple_index_ints (show s.heap.IsTuple p its.toArray from pl) (Vals.ints r) hm ⟨.int _, H, I.tok _, ⟨_, rfl⟩, q⟩
def isLst : T → Bool
  | .lst _ => true
  | .kls _ => true
  | .ref _ => true
  | _ => false
def fIdxL (f g : Env → M T) : Env → M T := fun env => f env >>= fun x => if isLst x = true then g env >>= fun y => fun r => M.lift ((lstT r x).bind fun xs => idxT xs y) r else M.bad
theorem idx_of {w : Wd} {us : List V} {xs : List T} {y : V} {t z : T} (d : Dens G w us xs) (dy : Den G w y t) (e : idxT xs t = some z) :
    (∃ (ys : List Str) (x : Str), y = .str x ∧ us = ys.map V.str ∧ x ∈ ys ∧ z = .int (ys.idxOf x : Nat)) ∨ ∃ (ys : List Int) (i : Int), y = .int i ∧ us = ys.map V.int ∧ i ∈ ys ∧ z = .int (ys.idxOf i : Nat) := by
  cases dy with
  | str x =>
    have e : ((strsT xs).bind fun ys => if x ∈ ys then some (.int (ys.idxOf x : Nat)) else none) = some z := e
    cases q : strsT xs with
    | none => rw [q] at e; cases e
    | some ys =>
      rw [q] at e
      have e : (if x ∈ ys then some (T.int (ys.idxOf x : Nat)) else none) = some z := e
      by_cases hm : x ∈ ys
      · rw [if_pos hm] at e; cases e; exact .inl ⟨ys, x, rfl, strs_of d q, hm, rfl⟩
      · rw [if_neg hm] at e; cases e
  | int x =>
    have e : ((intsT xs).bind fun ys => if x ∈ ys then some (.int (ys.idxOf x : Nat)) else none) = some z := e
    cases q : intsT xs with
    | none => rw [q] at e; cases e
    | some ys =>
      rw [q] at e
      have e : (if x ∈ ys then some (T.int (ys.idxOf x : Nat)) else none) = some z := e
      by_cases hm : x ∈ ys
      · rw [if_pos hm] at e; cases e; exact .inr ⟨ys, x, rfl, ints_of d q, hm, rfl⟩
      · rw [if_neg hm] at e; cases e
  | _ => cases e
theorem s_idxL (hK : X.K = G.K) (ha : SK X G W a f) (he : SE X G W e g)
    (hbase : attributeBase a "index" X.env (eval a X.env) = eval a X.env := by rfl)
    (hfew : ((backTo pos (starEach [e] X.env)).all (fun x => !x.1) && (backToKw pos (keywordEach [] X.env)).all (fun x => x.1.isSome)
      && decide (([e] : List Expr).length + ([] : List Keyword).length + (if ([] : List Keyword).isEmpty then 0 else 1) < 30)) = true := by rfl)
    (hline : (apos.endLine == pos.line) = true := by rfl) (hs : starEach [e] X.env = (false, eval e X.env) :: starEach [] X.env := by rfl) (hplain : (backTo pos (starEach [] X.env)).any (·.1) = false := by rfl) :
    SE X G W (.Call (.Attribute a "index" apos) [e] [] pos) (fIdxL f g) :=
  pe_imp (pe_bm PySem.F.plainAttrs_list PySem.F.slot_list_index PySem.F.type_list_index mt_idx ha (pa_cons he pa_nil hs) hbase hfew hline hs hplain) fun σ H Q ⟨w, H0, env, r, g0, s, h0⟩ => by
    refine seqK g0 s h0 fun t r1 w1 H1 v g1 s1 st1 d1 h1 => ?_
    by_cases hl : isLst t = true
    · rw [if_pos hl] at h1
      have isL : ∃ p us, v = V.ref p ∧ SqL X.K H1 p us := by
        rw [hK]
        rcases d1 with d | ⟨p, us, ys, e1, e2, h1, h2, h3, h4⟩
        · cases d with
          | lst hh z d => exact ⟨_, _, rfl, .inl (.inl (g1.sub _ _ hh))⟩
          | kls hh z d => exact ⟨_, _, rfl, g1.sub.seq hh⟩
          | @ref k p hr =>
            obtain ⟨us, hu⟩ := g1.refs.there (List.mem_of_getElem? hr)
            exact ⟨_, us, rfl, SqL.of hu⟩
          | _ => cases hl
        · exact ⟨_, us, e1, SqL.of h2⟩
      obtain ⟨p, us0, rfl, hs0⟩ := isL
      refine ⟨.inl ⟨rfl, us0, hs0⟩, seqE g1 s1 h1 fun u r2 w2 H2 y g2 s2 st2 d2 h2 => ?_⟩
      obtain ⟨z, ez, h3⟩ := liftP h2
      cases q : lstT r2 t with
      | none => rw [q] at ez; cases ez
      | some xs =>
        rw [q] at ez
        have ez : idxT xs u = some z := ez
        obtain ⟨p', us, e1, hs, dd, hz⟩ := lst_of g2 (d1.step st2) q
        cases e1
        rw [hK]
        rcases idx_of dd d2 ez with ⟨ys, x, rfl, rfl, hm, rfl⟩ | ⟨ys, x, rfl, rfl, hm, rfl⟩
        · have hz : ys.length ≤ sizeLine := by rw [← dd.length, List.length_map] at hz; exact hz
          exact ⟨p, rfl, .inl ⟨ys, x, rfl, hm, hz, hs, h3 w2 H2 (Step.refl _ _) g2 _ (.int _)⟩⟩
        · have hz : ys.length ≤ sizeLine := by rw [← dd.length, List.length_map] at hz; exact hz
          exact ⟨p, rfl, .inr ⟨ys, x, rfl, hm, hz, hs, h3 w2 H2 (Step.refl _ _) g2 _ (.int _)⟩⟩
    · rw [if_neg hl] at h1; exact h1.elim
/-- a tuple of the top -/
structure GtOk (G : Gm) (x : Str) (xs : List T) : Prop where
  ex : ∃ p o its n us, G.mg x = some (.ref p) ∧ G.K.lookup p = some o ∧ o.cls = .type "tuple" ∧ o.dict = none ∧ o.data = .seq its n ∧ its.size ≤ sizeLine ∧ Vals us its.toList ∧ ∀ w, Dens G w us xs
theorem GtOk.den {x : Str} {xs : List T} (ok : GtOk G x xs) : ∃ v u, G.mg x = some u ∧ RelV v u ∧ ∀ w, Den G w v (.tup xs) := by
  obtain ⟨p, o, its, n, us, h1, h2, h3, h4, h5, h6, h7, h8⟩ := ok.ex
  refine ⟨.ref p, .ref p, h1, rfl, fun w => .tup (.inr ⟨o, its, n, h2, h3, h5, h6, h7⟩) ?_ (h8 w)⟩
  rw [← (h8 w).length, h7.length, Array.length_toList]
  exact h6
theorem s_gt {x : Str} {xs : List T} (ok : GtOk G x xs) (hM : X.mg = G.mg) (hg : Gl X x) (hd : (x == ("__debug__" : Str)) = false := by decide) : SE X G W (.Name x pos) (fC (.tup xs)) := by
  obtain ⟨v, u, h1, h2, h3⟩ := ok.den
  exact s_glob hg (by rw [hM]; exact h1) h2 h3 hd
def fIdxG (xs : List T) (g : Env → M T) : Env → M T := fun env => g env >>= fun y => M.lift (idxT xs y)
theorem s_idxG {x : Str} {px : Pos} {xs : List T} (ok : GtOk G x xs) (hK : X.K = G.K) (hM : X.mg = G.mg) (hg : Gl X x) (he : SE X G W e g)
    (hbase : attributeBase (.Name x px) "index" X.env (eval (.Name x px) X.env) = eval (.Name x px) X.env := by rfl)
    (hfew : ((backTo pos (starEach [e] X.env)).all (fun x => !x.1) && (backToKw pos (keywordEach [] X.env)).all (fun x => x.1.isSome)
      && decide (([e] : List Expr).length + ([] : List Keyword).length + (if ([] : List Keyword).isEmpty then 0 else 1) < 30)) = true := by rfl)
    (hline : (apos.endLine == pos.line) = true := by rfl) (hs : starEach [e] X.env = (false, eval e X.env) :: starEach [] X.env := by rfl) (hplain : (backTo pos (starEach [] X.env)).any (·.1) = false := by rfl) (hd : (x == ("__debug__" : Str)) = false := by decide) :
    SE X G W (.Call (.Attribute (.Name x px) "index" apos) [e] [] pos) (fIdxG xs g) := by
  obtain ⟨p, o, its, n, us, h1, h2, h3, h4, h5, h6, h7, h8⟩ := ok.ex
  refine pe_imp (pe_bm PySem.F.plainAttrs_tuple PySem.F.slot_tuple_index PySem.F.type_tuple_index mt_idxT (pe_glob (v := .ref p) hg (by rw [hM]; exact h1) rfl hd) (pa_cons he pa_nil hs) hbase hfew hline hs hplain) fun σ H Q ⟨w, H0, env, r, g0, s, h0⟩ => ?_
  rw [hK]
  refine ⟨.inr (.inl ⟨rfl, o, h2, h3, h4⟩), seqE g0 s h0 fun u r2 w2 H2 y g2 s2 st2 d2 hq => ?_⟩
  obtain ⟨z, ez, h9⟩ := liftP hq
  have hT : SqT G.K H2 p us := .inr ⟨o, its, n, h2, h3, h5, h6, h7⟩
  have hz : us.length ≤ sizeLine := by rw [h7.length, Array.length_toList]; exact h6
  rcases idx_of (h8 w2) d2 ez with ⟨ys, x, rfl, rfl, hm, rfl⟩ | ⟨ys, x, rfl, rfl, hm, rfl⟩
  · exact ⟨p, rfl, .inl ⟨ys, x, rfl, hm, by simpa using hz, hT, h9 w2 H2 (Step.refl _ _) g2 _ (.int _)⟩⟩
  · exact ⟨p, rfl, .inr ⟨ys, x, rfl, hm, by simpa using hz, hT, h9 w2 H2 (Step.refl _ _) g2 _ (.int _)⟩⟩
/-! ### d.get(k, x) of a dict of the top -/
structure GgOk (wd : World) (G : Gm) (x : Str) (tb : Str → Option (Option T)) : Prop where
  ex : ∃ p es n, G.mg x = some (.ref p) ∧ G.K.lookup p = some ⟨.type "dict", none, .dict es n, #[]⟩ ∧ PySem.W.KeysLit wd.params es.toList ∧ (p == sysModules) = false ∧ ∀ z, (∀ t, tb z = some (some t) → ∃ u v, PySem.W.nsIn G.K p z = some (some u) ∧ RelV v u ∧ ∀ w, Den G w v t) ∧ (tb z = some none → PySem.W.nsIn G.K p z = some none)
def fGget (tb : Str → Option (Option T)) (f g : Env → M T) : Env → M T := fun env => f env >>= fun t => g env >>= fun d => match t with
  | .str z => M.lift ((tb z).map fun o => o.getD d)
  | _ => M.bad
theorem s_gget {x : Str} {px : Pos} {c : Expr} {tb : Str → Option (Option T)} (ok : GgOk X.w G x tb) (hK : X.K = G.K) (hM : X.mg = G.mg) (hg : Gl X x) (hi : SE X G W e f) (hc : SE X G W c g) (m : M2 X (.Name x px) "get" apos e c pos) (hd : (x == ("__debug__" : Str)) = false := by decide) : SE X G W (.Call (.Attribute (.Name x px) "get" apos) [e, c] [] pos) (fGget tb f g) := by
  obtain ⟨p, es, n, h1, h2, h3, h4, h5⟩ := ok.ex
  have h2' : X.K.lookup p = some ⟨.type "dict", none, .dict es n, #[]⟩ := by rw [hK]; exact h2
  refine ⟨fun pins s σ H Q I h => ?_⟩
  refine wpAny_Call_method m.base m.few m.line PySem.F.plainAttrs_dict PySem.F.slot_dict_get PySem.F.type_dict_get (ld_glob I hg (by rw [hM]; exact h1) ?_ hd)
  have hm := PySem.W.mapOf_K (prog := X.prog) (w := X.w) I.kIn (by rw [hK]; exact h2) h3
  refine ⟨hm.typeIs, fun a q => ?_, ?_⟩
  · cases q
    exact ⟨_, I.kIn _ _ (by rw [hK]; exact h2), rfl⟩
  rw [m.trees]
  obtain ⟨w, H0, env, r, g0, s0, h0⟩ := h
  refine wpAny_dict_get2 (knd := PySem.strKind X.prog X.w) h4 (thn (hi.run pins s σ H (fun y H1 => ∃ w1 r1 t, Good G w1 H1 r1 ∧ Slots G w1 H0 H1 σ env ∧ Den G w1 y t ∧ OutP G w1 H1 (WE0 W σ) (fun t _ w' H' => ∀ v, Den G w' v t → Q v H') ((g env >>= fun d => (match t with
    | .str z => M.lift ((tb z).map fun o => o.getD d)
    | _ => M.bad : M T)) r1)) I (seqE g0 s0 h0 fun t r1 w1 H1 y g1 s1 st1 d1 h6 => ⟨w1, r1, t, g1, s1, d1, h6⟩)) fun iv s1 ⟨y, H1, I1, ry, w1, r1, t, g1, sl1, d1, h6⟩ => ?_)
  refine thn (hc.run pins s1 σ H1 (fun v H2 => ∃ z d r2 w2, y = .str z ∧ Good G w2 H2 r2 ∧ Den G w2 v d ∧ OutP G w2 H2 (WE0 W σ) (fun t _ w' H' => ∀ v, Den G w' v t → Q v H') ((M.lift ((tb z).map fun o => o.getD d) : M T) r2)) I1 (seqE g1 sl1 h6 fun d r2 w2 H2 v g2 s2 st2 d2 h7 => ?_)) fun dv s2 ⟨v, H2, I2, rv, z, d, r2, w2, ey, g2, d2, h7⟩ => ?_
  · cases d1 with
    | str z => exact ⟨z, d, r2, w2, rfl, g2, d2, h7⟩
    | _ => exact h7.elim
  · subst ey
    obtain ⟨tk, rfl⟩ := (show ∃ t, iv = Value.str z t from ry)
    obtain ⟨o, eo, h8⟩ := liftP h7
    have hm2 := PySem.W.mapOf_K (prog := X.prog) (w := X.w) I2.kIn (by rw [hK]; exact h2) h3
    refine ⟨z, _, PySem.strKind_is X.prog X.w z tk, hm2, ?_⟩
    cases q : tb z with
    | none => rw [q] at eo; cases eo
    | some o' =>
      rw [q] at eo
      have eo : o'.getD d = o := by cases eo; rfl
      subst eo
      have h9 := h8 w2 H2 (Step.refl _ _) g2
      cases o' with
      | none =>
        have := PySem.W.find_K h2' (by rw [hK]; exact (h5 z).2 q : PySem.W.nsIn X.K p z = some none)
        show EP X pins σ Q ((PySem.findBy Value.isStrOf es z).getD dv) _
        rw [this]
        exact ⟨v, H2, I2.tok _, rv, h9 v d2⟩
      | some t' =>
        obtain ⟨u, v', e1, e2, e3⟩ := (h5 z).1 t' q
        have := PySem.W.find_K h2' (by rw [hK]; exact e1 : PySem.W.nsIn X.K p z = some (some u))
        show EP X pins σ Q ((PySem.findBy Value.isStrOf es z).getD dv) _
        rw [this]
        exact ⟨v', H2, I2.tok _, e2, h9 v' (e3 w2)⟩
end
end Ep
namespace Ep
open PySem PySem.Spec L2 He
/-! ### what the head tells -/
/-- a written value is t -/
def denB (K : PySem.W.Frag) : Nat → Value → T → Bool
  | _, .none, .non => true
  | _, .bool b, .bl c => b == c
  | _, .int i _, .int j => decide (i = j)
  | _, .str x _, .str y => decide (x = y)
  | n + 1, .ref a, .tup ts => match K.lookup a with
    | some ⟨.type c, _, .seq its _, _⟩ => decide (c = "tuple") && (decide (its.size ≤ sizeLine) && go n its.toList ts)
    | _ => false
  | _, _, _ => false
where go (n : Nat) : List Value → List T → Bool
  | [], [] => true
  | u :: us, t :: ts => denB K n u t && go n us ts
  | _, _ => false
theorem and2 {a b : Bool} (h : (a && b) = true) : a = true ∧ b = true := Bool.and_eq_true_iff.mp h
section
variable {G : Gm} {wd : World} {K : PySem.W.Frag} {mg : Str → Option Value}
theorem denB_go (hK : G.K = K) (n : Nat) (ih : ∀ u t, denB K n u t = true → ∃ v, RelV v u ∧ ∀ w, Den G w v t) : ∀ {us : List Value} {ts : List T}, denB.go K n us ts = true → ∃ vs, Vals vs us ∧ ∀ w, Dens G w vs ts
  | [], [], _ => ⟨[], .nil, fun _ => .nil⟩
  | [], _ :: _, h => by cases h
  | _ :: _, [], h => by cases h
  | u :: us, t :: ts, h => by
    obtain ⟨h1, h2⟩ := and2 (show (denB K n u t && denB.go K n us ts) = true from h)
    obtain ⟨v, r, d⟩ := ih u t h1
    obtain ⟨vs, rs, ds⟩ := denB_go hK n ih h2
    exact ⟨v :: vs, .cons r rs, fun w => .cons (d w) (ds w)⟩
theorem denB_ok (hK : G.K = K) : ∀ (n : Nat) (u : Value) (t : T), denB K n u t = true → ∃ v, RelV v u ∧ ∀ w, Den G w v t := by
  intro n
  induction n with
  | zero =>
    intro u t h
    cases u <;> cases t <;> first | (simp [denB] at h; done) | skip
    · exact ⟨.non, rfl, fun _ => .non⟩
    · rename_i b c
      obtain rfl : b = c := by simpa [denB] using h
      exact ⟨.bl b, rfl, fun _ => .bl b⟩
    · rename_i i t j
      obtain rfl : i = j := of_decide_eq_true h
      exact ⟨.int i, ⟨t, rfl⟩, fun _ => .int i⟩
    · rename_i x t y
      obtain rfl : x = y := of_decide_eq_true h
      exact ⟨.str x, ⟨t, rfl⟩, fun _ => .str x⟩
  | succ n ih =>
    intro u t h
    cases u <;> cases t <;> first | (simp [denB] at h; done) | skip
    · exact ⟨.non, rfl, fun _ => .non⟩
    · rename_i b c
      obtain rfl : b = c := by simpa [denB] using h
      exact ⟨.bl b, rfl, fun _ => .bl b⟩
    · rename_i i t j
      obtain rfl : i = j := of_decide_eq_true h
      exact ⟨.int i, ⟨t, rfl⟩, fun _ => .int i⟩
    · rename_i x t y
      obtain rfl : x = y := of_decide_eq_true h
      exact ⟨.str x, ⟨t, rfl⟩, fun _ => .str x⟩
    · rename_i a ts
      unfold denB at h
      split at h
      · rename_i c od its n1 sl q
        obtain ⟨h1, h2⟩ := and2 h
        obtain ⟨h3, h4⟩ := and2 h2
        have h1 := of_decide_eq_true h1
        have h3 := of_decide_eq_true h3
        obtain ⟨vs, rs, ds⟩ := denB_go hK n ih h4
        subst hK
        subst h1
        refine ⟨.ref a, rfl, fun w => .tup (.inr ⟨_, its, n1, q, rfl, rfl, h3, rs⟩) ?_ (ds w)⟩
        rw [← (ds w).length, rs.length, Array.length_toList]
        exact h3
      · cases h
/-- a tuple of the top -/
def gtB (K : PySem.W.Frag) (x : Str) (ts : List T) : Bool := match K.lookup (ga K x) with
  | some ⟨.type c, none, .seq its _, _⟩ => decide (c = "tuple") && (decide (its.size ≤ sizeLine) && denB.go K 6 its.toList ts)
  | _ => false
theorem gtB_ok {x : Str} {ts : List T} (hK : G.K = K) (hg : G.mg x = some (.ref (ga K x))) (h : gtB K x ts = true) : GtOk G x ts := by
  unfold gtB at h
  split at h
  · rename_i c its n1 sl q
    obtain ⟨h1, h2⟩ := and2 h
    obtain ⟨h3, h4⟩ := and2 h2
    obtain ⟨vs, rs, ds⟩ := denB_go hK 6 (denB_ok hK 6) h4
    have h1 := of_decide_eq_true h1
    subst h1
    exact ⟨_, _, its, n1, vs, hg, by rw [hK]; exact q, rfl, rfl, rfl, of_decide_eq_true h3, rs, ds⟩
  · cases h
/-- a dict of the top -/
def ggB (K : PySem.W.Frag) (x : Str) : List (Str × Option T) → Bool
  | [] => true
  | (z, o) :: r => (match PySem.W.nsIn K (ga K x) z, o with
    | some (some u), some t => denB K 6 u t
    | some none, none => true
    | _, _ => false) && ggB K x r
theorem ggB_at {x : Str} : ∀ {rows : List (Str × Option T)} {z : Str} {o : Option T}, ggB K x rows = true → rows.lookup z = some o → (match PySem.W.nsIn K (ga K x) z, o with
    | some (some u), some t => denB K 6 u t
    | some none, none => true
    | _, _ => false) = true
  | [], _, _, _, e => by cases e
  | (y, o') :: r, z, o, h, e => by
    obtain ⟨h1, h2⟩ := and2 h
    rw [List.lookup_cons] at e
    cases q : z == y with
    | true =>
      rw [q] at e
      cases e
      rw [beq_iff_eq.mp q]
      exact h1
    | false =>
      rw [q] at e
      exact ggB_at h2 e
theorem ggB_ok {x : Str} {rows : List (Str × Option T)} {ks : List Str} (hK : G.K = K) (hg : G.mg x = some (.ref (ga K x))) (hd : dicW K (ga K x) = some (keysIn wd.params ks)) (h : ggB K x rows = true) : GgOk wd G x (fun z => rows.lookup z) := by
  obtain ⟨es, n, D⟩ := dicW_ok hd
  subst hK
  refine ⟨_, es, n, hg, D.at_, D.lit, D.low, fun z => ⟨fun t e => ?_, fun e => ?_⟩⟩
  · have := ggB_at h e
    split at this
    · rename_i u t' q1 q2
      cases q2
      obtain ⟨v, r, d⟩ := denB_ok rfl 6 _ _ this
      exact ⟨u, v, q1, r, d⟩
    · rename_i q2; cases q2
    · cases this
  · have := ggB_at h e
    split at this
    · rename_i q2; cases q2
    · rename_i q1 q2; exact q1
    · cases this
theorem GgOk.gd {x : Str} {tb : Str → Option (Option T)} (ok : GgOk wd G x tb) : GdOk wd G x (fun z => (tb z).bind id) := by
  obtain ⟨p, es, n, h1, h2, h3, h4, h5⟩ := ok.ex
  refine ⟨p, es, n, h1, h2, h3, h4, fun z t e => (h5 z).1 t ?_⟩
  cases q : tb z with
  | none => rw [q] at e; cases e
  | some o => rw [q] at e; rw [show o = some t from e]
/-- isinstance -/
def kvB (K : PySem.W.Frag) (cn : Nat → Str) : Kd → Value
  | .b s => .type s
  | .o C => .ref (ga K (cn C))
def clB (K : PySem.W.Frag) (cn : Nat → Str) : Cl → Value
  | .ty s => .type s
  | .cl C => .ref (ga K (cn C))
def insB (K : PySem.W.Frag) (x : Str) : Bool := (Fa.cls x).ok K && (decide (PySem.W.findIn K (.ref (ga K x)) "__class__" = some (some (.builtin "object.__class__"))) && (decide (PySem.W.specialIn K (.builtin "object.__class__") "__get__" = some (some (.builtin "getset_descriptor.__get__"))) &&
  (decide (PySem.W.takesIn K (.builtin "object.__class__") = some true) && decide (PySem.W.mroIn K (ga K x) (.type "object") = some true))))
theorem insB_ok {x : Str} (h : insB K x = true) : InsTy K (ga K x) := by
  obtain ⟨h1, h2⟩ := and2 h
  obtain ⟨h2, h3⟩ := and2 h2
  obtain ⟨h3, h4⟩ := and2 h3
  obtain ⟨h4, h5⟩ := and2 h4
  exact ⟨cls_ok h1, of_decide_eq_true h2, of_decide_eq_true h3, of_decide_eq_true h4, of_decide_eq_true h5⟩
def tabB (K : PySem.W.Frag) (cn : Nat → Str) : List (Kd × Cl × Bool) → Bool
  | [] => true
  | (k, c, b) :: r => (decide (PySem.W.kitOne K (kvB K cn k) (clB K cn c) = some b) && (match k with
    | .o C => insB K (cn C)
    | _ => true)) && tabB K cn r
def tabF (rows : List (Kd × Cl × Bool)) (k : Kd) (c : Cl) : Option Bool := (rows.find? fun p => decide (p.1 = k ∧ p.2.1 = c)).map fun p => p.2.2
theorem tabB_all {cn : Nat → Str} : ∀ {rows : List (Kd × Cl × Bool)}, tabB K cn rows = true → ∀ p ∈ rows, PySem.W.kitOne K (kvB K cn p.1) (clB K cn p.2.1) = some p.2.2 ∧ ∀ C, p.1 = .o C → InsTy K (ga K (cn C))
  | [], _, _, hp => by cases hp
  | (k, c, b) :: r, h, p, hp => by
    obtain ⟨h1, h2⟩ := and2 h
    rcases List.mem_cons.mp hp with e | hp
    · subst e
      obtain ⟨h3, h4⟩ := and2 h1
      refine ⟨of_decide_eq_true h3, fun C e => ?_⟩
      have e : k = .o C := e
      subst e
      exact insB_ok h4
    · exact tabB_all h2 p hp
theorem tabB_ok {rows : List (Kd × Cl × Bool)} (hK : G.K = K) (hg : ∀ C cA, G.mg (G.cn C) = some (.ref cA) → cA = ga K (G.cn C)) (h : tabB K G.cn rows = true) : TabOk G (tabF rows) := by
  intro k c b e
  unfold tabF at e
  cases q : rows.find? fun p => decide (p.1 = k ∧ p.2.1 = c) with
  | none => rw [q] at e; cases e
  | some p =>
    rw [q] at e
    cases e
    obtain ⟨h1, h2⟩ := tabB_all h p (List.mem_of_find?_eq_some q)
    have hp : p.1 = k ∧ p.2.1 = c := by
      have := List.find?_some q
      simpa using this
    obtain ⟨e1, e2⟩ := hp
    subst e1 e2
    subst hK
    refine ⟨fun C ek cA hc => ?_, fun u z hu hz => ?_⟩
    · rw [hg C cA hc]; exact h2 C ek
    · have eu : u = kvB G.K G.cn p.1 := by
        cases ek : p.1 with
        | b s => rw [ek] at hu; exact hu
        | o C =>
          rw [ek] at hu
          obtain ⟨cA, hc, e, _⟩ := hu
          rw [e, hg C cA hc]; rfl
      have ez : z = clB G.K G.cn p.2.1 := by
        cases ek : p.2.1 with
        | ty s => rw [ek] at hz; exact hz
        | cl C =>
          rw [ek] at hz
          obtain ⟨cA, hc, e⟩ := hz
          rw [e, hg C cA hc]; rfl
      rw [eu, ez]
      exact h1
end
end Ep
namespace Ep
open PySem PySem.Spec L2 He
/-- a tuple at an address of one's own -/
def taB (K : PySem.W.Frag) (a : Addr) (ts : List T) : Bool := denB K 7 (.ref a) (.tup ts)
theorem taB_ok {G : Gm} {K : PySem.W.Frag} {a : Addr} {ts : List T} (hK : G.K = K) (h : taB K a ts = true) : ∀ w, Den G w (.ref a) (.tup ts) := by
  obtain ⟨v, r, d⟩ := denB_ok hK 7 _ _ h
  intro w
  have := d w
  cases this with
  | @tup b vs us h z dd =>
    have e : Value.ref a = Value.ref b := r
    cases e
    exact .tup h z dd
end Ep
namespace Ep
open PySem PySem.Spec L2 He
/-! ### short words for generated derivations -/
structure Bd (X : Cx) (G : Gm) (W : WX) (j : Nat) : Prop where
  eK : X.K = G.K
  eM : X.mg = G.mg
  tk : Takes X W
  rm : Room j X.A
  nd : X.N.Nodup
  calm : X.calm = true
theorem Bd.blk {X : Cx} {G : Gm} {W : WX} {j : Nat} (B : Bd X G W j) (s : Shared) (H : Hp) (scope : Scope) (cenv : PySem.Env) (fp : List Addr) : Bd (X.blk s H scope cenv fp) G W0 j := ⟨B.eK, B.eM, takes0, B.rm, B.nd, B.calm⟩
theorem bd_of {P : Program} {wd : World} {G : Gm} {base : Heap} {N ps : List Str} {qual : Str} {st : Stmt} {f : Addr} {cdv : Value} {A : Around} {outer : List PySem.Env} {s : Shared} {H : Hp} {E : XK} {k : Nat} (S : FnScope N ps (defScope st)) (hr : Room k (A.deeper (PyProof.Rows.envOfC qual (defScope st) s.heap.objs.size f cdv))) :
    Bd (cxB P wd G base N qual st f cdv A outer s H E) G (WD E) k := ⟨rfl, rfl, takes_of rfl rfl rfl rfl, hr, S.nd, rfl⟩
theorem po_of {P : Program} {wd : World} {G : Gm} {base : Heap} {N : List Str} {qual : Str} {st : Stmt} {f : Addr} {cdv : Value} {A : Around} {outer : List PySem.Env} {s : Shared} {H : Hp} {E : XK} :
    PassesOwn (model P wd) (cxB P wd G base N qual st f cdv A outer s H E).A (cxB P wd G base N qual st f cdv A outer s H E).env (cxB P wd G base N qual st f cdv A outer s H E).xe :=
  passes_of (X := cxB P wd G base N qual st f cdv A outer s H E) (K := fun e s'' => L2.CX P wd outer H s E e s'') (E₁ := fun e' s'' => L2.CX P wd outer H s E e' s'') rfl
section
variable {X : Cx} {G : Gm} {W : WX} {j : Nat} {pos p : Pos} {a b c : Expr} {f g h : Env → M T} {x : Str}
/-! names -/
theorem vr (i : Nat) (hN : X.N[i]? = some x := by rfl) (hv : Vis X.env.scope x := by first | exact Or.inl rfl | exact Or.inr (Or.inl rfl) | exact Or.inr (Or.inr rfl)) (hd : (x == ("__debug__" : Str)) = false := by decide) (hcd : (x == ("__classdict__" : Str)) = false := by decide) : SE X G W (.Name x pos) (fVar i) := s_var i hN hv hd hcd
theorem kv (i : Nat) (hN : X.N[i]? = some x := by rfl) (hv : Vis X.env.scope x := by first | exact Or.inl rfl | exact Or.inr (Or.inl rfl) | exact Or.inr (Or.inr rfl)) (hd : (x == ("__debug__" : Str)) = false := by decide) (hcd : (x == ("__classdict__" : Str)) = false := by decide) : SK X G W (.Name x pos) (fBor i) := k_var i hN hv hd hcd
theorem dvr (i : Nat) (hN : X.N[i]? = some x := by rfl) (hv : Vis X.env.scope x := by first | exact Or.inl rfl | exact Or.inr (Or.inl rfl) | exact Or.inr (Or.inr rfl)) (hd : (x == ("__debug__" : Str)) = false := by decide) (hcd : (x == ("__classdict__" : Str)) = false := by decide) : SD X G W (.Name x pos) (fBorD i) := d_var i hN hv hd hcd
theorem Bd.cls (B : Bd X G W j) (C : Nat) {cA : Addr} (hm : G.mg x = some (.ref cA)) (hx : x = G.cn C := by rfl) (hg : Gl X x := by rfl) (hd : (x == ("__debug__" : Str)) = false := by decide) : SE X G W (.Name x pos) (fC (.cl C)) := by
  subst hx
  exact s_glob hg (by rw [B.eM]; exact hm) (v := .ref cA) rfl (fun w => .cl hm) hd
theorem Bd.ty (B : Bd X G W j) (n : String) (hm : G.mg x = none) (hb : bootBuiltins x = some (.type n) := by rfl) (hg : Gl X x := by rfl) (hn : x ≠ "__name__" := by decide) (hd : (x == ("__debug__" : Str)) = false := by decide) : SE X G W (.Name x pos) (fC (.ty n)) := s_bltn hg (by rw [B.eM]; exact hm) hb (v := .ty n) rfl (fun w => .ty n) hn hd
theorem Bd.gint (B : Bd X G W j) (i : Int) (hm : ∃ t, G.mg x = some (.int i t)) (hg : Gl X x := by rfl) (hd : (x == ("__debug__" : Str)) = false := by decide) : SE X G W (.Name x pos) (fC (.int i)) := by
  obtain ⟨t, hm⟩ := hm
  exact s_glob hg (by rw [B.eM]; exact hm) (v := .int i) ⟨t, rfl⟩ (fun w => .int i) hd
theorem Bd.gstr (B : Bd X G W j) (z : Str) (hm : ∃ t, G.mg x = some (.str z t)) (hg : Gl X x := by rfl) (hd : (x == ("__debug__" : Str)) = false := by decide) : SE X G W (.Name x pos) (fC (.str z)) := by
  obtain ⟨t, hm⟩ := hm
  exact s_glob hg (by rw [B.eM]; exact hm) (v := .str z) ⟨t, rfl⟩ (fun w => .str z) hd
theorem Bd.gt (B : Bd X G W j) {xs : List T} (ok : GtOk G x xs) (hg : Gl X x := by rfl) (hd : (x == ("__debug__" : Str)) = false := by decide) : SE X G W (.Name x pos) (fC (.tup xs)) := s_gt ok B.eM hg hd
/-! arithmetic -/
theorem Bd.add (B : Bd X G W j) (ha : SE X G W a f) (hb : SE X G W b g) : SE X G W (.BinOp a .Add b pos) (fBin addT f g) := s_bin op_addA (v_add B.eK) ha hb
theorem Bd.sub (B : Bd X G W j) (ha : SE X G W a f) (hb : SE X G W b g) : SE X G W (.BinOp a .Sub b pos) (fBin subT f g) := s_bin op_sub v_sub ha hb
theorem Bd.mul (B : Bd X G W j) (ha : SE X G W a f) (hb : SE X G W b g) : SE X G W (.BinOp a .Mult b pos) (fBin mulT f g) := s_bin op_mulA (v_mul B.eK) ha hb
theorem Bd.div (B : Bd X G W j) (ha : SE X G W a f) (hb : SE X G W b g) : SE X G W (.BinOp a .FloorDiv b pos) (fBin divT f g) := s_bin op_divA v_div ha hb
theorem Bd.mod (B : Bd X G W j) (ha : SE X G W a f) (hb : SE X G W b g) : SE X G W (.BinOp a .Mod b pos) (fBin modT f g) := s_bin op_modA v_mod ha hb
theorem Bd.pow (B : Bd X G W j) (ha : SE X G W a f) (hb : SE X G W b g) : SE X G W (.BinOp a .Pow b pos) (fBin powT f g) := s_bin op_pow v_pow ha hb
theorem Bd.neg (B : Bd X G W j) (ha : SE X G W a f) : SE X G W (.UnaryOp .USub a pos) (fUn negT f) := s_un un_neg v_neg ha
/-! comparisons, as values and as tests -/
variable {p' : Env → M Bool}
theorem Bd.eq (B : Bd X G W j) (ha : SK X G W a f) (hb : SK X G W b g) (hm : behindInMarks .Eq b = false := by rfl) : SE X G W (.Compare a [.Eq] [b] pos) (fCmp eqT f g) := s_cmp (op_eqD B.rm.units) (v_eq B.eK) ha hb hm
theorem Bd.ne (B : Bd X G W j) (ha : SK X G W a f) (hb : SK X G W b g) (hm : behindInMarks .NotEq b = false := by rfl) : SE X G W (.Compare a [.NotEq] [b] pos) (fCmp neT f g) := s_cmp (op_neD B.rm.units) (v_ne B.eK) ha hb hm
theorem Bd.lt (B : Bd X G W j) (ha : SK X G W a f) (hb : SK X G W b g) (hm : behindInMarks .Lt b = false := by rfl) : SE X G W (.Compare a [.Lt] [b] pos) (fCmp ltT f g) := s_cmp op_lt v_lt ha hb hm
theorem Bd.le (B : Bd X G W j) (ha : SK X G W a f) (hb : SK X G W b g) (hm : behindInMarks .LtE b = false := by rfl) : SE X G W (.Compare a [.LtE] [b] pos) (fCmp leT f g) := s_cmp op_le v_le ha hb hm
theorem Bd.gtr (B : Bd X G W j) (ha : SK X G W a f) (hb : SK X G W b g) (hm : behindInMarks .Gt b = false := by rfl) : SE X G W (.Compare a [.Gt] [b] pos) (fCmp gtT f g) := s_cmp op_gt v_gt ha hb hm
theorem Bd.ge (B : Bd X G W j) (ha : SK X G W a f) (hb : SK X G W b g) (hm : behindInMarks .GtE b = false := by rfl) : SE X G W (.Compare a [.GtE] [b] pos) (fCmp geT f g) := s_cmp op_ge v_ge ha hb hm
theorem Bd.is_ (B : Bd X G W j) (ha : SK X G W a f) (hb : SK X G W b g) (hm : behindInMarks .Is b = false := by rfl) : SE X G W (.Compare a [.Is] [b] pos) (fCmp isT f g) := s_cmp op_isA v_is ha hb hm
theorem Bd.nis (B : Bd X G W j) (ha : SK X G W a f) (hb : SK X G W b g) (hm : behindInMarks .IsNot b = false := by rfl) : SE X G W (.Compare a [.IsNot] [b] pos) (fCmp nisT f g) := s_cmp op_notA v_nis ha hb hm
theorem units65 {A : Around} (r : Room j A) : A.units + 65 < cLine := by have := r.un; omega
theorem Bd.in_ (B : Bd X G W j) (ha : SK X G W a f) (hb : SK X G W b g) (hm : behindInMarks .In b = false := by rfl) : SE X G W (.Compare a [.In] [b] pos) (fCmp inT f g) := s_cmp (op_inA (units65 B.rm)) (v_in B.eK) ha hb hm
theorem Bd.nin (B : Bd X G W j) (ha : SK X G W a f) (hb : SK X G W b g) (hm : behindInMarks .NotIn b = false := by rfl) : SE X G W (.Compare a [.NotIn] [b] pos) (fCmp ninT f g) := s_cmp (op_ninA (units65 B.rm)) (v_nin B.eK) ha hb hm
theorem Bd.eqB (B : Bd X G W j) (ha : SK X G W a f) (hb : SK X G W b g) (hm : behindInMarks .Eq b = false := by rfl) : SB X G W (.Compare a [.Eq] [b] pos) (fCmpB eqT f g) := s_cmpB (op_eqD B.rm.units) (v_eq B.eK) ha hb hm
theorem Bd.neB (B : Bd X G W j) (ha : SK X G W a f) (hb : SK X G W b g) (hm : behindInMarks .NotEq b = false := by rfl) : SB X G W (.Compare a [.NotEq] [b] pos) (fCmpB neT f g) := s_cmpB (op_neD B.rm.units) (v_ne B.eK) ha hb hm
theorem Bd.ltB (B : Bd X G W j) (ha : SK X G W a f) (hb : SK X G W b g) (hm : behindInMarks .Lt b = false := by rfl) : SB X G W (.Compare a [.Lt] [b] pos) (fCmpB ltT f g) := s_cmpB op_lt v_lt ha hb hm
theorem Bd.leB (B : Bd X G W j) (ha : SK X G W a f) (hb : SK X G W b g) (hm : behindInMarks .LtE b = false := by rfl) : SB X G W (.Compare a [.LtE] [b] pos) (fCmpB leT f g) := s_cmpB op_le v_le ha hb hm
theorem Bd.gtB (B : Bd X G W j) (ha : SK X G W a f) (hb : SK X G W b g) (hm : behindInMarks .Gt b = false := by rfl) : SB X G W (.Compare a [.Gt] [b] pos) (fCmpB gtT f g) := s_cmpB op_gt v_gt ha hb hm
theorem Bd.geB (B : Bd X G W j) (ha : SK X G W a f) (hb : SK X G W b g) (hm : behindInMarks .GtE b = false := by rfl) : SB X G W (.Compare a [.GtE] [b] pos) (fCmpB geT f g) := s_cmpB op_ge v_ge ha hb hm
theorem Bd.isB (B : Bd X G W j) (ha : SK X G W a f) (hb : SK X G W b g) (hm : behindInMarks .Is b = false := by rfl) : SB X G W (.Compare a [.Is] [b] pos) (fCmpB isT f g) := s_cmpB op_isA v_is ha hb hm
theorem Bd.nisB (B : Bd X G W j) (ha : SK X G W a f) (hb : SK X G W b g) (hm : behindInMarks .IsNot b = false := by rfl) : SB X G W (.Compare a [.IsNot] [b] pos) (fCmpB nisT f g) := s_cmpB op_notA v_nis ha hb hm
theorem Bd.inB (B : Bd X G W j) (ha : SK X G W a f) (hb : SK X G W b g) (hm : behindInMarks .In b = false := by rfl) : SB X G W (.Compare a [.In] [b] pos) (fCmpB inT f g) := s_cmpB (op_inA (units65 B.rm)) (v_in B.eK) ha hb hm
theorem Bd.ninB (B : Bd X G W j) (ha : SK X G W a f) (hb : SK X G W b g) (hm : behindInMarks .NotIn b = false := by rfl) : SB X G W (.Compare a [.NotIn] [b] pos) (fCmpB ninT f g) := s_cmpB (op_ninA (units65 B.rm)) (v_nin B.eK) ha hb hm
/-- a value as a test -/
theorem Bd.tru (B : Bd X G W j) (ha : SE X G W a f) (he : ∀ whole, isTrue a X.env whole = (do let v ← whole; standAt a.pos; holding [v] (truthy v)) := by intro _; rfl) : SB X G W a (fTru f) := s_tru B.eK ha he
theorem vb (ha : SE X G W a f) (he : ∀ whole, isTrue a X.env whole = (do let v ← whole; standAt a.pos; holding [v] (truthy v)) := by intro _; rfl) : SB X G W a (fToB f) := s_val ha he
/-! built-ins -/
theorem Bd.len (B : Bd X G W j) (m : G.mg "len" = none) (ha : SK X G W a f) (hg : Gl X "len" := by rfl) (hs : starEach [a] X.env = (false, eval a X.env) :: starEach [] X.env := by rfl) : SE X G W (.Call (.Name "len" p) [a] [] pos) (fB1 lenT f) := s_b1 c_len (v_len B.eK) hg (by rw [B.eM]; exact m) rfl ha hs
theorem Bd.int (B : Bd X G W j) (m : G.mg "int" = none) (ha : SK X G W a f) (hg : Gl X "int" := by rfl) (hs : starEach [a] X.env = (false, eval a X.env) :: starEach [] X.env := by rfl) : SE X G W (.Call (.Name "int" p) [a] [] pos) (fB1 intT f) := s_t1 call_int1 v_int hg (by rw [B.eM]; exact m) rfl ha hs
theorem Bd.abs (B : Bd X G W j) (m : G.mg "abs" = none) (ha : SK X G W a f) (hg : Gl X "abs" := by rfl) (hs : starEach [a] X.env = (false, eval a X.env) :: starEach [] X.env := by rfl) : SE X G W (.Call (.Name "abs" p) [a] [] pos) (fB1 absT f) := s_b1 call_abs v_abs hg (by rw [B.eM]; exact m) rfl ha hs
theorem Bd.sum (B : Bd X G W j) (m : G.mg "sum" = none) (ha : SK X G W a f) (hg : Gl X "sum" := by rfl) (hs : starEach [a] X.env = (false, eval a X.env) :: starEach [] X.env := by rfl) : SE X G W (.Call (.Name "sum" p) [a] [] pos) (fB1 sumT f) := s_b1 (cr_sum B.calm) (v_sum B.eK) hg (by rw [B.eM]; exact m) rfl ha hs
theorem Bd.any (B : Bd X G W j) (m : G.mg "any" = none) (ha : SK X G W a f) (hg : Gl X "any" := by rfl) (hs : starEach [a] X.env = (false, eval a X.env) :: starEach [] X.env := by rfl) : SE X G W (.Call (.Name "any" p) [a] [] pos) (fB1 anyT f) := s_b1 (cr_any B.calm) (v_any B.eK) hg (by rw [B.eM]; exact m) rfl ha hs
theorem Bd.all (B : Bd X G W j) (m : G.mg "all" = none) (ha : SK X G W a f) (hg : Gl X "all" := by rfl) (hs : starEach [a] X.env = (false, eval a X.env) :: starEach [] X.env := by rfl) : SE X G W (.Call (.Name "all" p) [a] [] pos) (fB1 allT f) := s_b1 (cr_all B.calm) (v_all B.eK) hg (by rw [B.eM]; exact m) rfl ha hs
theorem Bd.max1 (B : Bd X G W j) (m : G.mg "max" = none) (ha : SK X G W a f) (hg : Gl X "max" := by rfl) (hs : starEach [a] X.env = (false, eval a X.env) :: starEach [] X.env := by rfl) : SE X G W (.Call (.Name "max" p) [a] [] pos) (fB1 maxT f) := s_b1 (cr_max B.calm) (v_max B.eK) hg (by rw [B.eM]; exact m) rfl ha hs
theorem Bd.min1 (B : Bd X G W j) (m : G.mg "min" = none) (ha : SK X G W a f) (hg : Gl X "min" := by rfl) (hs : starEach [a] X.env = (false, eval a X.env) :: starEach [] X.env := by rfl) : SE X G W (.Call (.Name "min" p) [a] [] pos) (fB1 minT f) := s_b1 (cr_min B.calm) (v_min B.eK) hg (by rw [B.eM]; exact m) rfl ha hs
theorem Bd.tuple (B : Bd X G W j) (m : G.mg "tuple" = none) (ha : SK X G W a f) (hg : Gl X "tuple" := by rfl) (hs : starEach [a] X.env = (false, eval a X.env) :: starEach [] X.env := by rfl) : SE X G W (.Call (.Name "tuple" p) [a] [] pos) (fB1 tupT f) := s_t1 call_tuple_of (v_tup B.eK) hg (by rw [B.eM]; exact m) rfl ha hs
theorem Bd.list (B : Bd X G W j) (m : G.mg "list" = none) (ha : SK X G W a f) (hg : Gl X "list" := by rfl) (hs : starEach [a] X.env = (false, eval a X.env) :: starEach [] X.env := by rfl) : SE X G W (.Call (.Name "list" p) [a] [] pos) (fB1 lisT f) := s_t1 call_list_of (v_lis B.eK) hg (by rw [B.eM]; exact m) rfl ha hs
theorem Bd.max2 (B : Bd X G W j) (m : G.mg "max" = none) (ha : SE X G W a f) (hb : SE X G W b g) (hg : Gl X "max" := by rfl) (hs : starEach [a, b] X.env = (false, eval a X.env) :: starEach [b] X.env := by rfl) (hs2 : starEach [b] X.env = (false, eval b X.env) :: starEach [] X.env := by rfl) (hpl : (backTo pos (starEach [b] X.env)).any (·.1) = false := by rfl) : SE X G W (.Call (.Name "max" p) [a, b] [] pos) (fBin max2T f g) := s_b2 (call_max2 B.calm) v_max2 hg (by rw [B.eM]; exact m) rfl ha hb hs hs2 (by decide) (by decide) hpl
theorem Bd.min2 (B : Bd X G W j) (m : G.mg "min" = none) (ha : SE X G W a f) (hb : SE X G W b g) (hg : Gl X "min" := by rfl) (hs : starEach [a, b] X.env = (false, eval a X.env) :: starEach [b] X.env := by rfl) (hs2 : starEach [b] X.env = (false, eval b X.env) :: starEach [] X.env := by rfl) (hpl : (backTo pos (starEach [b] X.env)).any (·.1) = false := by rfl) : SE X G W (.Call (.Name "min" p) [a, b] [] pos) (fBin min2T f g) := s_b2 (call_min2 B.calm) v_min2 hg (by rw [B.eM]; exact m) rfl ha hb hs hs2 (by decide) (by decide) hpl
theorem Bd.isi (B : Bd X G W j) {tb : Kd → Cl → Option Bool} (ok : TabOk G tb) (m : G.mg "isinstance" = none) (ha : SE X G W a f) (hb : SE X G W b g) (hg : Gl X "isinstance" := by rfl) (hs : starEach [a, b] X.env = (false, eval a X.env) :: starEach [b] X.env := by rfl) (hs2 : starEach [b] X.env = (false, eval b X.env) :: starEach [] X.env := by rfl) (hpl : (backTo pos (starEach [b] X.env)).any (·.1) = false := by rfl) : SE X G W (.Call (.Name "isinstance" p) [a, b] [] pos) (fBin (isiT tb) f g) := s_b2 c_isi (v_isi ok B.eK) hg (by rw [B.eM]; exact m) rfl ha hb hs hs2 (by decide) (by decide) hpl
/-! items, fields, dicts -/
theorem Bd.ix (B : Bd X G W j) (ha : SK X G W a f) (hb : SE X G W b g) (hs : PlainIx b := by intro _ _; rfl) : SE X G W (.Subscript a b pos) (fIx f g) := s_ix B.eK ha hb hs
theorem Bd.sl (B : Bd X G W j) {lo hi : Option Expr} {fl fh : Option (Env → M T)} {p2 : Pos} (ha : SK X G W a f) (hl : PO X lo (tSO G W fl)) (hh : PO X hi (tSO G W fh)) : SE X G W (.Subscript a (.Slice lo hi none p2) pos) (fSl f fl fh) := s_sl B.eK ha hl hh
theorem Bd.fld (B : Bd X G W j) {name : Str} (m : Nat → Option Nat) (ok : ∀ C j, m C = some j → FldOk G name C j) (ha : SE X G W a f) (hb : attributeBase a name X.env (eval a X.env) = eval a X.env := by rfl) : SE X G W (.Attribute a name pos) (fFld m f) := s_fld B.eK m ok ha hb
theorem Bd.dget (B : Bd X G W j) (ha : SD X G W a f) (hi : SE X G W b g) (hs : NoSl b := by intro _ _; rfl) : SE X G W (.Subscript a b pos) (fDget f g) := s_dget (by have := B.rm.units; omega) ha hi hs
theorem Bd.gd (B : Bd X G W j) {px : Pos} {tb : Str → Option (Option T)} (ok : GgOk X.w G x tb) (hi : SE X G W b f) (hg : Gl X x := by rfl) (hs : PlainIx b := by intro _ _; rfl) (hd : (x == ("__debug__" : Str)) = false := by decide) : SE X G W (.Subscript (.Name x px) b pos) (fGd (fun z => (tb z).bind id) f) := s_gd ok.gd B.eK B.eM hg hi hs hd
theorem Bd.gget (B : Bd X G W j) {px apos : Pos} {tb : Str → Option (Option T)} (ok : GgOk X.w G x tb) (hi : SE X G W b f) (hc : SE X G W c g) (hg : Gl X x := by rfl) (m : M2 X (.Name x px) "get" apos b c pos := by exact ⟨rfl, rfl, rfl, rfl⟩) (hd : (x == ("__debug__" : Str)) = false := by decide) : SE X G W (.Call (.Attribute (.Name x px) "get" apos) [b, c] [] pos) (fGget tb f g) := s_gget ok B.eK B.eM hg hi hc m hd
theorem Bd.idxL (B : Bd X G W j) {apos : Pos} (ha : SK X G W a f) (he : SE X G W b g) (hbase : attributeBase a "index" X.env (eval a X.env) = eval a X.env := by rfl)
    (hfew : ((backTo pos (starEach [b] X.env)).all (fun x => !x.1) && (backToKw pos (keywordEach [] X.env)).all (fun x => x.1.isSome) && decide (([b] : List Expr).length + ([] : List Keyword).length + (if ([] : List Keyword).isEmpty then 0 else 1) < 30)) = true := by rfl)
    (hline : (apos.endLine == pos.line) = true := by rfl) (hs : starEach [b] X.env = (false, eval b X.env) :: starEach [] X.env := by rfl) : SE X G W (.Call (.Attribute a "index" apos) [b] [] pos) (fIdxL f g) := s_idxL B.eK ha he hbase hfew hline hs
theorem Bd.idxG (B : Bd X G W j) {px apos : Pos} {xs : List T} (ok : GtOk G x xs) (he : SE X G W b g) (hg : Gl X x := by rfl) (hbase : attributeBase (.Name x px) "index" X.env (eval (.Name x px) X.env) = eval (.Name x px) X.env := by rfl)
    (hfew : ((backTo pos (starEach [b] X.env)).all (fun x => !x.1) && (backToKw pos (keywordEach [] X.env)).all (fun x => x.1.isSome) && decide (([b] : List Expr).length + ([] : List Keyword).length + (if ([] : List Keyword).isEmpty then 0 else 1) < 30)) = true := by rfl)
    (hline : (apos.endLine == pos.line) = true := by rfl) (hs : starEach [b] X.env = (false, eval b X.env) :: starEach [] X.env := by rfl) (hd : (x == ("__debug__" : Str)) = false := by decide) : SE X G W (.Call (.Attribute (.Name x px) "index" apos) [b] [] pos) (fIdxG xs g) := s_idxG ok B.eK B.eM hg he hbase hfew hline hs (hd := hd)
/-! calls -/
variable {es : List Expr} {fs : List (Env → M T)} {ds : List T} {k n C : Nat} {apos : Pos}
theorem Bd.call (B : Bd X G W j) {F : List T → M T} (D : DefOk X.prog X.w X.base G k x n ds F) (ha : SA X G W (a :: es) fs) (hk : k ≤ j := by decide) (hn : fs.length + ds.length = n := by rfl) (hg : Gl X x := by rfl)
    (hdb : (x == ("__debug__" : Str)) = false := by decide) (he : starEach (a :: es) X.env = (false, eval a X.env) :: starEach es X.env := by rfl) (hpl : (backTo pos (starEach es X.env)).any (·.1) = false := by rfl) : SE X G W (.Call (.Name x p) (a :: es) [] pos) (fCall F ds fs) := s_call D B.eK B.eM B.tk B.rm hk hg ha hn hdb he hpl
theorem Bd.call0 (B : Bd X G W j) {F : List T → M T} (D : DefOk X.prog X.w X.base G k x n ds F) (hk : k ≤ j := by decide) (hn : ds.length = n := by rfl) (hg : Gl X x := by rfl) (hdb : (x == ("__debug__" : Str)) = false := by decide) : SE X G W (.Call (.Name x p) [] [] pos) (fCall F ds []) := s_call0 D B.eK B.eM B.tk B.rm hk hg hn hdb
theorem Bd.make (B : Bd X G W j) {F : List T → M (List T)} (D : MakeOk X.prog X.w X.base G k C n ds F) (ha : SA X G W (a :: es) fs) (hk : k + 1 ≤ j := by decide) (hn : fs.length + ds.length = n := by rfl) (hx : x = G.cn C := by rfl) (hg : Gl X x := by rfl)
    (hdb : (x == ("__debug__" : Str)) = false := by decide) (he : starEach (a :: es) X.env = (false, eval a X.env) :: starEach es X.env := by rfl) (hpl : (backTo pos (starEach es X.env)).any (·.1) = false := by rfl) : SE X G W (.Call (.Name x p) (a :: es) [] pos) (fMake C F ds fs) := s_make D hx B.eK B.eM B.tk B.rm hk hg ha hn hdb he hpl
/-! statements -/
variable {st : Stmt} {rest body : List Stmt} {gg : Sm} {i : Nat}
theorem Bd.set (B : Bd X G W j) (i : Nat) {pos' : Pos} (he : SE X G W a f) (hi : X.N[i]? = some x := by rfl) (hx : Loc X.env.scope x := by first | exact Or.inl rfl | exact Or.inr rfl) (hs : swapsWith a (some (.Name x pos')) pos.line X.env = pure false := by rfl) (hf : X.fn x = true ∨ X.env.scope.names.lookup x = some .local := by first | exact .inl rfl | exact .inr rfl) : SS X G W (.Assign [.Name x pos'] a pos) (qSet i f) := ss_set B.nd hi hx he hs hf
theorem Bd.own (B : Bd X G W j) (i : Nat) {pos' : Pos} {f : Env → M (List T)} (he : SL X G W a f) (hi : X.N[i]? = some x := by rfl) (hx : Loc X.env.scope x := by first | exact Or.inl rfl | exact Or.inr rfl) (hs : swapsWith a (some (.Name x pos')) pos.line X.env = pure false := by rfl) (hf : X.fn x = true ∨ X.env.scope.names.lookup x = some .local := by first | exact .inl rfl | exact .inr rfl) : SS X G W (.Assign [.Name x pos'] a pos) (qOwn i f) := ss_own B.nd hi hx he hs hf
theorem Bd.ownD (B : Bd X G W j) (i : Nat) {pos' : Pos} {f : Env → M (List Key × List T)} (he : SN X G W a f) (hi : X.N[i]? = some x := by rfl) (hx : Loc X.env.scope x := by first | exact Or.inl rfl | exact Or.inr rfl) (hs : swapsWith a (some (.Name x pos')) pos.line X.env = pure false := by rfl) (hf : X.fn x = true ∨ X.env.scope.names.lookup x = some .local := by first | exact .inl rfl | exact .inr rfl) : SS X G W (.Assign [.Name x pos'] a pos) (qOwnD i f) := ss_ownD B.nd hi hx he hs hf
theorem Bd.par2 (B : Bd X G W j) (i l : Nat) {y : Str} {e1 e2 : Expr} {px py pt : Pos} {kt k2 pt2} (ha : SA X G W [e1, e2] [f, g]) (hi : X.N[i]? = some x := by rfl) (hj : X.N[l]? = some y := by rfl) (hij : i ≠ l := by decide)
    (hx : X.env.scope.names.lookup x = some .local := by rfl) (hy : X.env.scope.names.lookup y = some .local := by rfl)
    (hw : swappedStores [.Tuple [.Name x px, .Name y py] kt pt] (.Tuple [e1, e2] k2 pt2) X.env = pure (some [x, y]) := by rfl)
    (hs : swapsWithSole [.Tuple [.Name x px, .Name y py] kt pt] (.Tuple [e1, e2] k2 pt2) pos.line X.env = pure false := by rfl) :
    SS X G W (.Assign [.Tuple [.Name x px, .Name y py] kt pt] (.Tuple [e1, e2] k2 pt2) pos) (qPar2 i l f g) := ss_par2 B.calm B.nd hi hj hij hx hy ha hw hs
theorem Bd.par3 (B : Bd X G W j) (i l m : Nat) {y z : Str} {e1 e2 e3 : Expr} {f1 f2 f3 : Env → M T} {px py pz pt : Pos} {kt k2 pt2} (ha : SA X G W [e1, e2, e3] [f1, f2, f3]) (hi : X.N[i]? = some x := by rfl) (hj : X.N[l]? = some y := by rfl) (hl : X.N[m]? = some z := by rfl) (hij : i ≠ l := by decide) (hil : i ≠ m := by decide) (hjl : l ≠ m := by decide)
    (hx : X.env.scope.names.lookup x = some .local := by rfl) (hy : X.env.scope.names.lookup y = some .local := by rfl) (hz : X.env.scope.names.lookup z = some .local := by rfl)
    (hw : swappedStores [.Tuple [.Name x px, .Name y py, .Name z pz] kt pt] (.Tuple [e1, e2, e3] k2 pt2) X.env = pure (some [x, y, z]) := by rfl)
    (hs : swapsWithSole [.Tuple [.Name x px, .Name y py, .Name z pz] kt pt] (.Tuple [e1, e2, e3] k2 pt2) pos.line X.env = pure false := by rfl) :
    SS X G W (.Assign [.Tuple [.Name x px, .Name y py, .Name z pz] kt pt] (.Tuple [e1, e2, e3] k2 pt2) pos) (qPar3 i l m [f1, f2, f3]) := ss_par3 B.calm B.nd hi hj hl hij hil hjl hx hy hz ha hw hs
theorem Bd.nm (B : Bd X G W j) (i : Nat) (hi : X.N[i]? = some x := by rfl) (hx : Loc X.env.scope x := by first | exact Or.inl rfl | exact Or.inr rfl) (hf : X.fn x = true ∨ X.env.scope.names.lookup x = some .local := by first | exact .inl rfl | exact .inr rfl) : SG X G [i] (.Name x pos) (hName i) := g_name B.nd hi hx hf
theorem Bd.tg (B : Bd X G W j) {us : List Nat} {kk : Nat} {hs : List T → Env → Option Env} (n : Nat) (h : SGs X G us es hs) (hn : (assignEach es X.env).length = n := by rfl) (hst : (assignEach es X.env).findIdx? (·.1) = none := by rfl) : SG X G us (.Tuple es kk pos) (hTup n hs) := g_tup B.calm B.eK h hn hst
theorem Bd.tgq (B : Bd X G W j) {kk : Nat} {hs : List T → Sm} (n : Nat) (h : SGqs X G W es hs) (hn : (assignEach es X.env).length = n := by rfl) (hst : (assignEach es X.env).findIdx? (·.1) = none := by rfl) : SGq X G W (.Tuple es kk pos) (hqTup n hs) := gq_tup B.calm B.eK h hn hst
theorem Bd.dputq (B : Bd X G W j) (i : Nat) {px : Pos} (hi : SE X G W b g) (hN : X.N[i]? = some x := by rfl) (hv : Vis X.env.scope x := by first | exact Or.inl rfl | exact Or.inr (Or.inl rfl) | exact Or.inr (Or.inr rfl))
    (ha : ∀ v, assign (.Subscript (.Name x px) b pos) X.env v = (do let ov ← holding [v] (eval (.Name x px) X.env); let iv ← holding [v, ov] (eval b X.env); standAt pos; holding [v, ov, iv] (setItem ov iv v); release [v, ov, iv] []) := by intro _; rfl) (hd : (x == ("__debug__" : Str)) = false := by decide) (hcd : (x == ("__classdict__" : Str)) = false := by decide) : SGq X G W (.Subscript (.Name x px) b pos) (hqDput i g) := gq_dput i (by have := B.rm.units; omega) hN hv hi ha hd hcd
theorem Bd.put (B : Bd X G W j) (i : Nat) {px spos : Pos} (he : SE X G W a f) (hi : SE X G W b g) (hN : X.N[i]? = some x := by rfl) (hv : Vis X.env.scope x := by first | exact Or.inl rfl | exact Or.inr (Or.inl rfl) | exact Or.inr (Or.inr rfl))
    (ha : ∀ v, assign (.Subscript (.Name x px) b spos) X.env v = (do let ov ← holding [v] (eval (.Name x px) X.env); let iv ← holding [v, ov] (eval b X.env); standAt spos; holding [v, ov, iv] (setItem ov iv v); release [v, ov, iv] []) := by intro _; rfl)
    (hs : swapsWithSole [.Subscript (.Name x px) b spos] a pos.line X.env = pure false := by rfl) (hw : swappedStores [.Subscript (.Name x px) b spos] a X.env = pure none := by rfl) (hd : (x == ("__debug__" : Str)) = false := by decide) (hcd : (x == ("__classdict__" : Str)) = false := by decide) :
    SS X G W (.Assign [.Subscript (.Name x px) b spos] a pos) (qSetIx i f g) := ss_setIx i hN hv he hi ha hs hw (hd := hd) (hcd := hcd)
end
section
variable {X : Cx} {G : Gm} {W : WX} {j : Nat} {pos spos py : Pos} {elt tg iter : Expr} {ifs : List Expr} {scope : Scope} {own : List (Str × Nat)} {us : List Nat} {h : T → Env → Option Env} {fi : Env → M (List T)} {f : Env → M T} {p : Env → M Bool} {y : Str}
theorem Bd.comp (B : Bd X G W j) (own : List (Str × Nat)) (hi : SI X G W tg iter fi)
    (hg : ∀ (s : Shared) (H : Hp) (C : Addr) (cl : List (Str × Addr)) (fp : List Addr), SG (X.blk s H scope (compEnvC scope cl C X.env) fp) G us tg h) (ht : ∀ (s : Shared) (H : Hp) (C : Addr) (cl : List (Str × Addr)) (fp : List Addr), STs (X.blk s H scope (compEnvC scope cl C X.env) fp) G ifs p)
    (he : ∀ (s : Shared) (H : Hp) (C : Addr) (cl : List (Str × Addr)) (fp : List Addr), SE (X.blk s H scope (compEnvC scope cl C X.env) fp) G W0 elt f) (ok : blkC X.N X.env.scope scope own = true := by kernel_rfl) (hu : ∀ j ∈ us, j ∈ own.map (·.2) := by decide) (hs : ∀ x, foldedSetIterable iter X.env x = pure x := by intro _; rfl) : SL X G W (.ListComp elt [⟨tg, iter, ifs, 0⟩] scope pos) (fComp (own.map (·.2)) h p f fi) := l_comp B.calm B.nd hi (blkOk_by ok) hu hg ht he hs
theorem Bd.setC (B : Bd X G W j) (i : Nat) (own : List (Str × Nat)) (hi : SI X G W tg iter fi)
    (hg : ∀ (s : Shared) (H : Hp) (C : Addr) (cl : List (Str × Addr)) (fp : List Addr), SG (X.blk s H scope (compEnvC scope cl C X.env) fp) G us tg h) (ht : ∀ (s : Shared) (H : Hp) (C : Addr) (cl : List (Str × Addr)) (fp : List Addr), STs (X.blk s H scope (compEnvC scope cl C X.env) fp) G ifs p)
    (he : ∀ (s : Shared) (H : Hp) (C : Addr) (cl : List (Str × Addr)) (fp : List Addr), SE (X.blk s H scope (compEnvC scope cl C X.env) fp) G W0 elt f) (ok : blkC X.N X.env.scope scope own = true := by kernel_rfl) (hu : ∀ j ∈ us, j ∈ own.map (·.2) := by decide)
    (hy : X.N[i]? = some y := by rfl) (hyl : X.env.scope.names.lookup y = some .local := by rfl) (hsw : swapsWith (.ListComp elt [⟨tg, iter, ifs, 0⟩] scope pos) (some (.Name y py)) spos.line X.env = pure true := by rfl) (hs : ∀ x, foldedSetIterable iter X.env x = pure x := by intro _; rfl) : SS X G W (.Assign [.Name y py] (.ListComp elt [⟨tg, iter, ifs, 0⟩] scope pos) spos) (qSet i (fOwn (fComp (own.map (·.2)) h p f fi))) := ss_compV B.calm B.nd hy hyl hsw hi (blkOk_by ok) hu hg ht he hs
theorem Bd.ownC (B : Bd X G W j) (i : Nat) (own : List (Str × Nat)) (hi : SI X G W tg iter fi)
    (hg : ∀ (s : Shared) (H : Hp) (C : Addr) (cl : List (Str × Addr)) (fp : List Addr), SG (X.blk s H scope (compEnvC scope cl C X.env) fp) G us tg h) (ht : ∀ (s : Shared) (H : Hp) (C : Addr) (cl : List (Str × Addr)) (fp : List Addr), STs (X.blk s H scope (compEnvC scope cl C X.env) fp) G ifs p)
    (he : ∀ (s : Shared) (H : Hp) (C : Addr) (cl : List (Str × Addr)) (fp : List Addr), SE (X.blk s H scope (compEnvC scope cl C X.env) fp) G W0 elt f) (ok : blkC X.N X.env.scope scope own = true := by kernel_rfl) (hu : ∀ j ∈ us, j ∈ own.map (·.2) := by decide)
    (hy : X.N[i]? = some y := by rfl) (hyl : X.env.scope.names.lookup y = some .local := by rfl) (hsw : swapsWith (.ListComp elt [⟨tg, iter, ifs, 0⟩] scope pos) (some (.Name y py)) spos.line X.env = pure true := by rfl) (hs : ∀ x, foldedSetIterable iter X.env x = pure x := by intro _; rfl) : SS X G W (.Assign [.Name y py] (.ListComp elt [⟨tg, iter, ifs, 0⟩] scope pos) spos) (qOwn i (fComp (own.map (·.2)) h p f fi)) := ss_comp B.calm B.nd hy hyl hsw hi (blkOk_by ok) hu hg ht he hs
end
section
variable {X : Cx} {G : Gm} {W : WX} {pos : Pos} {a b : Expr} {f g : Env → M T} {C j k k' : Nat} {F : List T → M T} {p : List T → RS → Option RS}
theorem tob_read {f : Env → M T} {σ : L2.St} {H : Hp} {Q : Bool → Hp → Prop} (h : tSB G W (fToB f) σ H Q) : tS G W f σ H (fun v H1 => ∃ k, v = .bl k ∧ Q k H1) := by
  obtain ⟨w, H0, env, r, g0, s, h0⟩ := h
  refine ⟨w, H0, env, r, g0, s, h0.bind.imp fun t r1 w1 H1 st g1 q v d => ?_⟩
  cases d with
  | bl b => exact ⟨b, rfl, OutP.here g1 q⟩
  | _ => exact q.elim
theorem b_ownC {op : CmpOp} (hop : ∀ a b, compareOp op a b = richCompare op a b) (D : MethOk X.prog X.w X.base G k C (cmpInfo op).2.1 2 [] F) (hK : X.K = G.K) (hM : X.mg = G.mg) (hr : Room j X.A) (hk : k ≤ j) (ha : SE X G W a f) (hb : SE X G W b g) (hm : behindInMarks op b = false) :
    SB X G W (.Compare a [op] [b] pos) (fToB fun env => f env >>= fun x => g env >>= fun y => own2s C F x y) := pt_imp (pt_cmpR (op_ownC hop D hK hM hr hk) ha hb hm) fun σ H Q hq => own_use own2s_ne (tob_read hq)
theorem b_ownN (D : MethOk X.prog X.w X.base G k C "__eq__" 2 [] F) (ne : NeOk G C) (hK : X.K = G.K) (hM : X.mg = G.mg) (hr : Room j X.A) (hk : k + 1 ≤ j) (ha : SE X G W a f) (hb : SE X G W b g) (hm : behindInMarks .NotEq b = false) :
    SB X G W (.Compare a [.NotEq] [b] pos) (fToB fun env => f env >>= fun x => g env >>= fun y => own2n C F x y) := pt_imp (pt_cmpR (op_ownN D ne hK hM hr hk) ha hb hm) fun σ H Q hq => own_use own2n_ne (tob_read hq)
theorem b_ownE (D : MethOk X.prog X.w X.base G k C "__eq__" 2 [] F) (N : NiOk X.prog X.w X.base G k' C p) (hK : X.K = G.K) (hM : X.mg = G.mg) (hr : Room j X.A) (hk : k ≤ j) (hk' : k' ≤ j) (ha : SE X G W a f) (hb : SE X G W b g) (hm : behindInMarks .Eq b = false) :
    SB X G W (.Compare a [.Eq] [b] pos) (fToB fun env => f env >>= fun x => g env >>= fun y => ownE C F p x y) := pt_imp (pt_cmpR (op_ownE D N hK hM hr hk hk') ha hb hm) fun σ H Q hq => own_use ownE_ne (tob_read hq)
end
/-! ### the end -/
/-- what stands, the tables left out -/
def noTb (H : Hp) : Hp := fun b => match H b with
  | some (.tbl _) => none
  | o => o
theorem noTb_at {H : Hp} {b : Addr} {o : HO} (h : H b = some o) (n : NoTab o) : noTb H b = some o := by
  unfold noTb
  rw [h]
  cases o <;> first | rfl | exact absurd rfl (n _)
theorem noTb_of {H : Hp} {b : Addr} {o : HO} (h : noTb H b = some o) : H b = some o ∧ NoTab o := by
  unfold noTb at h
  cases e : H b with
  | none => rw [e] at h; cases h
  | some u =>
    rw [e] at h
    cases u <;> first | (cases h; exact ⟨rfl, fun _ z => by cases z⟩) | cases h
theorem noTb_seq {K : PySem.W.Frag} {H : Hp} {a : Addr} {xs : List V} (h : SqL K H a xs) : SqL K (noTb H) a xs := by
  rcases h with (h | ⟨o, h⟩) | h
  · exact .inl (.inl (noTb_at h (fun _ z => by cases z)))
  · exact .inl (.inr ⟨o, noTb_at h (fun _ z => by cases z)⟩)
  · exact .inr h
theorem law_end {l : PySem.W.OpenLaw} {q : Program} {loose : List Str} {XP : (Str → Option Value) → Heap → Prop} {YP : World → Heap → Prop} {d : DefRec} {K : Params → PySem.W.Frag} {x : Str} (k : Nat) (hn : l.most = some 63) (hdf : d.params.defaults = []) (hr : Room k callerA)
    (hY : ∀ (w : World) (h : Heap), YP w h → (K w.params).In h)
    (F : ∀ (w : World) (mg : Str → Option Value) (fa : Addr) (h : Heap), YP w h → (K w.params).In h → h.Ns mainGlobals mg → mg d.name = some (.ref fa) → ∃ (G : Gm) (f : List T → M T) (fd : FuncData) (cs : List (Addr × Addr)), G.K = K w.params ∧ G.mg = mg ∧ (∀ (s : Shared) (u : Value), BindsTo s fd ⟨[u], []⟩ [(x, u)]) ∧
      (∀ p ∈ cs, h.get? p.2 = some { cls := .none, data := .fields #[] }) ∧ (∀ p ∈ cs, (K w.params).lookup p.2 = none) ∧ (∀ p ∈ cs, PySem.W.CodeHd h p.1 p.2) ∧ (∀ t ∈ G.tb, ∃ c, (c, t.1) ∈ cs) ∧
      (∀ ns : List Int, ns.length ≤ 63 → (∀ z ∈ ns, Builtin.Int.intBits z ≤ 1048576) → ∃ r, f [.kls (ns.map T.int)] [] = .ok (.bl true) r) ∧ ∀ base : Heap, (K w.params).In base → base.Ns mainGlobals mg → (∀ p ∈ cs, LamX.TabB base mg p.1 p.2) → FnOk l.prog w G.K G.mg base (L2.CX l.prog w) k fa fd [x] (spF G 1 f)) :
    PySem.W.WalkO q loose XP YP l.row.toRowW d [] (fun f vs => PySem.call f vs) :=
  LamX.walk_ofTs (n := 63) (k := k) (x := x) (K := K) (CX := fun w => L2.CX l.prog w) hn (by decide) hdf hr hY (fun w mg fa h Y KX Ns hm => by
    obtain ⟨G, f, fd, cs, e1, e2, hb, t1, t2, t3, t4, hv, hF⟩ := F w mg fa h Y KX Ns hm
    refine ⟨fd, cs, spF G 1 f, t1, t2, t3, hb, fun H a ns hl hbits hT hS => ?_, fun base KB NB hTB => ?_⟩
    · obtain ⟨r, er⟩ := hv ns hl hbits
      have dint : ∀ (ns : List Int) (w : Wd), Dens G w (ns.map V.int) (ns.map T.int) := fun ns w => by
        induction ns with
        | nil => exact .nil
        | cons n ns ih => exact .cons (.int n) ih
      refine ⟨⟨noTb H, [], ⟨0, 0, 0⟩⟩, [], [.kls (ns.map T.int)], ⟨fun b o e => (noTb_of e).1, ⟨List.nodup_nil, rfl, fun a h => (by cases h), fun k xs h => (by cases h)⟩, fun p hp => ?_, fun b o e => (noTb_of e).2⟩, .cons (.kls (by rw [e1]; exact noTb_seq hS) (by rw [List.length_map, sizeLine_eq]; omega) (dint ns _)) .nil, rfl, ?_⟩
      · obtain ⟨c, hc⟩ := t4 p hp
        exact LamX.TabS.nil (hT _ hc)
      · rw [er]
        intro w' H' st g v d
        cases d
        rfl
    · have := hF base KB NB hTB
      rw [e1, e2] at this
      exact this) fun w H s e s' ⟨_, _, _, _, _, _, _, _, _, _, _, _, z⟩ => z
end Ep
namespace Ep
open PySem PySem.Spec L2
/-! ### computations, step by step -/
section
variable {f g k : Env → M T} {p q : Env → M Bool} {env env' env2 : Env} {r r1 r2 r3 : RS} {x y z t : T} {s s' : Sm} {so : SO} {b c : Bool}
theorem bind_ok {α β : Type} {m : M α} {k : α → M β} {a : α} {o : Out β} (h1 : m r = .ok a r1) (h2 : k a r1 = o) : (m >>= k) r = o := by
  show M.bind m k r = o
  unfold M.bind
  rw [h1]
  exact h2
theorem e_bin {h : T → T → Option T} (h1 : f env r = .ok x r1) (h2 : g env r1 = .ok y r2) (h3 : h x y = some z) : fBin h f g env r = .ok z r2 := bind_ok h1 (bind_ok h2 (by rw [h3]; rfl))
theorem e_un {h : T → Option T} (h1 : f env r = .ok x r1) (h3 : h x = some z) : fUn h f env r = .ok z r1 := bind_ok h1 (by rw [h3]; rfl)
theorem e_cmp {h : T → T → Option Bool} (h1 : f env r = .ok x r1) (h2 : g env r1 = .ok y r2) (h3 : h x y = some b) : fCmp h f g env r = .ok (.bl b) r2 := e_bin h1 h2 (by rw [h3]; rfl)
theorem e_cmpB {h : T → T → Option Bool} (h1 : f env r = .ok x r1) (h2 : g env r1 = .ok y r2) (h3 : h x y = some b) : fCmpB h f g env r = .ok b r2 := bind_ok h1 (bind_ok h2 (by rw [h3]; rfl))
theorem e_b1 {h : RS → T → Option T} (h1 : f env r = .ok x r1) (h3 : h r1 x = some z) : fB1 h f env r = .ok z r1 := bind_ok h1 (by
  show M.lift (h r1 x) r1 = _
  rw [h3]; rfl)
theorem e_ix (h1 : f env r = .ok x r1) (h2 : g env r1 = .ok y r2) (h3 : ixT r2 x y = some z) : fIx f g env r = .ok z r2 := bind_ok h1 (bind_ok h2 (by
  show M.lift (ixT r2 x y) r2 = _
  rw [h3]; rfl))
theorem e_andF (h1 : f env r = .ok (.bl false) r1) : fAnd f g env r = .ok (.bl false) r1 := bind_ok h1 rfl
theorem e_andT {o : Out T} (h1 : f env r = .ok (.bl true) r1) (h2 : g env r1 = o) : fAnd f g env r = o := bind_ok h1 h2
theorem e_orT (h1 : f env r = .ok (.bl true) r1) : fOr f g env r = .ok (.bl true) r1 := bind_ok h1 rfl
theorem e_orF {o : Out T} (h1 : f env r = .ok (.bl false) r1) (h2 : g env r1 = o) : fOr f g env r = o := bind_ok h1 h2
theorem e_not (h1 : f env r = .ok (.bl b) r1) : fNot f env r = .ok (.bl !b) r1 := bind_ok h1 rfl
theorem e_andBF (h1 : p env r = .ok false r1) : fAndB p q env r = .ok false r1 := bind_ok h1 rfl
theorem e_andBT {o : Out Bool} (h1 : p env r = .ok true r1) (h2 : q env r1 = o) : fAndB p q env r = o := bind_ok h1 h2
theorem e_orBT (h1 : p env r = .ok true r1) : fOrB p q env r = .ok true r1 := bind_ok h1 rfl
theorem e_orBF {o : Out Bool} (h1 : p env r = .ok false r1) (h2 : q env r1 = o) : fOrB p q env r = o := bind_ok h1 h2
theorem e_notB (h1 : p env r = .ok b r1) : fNotB p env r = .ok (!b) r1 := bind_ok h1 rfl
theorem e_toB (h1 : f env r = .ok (.bl b) r1) : fToB f env r = .ok b r1 := bind_ok h1 rfl
theorem e_tru (h1 : f env r = .ok x r1) (h2 : truT x = some b) : fTru f env r = .ok b r1 := bind_ok h1 (by rw [h2]; rfl)
theorem e_ifT {o : Out T} (h1 : p env r = .ok true r1) (h2 : f env r1 = o) : fIf p f g env r = o := bind_ok h1 h2
theorem e_ifF {o : Out T} (h1 : p env r = .ok false r1) (h2 : g env r1 = o) : fIf p f g env r = o := bind_ok h1 h2
theorem e_nil : fAll [] env r = .ok [] r := rfl
theorem e_cons {fs : List (Env → M T)} {ts : List T} (h1 : f env r = .ok x r1) (h2 : fAll fs env r1 = .ok ts r2) : fAll (f :: fs) env r = .ok (x :: ts) r2 := by
  show (f env >>= fun t => fAll fs env >>= fun ts => pure (t :: ts)) r = _
  exact bind_ok h1 (bind_ok h2 rfl)
theorem e_tup {fs : List (Env → M T)} {ts : List T} (h1 : fAll fs env r = .ok ts r1) : fTup fs env r = .ok (.tup ts) r1 := bind_ok h1 rfl
theorem e_lst {fs : List (Env → M T)} {ts : List T} (h1 : fAll fs env r = .ok ts r1) : fLst fs env r = .ok (.lst ts) r1 := bind_ok h1 rfl
theorem e_call {F : List T → M T} {ds ts : List T} {fs : List (Env → M T)} {o : Out T} (h1 : fAll fs env r = .ok ts r1) (h2 : F (ts ++ ds) r1 = o) : fCall F ds fs env r = o := bind_ok h1 h2
theorem e_make {C : Nat} {F : List T → M (List T)} {ds ts us : List T} {fs : List (Env → M T)} (h1 : fAll fs env r = .ok ts r1) (h2 : F (ts ++ ds) r1 = .ok us r2) : fMake C F ds fs env r = .ok (.obj C us) r2 := bind_ok h1 (bind_ok h2 rfl)
theorem e_meth {C : Nat} {F : List T → M T} {ds ts vs : List T} {fs : List (Env → M T)} {o : Out T} (h1 : f env r = .ok (.obj C vs) r1) (h2 : fAll fs env r1 = .ok ts r2) (h3 : F (.obj C vs :: (ts ++ ds)) r2 = o) : fMeth C F ds f fs env r = o := bind_ok h1 (by
  show (if C = C then (fAll fs env >>= fun ts => F (.obj C vs :: (ts ++ ds))) else M.bad : M T) r1 = o
  rw [if_pos rfl]
  exact bind_ok h2 h3)
theorem e_own {f : Env → M (List T)} {xs : List T} (h1 : f env r = .ok xs r1) : fOwn f env r = .ok (.lst xs) r1 := bind_ok h1 rfl
theorem e_own2 {h : T → T → M T} {o : Out T} (h1 : f env r = .ok x r1) (h2 : g env r1 = .ok y r2) (h3 : h x y r2 = o) : (fun env => f env >>= fun x => g env >>= fun y => h x y : Env → M T) env r = o := bind_ok h1 (bind_ok h2 h3)
/-! statements -/
theorem n_seq (h1 : s env r = .nx env' r1) (h2 : s' env' r1 = so) : qSeq s s' env r = so := by
  unfold qSeq; rw [h1]; exact h2
theorem n_seqR (h1 : s env r = .rt t r1) : qSeq s s' env r = .rt t r1 := by unfold qSeq; rw [h1]
theorem n_ifT (h1 : p env r = .ok true r1) (h2 : s env r1 = so) : qIf p s s' env r = so := by
  unfold qIf ofM; rw [h1]; exact h2
theorem n_ifF (h1 : p env r = .ok false r1) (h2 : s' env r1 = so) : qIf p s s' env r = so := by
  unfold qIf ofM; rw [h1]; exact h2
theorem n_ret (h1 : f env r = .ok t r1) : qRet f env r = .rt t r1 := by unfold qRet ofM; rw [h1]
theorem n_set {i : Nat} (h1 : f env r = .ok t r1) : qSet i f env r = .nx (env.set i (.val t)) r1 := by unfold qSet ofM; rw [h1]
theorem n_par2 {i j : Nat} (h1 : f env r = .ok x r1) (h2 : g env r1 = .ok y r2) : qPar2 i j f g env r = .nx ((env.set i (.val x)).set j (.val y)) r2 := by
  unfold qPar2 ofM; rw [e_cons h1 (e_cons h2 e_nil)]
theorem n_asg {h : T → Env → Option Env} (h1 : f env r = .ok x r1) (h2 : h x env = some env') : qAsg f h env r = .nx env' r1 := by
  unfold qAsg ofM; rw [h1]; simp only; rw [h2]
theorem n_for {fi : Env → M (List T)} {h : T → Env → Option Env} {xs : List T} (h1 : fi env r = .ok xs r1) (h2 : loopF h s xs env r1 = so) : qFor fi h s env r = so := by
  unfold qFor ofM; rw [h1]; exact h2
theorem n_loopN {h : T → Env → Option Env} : loopF h s [] env r = .nx env r := rfl
theorem n_loop {h : T → Env → Option Env} {xs : List T} (h1 : h x env = some env') (h2 : s env' r = .nx env2 r1) (h3 : loopF h s xs env2 r1 = so) : loopF h s (x :: xs) env r = so := by
  unfold loopF; rw [h1]; simp only; rw [h2]; exact h3
theorem n_loopR {h : T → Env → Option Env} {xs : List T} (h1 : h x env = some env') (h2 : s env' r = .rt t r1) : loopF h s (x :: xs) env r = .rt t r1 := by
  unfold loopF; rw [h1]; simp only; rw [h2]
theorem n_fn {m : Nat} {ts : List T} (h1 : s (envOf m ts) r = .rt t r1) : fnS m s ts r = .ok t r1 := by unfold fnS; rw [h1]
theorem n_fnN {m : Nat} {ts : List T} (h1 : s (envOf m ts) r = .nx env' r1) : fnS m s ts r = .ok .non r1 := by unfold fnS; rw [h1]
/-- a loop by an invariant of what is left -/
theorem loop_inv {h : T → Env → Option Env} (I : List T → Env → RS → Prop) (step : ∀ x xs env r, I (x :: xs) env r → ∃ env1 env2 r2, h x env = some env1 ∧ s env1 r = .nx env2 r2 ∧ I xs env2 r2) : ∀ (xs : List T) (env : Env) (r : RS), I xs env r → ∃ env' r', loopF h s xs env r = .nx env' r' ∧ I [] env' r'
  | [], env, r, i => ⟨env, r, rfl, i⟩
  | x :: xs, env, r, i => by
    obtain ⟨env1, env2, r2, h1, h2, i2⟩ := step x xs env r i
    obtain ⟨env', r', h3, i3⟩ := loop_inv I step xs env2 r2 i2
    exact ⟨env', r', n_loop h1 h2 h3, i3⟩
end
/-! ### equality -/
theorem eq_int (a b : Int) : eqT (.int a) (.int b) = some (a == b) := rfl
theorem eq_ii (a b c d : Int) : eqT (.tup [.int a, .int b]) (.tup [.int c, .int d]) = some ((a == c) && ((b == d) && true)) := rfl
end Ep
/-! an exception class of the program's own whose __init__ says super().__init__(f); self.f = f -/
namespace Ep
namespace SupX
open PySem PySem.W PySem.Calls PyProof.Rows PySem.HandSPX
def iA (f : Str) (p1 p2 : Pos) : Arguments := { posonlyargs := [], args := [{ arg := "self", annotation := none, pos := p1 }, { arg := f, annotation := none, pos := p2 }], vararg := none, kwonlyargs := [], kw_defaults := [], kwarg := none, defaults := [] }
def iB (f : Str) (a1 a2 a3 a4 a5 a6 q1 q2 q3 q4 : Pos) : List Stmt := [.Expr (.Call (.Attribute (.Call (.Name "super" a1) [] [] a2) "__init__" a3) [.Name f a4] [] a5) a6, .Assign [.Attribute (.Name "self" q1) f q2] (.Name f q3) q4]
def iS (f : Str) : Scope := { kind := .function, names := [(PySem.Str.ofString "self", .local), (f, .local), (PySem.Str.ofString "__class__", .free), (PySem.Str.ofString "super", .globalImplicit)], isGenerator := false, isCoroutine := false, more := [] }
/-- a built-in exception below which the program's own ones lie -/
structure XB where
  B : String
  nw : String
  ini : String
  tl : List Value
structure XB.Ok (b : XB) : Prop where
  eb : ExcBaseFacts b.B b.nw b.ini b.tl
  sf : StoreFacts b.B b.tl "object.__setattr__" "object"
  kx : KxsFacts b.B b.ini
  ob : b.tl.contains (.type "object") = true
def xVE : XB := ⟨"ValueError", "ValueError.__new__", "ValueError.__init__", [.type "ValueError", .type "Exception", .type "BaseException", .type "object"]⟩
def xOE : XB := ⟨"OverflowError", "OverflowError.__new__", "OverflowError.__init__", [.type "OverflowError", .type "ArithmeticError", .type "Exception", .type "BaseException", .type "object"]⟩
theorem xVE_ok : xVE.Ok := ⟨F.excBase_ValueError, F.store_ValueError, kxs_ValueError, by decide +kernel⟩
theorem xOE_ok : xOE.Ok := ⟨F.excBase_OverflowError, F.store_OverflowError, kxs_OverflowError, by decide +kernel⟩
/-- what the written part says of the class at C, its __init__ at fI -/
structure Txt (P : Program) (K : Frag) (mg : Str → Option Value) (qn f : Str) (C fI : Addr) : Prop where
  cls : ∃ b : XB, b.Ok ∧ subIn K (.ref C) (.type b.B) = some true ∧ ks_superIn K C C "__init__" = some (some (.builtin b.ini)) ∧
    ∃ nm q N bs bm sn sub ab col dd k0 k1 k2 k3 k5, K.lookup C = some (excClassObj nm q C N bs bm true sn sub ab col dd k0 k1 k2 k3 k5 b.nw) ∧ excTail b.tl bm = true
  sa : findIn K (.ref C) "__setattr__" = some (some (.builtin "object.__setattr__"))
  noN : findIn K (.ref C) f = some none
  iC : findIn K (.ref C) "__init__" = some (some (.ref fI))
  tC : typeIn K (.ref fI) = some (.type "function")
  kC : keepIn K (.ref C) = true
  exC : subIn K (.ref C) (.type "BaseException") = some true
  tyC : typeIn K (.ref C) = some (.type "type")
  mroC : mroIn K C (.ref C) = some true
  nosup : nsIn K mainGlobals "super" = some none
  opq : nsIn K cStatics "thirdparty.any" = some none
  fn : ∃ (oc : Value) (od : Option Addr) (doc pm : Value) (an : Option Addr) (cda : Addr) (ct : Value) (osl : Array (Option Value)) (p1 p2 a1 a2 a3 a4 a5 a6 q1 q2 q3 q4 : Pos) (cc : Addr) (cl : Value) (cld : Option Addr) (csl : Array (Option Value)) (ccl : Value) (cdd : Option Addr) (vs : Array Value) (ccs : Array (Option Value)) (file : Str) (tf : Tok),
    K.lookup fI = some ⟨oc, od, .func (ksFn "__init__" qn (iA f p1 p2) (iB f a1 a2 a3 a4 a5 a6 q1 q2 q3 q4) (iS f) .none .none doc pm an (.ref cda) ct cc), osl⟩ ∧ codeIn K (.ref cda) qn = true ∧
    K.lookup cc = some ⟨cl, cld, .cell (some (.ref C)), csl⟩ ∧ K.lookup cda = some ⟨ccl, cdd, .fields vs, ccs⟩ ∧ vs[2]? = some (.str file tf) ∧ ((P.main.file : Str) == file) = true ∧
    ∀ L : Addr, ∃ pl : Sem Bool, eval (.Call (.Attribute (.Call (.Name "super" a1) [] [] a2) "__init__" a3) [.Name f a4] [] a5) (ksEnv qn (iS f) L fI (.ref cda) cc) = (do
      let ov ← attributeBase (.Call (.Name "super" a1) [] [] a2) "__init__" (ksEnv qn (iS f) L fI (.ref cda) cc) (eval (.Call (.Name "super" a1) [] [] a2) (ksEnv qn (iS f) L fI (.ref cda) cc))
      standAt a3.atName
      let (g, first) ← holding [ov] (getMethod ov "__init__" pl)
      callWith a5 g first (backTo a5 (starEach [.Name f a4] (ksEnv qn (iS f) L fI (.ref cda) cc))) [])
structure FOk (P : Program) (f : Str) : Prop where
  htop : (P.main.scope.names.lookup ("super" : Str)).isSome = false
  nself : ((PySem.Str.ofString "self") == f) = false
  self' : (f == ("self" : Str)) = false
  dbg : (f == ("__debug__" : Str)) = false
  loc : (iS f).names.lookup f = some .local
  slf : (iS f).names.lookup ("self" : Str) = some .local
  sup : (iS f).names.lookup ("super" : Str) = some .globalImplicit
  cls : (iS f).names.lookup ("__class__" : Str) = some .free
  ncell : ∀ x ∈ (iS f).names, x.2 ≠ .cell
  bnd : ∀ (qn : Str) (a1 a2 a3 a4 a5 a6 q1 q2 q3 q4 p1 p2 : Pos) (doc pm : Value) (an : Option Addr) (cdv ct : Value) (cc : Addr) (u v : Value), bindArgs (ksFn "__init__" qn (iA f p1 p2) (iB f a1 a2 a3 a4 a5 a6 q1 q2 q3 q4) (iS f) .none .none doc pm an cdv ct cc) ⟨[u, v], []⟩ = pure [(PySem.Str.ofString "self", u), (f, v)]
theorem one_size (v : Value) : [v].length ≤ sizeLine := by
  rw [sizeLine_eq]
  exact (by decide : 1 ≤ 16777216)
structure InitEnd (f : Str) (h h' : Heap) (x C dx t1 : Addr) (v : Value) : Prop where
  keep : ∀ b o, b ≠ x → h.get? b = some o → h'.get? b = some o
  obj : h'.get? x = some { cls := .ref C, dict := some dx, data := .fields #[.ref t1, .none, .none, .none, .bool false, .none] }
  dbig : h.objs.size ≤ dx
  dne : dx ≠ x
  ns : h'.Ns1 dx (fun y => if y = f then some v else none)
section
variable {prog : Program} {w : World} {A : Around} {E : Value → Shared → Prop} {h : Heap} {g : Array GenState} {d : Drawn} {t : Nat} {os : OsState}
variable {nm q : Str} {C N : Addr} {bs bm bmB : List Value} {hdct : Bool} {sn : List Str} {sub : List Value} {ab : Bool} {col : Option Bool} {dd : Option Addr} {k0 k1 k2 k3 k5 : Option Value} {B newId initId : String}
/-- a built-in bound to a thing (kxs_mw): a call of it is checked, and goes on at the built-in with the thing ahead -/
theorem mw_tree {M : Model} {i : String} {u e : Addr} {args : Args} {Q : Fin → Shared → Prop} {s : Shared} (at_u : s.heap.get? u = some (kxs_mw i e))
    (on : wpAny M A (checkBoundCall i { args with pos := .ref e :: args.pos }) (fun _ s' => Q (.again (.builtin i { args with pos := .ref e :: args.pos })) s') E s) : wpAny M A (callAny (.ref u) args) Q E s := by
  unfold callAny
  refine wpAny_bind (wpAny_load at_u ?_)
  show wpAny M A (checkBoundCall i { args with pos := .ref e :: args.pos } >>= fun _ => _) Q E s
  exact wpAny_bind (wpAny_mono on (fun _ _ z => wpAny_bind (wpAny_pure (wpAny_pure z))) fun _ _ => id)
/-- a built-in exception's __init__ bound to an instance, called: the instance's arguments are told anew, all else stands -/
theorem call_mw (FB : ExcBaseFacts B newId initId bmB) {u e t0 : Addr} {rest : List Value} {Q : Value → Shared → Prop}
    (at_C : h.get? C = some (excClassObj nm q C N bs bm hdct sn sub ab col dd k0 k1 k2 k3 k5 newId)) (at_e : h.get? e = some (HandSPX.excO C t0)) (at_u : h.get? u = some (kxs_mw initId e)) (few : rest.length ≤ sizeLine)
    (told : ∀ h' t1, (∀ b o, b ≠ e → h.get? b = some o → h'.get? b = some o) → h'.get? e = some (HandSPX.excO C t1) → Q .none ⟨h', g, d, t, os⟩) :
    wpAny (model prog w) A (call (.ref u) rest) Q E ⟨h, g, d, t, os⟩ :=
  wpAny_call (codeAny_of_tree (mw_tree at_u (W.check_bound_init FB.toExcCallFacts at_C at_e rfl
    ⟨plainId_quiet FB.init.plain _, codeAny_builtin FB.initEntry (exc_init_tree (cls := .ref C) (t0 := t0) (dv := none) (c2 := .none) (c3 := .none) (b4 := .bool false) at_e few fun h' same now _ => told h' _ same now)⟩)))
end
section
open Builtin Builtin.ObjectAttr
variable {prog : Program} {w : World} {A : Around} {E : Value → Shared → Prop} {R : Result → Shared → Prop} {hp : Heap} {g : Array GenState} {d : Drawn} {t : Nat} {os : OsState}
/-- the first field of an instance of such a class: osa_openX opens the store, instanceDict_exc makes the instance's dict, store_in_new puts the field into it -/
theorem osa_b {b : XB} (ok : b.Ok) {K : Frag} {name : Str} {tk : Tok} {v : Value} {x C t1 : Addr} {bm : List Value} {cd : ClassData} (kin : K.In hp) (at_x : hp.get? x = some (excO C t1)) (at_C : clsIn K C = some cd) (mro : cd.mro = .ref C :: bm) (tail : excTail b.tl bm = true) (dict : cd.hasDict = true) (free : findIn K (.ref C) name = some none)
    (told : ∀ h' tk' dx, (∀ b o, b ≠ x → hp.get? b = some o → h'.get? b = some o) → hp.objs.size ≤ dx → dx ≠ x → h'.get? x = some { cls := .ref C, dict := some dx, data := .fields #[.ref t1, .none, .none, .none, .bool false, .none] } →
      h'.Ns1 dx (fun y => if y = name then some v else none) → R (.ok (.ret .none)) ⟨h', g, d, tk', os⟩) :
    codeAny (model prog w) A (.call (.builtin "object.__setattr__") ⟨[.ref x, .str name tk, v], []⟩) R ⟨hp, g, d, t, os⟩ := by
  have old : x ≠ hp.objs.size := Nat.ne_of_lt (Heap.lt_size at_x)
  have over : excOver K C b.tl = true := by unfold excOver; rw [at_C, Option.any_some, mro]; exact Bool.and_eq_true_iff.mpr ⟨beq_self_eq_true _, tail⟩
  have at_x' : (hp.push (dictOf [] 0)).get? x = some (excO C t1) := Heap.get?_push_of_some _ at_x
  have made : ((hp.push (dictOf [] 0)).update x fun o => { o with dict := some hp.objs.size }).get? hp.objs.size = some (dictOf [] 0) := by rw [Heap.get?_update_ne _ _ _ _ old.symm, Heap.get?_push_size _ rfl]
  refine osa_openX (r := none) ok.sf kin (InstAt.mk (od := none) at_x rfl rfl trivial) over (by unfold takerIn; rw [free]; rfl) fun _ => ?_
  refine wpAny_bind (wpAny_pure (wpAny_bind (instanceDict_exc at_x (looks_clsIn kin at_C) dict ?_)))
  refine store_in_new ⟨_, #[], 0, made, rfl, fun _ z => absurd z (Array.not_mem_empty _), fun _ => rfl⟩ fun h' tk' held but => told h' tk' hp.objs.size (fun a o ne at_a => ?_) (Nat.le_refl _) old.symm ?_ held
  · rw [but.2 a (Nat.ne_of_lt (Heap.lt_size at_a)), Heap.get?_update_ne _ _ _ _ ne]
    exact Heap.get?_push_of_some _ at_a
  · rw [but.2 x old]
    exact Heap.get?_update_self _ at_x' rfl
end
section
variable {prog : Program} {w : World} {A : Around} {E : Value → Shared → Prop} {R : Result → Shared → Prop} {s : Shared} {K : Frag} {mg : Str → Option Value} {C fI : Addr} {qn f : Str} {base : Heap}
theorem init (T : Txt prog K mg qn f C fI) (Y : FOk prog f) {x t0 : Addr} {v : Value} (X : K.In s.heap) (hg : s.heap.Ns mainGlobals mg) (hm : mg "super" = none) (hb : ∃ mb, s.heap.Ns builtinsNs mb ∧ mb "super" = some (.type "super")) (hlim : s.heap.NoLimit) (hx : s.heap.get? x = some (excO C t0)) (hnx : K.lookup x = none) (hroom : A.depth < recursionLimit)
    (hq : ∀ h' tk dx t1, InitEnd f s.heap h' x C dx t1 v → R (.ok (.ret .none)) { s with heap := h', toks := tk }) :
    codeAny (model prog w) A (.call (.ref fI) ⟨[.ref x, v], []⟩) R s := by
  obtain ⟨oc, od, doc, pm, an, cda, ct, osl, p1, p2, a1, a2, a3, a4, a5, a6, q1, q2, q3, q4, cc, cl, cld, csl, ccl, cdd, vs, ccs, file, tf, ho, hcd, hcell, hcode, hvs, hfile, hev⟩ := T.fn
  obtain ⟨pl, hev⟩ := hev s.heap.objs.size
  obtain ⟨xb, xok, veC, sup, nm, q, N, bs, bm, sn, sub, ab, col, dd, k0, k1, k2, k3, k5, hC, hbm⟩ := T.cls
  have hcl : clsIn K C = some { name := nm, bases := bs, mro := .ref C :: bm, ns := N, qualname := q, hasDict := true, slotNames := sn, subclasses := sub, abstract := ab, collection := col, hasDel := false } := by unfold clsIn; rw [hC] <;> rfl
  refine ks_codeAny_call_defAt (binds := [("self", .ref x), (f, v)]) hroom (X _ _ ho) rfl hlim (codeRec_of X hcd) rfl (BindsTo.of_eq (Y.bnd ..)) Y.ncell (fun y hy => ?_) fun h₀ hn kp => ?_
  · rcases List.mem_cons.mp hy with rfl | hy
    · exact Y.slf
    · rcases List.mem_cons.mp hy with rfl | hy
      · exact Y.loc
      · cases hy
  have kC : K.In h₀ := X.keeps kp
  have hx₀ := kp _ _ hx
  have hxC : x ≠ C := fun e => by rw [e, hC] at hnx; cases hnx
  have m1 : (([(PySem.Str.ofString "self", Value.ref x), (f, v)] : List (Str × Value)).reverse.lookup (PySem.Str.ofString "self")) = some (.ref x) := by
    show List.lookup _ [(f, v), (PySem.Str.ofString "self", Value.ref x)] = _
    simp only [List.lookup, Y.nself, beq_self_eq_true]
  have m2 : (([(PySem.Str.ofString "self", Value.ref x), (f, v)] : List (Str × Value)).reverse.lookup f) = some v := by
    show List.lookup _ [(f, v), (PySem.Str.ofString "self", Value.ref x)] = _
    simp only [List.lookup, beq_self_eq_true]
  obtain ⟨mb, hb1, hb2⟩ := hb
  -- super().__init__(f)
  show _root_.PySem.wpAt _ _ _ (execs _ _) _ _ _
  refine ks_wpAt_execs_cons (ks_wpAt_Expr_any (ks_wpAt_MethodCall (pl := pl) ?_ hev))
  refine ks_wpAt_super_base (env := ksEnv qn (iS f) s.heap.objs.size fI (.ref cda) cc) Y.sup Y.cls (by decide) rfl (kC _ _ ho) rfl rfl rfl (kC _ _ hcode) rfl hvs hfile Y.htop ?_
  refine ks_loadName_global rfl Y.sup (loadGlobal_builtin (env := ksEnv qn (iS f) s.heap.objs.size fI (.ref cda) cc) (hg.at fun o e => kp _ _ e) hm (hb1.at fun o e => kp _ _ e) hb2 ⟨rfl, ?_⟩)
  refine wpAny_loadName_free rfl Y.cls (by rfl) ⟨_, kC _ _ hcell, rfl⟩ ?_
  refine wpAny_loadName_local rfl Y.slf hn m1 ?_
  refine ks_wpAny_isType_cls (kC _ _ hC) rfl ⟨rfl, ?_⟩
  refine ks_wpAny_call_super (kC _ _ hC) rfl hx₀ rfl (fun c e => by cases e) (looks_mroIn kC T.mroC) (fun h1 e1 k1 => ?_)
  have kC1 : K.In h1 := kC.keeps k1
  have hx1 := k1 _ _ hx₀
  have hcls1 : Looks (model prog w) h1 (mroOf (.ref C)) (.ref C :: bm) := (looks_clsIn kC1 hcl).andThen .now
  have hI : Looks (model prog w) h1 (isInstance (.ref x) (.type xb.B)) true := (InstAt.type (C := C) (od := none) ⟨hx1, rfl, rfl, trivial⟩).andThen (looks_subIn kC1 veC)
  have hm2 := sup
  unfold ks_superIn at hm2
  rw [hcl] at hm2
  refine kxs_getMethod xok.kx e1 (looks_opaque kC1 T.opq) hcls1 rfl kC1 hm2 hI hxC (by decide) ?_
  refine kxs_callWith (i := xb.ini) (x := x) (by rfl) ?_
  have hmw : (h1.push (kxs_mw xb.ini x)).get? h1.objs.size = some (kxs_mw xb.ini x) := Heap.get?_push_at rfl rfl
  have kk : ∀ b o, h₀.get? b = some o → (h1.push (kxs_mw xb.ini x)).get? b = some o := fun b o e => Heap.get?_push_of_some _ (k1 b o e)
  refine evalArgs_plain ?_
  refine spliced_cons (wpAny_Name (wpAny_loadName_local rfl Y.loc (hn.at fun o e => kk _ _ e) m2 (spliced_nil ⟨hmw, ?_⟩)) Y.dbg)
  refine call_mw xok.eb (kk _ _ (kp _ _ (X _ _ hC))) (kk _ _ hx₀) hmw (one_size v) fun h2 t1 k2 hx2 => ?_
  -- self.f = f
  have hn1 : (h1.push (kxs_mw xb.ini x)).Ns s.heap.objs.size (fun y => ([(PySem.Str.ofString "self", Value.ref x), (f, v)] : List (Str × Value)).reverse.lookup y) := hn.at fun o e => kk _ _ e
  have nL : s.heap.objs.size ≠ x := Nat.ne_of_gt (Heap.lt_size hx)
  have hn2 : h2.Ns s.heap.objs.size (fun y => ([(PySem.Str.ofString "self", Value.ref x), (f, v)] : List (Str × Value)).reverse.lookup y) := hn1.at fun o e => k2 _ _ nL e
  have kC2 : K.In h2 := fun b o e => k2 b o (fun z => by rw [z, hnx] at e; cases e) (kk _ _ (kC _ _ e))
  refine ks_wpAt_execs_cons (ks_wpAt_Assign_Attr ?_)
  refine wpAt_of_wpAny (wpAny_Name (wpAny_loadName_local rfl Y.loc hn2 m2 (wpAny_Name (wpAny_loadName_local rfl Y.slf hn2 m1 ?_) (by decide))) Y.dbg)
  refine set_plain kC2 (ox := excO C t1) (od := none) ⟨hx2, rfl, rfl, trivial⟩ T.sa ?_
  refine osa_b xok kC2 hx2 hcl rfl hbm rfl T.noN (fun h3 tk3 dx k3 dn dne hx3 hn3 => ?_)
  refine wpAt_of_wpAny (wpAny_execs_nil ?_)
  refine hq h3 tk3 dx t1 ⟨fun b o hb e => k3 b o hb (k2 b o hb (kk _ _ (kp _ _ e))), hx3, ?_, dne, hn3⟩
  have z1 : s.heap.objs.size < h2.objs.size := hn2.lt
  exact Nat.le_of_lt (Nat.lt_of_lt_of_le z1 dn)
/-- a made one -/
structure OwnMade (f : Str) (h h' : Heap) (e C d : Addr) (v : Value) : Prop where
  keep : ∀ b o, h.get? b = some o → h'.get? b = some o
  new : h.objs.size ≤ e
  obj : ∃ oe vs, h'.get? e = some oe ∧ oe.cls = .ref C ∧ oe.dict = some d ∧ oe.data = .fields vs ∧ vs[1]? = some .none
  dbig : h.objs.size ≤ d
  dne : d ≠ e
  ns : h'.Ns1 d (fun y => if y = f then some v else none)
theorem made (T : Txt prog K mg qn f C fI) (Y : FOk prog f) {v : Value} (X : K.In s.heap) (hg : s.heap.Ns mainGlobals mg) (hm : mg "super" = none) (hb : ∃ mb, s.heap.Ns builtinsNs mb ∧ mb "super" = some (.type "super")) (hlim : s.heap.NoLimit) (hroom : A.depth + 1 < recursionLimit)
    (hq : ∀ h' tk e d, OwnMade f s.heap h' e C d v → R (.ok (.ret (.ref e))) { s with heap := h', toks := tk }) :
    codeAny (model prog w) A (.call (.ref C) ⟨[v], []⟩) R s := by
  obtain ⟨xb, xok, veC, sup, nm, q, N, bs, bm, sn, sub, ab, col, dd, k0, k1, k2, k3, k5, hC, hbm⟩ := T.cls
  obtain ⟨hp, g, dr, tk, os⟩ := s
  have k : ∀ b o, hp.get? b = some o → ((hp.push (kdv_tup [v])).push (excO C hp.objs.size)).get? b = some o := fun b o e => Heap.get?_push_of_some _ (Heap.get?_push_of_some _ e)
  have hget : ((hp.push (kdv_tup [v])).push (excO C hp.objs.size)).get? (hp.objs.size + 1) = some (excO C hp.objs.size) := by heap_get
  have hnx : K.lookup (hp.objs.size + 1) = none := by
    cases eL : K.lookup (hp.objs.size + 1) with
    | none => rfl
    | some o =>
      have z : hp.get? (hp.objs.size + 1) = some o := X _ _ eL
      exact absurd (Nat.lt_of_succ_lt (Heap.lt_size z)) (Nat.lt_irrefl _)
  obtain ⟨mb, hb1, hb2⟩ := hb
  refine call_own xok.eb (fun X => excTail_contains X bm hbm) (X _ _ hC) (looks_findIn X T.iC) (fun self => bind_fn X self T.tC) (one_size v) ?_
  refine init (s := ⟨(hp.push (kdv_tup [v])).push (excO C hp.objs.size), g, dr, tk, os⟩) T Y (X.keeps k) (hg.at fun o e => k _ _ e) hm ⟨mb, hb1.at fun o e => k _ _ e, hb2⟩ (hlim.keeps k) hget hnx ?_ fun h' tk' dx t1 ⟨k', hx, dn, dne, hns⟩ => ?_
  · show A.depth + 1 < recursionLimit
    exact hroom
  · have old : ∀ b o, hp.get? b = some o → h'.get? b = some o := fun b o e => k' b o (Nat.ne_of_lt (Nat.lt_succ_of_lt (Heap.lt_size e))) (k b o e)
    have z : hp.objs.size + 1 + 1 ≤ dx := by
      first
        | (simpa only [Heap.size_push] using dn)
        | exact dn
        | (have q := dn; rw [Heap.size_push, Heap.size_push] at q; exact q)
    exact ⟨rfl, hq h' tk' (hp.objs.size + 1) dx ⟨old, Nat.le_succ _, ⟨_, _, hx, rfl, rfl, rfl, rfl⟩, Nat.le_trans (Nat.le_trans (Nat.le_succ _) (Nat.le_succ _)) z, dne, hns⟩⟩
end
end SupX
open PySem PySem.Spec L2 PyProof.Rows
theorem relO_one {f : Str} {v : V} {u : Value} (r : RelV v u) (g : Str) : RelO ([(f, v)].lookup g) (if g = f then some u else none) := by
  by_cases hw : g = f
  · subst hw
    rw [if_pos rfl]
    have q : List.lookup g [(g, v)] = some v := by simp [List.lookup]
    rw [q]
    exact r
  · rw [if_neg hw]
    have qw : (g == f) = false := by simpa using hw
    have q2 : List.lookup g [(f, v)] = none := by simp [List.lookup, qw]
    rw [q2]
    trivial
section
variable {X : Cx} {C fI : Addr} {qn f x : Str}
/-- x(e) -/
def tMkX (f : Str) (C : Addr) (ta : TA) : L2.St → Hp → XK → Prop := fun σ H Q => ta σ H fun vs H1 => ∃ v, vs = [v] ∧ ∀ d, H1 d = none → Q (.ref C) (some d) (upd H1 d (.xd [(f, v)]))
theorem pmk_x {a : Expr} {ta : TA} {p pos : Pos} {k : Nat} (T : SupX.Txt X.prog X.K X.mg qn f C fI) (Y : SupX.FOk X.prog f) (hr : Room k X.A) (hk : 2 ≤ k) (gx : X.mg x = some (.ref C)) (ha : PA X [a] ta) (hg : Gl X x)
    (hd : (x == ("__debug__" : Str)) = false := by decide) (he : starEach (a :: []) X.env = (false, eval a X.env) :: starEach [] X.env := by rfl) (hpl : (backTo pos (starEach [] X.env)).any (·.1) = false := by rfl) :
    PMk X (.Call (.Name x p) [a] [] pos) (tMkX f C ta) := by
  intro pins s σ H Q I h
  refine wpAny_Call_Name_kw (ld_glob I hg gx ?_ hd)
  refine PySem.W.callWith_K (h₀ := X.base) I.ok.mod.kin T.kC (thn (ha.run pos pins s σ H _ I h) fun us s1 hh => ?_) he hpl
  obtain ⟨vs, H1, I1, r1, v, ev, q1⟩ := hh
  subst ev
  refine ⟨I1.kIn, ?_⟩
  cases r1 with
  | cons rv rn =>
    rename_i v' us'
    cases rn
    show wpAny _ _ (call (.ref C) [v']) _ _ _
    have hlim := I1.nolimit
    have hgl := I1.mod.glob.keeps I1.bk
    have hsup : X.mg "super" = none := PySem.W.mg_none_of I1.mod.kin I1.mod.glob T.nosup
    obtain ⟨mb, hb1, hb2⟩ := I1.mod.blt
    have hb : ∃ mb, s1.heap.Ns builtinsNs mb ∧ mb "super" = some (.type "super") := ⟨mb, hb1.keeps I1.bk, (hb2 _ (by decide)).trans (by first | rfl | kernel_rfl)⟩
    obtain ⟨hp, g, dr, tk, os⟩ := s1
    refine wpAny_call (SupX.made T Y I1.kIn hgl hsup hb hlim (by have := hr.dp; omega) fun h' tk' e d M => ?_)
    show MkP X pins σ Q (.ref e) ⟨h', g, dr, tk', os⟩
    obtain ⟨oe, fv, hoe, hc, hd, hdat, h1⟩ := M.obj
    have hns := M.ns
    obtain ⟨G', g1, g2⟩ := restrict h' fun b => decide (b ≠ e)
    have gk : ∀ b, b ≠ e → G'.get? b = h'.get? b := fun b hb => g1 b (decide_eq_true hb)
    have ge : G'.get? e = none := g2 e (by simp)
    have old : ∀ b o, hp.get? b = some o → G'.get? b = some o := fun b o q => (gk b (Nat.ne_of_lt (Nat.lt_of_lt_of_le (Heap.lt_size q) M.new))).trans (M.keep b o q)
    have ob : ObjOk X.prog X.w (upd H1 d (.xd [(f, v)])) G' d (.xd [(f, v)]) :=
      ⟨_, hns.at (fun o q => (gk d M.dne).trans q), fun y => relO_one rv y⟩
    have J : Inv X pins σ (upd H1 d (.xd [(f, v)])) ⟨G', g, dr, tk', os⟩ := I1.laid (t' := tk') old M.dbig ob
    refine ⟨e, oe, fv, ⟨G', g, dr, tk', os⟩, _, .ref C, some d, rfl, J, fun b o q => ?_, ge, hoe, ⟨hc, hd⟩, hdat, h1, ?_, rfl, I1.bare, raises_own T.exC T.tyC, q1 d (I1.hok.fresh M.dbig)⟩
    · by_cases hb : b = e
      · have q' : G'.get? b = some o := q
        rw [hb, ge] at q'; cases q'
      · exact (gk b hb).symm.trans q
    · rw [upd_ne (Ne.symm M.dne)]
      exact I1.hok.fresh M.new
/-- raise x(e) -/
def tRaiseX (f : Str) (C : Addr) (W : WX) (ta : TA) : TS := fun _ σ H => tMkX f C ta σ H fun cls d H' => W cls d σ H'
theorem ps_raiseX {a : Expr} {ta : TA} {W : WX} {p pos pos2 : Pos} {k : Nat} (hc : X.calm = true) (T : SupX.Txt X.prog X.K X.mg qn f C fI) (Y : SupX.FOk X.prog f) (hr : Room k X.A) (hk : 2 ≤ k) (tk : Takes X W) (gx : X.mg x = some (.ref C)) (ha : PA X [a] ta) (hg : Gl X x)
    (hd : (x == ("__debug__" : Str)) = false := by decide) (he : starEach (a :: []) X.env = (false, eval a X.env) :: starEach [] X.env := by rfl) (hpl : (backTo pos (starEach [] X.env)).any (·.1) = false := by rfl) :
    PS X (.Raise (some (.Call (.Name x p) [a] [] pos)) none pos2) (tRaiseX f C W ta) := ps_raise hc tk (pmk_x T Y hr hk gx ha hg hd he hpl)
end
end Ep
/-! try with several clauses that note what they caught -/
namespace Ep
open PySem PySem.Spec L2 PyProof.Rows
abbrev HdT := Value × Nat × (Addr → Value → Option Addr → TS)
/-- behind a suite its note is gone -/
def gone (i : Nat) (D : Ends) : Ends := { nx := fun σ H => D.nx (σ.set i none) H, rt := D.rt, bk := fun σ H => D.bk (σ.set i none) H, ct := fun σ H => D.ct (σ.set i none) H }
def wMA (K : PySem.W.Frag) (Wout : WX) (D : Ends) : List HdT → WX
  | [] => Wout
  | p :: r => fun cls d σ H => ∃ b, PySem.W.exmOne K cls p.1 = some b ∧ (b = true → ∀ a, H a = none → p.2.2 a cls d (gone p.2.1 D) (σ.set p.2.1 (some (.ref a))) H) ∧ (b = false → wMA K Wout D r cls d σ H)
inductive HdAs (X : Cx) : List ExceptHandler → List HdT → Prop
  | nil : HdAs X [] []
  | cons {x n : Str} {c : Value} {i : Nat} {ts : Addr → Value → Option Addr → TS} {b₀ : Stmt} {suite : List Stmt} {np pp : Pos} {hds : List ExceptHandler} {l : List HdT} (hc : Names X x c) (hi : X.N[i]? = some n) (hl : X.env.kindOf n = some .local)
      (hsu : ∀ (a : Addr) (oe : Obj) (cls : Value) (d : Option Addr) (pn : List (Addr × Obj)), Zc cls d oe → (∃ vs, oe.data = .fields vs) → PSs (X.suite a ((a, oe) :: pn)) (b₀ :: suite) (ts a cls d)) (r : HdAs X hds l) :
      HdAs X (.ExceptHandler (some (.Name x np)) (some n) (b₀ :: suite) pp :: hds) ((c, i, ts) :: l)
section
variable {X : Cx} {pins : List (Addr × Obj)} {a : Addr} {B : Heap} {sI : Shared} {σ : L2.St} {H : Hp} {cls : Value} {d : Option Addr} {D : Ends} {Wout : WX}
/-- a raised thing is no def's frame -/
theorem no_frame {B h : Heap} {l : List PySem.Env} {o : Obj} {vs : Array Value} (ff : h.FunFrames B l) (at_a : h.get? a = some o) (rec : o.data = .fields vs) : a ∉ frs l := fun of_l => by
  obtain ⟨_, u, at_u, notFields⟩ := ff.mem of_l
  cases at_a.symm.trans at_u
  exact absurd rec (notFields vs)
/-- what is known when an exception has been caught and is looked at -/
structure Got (X : Cx) (pins : List (Addr × Obj)) (a : Addr) (B : Heap) (sI : Shared) (σ : L2.St) (H : Hp) (cls : Value) (d : Option Addr) (s' : Shared) (h3 : Heap) : Prop where
  ok : X.Ok
  J : Inv X pins σ H sI
  nb : ∀ b o, sI.heap.get? b = some o → b ∉ frs X.stack → B.get? b = some o
  up : sI.heap.UpToSlots h3
  fl : HandSPX.FlyingZ B (X.env :: X.outer) a (Zc cls d) h3
  na : H a = none
  os : s'.os = sI.os
  ag : AllBare s'.gens
theorem Got.nfr {s' : Shared} {h3 : Heap} (g : Got X pins a B sI σ H cls d s' h3) : a ∉ frs (X.env :: X.outer) := by
  obtain ⟨oe, vs, he, _, hd⟩ := g.fl.there
  exact no_frame g.fl.2.2.1 he hd
/-- the frames' own list, one deeper -/
theorem frs_deep {e : PySem.Env} {l : List PySem.Env} {b : Addr} (h : b ∈ frs l) : b ∈ frs (e :: l) := by
  cases q : e.frame with
  | none => rw [show frs (e :: l) = frs l from List.filterMap_cons_none q]; exact h
  | some c => rw [show frs (e :: l) = c :: frs l from List.filterMap_cons_some q]; exact List.mem_cons_of_mem _ h
theorem Got.nF {s' : Shared} {h3 : Heap} (g : Got X pins a B sI σ H cls d s' h3) : a ∉ X.fs := fun of_l => g.nfr (frs_deep of_l)
theorem Got.nL {s' : Shared} {h3 : Heap} (g : Got X pins a B sI σ H cls d s' h3) (hf : X.env.frame = some X.env.locals) : a ≠ X.env.locals := fun z => g.nfr (by
  rw [show frs (X.env :: X.outer) = X.env.locals :: frs X.outer from List.filterMap_cons_some hf, z]
  exact List.mem_cons_self)
theorem Got.again {s' : Shared} {h3 h4 : Heap} (g : Got X pins a B sI σ H cls d s' h3) (fl : HandSPX.FlyingZ B (X.env :: X.outer) a (Zc cls d) h4) (up : h3.UpToSlots h4) : Got X pins a B sI σ H cls d s' h4 := ⟨g.ok, g.J, g.nb, g.up.trans up, fl, g.na, g.os, g.ag⟩
theorem Got.inv {s' : Shared} {h3 : Heap} (g : Got X pins a B sI σ H cls d s' h3) : Inv X pins σ H { s' with heap := h3 } := g.J.landed g.nb g.fl.1 g.up g.os g.ag
theorem Got.in_ {s' : Shared} {h3 : Heap} (g : Got X pins a B sI σ H cls d s' h3) (hf : X.env.frame = some X.env.locals) : ∃ (oe : Obj) (vs : Array Value), h3.get? a = some oe ∧ Zc cls d oe ∧ oe.data = .fields vs ∧ Inv (X.suite a ((a, oe) :: (X.pn ++ pins))) [] σ H { s' with heap := h3 } := by
  obtain ⟨oe, vs, he, hz, hd⟩ := g.fl.there
  exact ⟨oe, vs, he, hz, hd, g.inv.suite he hd g.na (g.nL hf) g.nF⟩
/-- no clause takes it: it goes on, its frame noted -/
theorem Got.goes_on {s' : Shared} {h3 : Heap} (g : Got X pins a B sI σ H cls d s' h3) (hs : X.stack = X.env :: X.outer) (hf : X.env.frame = some X.env.locals) (tk : Takes X Wout) (hw : Wout cls d σ H) :
    wpAny (model X.prog X.w) X.A (handleBy (.ref a) X.env []) (SP X pins D) X.xe { s' with heap := h3 } := by
  obtain ⟨_, _, _, oe, vs, T, oT, _, at_a, _, rec, tb, _⟩ := id g.fl
  have thrown : wpAny (model X.prog X.w) X.A (setFlight (.ref a) X.env.frame) (fun _ z => wpAny (model X.prog X.w) X.A (throw (.ref a) : Sem Flow) (SP X pins D) X.xe z) X.xe { s' with heap := h3 } := hf ▸ HandSPX.setFlight_upZ g.fl fun h4 sky up =>
    wpAny_throw (tk _ _ ⟨a, B, sI, pins, σ, H, cls, d, rfl, g.J, g.nb, g.up.trans up, .inr (.inr (hs ▸ sky)), g.na, g.os, g.ag, hw⟩)
  have some_tb : ¬ ((Value.ref T == Value.none) = true) := fun z => nomatch eq_of_beq z
  refine wpAny_handleBy_nil (wpAny_bind (wpAny_field at_a rec tb ?_))
  rw [if_neg some_tb]
  first
    | exact wpAny_bind (wpAny_pure (wpAny_bind thrown))
    | exact wpAny_bind thrown
/-- a clause's class is looked up, and whether the caught one is of it -/
theorem Got.asked {s' : Shared} {h3 : Heap} (g : Got X pins a B sI σ H cls d s' h3) (hf : X.env.frame = some X.env.locals) {x : Str} {c : Value} {np : Pos} {b : Bool} (hc : Names X x c) (one : PySem.W.exmOne X.K cls c = some b) {Q : Bool → Shared → Prop} {E E' : Value → Shared → Prop} (h : Q b { s' with heap := h3 }) :
    wpAny (model X.prog X.w) (X.A.mark (some (.ref a))) (eval (.Name x np) X.env) (fun m s1 => wpAny (model X.prog X.w) (X.A.mark (some (.ref a))) (excMatches (.ref a) m) Q E' s1) E { s' with heap := h3 } := by
  obtain ⟨oe, _, at_a, of_, _, S⟩ := g.in_ hf
  have is_one : PySem.W.Looks (model X.prog X.w) h3 (excMatches (.ref a) c) b := PySem.W.exm_one g.inv.kIn (fun _ _ _ _ keep q => wpAny_typeOf_ref (keep _ _ at_a) (by rw [of_.1]; exact q)) one
  obtain ⟨glob, dbg, mine | ⟨none_, built, nn⟩⟩ := hc
  · exact ld_glob (X := X.suite a ((a, oe) :: (X.pn ++ pins))) S glob mine (is_one.here h) dbg
  · exact ld_blt (X := X.suite a ((a, oe) :: (X.pn ++ pins))) S glob none_ built (is_one.here h) nn dbg
/-- the clause that takes it: its note is laid, the suite runs, the note goes -/
theorem Got.taken {s' : Shared} {h4 : Heap} (g : Got X pins a B sI σ H cls d s' h4) (hf : X.env.frame = some X.env.locals) (hN : X.N.Nodup) {n : Str} {i : Nat} {ts : Addr → Value → Option Addr → TS} {suite : List Stmt} {pp : Pos} (hi : X.N[i]? = some n) (hl : X.env.kindOf n = some .local)
    (hsu : ∀ (a : Addr) (oe : Obj) (cls : Value) (d : Option Addr) (pn : List (Addr × Obj)), Zc cls d oe → (∃ vs, oe.data = .fields vs) → PSs (X.suite a ((a, oe) :: pn)) suite (ts a cls d)) (yes : ts a cls d (gone i D) (σ.set i (some (.ref a))) H) {E1 E2 : Value → Shared → Prop} :
    wpAny (model X.prog X.w) (X.A.mark (some (.ref a))) (storeName X.env n (.ref a)) (fun _ s1 => wpAny (model X.prog X.w) (X.A.mark (some (.ref a))) (execs suite X.env) (fun f s2 => wpAny (model X.prog X.w) X.A (do bindName X.env n .none; unbindBehindTheSuite X.env n pp) (fun _ s3 => SP X pins D f s3) X.xe s2) E2 s1) E1 { s' with heap := h4 } := by
  obtain ⟨oe, vs, _, of_, rec, S⟩ := g.in_ hf
  have behind : ∀ {σ6 : L2.St} {H6 : Hp} {s6 : Shared} {Q : Shared → Prop}, Inv (X.suite a ((a, oe) :: (X.pn ++ pins))) [] σ6 H6 s6 → (∀ s7, Inv X pins (σ6.set i none) H6 s7 → Q s7) → wpAny (model X.prog X.w) X.A (do bindName X.env n .none; unbindBehindTheSuite X.env n pp) (fun _ s7 => Q s7) X.xe s6 :=
    fun S6 q => gone_ok (S6.unsuite g.ok) hN hi hl q
  refine store_ok (X := X.suite a ((a, oe) :: (X.pn ++ pins))) (v := .ref a) S hN hi (.inl hl) rfl (fun s5 S5 => wpAny_mono ((hsu a oe cls d (X.pn ++ pins) of_ ⟨vs, rec⟩).run [] s5 _ H _ S5 yes) (fun f s6 ran => ?_) fun _ _ => False.elim) (.inr hl)
  cases f <;> dsimp only [SP, gone] at ran ⊢
  case ret u =>
    obtain ⟨v, σ6, H6, S6, rel, q⟩ := ran
    exact behind S6 fun s7 J => ⟨v, _, H6, J, rel, q⟩
  all_goals
    obtain ⟨σ6, H6, S6, q⟩ := ran
    exact behind S6 fun s7 J => ⟨_, H6, J, q⟩
theorem clauses {s' : Shared} (hs : X.stack = X.env :: X.outer) (hf : X.env.frame = some X.env.locals) (hN : X.N.Nodup) (tk : Takes X Wout) : ∀ {hds : List ExceptHandler} {l : List HdT}, HdAs X hds l → ∀ {h3 : Heap}, Got X pins a B sI σ H cls d s' h3 → wMA X.K Wout D l cls d σ H →
    wpAny (model X.prog X.w) X.A (handleBy (.ref a) X.env hds) (SP X pins D) X.xe { s' with heap := h3 }
  | _, _, .nil, _, g, hw => g.goes_on hs hf tk hw
  | _, _, .cons hc hi hl hsu r, h3, g, ⟨true, one, yes, _⟩ => by
    refine wpAny_handleBy_cons (codeAny_handlers_test (g.asked hf hc one (codeAny_handlers_suite_as (HandSPX.lands_againZ g.fl fun h4 fl up => ?_)))) (fun q => nomatch q)
    refine (g.again fl up).taken hf hN hi hl hsu (yes rfl a g.na)
  | _, _, .cons hc hi hl hsu r, h3, g, ⟨false, one, _, no⟩ => wpAny_handleBy_cons (codeAny_handlers_test (g.asked hf hc one (clauses hs hf hN tk r g (no rfl)))) (fun q => nomatch q)
/-- a flow out of a try's body is one of the whole statement -/
theorem flow_out {xe : Value → Shared → Prop} (ok : X.Ok) {f : Flow} {s1 : Shared} (h : SP (X.tr (X.pn ++ pins) xe) [] D f s1) : SP X pins D f s1 := by
  cases f <;> dsimp only [SP] at h ⊢
  case ret u => exact h.imp fun _ => Exists.imp fun _ => Exists.imp fun _ => And.imp_left fun J => J.ofTry ok
  all_goals exact h.imp fun _ => Exists.imp fun _ => And.imp_left fun J => J.ofTry ok
theorem ps_tryMA {body : List Stmt} {h₀ : ExceptHandler} {hds : List ExceptHandler} {l : List HdT} {pos : Pos} {tb : WX → TS} (hs : X.stack = X.env :: X.outer) (hf : X.env.frame = some X.env.locals) (hN : X.N.Nodup) (tk : Takes X Wout)
    (hb : ∀ (W : WX) (pn : List (Addr × Obj)) (xe : Value → Shared → Prop), Takes (X.tr pn xe) W → PassesOwn (model X.prog X.w) X.A X.env xe → PSs (X.tr pn xe) body (tb W)) (hh : HdAs X (h₀ :: hds) l) :
    PS X (.Try body (h₀ :: hds) [] [] pos) (fun D σ H => tb (wMA X.K Wout D l) D σ H) := by
  refine ⟨fun pins s σ H D I h => wpAny_Try_except ?_⟩
  have takes : Takes (X.tr (X.pn ++ pins) (fun e s₁ => wpAny (model X.prog X.w) X.A (noteFrame e X.env) (fun _ s₂ => wpAny (model X.prog X.w) X.A (setFlight e none) (fun _ s₃ => wpAny (model X.prog X.w) X.A (handleBy e X.env (h₀ :: hds)) (SP X pins D) X.xe s₃) X.xe s₂) X.xe s₁)) (wMA X.K Wout D l) := by
    rintro _ s' ⟨a, B, sI, pins', σ', H', cls, d, rfl, J, nb, up, sky, na, os, ag, hw⟩
    exact Sky.land Zc.steady (I.ok.frames.trans (congrArg some hs)) hf (hs ▸ sky) fun h3 fl up3 => clauses hs hf hN tk hh (Got.mk I.ok (J.ofTry I.ok) nb (up.trans up3) fl na os ag) hw
  refine wpAny_mono ((hb _ _ _ takes PassesOwn.looking).run [] s σ H D (I.toTry _) h) (fun f s1 ran => ?_) fun _ _ => id
  cases f with
  | next => exact wpAny_execs_nil (flow_out I.ok ran)
  | _ => exact flow_out I.ok ran
end
/-! ### raise -/
def qRaise (c : Nat) (f : Env → M T) : Sm := fun env r => ofM env (fun t r => .exn c t env r) (f env r)
/-- an exception class of the top, by its number -/
structure XcOk (P : Program) (G : Gm) (c : Nat) (fld : Str) : Prop where
  fl : G.fl c = [fld]
  cl : ∃ qn cA fI, G.mg (G.cn c) = some (.ref cA) ∧ SupX.Txt P G.K G.mg qn fld cA fI
  ok : SupX.FOk P fld
theorem ss_raise {X : Cx} {G : Gm} {W : WX} {a : Expr} {f : Env → M T} {c k : Nat} {x fld : Str} {p pos pos2 : Pos} (hc : X.calm = true) (hK : X.K = G.K) (hM : X.mg = G.mg) (tk : Takes X W) (hr : Room k X.A) (hk : 2 ≤ k) (xc : XcOk X.prog G c fld) (hx : x = G.cn c) (he : SE X G W a f) (hg : Gl X x)
    (hd : (x == ("__debug__" : Str)) = false := by decide) (hs : starEach (a :: []) X.env = (false, eval a X.env) :: starEach [] X.env := by rfl) (hpl : (backTo pos (starEach [] X.env)).any (·.1) = false := by rfl) :
    SS X G W (.Raise (some (.Call (.Name x p) [a] [] pos)) none pos2) (qRaise c f) := fun w0 H0 => by
  obtain ⟨qn, cA, fI, h1, h2⟩ := xc.cl
  rw [← hK, ← hM] at h2
  refine ps_imp (ps_raiseX hc h2 xc.ok hr hk tk (by rw [hM, hx]; exact h1) (pa_cons he pa_nil hs) hg hd hs hpl) fun D σ H ⟨w, env, r, a0, h⟩ => ?_
  refine at_e a0 h fun t r1 w1 H1 v a1 d h3 => ⟨v, rfl, fun dd hdd => ?_⟩
  have st : Step w1 H1 w1 (upd H1 dd (.xd [(fld, v)])) := (Step.refl w1 H1).priv hdd
  have g2 : Good G w1 (upd H1 dd (.xd [(fld, v)])) r1 := a1.g.priv (a1.g.nopub hdd) (a1.g.noref hdd) (.inl hdd)
  exact h3 w1 _ σ _ _ (a1.st.trans st) g2 (a1.s.step st) ⟨cA, dd, v, fld, h1, rfl, rfl, xc.fl, upd_same, d⟩
/-! ### what was caught -/
structure EI (G : Gm) (w : Wd) (H : Hp) (c : Nat) (p : T) (cls : Value) (d : Option Addr) : Prop where
  ex : ∃ cA dd v f, G.mg (G.cn c) = some (.ref cA) ∧ cls = .ref cA ∧ d = some dd ∧ G.fl c = [f] ∧ H dd = some (.xd [(f, v)]) ∧ dd ∉ w.R ∧ Den G w v p
theorem ExcIs.ei {G : Gm} {w : Wd} {H : Hp} {r : RS} {c : Nat} {p : T} {cls : Value} {d : Option Addr} (x : ExcIs G w H c p cls d) (g : Good G w H r) : EI G w H c p cls d := by
  obtain ⟨cA, dd, v, f, h1, h2, h3, h4, h5, h6⟩ := x.ex
  refine ⟨cA, dd, v, f, h1, h2, h3, h4, h5, fun hm => ?_, h6⟩
  obtain ⟨vs, e⟩ := g.refs.there hm
  rw [h5] at e
  cases e
theorem EI.step {G : Gm} {w w' : Wd} {H H' : Hp} {c : Nat} {p : T} {cls : Value} {d : Option Addr} (x : EI G w H c p cls d) (s : Step w H w' H') : EI G w' H' c p cls d := by
  obtain ⟨cA, dd, v, f, h1, h2, h3, h4, h5, h6, h7⟩ := x.ex
  exact ⟨cA, dd, v, f, h1, h2, h3, h4, s.fr _ _ h6 h5 (by intro _ e; cases e), s.noR h6 (vs_of h5), h7.mono s.later⟩
abbrev XF : XK := fun _ _ _ => False
theorem OutP.noW {α : Type} {G : Gm} {w : Wd} {H : Hp} {σ : L2.St} {P : α → RS → Wd → Hp → Prop} {o : Out α} (h : OutP G w H (WE0 W0 σ) P o) : OutP G w H XF P o := by
  cases o with
  | ok a r => exact h
  | exn c p r => exact h
  | bad => exact h
abbrev HM (α : Type) := Nat → T → Env → M α
section
variable {X : Cx} {G : Gm} {a : Addr} {cls : Value} {d : Option Addr} {i : Nat} {pos : Pos}
def tHE (G : Gm) (a : Addr) (cls : Value) (d : Option Addr) (i : Nat) (f : HM T) : TE := fun σ H Q => ∃ w H0 env r c p, Good G w H r ∧ Slots G w H0 H σ env ∧ σ[i]? = some (some (.ref a)) ∧ EI G w H c p cls d ∧ OutP G w H XF (fun t _ w' H' => ∀ v, Den G w' v t → Q v H') (f c p env r)
def tHA (G : Gm) (a : Addr) (cls : Value) (d : Option Addr) (i : Nat) (fs : List (HM T)) : TA := fun σ H Q => ∃ w H0 env r c p, Good G w H r ∧ Slots G w H0 H σ env ∧ σ[i]? = some (some (.ref a)) ∧ EI G w H c p cls d ∧ OutP G w H XF (fun ts _ w' H' => ∀ vs, Dens G w' vs ts → ts.length = fs.length → Q vs H') (fAll (fs.map fun f => f c p) env r)
def tHS (G : Gm) (a : Addr) (cls : Value) (d : Option Addr) (i : Nat) (hb : Nat → T → Sm) : TS := fun D σ H => ∃ w0 H0 w env r c p, At G w0 H0 w H σ env r ∧ σ[i]? = some (some (.ref a)) ∧ EI G w H c p cls d ∧ FlowP G W0 w0 H0 D (hb c p env r)
theorem he_of {e : Expr} {f : Env → M T} (h : SE X G W0 e f) : PE X e (tHE G a cls d i fun _ _ => f) := pe_imp h fun σ H Q ⟨w, H0, env, r, c, p, g, s, _, _, h⟩ => ⟨w, H0, env, r, g, s, h⟩
theorem ha_nil : PA X [] (tHA G a cls d i []) := pa_imp pa_nil fun σ H Q ⟨w, H0, env, r, c, p, g, s, _, _, h⟩ => OutP.here g h [] .nil rfl
theorem ha_cons {e : Expr} {es : List Expr} {f : HM T} {fs : List (HM T)} (h1 : PE X e (tHE G a cls d i f)) (h2 : PA X es (tHA G a cls d i fs)) (hs : starEach (e :: es) X.env = (false, eval e X.env) :: starEach es X.env := by rfl) : PA X (e :: es) (tHA G a cls d i (f :: fs)) :=
  pa_imp (pa_cons h1 h2 hs) fun σ H Q ⟨w, H0, env, r, c, p, g, s, e1, ei, h⟩ => by
    have h : OutP G w H XF (fun ts _ w' H' => ∀ vs, Dens G w' vs ts → ts.length = (f :: fs).length → Q vs H') ((f c p env >>= fun x => fAll (fs.map fun f => f c p) env >>= fun xs => pure (x :: xs)) r) := h
    refine ⟨w, H0, env, r, c, p, g, s, e1, ei, h.bind.imp fun t r1 w1 H1 st1 g1 o v dv => ?_⟩
    refine ⟨w1, H0, env, r1, c, p, g1, s.step st1, e1, ei.step st1, o.bind.imp fun ts r2 w2 H2 st2 g2 o2 vs dvs l => ?_⟩
    exact OutP.here g2 o2 (v :: vs) (.cons (dv.mono st2.later) dvs) (by rw [List.length_cons, List.length_cons, l])
theorem he_lst {es : List Expr} {fs : List (HM T)} (ha : PA X es (tHA G a cls d i fs)) (hl : fs.length ≤ 1000 := by decide) : PE X (.List es pos) (tHE G a cls d i fun c p => fLst (fs.map fun f => f c p)) :=
  pe_imp (pe_lst ha) fun σ H Q ⟨w, H0, env, r, c, p, g, s, e1, ei, h⟩ => by
    refine ⟨w, H0, env, r, c, p, g, s, e1, ei, h.bind.imp fun ts r1 w1 H1 st1 g1 o vs d1 l => ?_⟩
    have hz : ts.length ≤ sizeLine := by rw [l]; exact Nat.le_trans hl (by decide)
    refine ⟨by rw [d1.length]; exact hz, fun q hq => ?_⟩
    obtain ⟨st, g2⟩ := g1.new (o := .lst vs) hq
    exact o _ _ st g2 _ (.lst upd_same hz (d1.mono st.later))
theorem he_tup {es : List Expr} {fs : List (HM T)} {j : Nat} (ha : PA X es (tHA G a cls d i fs)) (hl : fs.length ≤ 1000 := by decide) : PE X (.Tuple es j pos) (tHE G a cls d i fun c p => fTup (fs.map fun f => f c p)) :=
  pe_imp (pe_tup ha) fun σ H Q ⟨w, H0, env, r, c, p, g, s, e1, ei, h⟩ => by
    refine ⟨w, H0, env, r, c, p, g, s, e1, ei, h.bind.imp fun ts r1 w1 H1 st1 g1 o vs d1 l => ?_⟩
    have hz : ts.length ≤ sizeLine := by rw [l]; exact Nat.le_trans hl (by decide)
    refine ⟨by rw [d1.length]; exact hz, fun q hq => ?_⟩
    obtain ⟨st, g2⟩ := g1.new (o := .tup vs) hq
    exact o _ _ st g2 _ (.tup (.inl upd_same) hz (d1.mono st.later))
/-- what must be known of a class, that a field of its exceptions be read -/
structure XgOk (G : Gm) (c : Nat) (fld : Str) : Prop where
  fl : G.fl c = [fld]
  ga : ∀ cA, G.mg (G.cn c) = some (.ref cA) → PySem.W.findIn G.K (.ref cA) "__getattribute__" = some (some (.builtin "BaseException.__getattribute__")) ∧ PySem.W.findIn G.K (.ref cA) "__getattr__" = some none ∧ PySem.W.subIn G.K (.ref cA) (.type "BaseException") = some true ∧ PySem.W.hasDictIn G.K cA = true ∧ PySem.W.findIn G.K (.ref cA) fld = some none
def hFld (xf : Nat → Bool) : HM T := fun c p _ => if xf c = true then pure p else M.bad
theorem he_fld {oe : Obj} {pn : List (Addr × Obj)} {n fld : Str} {np : Pos} (hK : X.K = G.K) (hz : Zc cls d oe) (hf : ∃ vs, oe.data = .fields vs) (xf : Nat → Bool) (ok : ∀ c, xf c = true → XgOk G c fld) (hN : X.N[i]? = some n) (hv : Vis X.env.scope n)
    (hb : attributeBase (.Name n np) fld (X.suite a ((a, oe) :: pn)).env (eval (.Name n np) (X.suite a ((a, oe) :: pn)).env) = eval (.Name n np) (X.suite a ((a, oe) :: pn)).env := by rfl) (hd : (n == ("__debug__" : Str)) = false := by decide) (hcd : (n == ("__classdict__" : Str)) = false := by decide) :
    PE (X.suite a ((a, oe) :: pn)) (.Attribute (.Name n np) fld pos) (tHE G a cls d i (hFld xf)) := by
  refine ⟨fun pins s σ H Q I ⟨w, H0, env, r, c, p, g, sl, e1, ei, h⟩ => ?_⟩
  refine attr_of hb (thn ((pe_var (X := X.suite a ((a, oe) :: pn)) (pos := np) (i := i) hN hv hd hcd).run pins s σ H (fun v H1 => v = .ref a ∧ H1 = H) I ⟨.ref a, e1, rfl, rfl⟩) fun u s1 ⟨v, H1, I1, r1, q1⟩ => ?_)
  obtain ⟨ev, eH⟩ := q1
  subst ev
  rw [eH] at I1
  obtain rfl : u = Value.ref a := r1
  unfold hFld at h
  by_cases hx : xf c = true
  · rw [if_pos hx] at h
    obtain ⟨fl, ga⟩ := ok c hx
    obtain ⟨cA, dd, v, f, k1, k2, k3, k4, k5, k6, k7⟩ := ei.ex
    rw [fl] at k4
    cases k4
    obtain ⟨ga1, ga2, ga3, ga4, ga5⟩ := ga cA k1
    rw [← hK] at ga1 ga2 ga3 ga4 ga5
    subst k2
    subst k3
    obtain ⟨ha, _⟩ := I1.pin (a, oe) (List.mem_append_left _ List.mem_cons_self)
    obtain ⟨vs, hd'⟩ := hf
    have hxd : ObjOk X.prog X.w H s1.heap dd (.xd [(fld, v)]) := I1.hok dd _ k5
    obtain ⟨mA, hns, hr⟩ := hxd
    obtain ⟨od, ho, hl⟩ := lookIn_ns hns
    have l : List.lookup fld [(fld, v)] = some v := by simp [List.lookup]
    obtain ⟨u, hu, ru⟩ := RelO.some_of (v := v) (o := mA fld) (by rw [← l]; exact hr fld)
    have J : PySem.W.InstAt s1.heap a oe cA (some od) := ⟨ha, hz.1, by unfold PySem.W.notCls; rw [hd'] <;> rfl, by rw [hz.2]; exact ho⟩
    exact HandSPX.exc_get I1.kIn J ga1 ga2 ga3 (PySem.W.findObj_own ga4 ga5 rfl (by rw [hl, hu])) (handed_of ru) ⟨v, H, I1.tok _, ru, OutP.here g h v k7⟩
  · rw [if_neg hx] at h
    exact h.elim
/-- return e, in a suite -/
def hRet (f : HM T) : Nat → T → Sm := fun c p env r => ofM env (fun t r => .rt t r) (f c p env r)
theorem hs_ret {e : Expr} {f : HM T} (h : PE X e (tHE G a cls d i f)) : PSs X [.Return (some e) pos] (tHS G a cls d i (hRet f)) := pss_imp (pss_one (ps_ret h)) fun D σ H ⟨w0, H0, w, env, r, c, p, a0, e1, ei, hq⟩ => by
  refine ⟨w, H0, env, r, c, p, a0.g, a0.s, e1, ei, ((FlowP.ofM a0 hq).imp fun t r1 w1 H1 _ _ q v dv => ?_).noW⟩
  exact q.2 w1 H1 v q.1.st q.1.g dv
end
end Ep
namespace Ep
open PySem PySem.Spec L2 PyProof.Rows
/-! ### try -/
abbrev HdS := (Nat → Option Bool) × Nat × (Nat → T → Sm)
def unS (i : Nat) : SO → SO
  | .nx env r => .nx (env.set i .un) r
  | .bk env r => .bk (env.set i .un) r
  | .ct env r => .ct (env.set i .un) r
  | .rt t r => .rt t r
  | .exn _ _ _ _ => .bad
  | .bad => .bad
def pickH : List HdS → Nat → T → Sm
  | [], c, p, env, r => .exn c p env r
  | (m, i, hb) :: rest, c, p, env, r => match m c with
    | some true => if i < env.length then unS i (hb c p (env.set i .un) r) else .bad
    | some false => pickH rest c p env r
    | none => .bad
def qTry (g : Sm) (hs : List HdS) : Sm := fun env r => match g env r with
  | .exn c p e r' => pickH hs c p e r'
  | o => o
section
variable {X : Cx} {G : Gm} {W : WX}
/-- clauses compute hs -/
def HG (X : Cx) (G : Gm) (W : WX) (hds : List ExceptHandler) (hs : List HdS) : Prop := ∃ l, HdAs X hds l ∧ ∀ (w0 : Wd) (H0 : Hp) (D : Ends) (c : Nat) (p : T) (env : Env) (r : RS), FlowP G W w0 H0 D (pickH hs c p env r) →
  ∀ w' H' σ' cls d, Step w0 H0 w' H' → Good G w' H' r → Slots G w' H0 H' σ' env → ExcIs G w' H' c p cls d → wMA X.K W D l cls d σ' H'
theorem hg_nil : HG X G W [] [] := ⟨[], .nil, fun w0 H0 D c p env r h => h⟩
/-- the classes that a clause takes -/
structure XmOk (K : PySem.W.Frag) (G : Gm) (u : Value) (m : Nat → Option Bool) : Prop where
  ok : ∀ c cA b, G.mg (G.cn c) = some (.ref cA) → m c = some b → PySem.W.exmOne K (.ref cA) u = some b
theorem unS_gone {w0 : Wd} {H0 : Hp} {D : Ends} {i : Nat} {o : SO} (h : FlowP G W w0 H0 D (unS i o)) : FlowP G W0 w0 H0 (gone i D) o := by
  cases o with
  | nx env r => exact fun w' H' σ' st g s => h w' H' _ st g (s.setUn i)
  | bk env r => exact fun w' H' σ' st g s => h w' H' _ st g (s.setUn i)
  | ct env r => exact fun w' H' σ' st g s => h w' H' _ st g (s.setUn i)
  | rt t r => exact fun w' H' v st g dv => h w' H' v st g dv
  | exn c p e r => exact h.elim
  | bad => exact h.elim
theorem hg_cons {x n : Str} {c : Value} {i : Nat} {b₀ : Stmt} {suite : List Stmt} {np pp : Pos} {hds : List ExceptHandler} {m : Nat → Option Bool} {hb : Nat → T → Sm} {hs : List HdS} (hc : Names X x c) (hi : X.N[i]? = some n) (hl : X.env.kindOf n = some .local) (xm : XmOk X.K G c m)
    (hsu : ∀ (a : Addr) (oe : Obj) (cls : Value) (d : Option Addr) (pn : List (Addr × Obj)), Zc cls d oe → (∃ vs, oe.data = .fields vs) → PSs (X.suite a ((a, oe) :: pn)) (b₀ :: suite) (tHS G a cls d i hb)) (r : HG X G W hds hs) :
    HG X G W (.ExceptHandler (some (.Name x np)) (some n) (b₀ :: suite) pp :: hds) ((m, i, hb) :: hs) := by
  obtain ⟨l, h1, h2⟩ := r
  refine ⟨(c, i, fun a cls d => tHS G a cls d i hb) :: l, .cons hc hi hl hsu h1, fun w0 H0 D k p env r h w' H' σ' cls d st g s ex => ?_⟩
  obtain ⟨cA, dd, v, f, k1, k2, k3⟩ := ex.ex
  have h : FlowP G W w0 H0 D (match m k with
    | some true => if i < env.length then unS i (hb k p (env.set i .un) r) else .bad
    | some false => pickH hs k p env r
    | none => .bad) := h
  cases q : m k with
  | none => rw [q] at h; exact h.elim
  | some b =>
    rw [q] at h
    have hm := xm.ok k cA b k1 q
    rw [← k2] at hm
    refine ⟨b, hm, fun hb1 a na => ?_, fun hb1 => ?_⟩
    · subst hb1
      have h : FlowP G W w0 H0 D (if i < env.length then unS i (hb k p (env.set i .un) r) else .bad) := h
      by_cases hl : i < env.length
      · rw [if_pos hl] at h
        exact ⟨w0, H0, w', env.set i .un, r, k, p, ⟨st, g, s.setUn i⟩, by rw [List.getElem?_set_self (by rw [s.len]; exact hl)], ex.ei g, unS_gone h⟩
      · rw [if_neg hl] at h; exact h.elim
    · subst hb1
      exact h2 w0 H0 D k p env r h w' H' σ' cls d st g s ex
theorem ss_try {body : List Stmt} {h₀ : ExceptHandler} {hds : List ExceptHandler} {hs : List HdS} {pos : Pos} {g : Sm} (hst : X.stack = X.env :: X.outer) (hf : X.env.frame = some X.env.locals) (hN : X.N.Nodup) (tk : Takes X W)
    (hb : ∀ (W' : WX) (pn : List (Addr × Obj)) (xe : Value → Shared → Prop), Takes (X.tr pn xe) W' → PassesOwn (model X.prog X.w) X.A X.env xe → SSs (X.tr pn xe) G W' body g) (hh : HG X G W (h₀ :: hds) hs) :
    SS X G W (.Try body (h₀ :: hds) [] [] pos) (qTry g hs) := fun w0 H0 => by
  obtain ⟨l, h1, h2⟩ := hh
  refine ps_imp (ps_tryMA (tb := fun W' => tSS G W' w0 H0 g) hst hf hN tk (fun W' pn xe t po => hb W' pn xe t po w0 H0) h1) fun D σ H ⟨w, env, r, a, h⟩ => ⟨w, env, r, a, ?_⟩
  unfold qTry at h
  cases q : g env r with
  | exn c p e r' =>
    rw [q] at h
    exact fun w' H' σ' cls d st g' s x => h2 w0 H0 D c p e r' h w' H' σ' cls d st g' s x
  | nx e r' => rw [q] at h; exact h
  | rt t r' => rw [q] at h; exact h
  | bk e r' => rw [q] at h; exact h
  | ct e r' => rw [q] at h; exact h
  | bad => rw [q] at h; exact h
end
/-! ### a lambda handed to a def that tries it -/
/-- a def of n slots that tries what it got, then goes on -/
def heardS (n : Nat) (hs : List HdS) (rest : Sm) (act : M T) : M T := fun r => match qSeq (qTry (fun env r => ofM env (fun _ r => .nx env r) (act r)) hs) rest (List.replicate n .un) r with
  | .nx _ r => .ok .non r
  | .rt t r => .ok t r
  | _ => .bad
abbrev D0 (Q : VK) : Ends := { nx := fun _ H' => Q .non H', rt := Q }
theorem Slots.noneAt {G : Gm} {w : Wd} {H0 H : Hp} {σ : L2.St} (n : Nat) (h : σ.length = n) : Slots G w H0 H σ (List.replicate n .un) :=
  ⟨by rw [h, List.length_replicate], fun _ => 0, fun i s hi => by
    rw [List.eq_of_mem_replicate (List.mem_of_getElem? hi)]; trivial, fun i j s u hi hj ps pu _ => by
    rw [List.eq_of_mem_replicate (List.mem_of_getElem? hi)] at ps; cases ps⟩
/-- what the def that tries makes of the reading of what it got -/
def TTh (G : Gm) (n : Nat) (hs : List HdS) (rest : Sm) : (XK → Hp → VK → Prop) → Hp → VK → Prop := fun tl H Q => ∃ w r, Good G w H r ∧ ∀ (E' : XK) (Q' : VK),
  (∀ cls d H', (∃ w' r' c p, Step w H w' H' ∧ Good G w' H' r' ∧ ExcIs G w' H' c p cls d ∧ FlowP G W0 w H (D0 Q) (match pickH hs c p (List.replicate n .un) r' with | .nx env r => rest env r | o => o)) → E' cls d H') →
  (∀ v H', (∃ w' r', Step w H w' H' ∧ Good G w' H' r' ∧ FlowP G W0 w H (D0 Q) (rest (List.replicate n .un) r')) → Q' v H') → tl E' H Q'
theorem takes_len {X : Cx} {W : WX} (tk : Takes X W) : Takes X (fun cls d σ H => σ.length = X.N.length → W cls d σ H) := fun u s' ⟨a, B, sI, pins, σ, H, cls, d, e, I, nb, up, sky, na, os, ag, w⟩ =>
  tk u s' ⟨a, B, sI, pins, σ, H, cls, d, e, I, nb, up, sky, na, os, ag, w I.len⟩
section
variable {X : Cx} {G : Gm} {Ng : List Str} {x a q : Str} {sg : Scope} {g : Addr} {cdg : Value} {n : Nat} {h₀ : ExceptHandler} {hds : List ExceptHandler} {hs : List HdS} {restB : List Stmt} {rest : Sm} {p1 p2 p3 p4 : Pos}
theorem heard_gives (hn : Ng.length = n) (h1 : 1 ≤ n) (nd : Ng.Nodup)
    (hh : ∀ (A : Around) (outer stk : List PySem.Env) (s : Shared) (H : Hp), HG (cxOf C8.CX0 X.prog X.w X.K X.mg X.base Ng x sg g cdg X.A X.stack s H C8.E0).nox G W0 (h₀ :: hds) hs)
    (hr : ∀ (s : Shared) (H : Hp), SSs (cxOf C8.CX0 X.prog X.w X.K X.mg X.base Ng x sg g cdg X.A X.stack s H C8.E0).nox G W0 restB rest) :
    LamX.GivesTo X Ng x sg g cdg (.Try [.Expr (.Call (.Name a p1) [] [] p2) p3] (h₀ :: hds) [] [] p4 :: restB) a q (TTh G n hs rest) := by
  intro f c' s H Q tl act hc ⟨w, r, gd, ht⟩
  obtain ⟨l, k1, k2⟩ := hh X.A [] [] s H
  refine ⟨_, pss_cons (ps_tryMA (X := (cxOf C8.CX0 X.prog X.w X.K X.mg X.base Ng x sg g cdg X.A X.stack s H C8.E0).nox) (tb := fun W' => fun D σ H => ∃ Ech : XK, (∀ cls d σ' H', Ech cls d H' → σ'.length = Ng.length → W' cls d σ' H') ∧ σ[0]? = some (some (.ref f)) ∧ H c' = some (LamX.CodeO c' q) ∧ tl Ech H fun _ H' => D.nx σ H')
    rfl rfl nd LamX.takes0 (fun W' pn xe tk _ => ?_) k1) (hr s H w H), ?_⟩
  · refine ⟨fun pins s' σ H' D I h' => ?_⟩
    obtain ⟨Ech, hW, e1, e2, e3⟩ := h'
    have hp := act (fun cls d σ' H' => σ'.length = Ng.length → W' cls d σ' H') pn xe Ech p1 p2 (takes_len tk) hW
    exact (pss_one (ps_expr (pos := p3) hp)).run pins s' σ H' D I ⟨e1, e2, e3⟩
  · have st : ∀ f : Addr, (L2.start Ng [V.ref f])[0]? = some (some (V.ref f)) := fun f => by
      unfold L2.start
      rfl
    have sl : ∀ f : Addr, (L2.start Ng [V.ref f]).length = n := fun f => by
      unfold L2.start
      simp
      omega
    refine ⟨fun cls d H' => ∃ w' r' c p, Step w H w' H' ∧ Good G w' H' r' ∧ ExcIs G w' H' c p cls d ∧ FlowP G W0 w H (D0 Q) (match pickH hs c p (List.replicate n .un) r' with | .nx env r => rest env r | o => o), ?_, st f, hc, ht _ _ (fun cls d H' z => z) fun v H' ⟨w', r', s1, g1, hq⟩ => ⟨w', List.replicate n .un, r', ⟨s1, g1, Slots.noneAt n (sl f)⟩, hq⟩⟩
    · rintro cls d σ' H' ⟨w', r', c, p, s1, g1, ex, hq⟩ hl
      refine k2 w H _ c p (List.replicate n .un) r' ?_ w' H' σ' cls d s1 g1 (Slots.noneAt n (hl.trans hn)) ex
      cases o : pickH hs c p (List.replicate n .un) r' with
      | nx env r2 => rw [o] at hq; exact fun w2 H2 σ2 st g s => ⟨w2, env, r2, ⟨st, g, s⟩, hq⟩
      | rt t r2 => rw [o] at hq; exact hq
      | bk e r2 => rw [o] at hq; exact fun w2 H2 σ2 st g s => hq w2 H2 σ2 st g s
      | ct e r2 => rw [o] at hq; exact fun w2 H2 σ2 st g s => hq w2 H2 σ2 st g s
      | exn c2 p2 e r2 => rw [o] at hq; exact hq
      | bad => rw [o] at hq; exact hq
end
section
variable {X : Cx} {G : Gm} {W : WX}
theorem ext_step {w : Wd} {H H1 : Hp} (e : LamX.ExtN H H1) : Step w H w H1 := ⟨Same.refl _, fun a o _ h n => e a o h n, fun a ⟨o, h, n⟩ => ⟨o, e a o h n, n⟩, fun _ _ _ h => h, ⟨[], by simp, by simp⟩, rfl⟩
theorem ext_good {w : Wd} {H H1 : Hp} {r : RS} (g : Good G w H r) (e : LamX.ExtN H H1) (t : LamX.Tabs G.tb H1) : Good G w H1 r := ⟨fun a o h => e a o (g.sub a o h) (g.nt a o h), ⟨g.refs.nd, g.refs.len, g.refs.out, fun k xs hk => by
  obtain ⟨a, vs, h1, h2, h3, h4⟩ := g.refs.at_ k xs hk
  exact ⟨a, vs, h1, e a _ h2 (by intro _ z; cases z), h3, h4⟩⟩, t, g.nt⟩
/-- x(lambda: body), x a def that tries what it got -/
theorem s_lam {Ng : List Str} {x a : Str} {stg : Stmt} {g c P : Addr} {fdg : FuncData} {n k : Nat} {h₀ : ExceptHandler} {hds : List ExceptHandler} {hs : List HdS} {restB : List Stmt} {rest : Sm} {p1 p2 p3 p4 : Pos} {params : Arguments} {body : Expr} {scope : Scope} {f : Env → M T} {p lpos pos : Pos}
    (hK : X.K = G.K) (hM : X.mg = G.mg) (hg : Gl X x) (hm : G.mg x = some (.ref g)) (F : FunD G.K x x (defArgs stg) (defBody stg) (defScope stg) [] [] g fdg) (hb : L2.Binds G.K fdg [a] []) (Sg : FnScope Ng [a] (defScope stg)) (hNg : Ng[0]? = some a) (hva : Vis (defScope stg) a)
    (eb : defBody stg = .Try [.Expr (.Call (.Name a p1) [] [] p2) p3] (h₀ :: hds) [] [] p4 :: restB) (hn : Ng.length = n) (h1 : 1 ≤ n)
    (hh : ∀ (cdg : Value) (s : Shared) (H : Hp), HG (cxOf C8.CX0 X.prog X.w X.K X.mg X.base Ng x (defScope stg) g cdg X.A X.stack s H C8.E0).nox G W0 (h₀ :: hds) hs)
    (hr : ∀ (cdg : Value) (s : Shared) (H : Hp), SSs (cxOf C8.CX0 X.prog X.w X.K X.mg X.base Ng x (defScope stg) g cdg X.A X.stack s H C8.E0).nox G W0 restB rest)
    (TB : LamX.TabB X.base X.mg c P) (hcode : X.env.code = .ref c) (hmT : (P, X.env.qual ++ "<lambda>") ∈ G.tb) (hu : ∀ p ∈ G.tb, p.1 = P → p.2 = X.env.qual ++ "<lambda>") (rm : Room (k + 2) X.A) (L : LamX.LamS X.env.scope scope) (tk : Takes X W)
    (hbody : ∀ (A : Around) (outer : List PySem.Env) (s : Shared) (H : Hp) (E : XK) (f' c' : Addr), Room k (A.deeper (LamX.lamEnv X scope s.heap.objs.size f' c')) → SE (LamX.lamCx X A outer s H E scope f' c') G (WD E) body f)
    (hdef : defaultsOf params X.env = ([], []) := by rfl) (hbind : ∀ (q : Str) (cl : List (Str × Addr)) (pm cv ctv : Value), bindArgs (PySem.W.kla_fn "<lambda>" q params body scope cl pm cv ctv) ⟨[], []⟩ = pure [] := by intros; rfl)
    (hdb : (x == ("__debug__" : Str)) = false := by decide) (hd : (a == ("__debug__" : Str)) = false := by decide) (hcd : (a == ("__classdict__" : Str)) = false := by decide) :
    SE X G W (.Call (.Name x p) [.Lambda params body scope lpos] [] pos) (fun env => heardS n hs rest (f env)) := by
  obtain ⟨oc, od, dV, kV, doc, pm, an, cdg, ct, osl, efd, lk, hcg, _, _⟩ := F.ex
  rw [← hK] at lk hcg
  subst efd
  have hb' : L2.Binds X.K (PySem.W.fnOf x x (defArgs stg) (defBody stg) (defScope stg) dV kV doc pm an cdg ct) [a] [] := by rw [hK]; exact hb
  rw [eb] at lk hb'
  refine pe_imp (LamX.pe_lamcall (T := G.tb) (TT := TTh G n hs rest) (t := fun E => tS G (WD E) f) hg (by rw [hM]; exact hm) (by rw [hK]; exact F.kp) lk hcg hb' Sg hNg hva (heard_gives hn h1 Sg.nd (fun A outer stk s H => hh cdg s H) (fun s H => hr cdg s H)) TB hcode hmT hu rm L hdef hbind
    (fun A outer s H E f' c' hr' => hbody A outer s H E f' c' hr') hdb hd hcd) fun σ H Q ⟨w, H0, env, r, gd, sl, h⟩ => ?_
  refine ⟨gd.tabs, fun H1 eN T1 => ⟨w, r, ext_good gd eN T1, fun E' Q' hE hQ => ⟨w, H0, env, r, ext_good gd eN T1, sl.step (ext_step eN), ?_⟩⟩⟩
  have h2 : OutP G w H1 (WE0 W σ) (fun t _ w' H' => ∀ v, Den G w' v t → Q v H') (heardS n hs rest (f env) r) := h.mono (ext_step (w := w) eN)
  unfold heardS at h2
  -- what ends, as a flow
  have key : ∀ so : SO, OutP G w H1 (WE0 W σ) (fun t _ w' H' => ∀ v, Den G w' v t → Q v H') (match so with | .nx _ r => .ok .non r | .rt t r => .ok t r | _ => .bad) → FlowP G W0 w H1 (D0 Q) so := fun so z => by
    cases so with
    | nx e r2 => exact fun w' H' σ' st g _ => z w' H' st g _ .non
    | rt t r2 => exact fun w' H' v st g d => z w' H' st g v d
    | bk e r2 => exact z.elim
    | ct e r2 => exact z.elim
    | exn c p e r2 => exact z.elim
    | bad => exact z.elim
  have e0 : (fun env' r => ofM env' (fun _ r => SO.nx env' r) (f env r)) (List.replicate n Slot.un) r = ofM (List.replicate n Slot.un) (fun _ r => SO.nx (List.replicate n Slot.un) r) (f env r) := rfl
  cases q : f env r with
  | ok t r1 =>
    have e : qSeq (qTry (fun env' r => ofM env' (fun _ r => .nx env' r) (f env r)) hs) rest (List.replicate n .un) r = rest (List.replicate n .un) r1 := by
      unfold qSeq qTry
      rw [e0, q]
      rfl
    rw [e] at h2
    exact fun w' H' st g' v d => hQ v H' ⟨w', r1, st, g', key _ h2⟩
  | exn c0 p0 r1 =>
    have e : qSeq (qTry (fun env' r => ofM env' (fun _ r => .nx env' r) (f env r)) hs) rest (List.replicate n .un) r = (match pickH hs c0 p0 (List.replicate n .un) r1 with | .nx env r => rest env r | o => o) := by
      unfold qSeq qTry
      rw [e0, q]
      show (match pickH hs c0 p0 (List.replicate n .un) r1 with | .nx env r => rest env r | o => o) = _
      rfl
    rw [e] at h2
    exact fun w' H' cls d st g' x => hE cls d H' ⟨w', r1, c0, p0, st, g', x, key _ h2⟩
  | bad =>
    have e : qSeq (qTry (fun env' r => ofM env' (fun _ r => .nx env' r) (f env r)) hs) rest (List.replicate n .un) r = .bad := by
      unfold qSeq qTry
      rw [e0, q]
      rfl
    rw [e] at h2
    exact h2.elim
end
/-! ### a def that makes lambdas: its code's address -/
def cdOf (K : PySem.W.Frag) (f : Addr) : Value := match K.lookup f with
  | some ⟨_, _, .func fd, _⟩ => fd.code
  | _ => .none
section
variable {P : Program} {wd : World} {base : Heap} {G : Gm} {k : Nat} {x qual : Str} {st : Stmt} {f : Addr} {fd : FuncData} {N ps : List Str} {n m : Nat} {g : Sm} {dv : List V} {kw : List (Str × V)}
theorem fn_runC (F : FunD G.K x qual (defArgs st) (defBody st) (defScope st) dv kw f fd) (S : FnScope N ps (defScope st)) (hps : ps.length = n) (hm : N.length - n = m)
    (hb : ∀ cdv A outer s H E, cdv = cdOf G.K f → Room k (A.deeper (envOfC qual (defScope st) s.heap.objs.size f cdv)) → SSs (cxB P wd G base N qual st f cdv A outer s H E) G (WD E) (defBody st) g) :
    FnOk P wd G.K G.mg base (L2.CX P wd) (k + 1) f fd ps (spF G n (fnS m g)) := by
  have hcd : ∀ cdv, (∃ oc od dV kV doc pm an ct osl, G.K.lookup f = some ⟨oc, od, .func (PySem.W.fnOf x qual (defArgs st) (defBody st) (defScope st) dV kV doc pm an cdv ct), osl⟩) → cdv = cdOf G.K f := fun cdv ⟨oc, od, dV, kV, doc, pm, an, ct, osl, e⟩ => by
    unfold cdOf
    rw [e]
  obtain ⟨oc, od, dV, kV, doc, pm, an, cdv, ct, osl, efd, lk, hc, hD, hK⟩ := F.ex
  subst efd
  have ec := hcd cdv ⟨oc, od, dV, kV, doc, pm, an, ct, osl, lk⟩
  refine fn_of (CX := L2.CX P wd) lk hc S (spF_len hps) fun A outer s H vs Q E hr ⟨w, r, ts, gd, d, l, h⟩ => ?_
  refine ⟨_, hb cdv A outer s H E ec hr w H, w, _, r, ⟨Step.refl _ _, gd, start_slots d m (by rw [d.length, l]; exact hm)⟩, ?_⟩
  have h : OutP G w H E (fun t _ w' H' => ∀ v, Den G w' v t → Q v H') (fnS m g ts r) := h
  unfold fnS at h
  cases o : g (envOf m ts) r with
  | nx env' r' => rw [o] at h; exact fun w' H' σ' st g' _ => h w' H' st g' _ .non
  | rt t r' => rw [o] at h; exact fun w' H' v st g' dv => h w' H' st g' v dv
  | bk e r' => rw [o] at h; exact h.elim
  | ct e r' => rw [o] at h; exact h.elim
  | exn c p e r' => rw [o] at h; exact fun w' H' σ' cls dd st g' _ x => h w' H' cls dd st g' x
  | bad => rw [o] at h; exact h.elim
end
/-! ### the end, with tables -/
theorem law_endT {l : PySem.W.OpenLaw} {q : Program} {loose : List Str} {XP : (Str → Option Value) → Heap → Prop} {YP : World → Heap → Prop} {d : DefRec} {K : Params → PySem.W.Frag} {x : Str} (k : Nat) (xs : List Str) (hn : l.most = some 63) (hdf : d.params.defaults = []) (hr : Room k callerA)
    (hY : ∀ (w : World) (h : Heap), YP w h → (K w.params).In h)
    (hx : ∀ y ∈ xs, ((recsOf q).find? fun e => e.name == y).isSome = true)
    (F : ∀ (w : World) (mg : Str → Option Value) (fa : Addr) (h : Heap), (K w.params).In h → h.Ns mainGlobals mg → mg d.name = some (.ref fa) → ∃ (G : Gm) (f : List T → M T) (fd : FuncData) (cs : List (Addr × Addr)), G.K = K w.params ∧ G.mg = mg ∧ (∀ (s : Shared) (u : Value), BindsTo s fd ⟨[u], []⟩ [(x, u)]) ∧
      (∀ p ∈ cs, ∃ y ∈ xs, PySem.W.tabIn (K w.params) y = some p) ∧ (∀ p ∈ cs, (K w.params).lookup p.2 = none) ∧ (∀ t ∈ G.tb, ∃ c, (c, t.1) ∈ cs) ∧
      (∀ ns : List Int, ns.length ≤ 63 → (∀ z ∈ ns, Builtin.Int.intBits z ≤ 1048576) → ∃ r, f [.kls (ns.map T.int)] [] = .ok (.bl true) r) ∧ ∀ base : Heap, (K w.params).In base → base.Ns mainGlobals mg → (∀ p ∈ cs, LamX.TabB base mg p.1 p.2) → FnOk l.prog w G.K G.mg base (L2.CX l.prog w) k fa fd [x] (spF G 1 f)) :
    PySem.W.WalkO q loose XP YP l.row.toRowW d []
      (fun f vs => PySem.call f vs) :=
  by
  refine Att.attach_callB hn hdf fun w s₀ s₁ mg mb fa o pm cd doc a vs ns G Y ho hd hcd hmg hobj hints hlen hbits hg => ?_
  have KX := hY w _ Y
  obtain ⟨G', f, fd, cs, e1, e2, hb, t1, t2, t4, hv, hF⟩ := F w mg fa _ KX G.T.g hmg
  have hT : ∀ p ∈ cs, PySem.W.CodeHd s₁.heap p.1 p.2 ∧ s₁.heap.get? p.2 = some { cls := .none, data := .fields #[] } := fun p hp => by
    obtain ⟨y, hy, ey⟩ := t1 p hp
    cases e : (recsOf q).find? fun e => e.name == y with
    | none => have := hx y hy; rw [e] at this; cases this
    | some dr => exact PySem.W.tab_of G.T KX e ey
  refine LamX.law_callTs (k := k) (x := x) (CX := L2.CX l.prog w) (sp := spF G' 1 f) KX G.T.g G.T.b G.T.builtins G.T.nolimit hg (fun p hp => (hT p hp).2) t2 (fun p hp => (hT p hp).1) G.T.bmain hobj hints (Nat.le_trans hlen (by decide)) hr (fun base KB NB hTB => ?_) hb (fun H hH hS => ?_) fun H e s' ⟨_, _, _, _, _, _, _, _, _, _, _, _, z⟩ => z
  · have := hF base KB NB hTB
    rw [e1, e2] at this
    exact this
  · obtain ⟨r, er⟩ := hv ns hlen hbits
    have dint : ∀ (ns : List Int) (w : Wd), Dens G' w (ns.map V.int) (ns.map T.int) := fun ns w => by
      induction ns with
      | nil => exact .nil
      | cons n ns ih => exact .cons (.int n) ih
    refine ⟨⟨noTb H, [], ⟨0, 0, 0⟩⟩, [], [.kls (ns.map T.int)], ⟨fun b o e => (noTb_of e).1, ⟨List.nodup_nil, rfl, fun a h => (by cases h), fun k xs h => (by cases h)⟩, fun p hp => ?_, fun b o e => (noTb_of e).2⟩, .cons (.kls (by rw [e1]; exact noTb_seq hS) (by rw [List.length_map, sizeLine_eq]; omega) (dint ns _)) .nil, rfl, ?_⟩
    · obtain ⟨c, hc⟩ := t4 p hp
      exact LamX.TabS.nil (hH _ hc)
    · rw [er]
      intro w' H' st g v d
      cases d
      rfl
end Ep
namespace Ep
open PySem PySem.Spec L2 PyProof.Rows
/-! ### own __contains__; own comparisons with what is no instance; names of several classes -/
def own2c (C : Nat) (F : List T → M T) : T → T → M T := fun x y => own2 C F y x >>= fun z => match z with
  | .bl b => pure (.bl b)
  | _ => M.bad
def own2nc (C : Nat) (F : List T → M T) : T → T → M T := fun x y => own2 C F y x >>= negB
theorem bool_ne {m : M T} {k : T → M T} (hm : ∀ r c p r', m r ≠ .exn c p r') (hk : ∀ t r c p r', k t r ≠ .exn c p r') (r : RS) (c : Nat) (p : T) (r' : RS) : (m >>= k) r ≠ .exn c p r' := by
  show M.bind m k r ≠ _
  unfold M.bind
  cases o : m r with
  | ok a r2 => exact hk a r2 c p r'
  | exn c' p' r2 => exact absurd o (hm r c' p' r2)
  | bad => simp
theorem own2c_ne {C : Nat} {F : List T → M T} (t u : T) (r : RS) (c : Nat) (p : T) (r' : RS) : own2c C F t u r ≠ .exn c p r' :=
  bool_ne (fun r c p r' => own2_ne u t r c p r') (fun z r c p r' => by cases z <;> simp [M.bad, pure, M.pure]) r c p r'
theorem own2nc_ne {C : Nat} {F : List T → M T} (t u : T) (r : RS) (c : Nat) (p : T) (r' : RS) : own2nc C F t u r ≠ .exn c p r' :=
  bool_ne (fun r c p r' => own2_ne u t r c p r') (fun z r c p r' => by cases z <;> simp [negB, M.bad, pure, M.pure]) r c p r'
section
variable {X : Cx} {G : Gm} {W : WX} {pos : Pos} {a b : Expr} {f g : Env → M T} {C j k : Nat} {F : List T → M T} {m : Str}
/-- turned: the instance is the second operand -/
theorem r2_turn {x y : V} {H : Hp} {Q : VK} {kk : T → M T} {kb : Bool → T} (hk : ∀ z r o, kk z r = o → (∀ b, z = .bl b → o = .ok (kb b) r) ∧ ((∀ b, z ≠ .bl b) → o = .bad)) (h : r2own G C (fun x y => own2 C F y x >>= kk) x y H Q) : r2own G C (own2 C F) y x H (fun v H' => ∃ b, v = .bl b ∧ ∀ v', (∀ w, Den G w v' (kb b)) → Q v' H') := by
  obtain ⟨w, r, t, u, g0, d1, d2, h⟩ := h
  refine ⟨w, r, u, t, g0, d2, d1, ?_⟩
  have h : OutP G w H (fun _ _ _ => False) (fun t _ w' H' => ∀ v, Den G w' v t → Q v H') (M.bind (own2 C F u t) kk r) := h
  unfold M.bind at h
  cases o : own2 C F u t r with
  | ok z r2 =>
    rw [o] at h
    have h : OutP G w H (fun _ _ _ => False) (fun t _ w' H' => ∀ v, Den G w' v t → Q v H') (kk z r2) := h
    obtain ⟨h1, h2⟩ := hk z r2 _ rfl
    intro w' H' st g' v d
    cases d with
    | bl b =>
      rw [h1 b rfl] at h
      exact ⟨b, rfl, fun v' dv => h w' H' st g' v' (dv w')⟩
    | _ => rw [h2 (by intro b e; cases e)] at h; exact h.elim
  | exn c p r2 => exact absurd o (own2_ne u t r c p r2)
  | bad => rw [o] at h; exact h.elim
theorem op_ownIn (D : MethOk X.prog X.w X.base G k C "__contains__" 2 [] F) (hK : X.K = G.K) (hM : X.mg = G.mg) (hr : Room j X.A) (hk : k ≤ j) : OpR X (compareOp .In) (r2own G C (own2c C F)) := by
  intro pins s σ H x y v u Q I rx ry h
  have h := r2_turn (kb := fun b => .bl b) (fun z r o e => ⟨fun b eb => by subst eb; exact e.symm, fun n => by cases z <;> first | exact e.symm | exact absurd rfl (n _)⟩) h
  obtain ⟨p, cA, fn, od, rfl, c, J, fi, ff, run⟩ := own_args D hK hM hr hk I ry rx h
  obtain ⟨mm, hF⟩ := I.fr
  refine PySem.W.in_K hF I.ok.mod.kin J fi ff (wpAny_mono (run X.A (hr.mono hk) I.env0) (fun w s' z => ?_) fun _ _ e => e)
  obtain ⟨z', H', I', rz, b, eb, q⟩ := z
  subst eb
  obtain rfl : w = Value.bool b := rz
  exact wpAny_truthy_bool ⟨.bl b, H', I', rfl, q _ fun w => .bl b⟩
theorem op_ownNin (D : MethOk X.prog X.w X.base G k C "__contains__" 2 [] F) (hK : X.K = G.K) (hM : X.mg = G.mg) (hr : Room j X.A) (hk : k ≤ j) : OpR X (compareOp .NotIn) (r2own G C (own2nc C F)) := by
  intro pins s σ H x y v u Q I rx ry h
  have h := r2_turn (kb := fun b => .bl !b) (fun z r o e => ⟨fun b eb => by subst eb; exact e.symm, fun n => by cases z <;> first | exact e.symm | exact absurd rfl (n _)⟩) h
  obtain ⟨p, cA, fn, od, rfl, c, J, fi, ff, run⟩ := own_args D hK hM hr hk I ry rx h
  obtain ⟨mm, hF⟩ := I.fr
  refine PySem.W.notIn_K hF I.ok.mod.kin J fi ff (wpAny_mono (run X.A (hr.mono hk) I.env0) (fun w s' z => ?_) fun _ _ e => e)
  obtain ⟨z', H', I', rz, b, eb, q⟩ := z
  subst eb
  obtain rfl : w = Value.bool b := rz
  exact wpAny_truthy_bool ⟨.bl !b, H', I', rfl, q _ fun w => .bl !b⟩
theorem s_ownIn (D : MethOk X.prog X.w X.base G k C "__contains__" 2 [] F) (hK : X.K = G.K) (hM : X.mg = G.mg) (hr : Room j X.A) (hk : k ≤ j) (ha : SE X G W a f) (hb : SE X G W b g) (hm : behindInMarks .In b = false) :
    SE X G W (.Compare a [.In] [b] pos) (fun env => f env >>= fun x => g env >>= fun y => own2c C F x y) := pe_imp (pe_cmpR (op_ownIn D hK hM hr hk) ha hb hm) fun σ H Q hq => own_use own2c_ne hq
theorem s_ownNin (D : MethOk X.prog X.w X.base G k C "__contains__" 2 [] F) (hK : X.K = G.K) (hM : X.mg = G.mg) (hr : Room j X.A) (hk : k ≤ j) (ha : SE X G W a f) (hb : SE X G W b g) (hm : behindInMarks .NotIn b = false) :
    SE X G W (.Compare a [.NotIn] [b] pos) (fun env => f env >>= fun x => g env >>= fun y => own2nc C F x y) := pe_imp (pe_cmpR (op_ownNin D hK hM hr hk) ha hb hm) fun σ H Q hq => own_use own2nc_ne hq
theorem b_ownIn (D : MethOk X.prog X.w X.base G k C "__contains__" 2 [] F) (hK : X.K = G.K) (hM : X.mg = G.mg) (hr : Room j X.A) (hk : k ≤ j) (ha : SE X G W a f) (hb : SE X G W b g) (hm : behindInMarks .In b = false) :
    SB X G W (.Compare a [.In] [b] pos) (fToB fun env => f env >>= fun x => g env >>= fun y => own2c C F x y) := pt_imp (pt_cmpR (op_ownIn D hK hM hr hk) ha hb hm) fun σ H Q hq => own_use own2c_ne (tob_read hq)
theorem b_ownNin (D : MethOk X.prog X.w X.base G k C "__contains__" 2 [] F) (hK : X.K = G.K) (hM : X.mg = G.mg) (hr : Room j X.A) (hk : k ≤ j) (ha : SE X G W a f) (hb : SE X G W b g) (hm : behindInMarks .NotIn b = false) :
    SB X G W (.Compare a [.NotIn] [b] pos) (fToB fun env => f env >>= fun x => g env >>= fun y => own2nc C F x y) := pt_imp (pt_cmpR (op_ownNin D hK hM hr hk) ha hb hm) fun σ H Q hq => own_use own2nc_ne (tob_read hq)
/-- compared with a text, a number, nothing -/
def plainT : T → Option String
  | .str _ => some "str"
  | .int _ => some "int"
  | .bl _ => some "bool"
  | .non => some "NoneType"
  | _ => none
def own2x (C : Nat) (F : List T → M T) : T → T → M T := fun x y => if (plainT y).isSome = true then own2 C F x y else own2s C F x y
theorem own2x_ne {C : Nat} {F : List T → M T} (t u : T) (r : RS) (c : Nat) (p : T) (r' : RS) : own2x C F t u r ≠ .exn c p r' := by
  unfold own2x
  split
  · exact own2_ne _ _ _ _ _ _
  · exact own2s_ne _ _ _ _ _ _
/-- no class above the builtin one -/
structure PxOk (G : Gm) (C : Nat) : Prop where
  ok : ∀ cA, G.mg (G.cn C) = some (.ref cA) → PySem.W.notFirst G.K cA (.type "str") = true ∧ PySem.W.notFirst G.K cA (.type "int") = true ∧ PySem.W.notFirst G.K cA (.type "bool") = true ∧ PySem.W.notFirst G.K cA (.type "NoneType") = true
theorem op_ownX {op : CmpOp} (hop : ∀ a b, compareOp op a b = richCompare op a b) (px : PxOk G C) (D : MethOk X.prog X.w X.base G k C (cmpInfo op).2.1 2 [] F) (hK : X.K = G.K) (hM : X.mg = G.mg) (hr : Room j X.A) (hk : k ≤ j) : OpR X (compareOp op) (r2own G C (own2x C F)) := by
  intro pins s σ H x y v u Q I rx ry h
  obtain ⟨w, r, t, u', g0, d1, d2, h⟩ := h
  unfold own2x at h
  by_cases hp : (plainT u').isSome = true
  · rw [if_pos hp] at h
    obtain ⟨p, cA, fn, od, rfl, c, J, fi, ff, run⟩ := own_args D hK hM hr hk I rx ry ⟨w, r, t, u', g0, d1, d2, h⟩
    obtain ⟨mm, hF⟩ := I.fr
    obtain ⟨n1, n2, n3, n4⟩ := px.ok cA c
    rw [← hK] at n1 n2 n3 n4
    rw [hop]
    have fin : ∀ {w' : Value} {s' : Shared}, EP X pins σ Q w' s' → PySem.W.CmpBack (EP X pins σ Q) w' s' := fun {w' s'} z => by
      obtain ⟨z', H', I', rz, qz⟩ := z
      exact SlX.cmpback rz ⟨z', H', I', rz, qz⟩
    cases d2 with
    | str x =>
      obtain ⟨tk, rfl⟩ := ry
      exact PySem.W.cmp_K (op := op) (tb := .type "str") hr.units0 hF I.ok.mod.kin J (PySem.W.Looks.of_pure rfl) n1 fi ff (wpAny_mono (run X.A (hr.mono hk) I.env0) (fun w s' z => fin z) fun _ _ e => e)
    | int i =>
      obtain ⟨tk, rfl⟩ := ry
      exact PySem.W.cmp_K (op := op) (tb := .type "int") hr.units0 hF I.ok.mod.kin J (PySem.W.Looks.of_pure rfl) n2 fi ff (wpAny_mono (run X.A (hr.mono hk) I.env0) (fun w s' z => fin z) fun _ _ e => e)
    | bl b =>
      obtain rfl : u = Value.bool b := ry
      exact PySem.W.cmp_K (op := op) (tb := .type "bool") hr.units0 hF I.ok.mod.kin J (PySem.W.Looks.of_pure rfl) n3 fi ff (wpAny_mono (run X.A (hr.mono hk) I.env0) (fun w s' z => fin z) fun _ _ e => e)
    | non =>
      obtain rfl : u = Value.none := ry
      exact PySem.W.cmp_K (op := op) (tb := .type "NoneType") hr.units0 hF I.ok.mod.kin J (PySem.W.Looks.of_pure rfl) n4 fi ff (wpAny_mono (run X.A (hr.mono hk) I.env0) (fun w s' z => fin z) fun _ _ e => e)
    | _ => cases hp
  · rw [if_neg hp] at h
    exact op_ownC hop D hK hM hr hk pins s σ H x y v u Q I rx ry ⟨w, r, t, u', g0, d1, d2, h⟩
theorem s_ownX {op : CmpOp} (hop : ∀ a b, compareOp op a b = richCompare op a b) (px : PxOk G C) (D : MethOk X.prog X.w X.base G k C (cmpInfo op).2.1 2 [] F) (hK : X.K = G.K) (hM : X.mg = G.mg) (hr : Room j X.A) (hk : k ≤ j) (ha : SE X G W a f) (hb : SE X G W b g) (hm : behindInMarks op b = false) :
    SE X G W (.Compare a [op] [b] pos) (fun env => f env >>= fun x => g env >>= fun y => own2x C F x y) := pe_imp (pe_cmpR (op_ownX hop px D hK hM hr hk) ha hb hm) fun σ H Q hq => own_use own2x_ne hq
theorem b_ownX {op : CmpOp} (hop : ∀ a b, compareOp op a b = richCompare op a b) (px : PxOk G C) (D : MethOk X.prog X.w X.base G k C (cmpInfo op).2.1 2 [] F) (hK : X.K = G.K) (hM : X.mg = G.mg) (hr : Room j X.A) (hk : k ≤ j) (ha : SE X G W a f) (hb : SE X G W b g) (hm : behindInMarks op b = false) :
    SB X G W (.Compare a [op] [b] pos) (fToB fun env => f env >>= fun x => g env >>= fun y => own2x C F x y) := pt_imp (pt_cmpR (op_ownX hop px D hK hM hr hk) ha hb hm) fun σ H Q hq => own_use own2x_ne (tob_read hq)
end
/-! ### a list taken apart -/
def hTupL (n : Nat) (hs : List T → Env → Option Env) : T → Env → Option Env := fun t env => match t with
  | .tup ts => if ts.length = n then hs ts env else none
  | .lst ts => if ts.length = n then hs ts env else none
  | _ => none
theorem g_lst {X : Cx} {G : Gm} {pos : Pos} {us : List Nat} {es : List Expr} {k n : Nat} {hs : List T → Env → Option Env} (hc : X.calm = true) (hK : X.K = G.K) (h : SGs X G us es hs) (hn : (assignEach es X.env).length = n := by rfl) (hst : (assignEach es X.env).findIdx? (·.1) = none := by rfl) :
    ∀ w0 H0, PG X (.Tuple es k pos) (fun v σ H Q => ∃ w env r t env', At G w0 H0 w H σ env r ∧ Den G w v t ∧ (∃ ts, t = .lst ts ∧ ts.length = n ∧ hs ts env = some env') ∧ ∀ σ', Slots G w H0 H σ' env' → But us σ σ' → Q σ' H) := fun w0 H0 =>
  pg_imp (pg_lst hc (h w0 H0) hn hst) fun v σ H Q ⟨w, env, r, t, env', a, d, ⟨ts, et, hl, e⟩, q⟩ => by
    subst et
    cases d with
    | @lst p vs ts hh z dd =>
      rw [hK]
      exact ⟨p, vs, rfl, SqL.of (a.g.sub _ _ hh), by rw [dd.length]; exact hl, w, env, r, ts, env', a, dd, e, q⟩
/-- a target that takes tuples or lists -/
theorem pg_or {X : Cx} {tg : Expr} {t1 t2 : TG} (h1 : PG X tg t1) (h2 : PG X tg t2) : PG X tg (fun v σ H Q => t1 v σ H Q ∨ t2 v σ H Q) := ⟨fun pins s σ H v u Q I r q => by
  rcases q with q | q
  · exact h1.run pins s σ H v u Q I r q
  · exact h2.run pins s σ H v u Q I r q⟩
theorem g_tl {X : Cx} {G : Gm} {pos : Pos} {us : List Nat} {es : List Expr} {k n : Nat} {hs : List T → Env → Option Env} (hc : X.calm = true) (hK : X.K = G.K) (h : SGs X G us es hs) (hn : (assignEach es X.env).length = n := by rfl) (hst : (assignEach es X.env).findIdx? (·.1) = none := by rfl) : SG X G us (.Tuple es k pos) (hTupL n hs) := fun w0 H0 =>
  pg_imp (pg_or (g_tup (k := k) (pos := pos) hc hK h hn hst w0 H0) (g_lst (k := k) (pos := pos) hc hK h hn hst w0 H0)) fun v σ H Q ⟨w, env, r, t, env', a, d, e, q⟩ => by
    cases t with
    | tup ts => exact .inl ⟨w, env, r, _, env', a, d, e, q⟩
    | lst ts =>
      have e : (if ts.length = n then hs ts env else none) = some env' := e
      by_cases hl : ts.length = n
      · rw [if_pos hl] at e; exact .inr ⟨w, env, r, _, env', a, d, ⟨ts, rfl, hl, e⟩, q⟩
      · rw [if_neg hl] at e; cases e
    | _ => cases e
theorem Bd.tl {X : Cx} {G : Gm} {W : WX} {j : Nat} {pos : Pos} {es : List Expr} (B : Bd X G W j) {us : List Nat} {kk : Nat} {hs : List T → Env → Option Env} (n : Nat) (h : SGs X G us es hs) (hn : (assignEach es X.env).length = n := by rfl) (hst : (assignEach es X.env).findIdx? (·.1) = none := by rfl) : SG X G us (.Tuple es kk pos) (hTupL n hs) := g_tl B.calm B.eK h hn hst
end Ep
namespace Ep
open PySem PySem.Spec L2 PyProof.Rows
/-! ### comprehensions with two clauses -/
/-- a walk by an invariant, for any turn -/
theorem walk_it {J : It} {n : Nat} {Gd : Hp → Prop} {Y : Nat → Hp → V → Hp → Prop} (w : Walk J n Gd Y) {turn : V → Hp → (Hp → Prop) → Prop} {H : Hp} {Qd : Hp → Prop} (Pv : Nat → Hp → Prop) (h0 : Pv 0 H) (hG : ∀ i H, i ≤ n → Pv i H → Gd H)
    (hs : ∀ i x H H', i < n → Pv i H → Y i H x H' → turn x H' (Pv (i + 1))) (hd : ∀ H, Pv n H → Qd H) :
    ∃ W : Nat → Nat → Hp → Prop, (∃ m, W 0 m H) ∧ ∀ i m H, W i m H → (J.stop i H ∧ Qd H) ∨ (J.go i H ∧ ∃ Nx : Hp → Prop, (∀ H', Nx H' → ∃ m', m' < m ∧ W (i + 1) m' H') ∧ ∀ x H', J.yld i H x H' → turn x H' Nx) := by
  refine ⟨fun i m H => m = n - i ∧ i ≤ n ∧ Pv i H, ⟨n, rfl, Nat.zero_le _, h0⟩, ?_⟩
  rintro i m H ⟨rfl, hi, p⟩
  have q := hG i H hi p
  rcases Nat.lt_or_eq_of_le hi with hlt | e
  · exact .inr ⟨w.goes i H hlt q, Pv (i + 1), fun H' p' => ⟨n - (i + 1), by omega, rfl, hlt, p'⟩, fun x H' y => hs i x H H' hlt p (w.yields i H x H' hlt q y)⟩
  · subst e
    exact .inl ⟨w.stops H q, hd H p⟩
/-- the new list at D holds acc -/
structure CS (G : Gm) (D : Addr) (w1 : Wd) (H1 : Hp) (acc : List T) (w' : Wd) (H' : Hp) (r' : RS) : Prop where
  st : Step w1 H1 w' H'
  g : Good G w' H' r'
  hP : w'.P D = none
  hR : D ∉ w'.R
  at_ : ∃ vs, H' D = some (.lst vs) ∧ Dens G w' vs acc
  z : acc.length ≤ sizeLine
theorem CS.step {G : Gm} {D : Addr} {w1 w' w2 : Wd} {H1 H' H2 : Hp} {acc : List T} {r' r2 : RS} (c : CS G D w1 H1 acc w' H' r') (s : Step w' H' w2 H2) (g : Good G w2 H2 r2) : CS G D w1 H1 acc w2 H2 r2 := by
  obtain ⟨vs, h1, h2⟩ := c.at_
  exact ⟨c.st.trans s, g, s.hid D c.hR (vs_of h1) c.hP, s.noR c.hR (vs_of h1), ⟨vs, s.fr D _ c.hR h1 (by intro _ e; cases e), h2.mono s.later⟩, c.z⟩
theorem CS.app {G : Gm} {D : Addr} {w1 w' : Wd} {H1 H' : Hp} {acc : List T} {r' : RS} {v : V} {t : T} (c : CS G D w1 H1 acc w' H' r') (hD : ¬ Vs H1 D) (d : Den G w' v t) (hl : acc.length < sizeLine) : ∃ vs, H' D = some (.lst vs) ∧ vs.length < sizeLine ∧ CS G D w1 H1 (acc ++ [t]) w' (upd H' D (.lst (vs ++ [v]))) r' := by
  obtain ⟨vs, h1, h2⟩ := c.at_
  exact ⟨vs, h1, by rw [h2.length]; exact hl, c.st.chg hD, c.g.priv c.hP c.hR (.inr ⟨_, h1, ⟨fun _ e => (by cases e), fun _ e => (by cases e)⟩⟩), c.hP, c.hR, ⟨_, upd_same, h2.append (.cons d .nil)⟩, by rw [List.length_append, List.length_singleton]; exact hl⟩
/-- without D -/
def wo (H : Hp) (D : Addr) : Hp := fun b => if b = D then none else H b
theorem wo_ne {H : Hp} {D b : Addr} (h : b ≠ D) : wo H D b = H b := if_neg h
theorem wo_of {H : Hp} {D b : Addr} {o : HO} (h : wo H D b = some o) : b ≠ D ∧ H b = some o := by
  by_cases e : b = D
  · unfold wo at h; rw [if_pos e] at h; cases h
  · exact ⟨e, by rw [wo_ne e] at h; exact h⟩
theorem wo_upd {H : Hp} {D : Addr} {o : HO} : wo (upd H D o) D = wo H D := by
  funext b
  by_cases e : b = D
  · unfold wo; rw [if_pos e, if_pos e]
  · rw [wo_ne e, wo_ne e, upd_ne e]
theorem Step.wo {w w' : Wd} {H H' : Hp} {D : Addr} (s : Step w H w' H') : Step w (wo H D) w' (Ep.wo H' D) := ⟨s.pub, fun a o h1 h2 h3 => by
    obtain ⟨e, h⟩ := wo_of h2
    rw [wo_ne e]
    exact s.fr a o h1 h h3, fun a ⟨o, h1, h2⟩ => by
    obtain ⟨e, h⟩ := wo_of h1
    obtain ⟨u, h3, h4⟩ := s.keep a ⟨o, h, h2⟩
    exact ⟨u, by rw [wo_ne e]; exact h3, h4⟩, fun a h1 ⟨o, h2, h3⟩ h4 => s.hid a h1 ⟨o, (wo_of h2).2, h3⟩ h4, by
    obtain ⟨m, e, hm⟩ := s.refs
    exact ⟨m, e, fun a ha ⟨o, h2, h3⟩ => hm a ha ⟨o, (wo_of h2).2, h3⟩⟩, s.me⟩
theorem Slots.wo {G : Gm} {w : Wd} {Hb H : Hp} {σ : L2.St} {env : Env} {D : Addr} (s : Slots G w Hb H σ env) (h : Vs Hb D) : Slots G w Hb (wo H D) σ env := by
  obtain ⟨oa, h1, h2⟩ := s.ex
  refine ⟨s.len, oa, fun i u hi => ?_, h2⟩
  have := h1 i u hi
  cases u with
  | un => trivial
  | val t => exact this
  | pv q =>
    obtain ⟨a1, a2, a3, a4, o, a5, a6⟩ := this
    exact ⟨a1, a2, a3, a4, o, by rw [wo_ne (fun e => a4 (by rw [e]; exact h))]; exact a5, a6⟩
theorem Slots.ow {G : Gm} {w : Wd} {Hb H : Hp} {σ : L2.St} {env : Env} {D : Addr} (s : Slots G w Hb (Ep.wo H D) σ env) : Slots G w Hb H σ env := by
  obtain ⟨oa, h1, h2⟩ := s.ex
  refine ⟨s.len, oa, fun i u hi => ?_, h2⟩
  have := h1 i u hi
  cases u with
  | un => trivial
  | val t => exact this
  | pv q =>
    obtain ⟨a1, a2, a3, a4, o, a5, a6⟩ := this
    exact ⟨a1, a2, a3, a4, o, (wo_of a5).2, a6⟩
open Classical in
/-- another base, in which D is seen -/
theorem Slots.rebaseD {G : Gm} {w : Wd} {H0 H : Hp} {σ : L2.St} {env : Env} {r : RS} {D : Addr} (s : Slots G w H0 (Ep.wo H D) σ env) (g : Good G w H r) (hD : Vs H D) : ∃ Hb, At G w Hb w H σ env r ∧ Vs Hb D := by
  obtain ⟨oa, h1, h2⟩ := s.ex
  let own : Addr → Prop := fun b => ∃ i sl, env[i]? = some sl ∧ Slot.priv sl = true ∧ oa i = b
  have ownD : ¬ own D := fun ⟨i, sl, e1, p1, e2⟩ => by
    have := h1 i sl e1
    cases sl with
    | un => cases p1
    | val _ => cases p1
    | pv o =>
      obtain ⟨_, _, _, _, o, a5, _⟩ := this
      exact (wo_of a5).1 e2
  let Hb : Hp := fun b => if own b then none else H b
  have b1 : ∀ b, own b → Hb b = none := fun b h => if_pos h
  have b2 : ∀ b, ¬ own b → Hb b = H b := fun b h => if_neg h
  have b3 : ∀ b o, Hb b = some o → H b = some o := fun b o e => by
    by_cases q : own b
    · rw [b1 b q] at e; cases e
    · rw [b2 b q] at e; exact e
  refine ⟨Hb, ⟨⟨Same.refl _, fun b o _ e _ => b3 b o e, fun b ⟨o, e, n⟩ => ⟨o, b3 b o e, n⟩, fun _ _ _ e => e, ⟨[], by simp, by simp⟩, rfl⟩, g, s.len, oa, fun i sl hi => ?_, h2⟩, ?_⟩
  · have := h1 i sl hi
    cases sl with
    | un => trivial
    | val t => exact this
    | pv q =>
      obtain ⟨a1, a2, a3, a4, o, a5, a6⟩ := this
      exact ⟨a1, a2, a3, nvs (b1 _ ⟨i, _, hi, rfl, rfl⟩), o, (wo_of a5).2, a6⟩
  · obtain ⟨o, e, n⟩ := hD
    exact ⟨o, by rw [b2 D ownD]; exact e, n⟩
section
variable {G : Gm} {w w1 : Wd} {Hb H1 : Hp} {σ : L2.St} {D : Addr} {f : Env → M T} {p : Env → M Bool} {h : T → Env → Option Env} {us vs : List Nat}
/-- the loop of one clause, whatever follows it -/
theorem one_use {E : XK} {β : Type} {P : β → RS → Wd → Hp → Prop} {k : List T → M β} {J : It} {ys acc : List T} {env : Env} {w4 : Wd} {H4 : Hp} {r4 : RS} (hu : ∀ j ∈ us, j ∈ vs) (hD : ¬ Vs H1 D) (it : ItOk G w4 J ys) (cs : CS G D w1 H1 acc w4 H4 r4) (sl : Slots G w4 Hb H4 σ env) (hb : Vs Hb D)
    (ho : OutP G w1 H1 E P ((compF vs h p f ys acc env >>= k) r4)) :
    ∃ W : Nat → Nat → Hp → Prop, (∃ m, W 0 m H4) ∧ ∀ i m H, W i m H → (J.stop i H ∧ ∃ acc' w5 r5, CS G D w1 H1 acc' w5 H r5 ∧ OutP G w1 H1 E P (k acc' r5)) ∨ (J.go i H ∧ ∃ Nx : Hp → Prop, (∀ H', Nx H' → ∃ m', m' < m ∧ W (i + 1) m' H') ∧
      ∀ x H', J.yld i H x H' → tGx G us h x (wipe σ vs) H' fun σ2 H2 => wipe σ2 vs = wipe σ vs ∧ tSB G W0 p σ2 H2 fun b H3 => if b = true then tS G W0 f σ2 H3 fun y H4 => ∃ acc, H4 D = some (.lst acc) ∧ acc.length < sizeLine ∧ Nx (upd H4 D (.lst (acc ++ [y]))) else Nx H3) := by
  obtain ⟨Gd, Y, wk, hG, hY⟩ := it
  refine walk_it wk (turn := fun x H' Nx => tGx G us h x (wipe σ vs) H' fun σ2 H2 => wipe σ2 vs = wipe σ vs ∧ tSB G W0 p σ2 H2 fun b H3 => if b = true then tS G W0 f σ2 H3 fun y H4 => ∃ acc, H4 D = some (.lst acc) ∧ acc.length < sizeLine ∧ Nx (upd H4 D (.lst (acc ++ [y]))) else Nx H3)
    (fun i H' => ∃ acc' w' r', CS G D w1 H1 acc' w' H' r' ∧ Step w4 (wo H4 D) w' (wo H' D) ∧ OutP G w1 H1 E P ((compF vs h p f (ys.drop i) acc' env >>= k) r')) ⟨acc, w4, r4, cs, Step.refl _ _, ho⟩ (fun i H' _ ⟨acc', w', r', c, s, _⟩ => hG w' H' r' s.later c.g) ?_ ?_
  · rintro i x H2 H3 hlt ⟨acc', w', r', c, s, ho⟩ y
    obtain ⟨t, w2, ht, st2, g2, dx⟩ := hY i H2 x H3 w' r' s.later c.g hlt y
    have c2 := c.step st2 g2
    have s2 := s.trans st2.wo
    have sl2 := (((sl.wo hb).step s2).ow).wiped vs
    obtain ⟨Hc, aB, _⟩ := sl2.rebase g2
    have ed : ys.drop i = t :: ys.drop (i + 1) := by
      rw [List.drop_eq_getElem_cons hlt]
      rw [List.getElem?_eq_getElem hlt] at ht
      cases ht
      rfl
    rw [ed] at ho
    have ho : OutP G w1 H1 E P (M.bind (compF vs h p f (t :: ys.drop (i + 1)) acc' env) k r') := ho
    unfold compF at ho
    cases q : h t (wipeE env vs) with
    | none => rw [q] at ho; exact ho.elim
    | some env1 =>
      rw [q] at ho
      have ho : OutP G w1 H1 E P (M.bind (noEx (p env1) >>= fun b => if b = true then noEx (f env1) >>= fun y => if acc'.length < sizeLine then compF vs h p f (ys.drop (i + 1)) (acc' ++ [y]) env else M.bad else compF vs h p f (ys.drop (i + 1)) acc' env) k r') := ho
      rw [show ∀ (m : M Bool) (kk : Bool → M (List T)), M.bind (m >>= kk) k r' = (m >>= fun b => kk b >>= k) r' from fun m kk => by
        show M.bind (M.bind m kk) k r' = M.bind m (fun b => M.bind (kk b) k) r'
        unfold M.bind
        cases m r' <;> rfl] at ho
      refine ⟨w2, Hc, w2, _, r', t, env1, aB, dx, q, fun σ2 sl b => ⟨wipe_but b hu, ?_⟩⟩
      refine ⟨w2, Hc, env1, r', g2, sl, (noEx_use ho).imp fun b r3 w3 H5 st3 g3 ho => ?_⟩
      have c3 := c2.step st3 g3
      have s3 := s2.trans st3.wo
      cases b with
      | false => exact ⟨acc', w3, r3, c3, s3, ho⟩
      | true =>
        have ho : OutP G w1 H1 E P (M.bind (noEx (f env1) >>= fun y => if acc'.length < sizeLine then compF vs h p f (ys.drop (i + 1)) (acc' ++ [y]) env else M.bad) k r3) := ho
        rw [show ∀ (m : M T) (kk : T → M (List T)), M.bind (m >>= kk) k r3 = (m >>= fun b => kk b >>= k) r3 from fun m kk => by
          show M.bind (M.bind m kk) k r3 = M.bind m (fun b => M.bind (kk b) k) r3
          unfold M.bind
          cases m r3 <;> rfl] at ho
        refine ⟨w3, Hc, env1, r3, g3, sl.step st3, (noEx_use ho).imp fun z r6 w6 H6 st6 g6 ho v dv => ?_⟩
        have c6 := c3.step st6 g6
        have s6 := s3.trans st6.wo
        by_cases hl : acc'.length < sizeLine
        · rw [if_pos hl] at ho
          obtain ⟨vs', e1, e2, c7⟩ := c6.app hD dv hl
          exact ⟨vs', e1, e2, acc' ++ [z], w6, r6, c7, by rw [wo_upd]; exact s6, ho⟩
        · rw [if_neg hl] at ho
          exact ho.elim
  · rintro H2 ⟨acc', w', r', c, s, ho⟩
    rw [List.drop_length] at ho
    exact ⟨acc', w', r', c, ho⟩
/-- two clauses -/
def comp2F (vs vs1 : List Nat) (h : T → Env → Option Env) (p : Env → M Bool) (fi1 : Env → M (List T)) (h1 : T → Env → Option Env) (p1 : Env → M Bool) (f : Env → M T) : List T → List T → Env → M (List T)
  | [], acc, _ => pure acc
  | x :: xs, acc, env => match h x (wipeE env vs) with
    | none => M.bad
    | some env1 => noEx (p env1) >>= fun b => if b = true then noEx (fi1 env1) >>= fun ys => compF vs1 h1 p1 f ys acc env1 >>= fun acc' => comp2F vs vs1 h p fi1 h1 p1 f xs acc' env else comp2F vs vs1 h p fi1 h1 p1 f xs acc env
def fComp2 (vs vs1 : List Nat) (h : T → Env → Option Env) (p : Env → M Bool) (fi1 : Env → M (List T)) (h1 : T → Env → Option Env) (p1 : Env → M Bool) (f : Env → M T) (fi : Env → M (List T)) : Env → M (List T) := fun env => fi env >>= fun xs => comp2F vs vs1 h p fi1 h1 p1 f xs [] env
theorem comp2_use {W : WX} {us1 vs1 : List Nat} {h1 : T → Env → Option Env} {p1 : Env → M Bool} {fi fi1 : Env → M (List T)} {H : Hp} {Q : VK} (hu : ∀ j ∈ us, j ∈ vs) (hu1 : ∀ j ∈ us1, j ∈ vs1) (hq : tSL G W (fComp2 vs vs1 h p fi1 h1 p1 f fi) σ H Q) :
    tLc2 (tSI G W fi) (tGx G us h) (tSB G W0 p) (tSI G W0 fi1) (tGx G us1 h1) (tSB G W0 p1) (tS G W0 f) vs vs1 σ H Q := by
  obtain ⟨w, H0, env, r, g, s, hq⟩ := hq
  refine seqI g s hq fun xs r1 w1 H1 J g1 s1 st1 it ho0 => ?_
  intro D hD
  obtain ⟨Gd, Y, wk, hG, hY⟩ := it
  have hD0 : ¬ Vs H D := st1.before hD
  have stD : Step w1 H1 w1 (upd H1 D (.lst [])) := (Step.refl w1 H1).priv hD
  refine walk_it wk (turn := fun x H' Nx => tGx G us h x (wipe σ vs) H' fun σ2 H2 => wipe σ2 vs = wipe σ vs ∧ tSB G W0 p σ2 H2 fun b H3 =>
    if b = true then tSI G W0 fi1 σ2 H3 fun J1 H4 => ∃ W1 : Nat → Nat → Hp → Prop, (∃ m, W1 0 m H4) ∧ ∀ j k H, W1 j k H →
      (J1.stop j H ∧ Nx H) ∨ (J1.go j H ∧ ∃ Nx1 : Hp → Prop, (∀ H', Nx1 H' → ∃ k', k' < k ∧ W1 (j + 1) k' H') ∧ ∀ x H', J1.yld j H x H' → tGx G us1 h1 x (wipe σ2 vs1) H' fun σ3 H5 => wipe σ3 vs1 = wipe σ2 vs1 ∧ tSB G W0 p1 σ3 H5 fun b H6 =>
        if b = true then tS G W0 f σ3 H6 fun y H7 => ∃ acc, H7 D = some (.lst acc) ∧ acc.length < sizeLine ∧ Nx1 (upd H7 D (.lst (acc ++ [y]))) else Nx1 H6)
    else Nx H3)
    (fun i H' => ∃ acc' w' r', CS G D w1 H1 acc' w' H' r' ∧ OutP G w1 H1 (WE0 W σ) (fun xs _ w' H' => ∀ p vs, ¬ Vs H p → w'.P p = none → p ∉ w'.R → H' p = some (.lst vs) → Dens G w' vs xs → xs.length ≤ sizeLine → Q (.ref p) H') (comp2F vs vs1 h p fi1 h1 p1 f (xs.drop i) acc' env r'))
    ⟨[], w1, r1, ⟨stD, g1.priv (g1.nopub hD) (g1.noref hD) (.inl hD), g1.nopub hD, g1.noref hD, ⟨[], upd_same, .nil⟩, Nat.zero_le _⟩, ho0⟩ (fun i H' _ ⟨acc', w', r', c, _⟩ => hG w' H' r' c.st.later c.g) ?_ ?_
  · rintro i x H2 H3 hlt ⟨acc', w', r', c, ho⟩ y
    obtain ⟨t, w2, ht, st2, g2, dx⟩ := hY i H2 x H3 w' r' c.st.later c.g hlt y
    have c2 := c.step st2 g2
    have eD : wo H1 D = H1 := by
      funext b
      by_cases e : b = D
      · unfold wo; rw [if_pos e, e, hD]
      · exact wo_ne e
    have sl2 := (Slots.step (by rw [eD]; exact s1) c2.st.wo).wiped vs
    obtain ⟨vs0, e0, _⟩ := c2.at_
    obtain ⟨Hc, aB, hVc⟩ := sl2.rebaseD g2 (vs_of e0)
    have ed : xs.drop i = t :: xs.drop (i + 1) := by
      rw [List.drop_eq_getElem_cons hlt]
      rw [List.getElem?_eq_getElem hlt] at ht
      cases ht
      rfl
    rw [ed] at ho
    unfold comp2F at ho
    cases q : h t (wipeE env vs) with
    | none => rw [q] at ho; exact ho.elim
    | some env1 =>
      rw [q] at ho
      refine ⟨w2, Hc, w2, _, r', t, env1, aB, dx, q, fun σ2 sl b => ⟨wipe_but b hu, ?_⟩⟩
      refine ⟨w2, Hc, env1, r', g2, sl, (noEx_use ho).imp fun b r3 w3 H5 st3 g3 ho => ?_⟩
      have c3 := c2.step st3 g3
      cases b with
      | false => exact ⟨acc', w3, r3, c3, ho⟩
      | true =>
        refine ⟨w3, Hc, env1, r3, g3, sl.step st3, (noEx_use ho).imp fun ys r6 w6 H6 st6 g6 ho J1 it1 => ?_⟩
        have c6 := c3.step st6 g6
        obtain ⟨W1, k1, k2⟩ := one_use hu1 (nvs hD) it1 c6 ((sl.step st3).step st6) hVc ho
        exact ⟨W1, k1, fun j m H z => (k2 j m H z).imp_left fun ⟨z1, acc2, w5, r5, z2, z3⟩ => ⟨z1, acc2, w5, r5, z2, z3⟩⟩
  · rintro H2 ⟨acc', w', r', c, ho⟩
    rw [List.drop_length] at ho
    obtain ⟨vs', e1, e2⟩ := c.at_
    exact ho w' H2 c.st c.g D vs' hD0 c.hP c.hR e1 e2 c.z
theorem l_comp2 {X : Cx} {W : WX} {us us1 : List Nat} {h1 : T → Env → Option Env} {p1 : Env → M Bool} {fi fi1 : Env → M (List T)} {elt tg iter tg1 iter1 : Expr} {ifs ifs1 : List Expr} {scope : Scope} {own own1 : List (Str × Nat)} {pos : Pos} (hc : X.calm = true) (hN : X.N.Nodup) (hi : SI X G W tg iter fi) (ok : BlkOk X.N X.env.scope scope own) (hu : ∀ j ∈ us, j ∈ own.map (·.2)) (hu1 : ∀ j ∈ us1, j ∈ own1.map (·.2)) (hv : ∀ j ∈ own1.map (·.2), j ∈ own.map (·.2))
    (hg : ∀ (s : Shared) (H : Hp) (C : Addr) (cl : List (Str × Addr)) (fp : List Addr), SG (X.blk s H scope (compEnvC scope cl C X.env) fp) G us tg h) (ht : ∀ (s : Shared) (H : Hp) (C : Addr) (cl : List (Str × Addr)) (fp : List Addr), STs (X.blk s H scope (compEnvC scope cl C X.env) fp) G ifs p)
    (hi1 : ∀ (s : Shared) (H : Hp) (C : Addr) (cl : List (Str × Addr)) (fp : List Addr), SI (X.blk s H scope (compEnvC scope cl C X.env) fp) G W0 tg1 iter1 fi1)
    (hg1 : ∀ (s : Shared) (H : Hp) (C : Addr) (cl : List (Str × Addr)) (fp : List Addr), SG (X.blk s H scope (compEnvC scope cl C X.env) fp) G us1 tg1 h1) (ht1 : ∀ (s : Shared) (H : Hp) (C : Addr) (cl : List (Str × Addr)) (fp : List Addr), STs (X.blk s H scope (compEnvC scope cl C X.env) fp) G ifs1 p1)
    (he : ∀ (s : Shared) (H : Hp) (C : Addr) (cl : List (Str × Addr)) (fp : List Addr), SE (X.blk s H scope (compEnvC scope cl C X.env) fp) G W0 elt f) (hs : ∀ x, foldedSetIterable iter X.env x = pure x := by intro _; rfl) (hs1 : ∀ env x, foldedSetIterable iter1 env x = pure x := by intro _ _; rfl) :
    SL X G W (.ListComp elt [⟨tg, iter, ifs, 0⟩, ⟨tg1, iter1, ifs1, 0⟩] scope pos) (fComp2 (own.map (·.2)) (own1.map (·.2)) h p fi1 h1 p1 f fi) :=
  pe_imp (pe_lc2 hc hN hi ok hv (fun s H C cl fp => pg_x (hg s H C cl fp)) ht hi1 (fun s H C cl fp => pg_x (hg1 s H C cl fp)) ht1 he hs hs1) fun σ H Q q => comp2_use hu hu1 q
theorem Bd.comp2 {X : Cx} {W : WX} {jj : Nat} (B : Bd X G W jj) {us us1 : List Nat} {h1 : T → Env → Option Env} {p1 : Env → M Bool} {fi fi1 : Env → M (List T)} {elt tg iter tg1 iter1 : Expr} {ifs ifs1 : List Expr} {scope : Scope} {pos : Pos} (own own1 : List (Str × Nat)) (hi : SI X G W tg iter fi)
    (hg : ∀ (s : Shared) (H : Hp) (C : Addr) (cl : List (Str × Addr)) (fp : List Addr), SG (X.blk s H scope (compEnvC scope cl C X.env) fp) G us tg h) (ht : ∀ (s : Shared) (H : Hp) (C : Addr) (cl : List (Str × Addr)) (fp : List Addr), STs (X.blk s H scope (compEnvC scope cl C X.env) fp) G ifs p)
    (hi1 : ∀ (s : Shared) (H : Hp) (C : Addr) (cl : List (Str × Addr)) (fp : List Addr), SI (X.blk s H scope (compEnvC scope cl C X.env) fp) G W0 tg1 iter1 fi1)
    (hg1 : ∀ (s : Shared) (H : Hp) (C : Addr) (cl : List (Str × Addr)) (fp : List Addr), SG (X.blk s H scope (compEnvC scope cl C X.env) fp) G us1 tg1 h1) (ht1 : ∀ (s : Shared) (H : Hp) (C : Addr) (cl : List (Str × Addr)) (fp : List Addr), STs (X.blk s H scope (compEnvC scope cl C X.env) fp) G ifs1 p1)
    (he : ∀ (s : Shared) (H : Hp) (C : Addr) (cl : List (Str × Addr)) (fp : List Addr), SE (X.blk s H scope (compEnvC scope cl C X.env) fp) G W0 elt f) (ok : blkC X.N X.env.scope scope own = true := by kernel_rfl) (hu : ∀ j ∈ us, j ∈ own.map (·.2) := by decide) (hu1 : ∀ j ∈ us1, j ∈ own1.map (·.2) := by decide) (hv : ∀ j ∈ own1.map (·.2), j ∈ own.map (·.2) := by decide) (hs : ∀ x, foldedSetIterable iter X.env x = pure x := by intro _; rfl) (hs1 : ∀ env x, foldedSetIterable iter1 env x = pure x := by intro _ _; rfl) :
    SL X G W (.ListComp elt [⟨tg, iter, ifs, 0⟩, ⟨tg1, iter1, ifs1, 0⟩] scope pos) (fComp2 (own.map (·.2)) (own1.map (·.2)) h p fi1 h1 p1 f fi) := l_comp2 B.calm B.nd hi (blkOk_by ok) hu hu1 hv hg ht hi1 hg1 ht1 he hs hs1
end
end Ep
namespace Ep
open PySem PySem.Spec L2 PyProof.Rows He
/-! ### what the head tells of own exceptions -/
abbrev SupW : Type := Option (Str × Str × Arguments × FuncBody × Scope × Addr × Addr)
def supW (K : PySem.W.Frag) (f : Addr) : SupW := match K.lookup f with
  | some ⟨_, _, .func fd, _⟩ => some (fd.name, fd.qualname, fd.params, fd.body, fd.scope, fd.globals, fd.builtins)
  | _ => none
def supV (qn : Str) (st : Stmt) : SupW := some ("__init__", qn, defArgs st, .stmts (defBody st), defScope st, mainGlobals, builtinsNs)
/-- the class at C is written below b: its order of classes begins with itself, the built-in's follow; its maker is b's; its instances have a dict -/
def excCdB (b : SupX.XB) (C : Addr) (cd : ClassData) : Bool := cd.hasDict && (!cd.hasDel && (cd.mro.head? == some (.ref C) && PySem.W.excTail b.tl cd.mro.tail))
def excSlB (b : SupX.XB) (sl : List (Option Value)) : Bool := sl.length == 6 && sl[4]? == some (some (.builtin b.nw))
def excClsB (b : SupX.XB) (K : PySem.W.Frag) (C : Addr) : Bool := match K.lookup C with
  | some o => match o.cls, o.data with
    | .type n, .cls cd => n == "type" && (excSlB b o.slots.toList && excCdB b C cd)
    | _, _ => false
  | none => false
theorem excSlB_ok {b : SupX.XB} : ∀ {sl : Array (Option Value)}, excSlB b sl.toList = true → ∃ k0 k1 k2 k3 k5, sl = #[k0, k1, k2, k3, some (.builtin b.nw), k5]
  | ⟨l⟩, q => by
    obtain ⟨six, fifth⟩ := Bool.and_eq_true_iff.mp q
    match l, six, fifth with
    | [k0, k1, k2, k3, k4, k5], _, fifth => exact ⟨k0, k1, k2, k3, k5, by rw [Option.some.inj (eq_of_beq fifth)]⟩
theorem excCdB_ok {b : SupX.XB} {C : Addr} : ∀ {cd : ClassData}, excCdB b C cd = true → ∃ nm bs bm N qq sn sub ab col, cd = ⟨nm, bs, .ref C :: bm, N, qq, true, sn, sub, ab, col, false⟩ ∧ PySem.W.excTail b.tl bm = true
  | ⟨_, _, _, _, _, false, _, _, _, _, _⟩, q => absurd q Bool.false_ne_true
  | ⟨_, _, _, _, _, true, _, _, _, _, true⟩, q => absurd q Bool.false_ne_true
  | ⟨_, _, [], _, _, true, _, _, _, _, false⟩, q => absurd q Bool.false_ne_true
  | ⟨nm, bs, own :: bm, N, qq, true, sn, sub, ab, col, false⟩, q => by
    obtain ⟨first, tail⟩ := Bool.and_eq_true_iff.mp (show ((some own == some (Value.ref C)) && PySem.W.excTail b.tl bm) = true from q)
    cases Option.some.inj (eq_of_beq first)
    exact ⟨nm, bs, bm, N, qq, sn, sub, ab, col, rfl, tail⟩
theorem excClsB_ok {b : SupX.XB} {K : PySem.W.Frag} {C : Addr} (q : excClsB b K C = true) : ∃ nm qq N bs bm sn sub ab col dd k0 k1 k2 k3 k5, K.lookup C = some (excClassObj nm qq C N bs bm true sn sub ab col dd k0 k1 k2 k3 k5 b.nw) ∧ PySem.W.excTail b.tl bm = true := by
  unfold excClsB at q
  cases look : K.lookup C with
  | none => rw [look] at q; exact absurd q Bool.false_ne_true
  | some o =>
    rw [look] at q
    obtain ⟨ty, dd, dat, sl⟩ := o
    dsimp only at q
    split at q
    · obtain ⟨isT, q⟩ := Bool.and_eq_true_iff.mp q
      obtain ⟨six, q⟩ := Bool.and_eq_true_iff.mp q
      obtain ⟨k0, k1, k2, k3, k5, es⟩ := excSlB_ok six
      obtain ⟨nm, bs, bm, N, qq, sn, sub, ab, col, ec, tail⟩ := excCdB_ok q
      cases eq_of_beq isT
      cases es
      cases ec
      exact ⟨nm, qq, N, bs, bm, sn, sub, ab, col, dd, k0, k1, k2, k3, k5, rfl, tail⟩
    · exact absurd q Bool.false_ne_true
/-- the parts of __init__ that differ from program to program -/
def supFn (P : Program) (K : PySem.W.Frag) (C f : Addr) (qn : Str) : Bool := match K.lookup f with
  | some ⟨_, _, .func fd, _⟩ => decide (fd.defaults = .none) && (decide (fd.kwdefaults = .none) && (PySem.W.codeIn K fd.code qn && ((match fd.closure with
    | [(x, cc)] => decide (x = "__class__") && (match K.lookup cc with
      | some ⟨_, _, .cell (some (.ref D)), _⟩ => D == C
      | _ => false)
    | _ => false) && (match fd.code with
    | .ref cda => (match K.lookup cda with
      | some ⟨_, _, .fields vs, _⟩ => (match (vs[2]? : Option Value) with
        | some (Value.str file _) => (P.main.file : Str) == file
        | _ => false)
      | _ => false)
    | _ => false))))
  | _ => false
def supL (b : SupX.XB) (P : Program) (K : PySem.W.Frag) (C : Addr) (qn f : Str) : List Bool := [excClsB b K C, eqO (PySem.W.findIn K (.ref C) "__setattr__") (some (some (.builtin "object.__setattr__"))), eqO (PySem.W.findIn K (.ref C) f) (some none), eqO (PySem.W.findIn K (.ref C) "__init__") (some (some (.ref (ma K C "__init__")))),
  decide (PySem.W.typeIn K (.ref (ma K C "__init__")) = some (.type "function")), PySem.W.keepIn K (.ref C), decide (PySem.W.subIn K (.ref C) (.type "BaseException") = some true), decide (PySem.W.subIn K (.ref C) (.type b.B) = some true), decide (PySem.W.typeIn K (.ref C) = some (.type "type")),
  eqO (PySem.W.ks_superIn K C C "__init__") (some (some (.builtin b.ini))), decide (PySem.W.mroIn K C (.ref C) = some true), eqO (PySem.W.nsIn K mainGlobals "super") (some none), eqO (PySem.W.nsIn K cStatics "thirdparty.any") (some none), supFn P K C (ma K C "__init__") qn]
theorem all_at {l : List Bool} (h : l.all id = true) (i : Nat) {b : Bool} (e : l[i]? = some b) : b = true := List.all_eq_true.mp h b (List.mem_of_getElem? e)
/-- the text of such an __init__ -/
structure SupT (f : Str) (st : Stmt) : Prop where
  ar : ∃ p1 p2, defArgs st = SupX.iA f p1 p2
  sc : defScope st = SupX.iS f
  bd : ∃ a1 a2 a3 a4 a5 a6 q1 q2 q3 q4, defBody st = SupX.iB f a1 a2 a3 a4 a5 a6 q1 q2 q3 q4 ∧ ∀ (qn : Str) (L fI cc : Addr) (cdv : Value), ∃ pl : Sem Bool, eval (.Call (.Attribute (.Call (.Name "super" a1) [] [] a2) "__init__" a3) [.Name f a4] [] a5) (PySem.W.ksEnv qn (SupX.iS f) L fI cdv cc) = (do
      let ov ← attributeBase (.Call (.Name "super" a1) [] [] a2) "__init__" (PySem.W.ksEnv qn (SupX.iS f) L fI cdv cc) (eval (.Call (.Name "super" a1) [] [] a2) (PySem.W.ksEnv qn (SupX.iS f) L fI cdv cc))
      standAt a3.atName
      let (g, first) ← holding [ov] (getMethod ov "__init__" pl)
      callWith a5 g first (backTo a5 (starEach [.Name f a4] (PySem.W.ksEnv qn (SupX.iS f) L fI cdv cc))) [])
theorem txt_of {P : Program} {K : PySem.W.Frag} {mg : Str → Option Value} {qn f : Str} {C : Addr} {st : Stmt} (e : supW K (ma K C "__init__") = supV qn st) {xb : SupX.XB} (ok : xb.Ok) (b : (supL xb P K C qn f).all id = true) (t : SupT f st) : SupX.Txt P K mg qn f C (ma K C "__init__") := by
  have rest := all_at b 13 rfl
  refine ⟨⟨xb, ok, of_decide_eq_true (all_at b 7 rfl), eqO_ok (all_at b 9 rfl), excClsB_ok (all_at b 0 rfl)⟩, eqO_ok (all_at b 1 rfl), eqO_ok (all_at b 2 rfl), eqO_ok (all_at b 3 rfl), of_decide_eq_true (all_at b 4 rfl), all_at b 5 rfl, of_decide_eq_true (all_at b 6 rfl), of_decide_eq_true (all_at b 8 rfl),
    of_decide_eq_true (all_at b 10 rfl), eqO_ok (all_at b 11 rfl), eqO_ok (all_at b 12 rfl), ?_⟩
  unfold supW supV at e
  unfold supFn at rest
  cases look : K.lookup (ma K C "__init__") with
  | none => rw [look] at e; cases e
  | some o =>
    obtain ⟨oc, od, dat, osl⟩ := o
    rw [look] at e rest
    cases dat with
    | func fd =>
      obtain ⟨nm, qual, par, body, sc, glb, clo, dfl, kwd, doc, pm, an, code, ct, blt⟩ := fd
      have said : (nm, qual, par, body, sc, glb, blt) = (PySem.Str.ofString "__init__", qn, defArgs st, FuncBody.stmts (defBody st), defScope st, mainGlobals, builtinsNs) := Option.some.inj e
      clear e
      cases said
      obtain ⟨noD, rest⟩ := ba rest
      obtain ⟨noK, rest⟩ := ba rest
      obtain ⟨code_ok, rest⟩ := ba rest
      obtain ⟨cell_ok, file_ok⟩ := ba rest
      obtain rfl : dfl = .none := of_decide_eq_true noD
      obtain rfl : kwd = .none := of_decide_eq_true noK
      obtain ⟨p1, p2, ea⟩ := t.ar
      obtain ⟨a1, a2, a3, a4, a5, a6, q1, q2, q3, q4, eb, hev⟩ := t.bd
      have es := t.sc
      split at cell_ok
      · rename_i x cc ecl
        obtain ⟨isCls, cell_ok⟩ := ba cell_ok
        obtain rfl : x = "__class__" := of_decide_eq_true isCls
        dsimp only at ecl
        subst ecl
        split at cell_ok
        · rename_i u1 u2 D u3 lcc
          obtain rfl : D = C := by simpa using cell_ok
          split at file_ok
          · rename_i cda ecd
            dsimp only at ecd
            subst ecd
            split at file_ok
            · rename_i w1 w2 vs w3 lcd
              split at file_ok
              · rename_i file tf hvs
                exact ⟨oc, od, doc, pm, an, cda, ct, osl, p1, p2, a1, a2, a3, a4, a5, a6, q1, q2, q3, q4, cc, _, _, _, _, _, vs, _, file, tf, (by rw [ea, eb, es]), code_ok, lcc, lcd, hvs, file_ok, fun L => hev _ L _ cc _⟩
              · cases file_ok
            · cases file_ok
          · cases file_ok
        · cases cell_ok
      · cases cell_ok
    | _ => cases e
theorem xc_of {P : Program} {G : Gm} {c : Nat} {f qn : Str} {st : Stmt} {C : Addr} (fl : G.fl c = [f]) (hc : G.mg (G.cn c) = some (.ref C)) (e : supW G.K (ma G.K C "__init__") = supV qn st) {xb : SupX.XB} (ok : xb.Ok) (b : (supL xb P G.K C qn f).all id = true) (t : SupT f st) (y : SupX.FOk P f) : XcOk P G c f := ⟨fl, ⟨qn, C, _, hc, txt_of e ok b t⟩, y⟩
/-- reading a field -/
def xgL (K : PySem.W.Frag) (C : Addr) (f : Str) : List Bool := [eqO (PySem.W.findIn K (.ref C) "__getattribute__") (some (some (.builtin "BaseException.__getattribute__"))), eqO (PySem.W.findIn K (.ref C) "__getattr__") (some none), decide (PySem.W.subIn K (.ref C) (.type "BaseException") = some true), PySem.W.hasDictIn K C, eqO (PySem.W.findIn K (.ref C) f) (some none)]
theorem xg_of {G : Gm} {c : Nat} {f : Str} {C : Addr} (fl : G.fl c = [f]) (hc : ∀ cA, G.mg (G.cn c) = some (.ref cA) → cA = C) (b : (xgL G.K C f).all id = true) : XgOk G c f := ⟨fl, fun cA h => by
  have := hc cA h
  subst this
  exact ⟨eqO_ok (all_at b 0 rfl), eqO_ok (all_at b 1 rfl), of_decide_eq_true (all_at b 2 rfl), all_at b 3 rfl, eqO_ok (all_at b 4 rfl)⟩⟩
/-- a clause -/
def xmB (K : PySem.W.Frag) (cn : Nat → Str) (x : Str) (rows : List (Nat × Bool)) : Bool := rows.all fun p => decide (PySem.W.exmOne K (.ref (ga K (cn p.1))) (.ref (ga K x)) = some p.2)
def xmF (rows : List (Nat × Bool)) (c : Nat) : Option Bool := rows.lookup c
theorem mem_lk {α β : Type} [BEq α] [LawfulBEq α] : ∀ {l : List (α × β)} {a : α} {b : β}, l.lookup a = some b → (a, b) ∈ l
  | [], _, _, h => by cases h
  | (x, y) :: r, a, b, h => by
    rw [List.lookup_cons] at h
    cases e : a == x with
    | true => rw [e] at h; cases h; rw [eq_of_beq e]; exact List.mem_cons_self
    | false => rw [e] at h; exact List.mem_cons_of_mem _ (mem_lk h)
theorem xm_of {K : PySem.W.Frag} {G : Gm} {x : Str} {rows : List (Nat × Bool)} (hc : ∀ c cA, G.mg (G.cn c) = some (.ref cA) → cA = ga K (G.cn c)) (b : xmB K G.cn x rows = true) : XmOk K G (.ref (ga K x)) (xmF rows) := ⟨fun c cA z h e => by
  have := hc c cA h
  subst this
  exact of_decide_eq_true (List.all_eq_true.mp b (c, z) (mem_lk e))⟩
/-! ### tables of code -/
def tabW (K : PySem.W.Frag) (x : Str) : Addr × Addr := (PySem.W.tabIn K x).getD (0, 0)
def tabC (K : PySem.W.Frag) (x : Str) : Bool := decide (PySem.W.tabIn K x = some (tabW K x)) && (decide (K.lookup (tabW K x).2 = none) && decide (cdOf K (ga K x) = .ref (tabW K x).1))
end Ep
namespace Ep
open PySem PySem.Spec L2 PyProof.Rows He
/-! ### words for the generator -/
def qWhile (n : Env → RS → Nat) (p : Env → M Bool) (g : Sm) : Sm := fun env r => whileF p g (n env r) env r
/-- how often a while may turn: the integer of a slot, and one more -/
def fuI (i : Nat) : Env → RS → Nat := fun env _ => match env[i]? with
  | some (.val (.int k)) => k.natAbs + 1
  | _ => 0
/-- the same for a tuple that begins with the integer -/
def fuT (i : Nat) : Env → RS → Nat := fun env _ => match env[i]? with
  | some (.val (.tup (.int k :: _))) => k.natAbs + 1
  | _ => 0
theorem Bd.tr {X : Cx} {G : Gm} {W W' : WX} {j : Nat} {pn : List (Addr × Obj)} {xe : Value → Shared → Prop} (B : Bd X G W j) (tk : Takes (X.tr pn xe) W') : Bd (X.tr pn xe) G W' j := ⟨B.eK, B.eM, tk, B.rm, B.nd, B.calm⟩
theorem bd_lam {X : Cx} {G : Gm} {A : Around} {outer : List PySem.Env} {s : Shared} {H : Hp} {E : XK} {scope : Scope} {f c : Addr} {j : Nat} (nd : X.N.Nodup) (eK : X.K = G.K) (eM : X.mg = G.mg) (hr : Room j (A.deeper (LamX.lamEnv X scope s.heap.objs.size f c))) : Bd (LamX.lamCx X A outer s H E scope f c) G (WD E) j :=
  ⟨eK, eM, takes_of rfl rfl rfl rfl, hr, nd, rfl⟩
theorem tb_un {tb : List (Addr × Str)} {P : Addr} {q : Str} (nd : (tb.map (·.1)).Nodup) (hm : (P, q) ∈ tb) : ∀ p ∈ tb, p.1 = P → p.2 = q := by
  induction tb with
  | nil => cases hm
  | cons x r ih =>
    intro p hp e
    rw [List.map_cons, List.nodup_cons] at nd
    have aux : ∀ (a b : Addr × Str), a ∈ r → b.1 = a.1 → x = b → False := fun a b ha e1 e2 => nd.1 (by rw [e2, e1]; exact List.mem_map_of_mem ha)
    rcases List.mem_cons.mp hm with h1 | h1
    · rcases List.mem_cons.mp hp with h2 | h2
      · rw [h2, ← h1]
      · exact (aux p x h2 (by rw [← h1, e]) rfl).elim
    · rcases List.mem_cons.mp hp with h2 | h2
      · exact (aux _ x h1 (by rw [← h2, e]) rfl).elim
      · exact ih nd.2 h1 p h2 e
theorem he_never {X : Cx} {G : Gm} {a : Addr} {cls : Value} {d : Option Addr} {i : Nat} {e : Expr} : PE X e (tHE G a cls d i fun _ _ _ => M.bad) := ⟨fun _ _ _ _ _ _ ⟨_, _, _, _, _, _, _, _, _, _, h⟩ => h.elim⟩
theorem hs_never {X : Cx} {G : Gm} {a : Addr} {cls : Value} {d : Option Addr} {i : Nat} {st : List Stmt} : PSs X st (tHS G a cls d i fun _ _ _ _ => .bad) := ⟨fun _ _ _ _ _ _ ⟨_, _, _, _, _, _, _, _, _, _, h⟩ => h.elim⟩
def hdsOf : List Stmt → List ExceptHandler
  | .Try _ h _ _ _ :: _ => h
  | _ => []
def restOf : List Stmt → List Stmt
  | _ :: r => r
  | [] => []
theorem px_of {G : Gm} {C : Nat} {c : Addr} (hc : ∀ cA, G.mg (G.cn C) = some (.ref cA) → cA = c) (h1 : PySem.W.notFirst G.K c (.type "str") = true) (h2 : PySem.W.notFirst G.K c (.type "int") = true) (h3 : PySem.W.notFirst G.K c (.type "bool") = true) (h4 : PySem.W.notFirst G.K c (.type "NoneType") = true) : PxOk G C := ⟨fun cA h => by
  have := hc cA h
  subst this
  exact ⟨h1, h2, h3, h4⟩⟩
theorem tab_ok {K : PySem.W.Frag} {x : Str} (h : tabC K x = true) : PySem.W.tabIn K x = some (tabW K x) ∧ K.lookup (tabW K x).2 = none ∧ cdOf K (ga K x) = .ref (tabW K x).1 := by
  obtain ⟨h1, h2⟩ := ba h
  obtain ⟨h3, h4⟩ := ba h2
  exact ⟨of_decide_eq_true h1, of_decide_eq_true h3, of_decide_eq_true h4⟩
/-- s_lam, the def's name by itself -/
theorem s_lamQ {X : Cx} {G : Gm} {W : WX} {Ng : List Str} {x a : Str} {stg : Stmt} {g c P : Addr} {fdg : FuncData} {n k : Nat} {h₀ : ExceptHandler} {hds : List ExceptHandler} {hs : List HdS} {restB : List Stmt} {rest : Sm} {p1 p2 p3 p4 : Pos} {params : Arguments} {body : Expr} {scope : Scope} {f : Env → M T} {p lpos pos : Pos} (qn : Str)
    (hK : X.K = G.K) (hM : X.mg = G.mg) (hg : Gl X x) (hm : G.mg x = some (.ref g)) (F : FunD G.K x x (defArgs stg) (defBody stg) (defScope stg) [] [] g fdg) (hb : L2.Binds G.K fdg [a] []) (Sg : FnScope Ng [a] (defScope stg)) (hNg : Ng[0]? = some a) (hva : Vis (defScope stg) a)
    (eb : defBody stg = .Try [.Expr (.Call (.Name a p1) [] [] p2) p3] (h₀ :: hds) [] [] p4 :: restB) (hn : Ng.length = n) (h1 : 1 ≤ n)
    (hh : ∀ (cdg : Value) (s : Shared) (H : Hp), HG (cxOf C8.CX0 X.prog X.w X.K X.mg X.base Ng x (defScope stg) g cdg X.A X.stack s H C8.E0).nox G W0 (hdsOf (defBody stg)) hs)
    (hr : ∀ (cdg : Value) (s : Shared) (H : Hp), SSs (cxOf C8.CX0 X.prog X.w X.K X.mg X.base Ng x (defScope stg) g cdg X.A X.stack s H C8.E0).nox G W0 (restOf (defBody stg)) rest)
    (TB : LamX.TabB X.base X.mg c P) (hcode : X.env.code = .ref c) (hqn : X.env.qual = qn) (hmT : (P, qn ++ "<lambda>") ∈ G.tb) (hu : (G.tb.map (·.1)).Nodup) (rm : Room (k + 2) X.A) (L : LamX.lamSB X.env.scope scope = true) (tk : Takes X W)
    (hbody : ∀ (A : Around) (outer : List PySem.Env) (s : Shared) (H : Hp) (E : XK) (f' c' : Addr), Room k (A.deeper (LamX.lamEnv X scope s.heap.objs.size f' c')) → SE (LamX.lamCx X A outer s H E scope f' c') G (WD E) body f)
    (hdef : defaultsOf params X.env = ([], []) := by rfl) (hbind : ∀ (q : Str) (cl : List (Str × Addr)) (pm cv ctv : Value), bindArgs (PySem.W.kla_fn "<lambda>" q params body scope cl pm cv ctv) ⟨[], []⟩ = pure [] := by intros; rfl)
    (hdb : (x == ("__debug__" : Str)) = false := by decide) (hd : (a == ("__debug__" : Str)) = false := by decide) (hcd : (a == ("__classdict__" : Str)) = false := by decide) :
    SE X G W (.Call (.Name x p) [.Lambda params body scope lpos] [] pos) (fun env => heardS n hs rest (f env)) := by
  subst hqn
  rw [eb] at hh hr
  exact s_lam hK hM hg hm F hb Sg hNg hva eb hn h1 hh hr TB hcode hmT (tb_un hu hmT) rm (LamX.lamS_by L) tk hbody hdef hbind hdb hd hcd
end Ep
namespace K09
open PySem PySem.Spec L2 He Ep
/-! ### the text by places -/
def top (i : Nat) : Stmt := PySem.Challenge.pw_endlessplane_k09_whole_lattices_put_toge.main.body.getD i (.Pass ⟨0, 0, 0, 0⟩)
def cn : Nat → Str
  | 0 => "BadPart"
  | 1 => "BadNumber"
  | 2 => "BadIndex"
  | 3 => "NotSo"
  | 4 => "TooMany"
  | 5 => "Lattice"
  | _ => "BadPart"
def fl : Nat → List Str
  | 0 => ["part"]
  | 1 => ["number"]
  | 2 => ["index"]
  | 3 => ["word"]
  | 4 => ["limit"]
  | 5 => ["a", "b", "d"]
  | _ => []
abbrev PW : Program := PySem.Challenge.pw_endlessplane_k09_whole_lattices_put_toge
def tb (K : PySem.W.Frag) : List (Addr × Str) := [((tabW K "law").2, (("law" : Str) ++ ".<locals>.") ++ ("<lambda>" : Str)), ((tabW K "_law_spanned_right").2, (("_law_spanned_right" : Str) ++ ".<locals>.") ++ ("<lambda>" : Str))]
abbrev GG (K : PySem.W.Frag) (mg : Str → Option Value) : Gm := ⟨K, mg, cn, fl, tb K⟩
theorem tb_mem_law (K : PySem.W.Frag) : ((tabW K "law").2, (("law" : Str) ++ ".<locals>.") ++ ("<lambda>" : Str)) ∈ tb K := by simp [tb]
theorem tb_mem__law_spanned_right (K : PySem.W.Frag) : ((tabW K "_law_spanned_right").2, (("_law_spanned_right" : Str) ++ ".<locals>.") ++ ("<lambda>" : Str)) ∈ tb K := by simp [tb]
abbrev s__law_refused : Stmt := (top 40)
abbrev s_BadNumber_init : Stmt := inClass (top 7) 0
theorem supt_BadNumber : SupT "number" s_BadNumber_init := ⟨⟨_, _, rfl⟩, rfl, ⟨_, _, _, _, _, _, _, _, _, _, rfl, fun _ _ _ _ _ => ⟨_, rfl⟩⟩⟩
theorem fok_BadNumber : SupX.FOk PW "number" := ⟨by kernel_rfl, by decide, by decide, by decide, rfl, rfl, rfl, rfl, by decide, by intros; rfl⟩
abbrev s_BadPart_init : Stmt := inClass (top 6) 0
theorem supt_BadPart : SupT "part" s_BadPart_init := ⟨⟨_, _, rfl⟩, rfl, ⟨_, _, _, _, _, _, _, _, _, _, rfl, fun _ _ _ _ _ => ⟨_, rfl⟩⟩⟩
theorem fok_BadPart : SupX.FOk PW "part" := ⟨by kernel_rfl, by decide, by decide, by decide, rfl, rfl, rfl, rfl, by decide, by intros; rfl⟩
abbrev s_NotSo_init : Stmt := inClass (top 9) 0
theorem supt_NotSo : SupT "word" s_NotSo_init := ⟨⟨_, _, rfl⟩, rfl, ⟨_, _, _, _, _, _, _, _, _, _, rfl, fun _ _ _ _ _ => ⟨_, rfl⟩⟩⟩
theorem fok_NotSo : SupX.FOk PW "word" := ⟨by kernel_rfl, by decide, by decide, by decide, rfl, rfl, rfl, rfl, by decide, by intros; rfl⟩
def xf_part (c : Nat) : Bool := c == 0
def xf_word (c : Nat) : Bool := c == 3
def xr_BadIndex : List (Nat × Bool) := [(0, false), (1, false), (2, true), (3, false), (4, false)]
def xr_BadNumber : List (Nat × Bool) := [(0, false), (1, true), (2, false), (3, false), (4, false)]
def xr_BadPart : List (Nat × Bool) := [(0, true), (1, false), (2, false), (3, false), (4, false)]
def xr_NotSo : List (Nat × Bool) := [(0, false), (1, false), (2, false), (3, true), (4, false)]
def xr_TooMany : List (Nat × Bool) := [(0, false), (1, false), (2, false), (3, false), (4, true)]
def m_a : Nat → Option Nat
  | 5 => some 0
  | _ => none
def m_b : Nat → Option Nat
  | 5 => some 1
  | _ => none
def m_d : Nat → Option Nat
  | 5 => some 2
  | _ => none
def tabR : List (Kd × Cl × Bool) := [(.b "int", .ty "int", true), (.b "int", .ty "bool", false), (.b "bool", .ty "int", true), (.b "bool", .ty "bool", true), (.b "NoneType", .ty "int", false), (.b "str", .ty "int", false), (.b "tuple", .ty "int", false), (.b "tuple", .ty "tuple", true), (.b "NoneType", .ty "tuple", false), (.b "list", .ty "tuple", false), (.b "str", .ty "tuple", false), (.b "int", .ty "tuple", false), (.o 5, .cl 5, true), (.b "str", .cl 5, false), (.b "NoneType", .cl 5, false), (.b "tuple", .cl 5, false), (.b "int", .cl 5, false)]
def tab : Kd → Cl → Option Bool := tabF tabR
abbrev s__law_draw : Stmt := (top 35)
abbrev s__law_opened : Stmt := (top 34)
abbrev s__law_pick : Stmt := (top 36)
abbrev s__law_is_sum : Stmt := (top 41)
abbrev s_is_integer : Stmt := (top 2)
abbrev s_is_shift : Stmt := (top 22)
abbrev s_check_shift : Stmt := (top 23)
abbrev s_divisor_sum : Stmt := (top 28)
abbrev s_check_integer : Stmt := (top 12)
abbrev s_greatest_divisor : Stmt := (top 15)
abbrev s_is_between : Stmt := (top 3)
abbrev s_check_basis : Stmt := (top 25)
abbrev s_Lattice_init : Stmt := (inClass (top 26) 0)
abbrev s_spanned : Stmt := (top 29)
abbrev s_check_cell : Stmt := (top 24)
abbrev s_Lattice_place : Stmt := (inClass (top 26) 5)
abbrev s_Lattice_contains : Stmt := (inClass (top 26) 2)
abbrev s_Lattice_eq : Stmt := (inClass (top 26) 1)
abbrev s_Lattice_area : Stmt := (inClass (top 26) 4)
abbrev s__law_spanned_right : Stmt := (top 42)
abbrev s__law_three : Stmt := (top 37)
abbrev s__law_place : Stmt := (top 38)
abbrev s__law_holds : Stmt := (top 39)
abbrev s_is_remainder : Stmt := (top 19)
abbrev s_check_remainder : Stmt := (top 13)
abbrev s_inverse : Stmt := (top 17)
abbrev s_remainder_of : Stmt := (top 18)
abbrev s_both_remainders : Stmt := (top 20)
abbrev s_check_lattice : Stmt := (top 27)
abbrev s_least_multiple : Stmt := (top 16)
abbrev s_common_lattice : Stmt := (top 30)
abbrev s_with_shift : Stmt := (top 31)
abbrev s_joined_lattice : Stmt := (top 32)
abbrev s_Lattice_le : Stmt := (inClass (top 26) 3)
abbrev s__law_two_right : Stmt := (top 43)
abbrev s_law : Stmt := (top 44)
/-! ### what the head has told -/
structure Tx (base : Heap) (wd : World) (K : PySem.W.Frag) (mg : Str → Option Value) : Prop where
  m_abs : mg "abs" = none
  m_all : mg "all" = none
  m_bool : mg "bool" = none
  m_int : mg "int" = none
  m_isinstance : mg "isinstance" = none
  m_len : mg "len" = none
  m_max : mg "max" = none
  m_min : mg "min" = none
  m_range : mg "range" = none
  m_tuple : mg "tuple" = none
  m_zip : mg "zip" = none
  c_BadIndex : mg "BadIndex" = some (.ref (ga K "BadIndex"))
  c_BadNumber : mg "BadNumber" = some (.ref (ga K "BadNumber"))
  c_BadPart : mg "BadPart" = some (.ref (ga K "BadPart"))
  c_Lattice : mg "Lattice" = some (.ref (ga K "Lattice"))
  c_NotSo : mg "NotSo" = some (.ref (ga K "NotSo"))
  c_TooMany : mg "TooMany" = some (.ref (ga K "TooMany"))
  hc : ∀ C cA, mg (cn C) = some (.ref cA) → cA = ga K (cn C)
  tab : TabOk (GG K mg) tab
  f_a : ∀ C j, m_a C = some j → FldOk (GG K mg) "a" C j
  f_b : ∀ C j, m_b C = some j → FldOk (GG K mg) "b" C j
  f_d : ∀ C j, m_d C = some j → FldOk (GG K mg) "d" C j
  n_Lattice_a : NthFld (GG K mg) 5 0 "a"
  n_Lattice_b : NthFld (GG K mg) 5 1 "b"
  n_Lattice_d : NthFld (GG K mg) 5 2 "d"
  k_Lattice : Cls K (ga K "Lattice")
  mk_Lattice : Mk K (ga K "Lattice") (ma K (ga K "Lattice") "__init__")
  ne_Lattice : NeOk (GG K mg) 5
  sf_Lattice : ∀ cA, mg (cn 5) = some (.ref cA) → PySem.W.selfFirst K cA = true
  x_BadNumber : XcOk PW (GG K mg) 1 "number"
  x_BadPart : XcOk PW (GG K mg) 0 "part"
  x_NotSo : XcOk PW (GG K mg) 3 "word"
  xm_BadIndex : XmOk K (GG K mg) (.ref (ga K "BadIndex")) (xmF xr_BadIndex)
  xm_BadNumber : XmOk K (GG K mg) (.ref (ga K "BadNumber")) (xmF xr_BadNumber)
  xm_BadPart : XmOk K (GG K mg) (.ref (ga K "BadPart")) (xmF xr_BadPart)
  xm_NotSo : XmOk K (GG K mg) (.ref (ga K "NotSo")) (xmF xr_NotSo)
  xm_TooMany : XmOk K (GG K mg) (.ref (ga K "TooMany")) (xmF xr_TooMany)
  xg_part : ∀ c, xf_part c = true → XgOk (GG K mg) c "part"
  xg_word : ∀ c, xf_word c = true → XgOk (GG K mg) c "word"
  tb_law : LamX.TabB base mg (tabW K "law").1 (tabW K "law").2
  cd_law : cdOf K (ga K "law") = .ref (tabW K "law").1
  tb__law_spanned_right : LamX.TabB base mg (tabW K "_law_spanned_right").1 (tabW K "_law_spanned_right").2
  cd__law_spanned_right : cdOf K (ga K "_law_spanned_right") = .ref (tabW K "_law_spanned_right").1
  tb_nd : ((tb K).map (·.1)).Nodup
  c__law_refused : mg "_law_refused" = some (.ref (ga K "_law_refused"))
  D__law_refused : ∃ fd, FunD K "_law_refused" "_law_refused" (defArgs s__law_refused) (defBody s__law_refused) (defScope s__law_refused) [] [] (fAd K ("_law_refused", none)) fd
  c__law_draw : mg "_law_draw" = some (.ref (ga K "_law_draw"))
  D__law_draw : ∃ fd, FunD K "_law_draw" "_law_draw" (defArgs s__law_draw) (defBody s__law_draw) (defScope s__law_draw) ([].map (Dv.v K)) [] (fAd K ("_law_draw", none)) fd
  c__law_opened : mg "_law_opened" = some (.ref (ga K "_law_opened"))
  D__law_opened : ∃ fd, FunD K "_law_opened" "_law_opened" (defArgs s__law_opened) (defBody s__law_opened) (defScope s__law_opened) ([].map (Dv.v K)) [] (fAd K ("_law_opened", none)) fd
  c__law_pick : mg "_law_pick" = some (.ref (ga K "_law_pick"))
  D__law_pick : ∃ fd, FunD K "_law_pick" "_law_pick" (defArgs s__law_pick) (defBody s__law_pick) (defScope s__law_pick) ([].map (Dv.v K)) [] (fAd K ("_law_pick", none)) fd
  c__law_is_sum : mg "_law_is_sum" = some (.ref (ga K "_law_is_sum"))
  D__law_is_sum : ∃ fd, FunD K "_law_is_sum" "_law_is_sum" (defArgs s__law_is_sum) (defBody s__law_is_sum) (defScope s__law_is_sum) ([].map (Dv.v K)) [] (fAd K ("_law_is_sum", none)) fd
  c_is_integer : mg "is_integer" = some (.ref (ga K "is_integer"))
  D_is_integer : ∃ fd, FunD K "is_integer" "is_integer" (defArgs s_is_integer) (defBody s_is_integer) (defScope s_is_integer) ([].map (Dv.v K)) [] (fAd K ("is_integer", none)) fd
  c_is_shift : mg "is_shift" = some (.ref (ga K "is_shift"))
  D_is_shift : ∃ fd, FunD K "is_shift" "is_shift" (defArgs s_is_shift) (defBody s_is_shift) (defScope s_is_shift) ([].map (Dv.v K)) [] (fAd K ("is_shift", none)) fd
  c_check_shift : mg "check_shift" = some (.ref (ga K "check_shift"))
  D_check_shift : ∃ fd, FunD K "check_shift" "check_shift" (defArgs s_check_shift) (defBody s_check_shift) (defScope s_check_shift) ([].map (Dv.v K)) [] (fAd K ("check_shift", none)) fd
  c_divisor_sum : mg "divisor_sum" = some (.ref (ga K "divisor_sum"))
  D_divisor_sum : ∃ fd, FunD K "divisor_sum" "divisor_sum" (defArgs s_divisor_sum) (defBody s_divisor_sum) (defScope s_divisor_sum) ([].map (Dv.v K)) [] (fAd K ("divisor_sum", none)) fd
  c_check_integer : mg "check_integer" = some (.ref (ga K "check_integer"))
  D_check_integer : ∃ fd, FunD K "check_integer" "check_integer" (defArgs s_check_integer) (defBody s_check_integer) (defScope s_check_integer) ([].map (Dv.v K)) [] (fAd K ("check_integer", none)) fd
  c_greatest_divisor : mg "greatest_divisor" = some (.ref (ga K "greatest_divisor"))
  D_greatest_divisor : ∃ fd, FunD K "greatest_divisor" "greatest_divisor" (defArgs s_greatest_divisor) (defBody s_greatest_divisor) (defScope s_greatest_divisor) ([].map (Dv.v K)) [] (fAd K ("greatest_divisor", none)) fd
  c_is_between : mg "is_between" = some (.ref (ga K "is_between"))
  D_is_between : ∃ fd, FunD K "is_between" "is_between" (defArgs s_is_between) (defBody s_is_between) (defScope s_is_between) ([].map (Dv.v K)) [] (fAd K ("is_between", none)) fd
  c_check_basis : mg "check_basis" = some (.ref (ga K "check_basis"))
  D_check_basis : ∃ fd, FunD K "check_basis" "check_basis" (defArgs s_check_basis) (defBody s_check_basis) (defScope s_check_basis) ([].map (Dv.v K)) [] (fAd K ("check_basis", none)) fd
  D_Lattice_init : ∃ fd, FunD K "__init__" "Lattice.__init__" (defArgs s_Lattice_init) (defBody s_Lattice_init) (defScope s_Lattice_init) ([].map (Dv.v K)) [] (fAd K ("Lattice", some "__init__")) fd
  c_spanned : mg "spanned" = some (.ref (ga K "spanned"))
  D_spanned : ∃ fd, FunD K "spanned" "spanned" (defArgs s_spanned) (defBody s_spanned) (defScope s_spanned) ([].map (Dv.v K)) [] (fAd K ("spanned", none)) fd
  c_check_cell : mg "check_cell" = some (.ref (ga K "check_cell"))
  D_check_cell : ∃ fd, FunD K "check_cell" "check_cell" (defArgs s_check_cell) (defBody s_check_cell) (defScope s_check_cell) ([].map (Dv.v K)) [] (fAd K ("check_cell", none)) fd
  h_Lattice_place : Meth K (ga K "Lattice") "place" (ma K (ga K "Lattice") "place")
  D_Lattice_place : ∃ fd, FunD K "place" "Lattice.place" (defArgs s_Lattice_place) (defBody s_Lattice_place) (defScope s_Lattice_place) ([].map (Dv.v K)) [] (fAd K ("Lattice", some "place")) fd
  h_Lattice_contains : Meth K (ga K "Lattice") "__contains__" (ma K (ga K "Lattice") "__contains__")
  D_Lattice_contains : ∃ fd, FunD K "__contains__" "Lattice.__contains__" (defArgs s_Lattice_contains) (defBody s_Lattice_contains) (defScope s_Lattice_contains) ([].map (Dv.v K)) [] (fAd K ("Lattice", some "__contains__")) fd
  h_Lattice_eq : Meth K (ga K "Lattice") "__eq__" (ma K (ga K "Lattice") "__eq__")
  D_Lattice_eq : ∃ fd, FunD K "__eq__" "Lattice.__eq__" (defArgs s_Lattice_eq) (defBody s_Lattice_eq) (defScope s_Lattice_eq) ([].map (Dv.v K)) [] (fAd K ("Lattice", some "__eq__")) fd
  h_Lattice_area : Meth K (ga K "Lattice") "area" (ma K (ga K "Lattice") "area")
  D_Lattice_area : ∃ fd, FunD K "area" "Lattice.area" (defArgs s_Lattice_area) (defBody s_Lattice_area) (defScope s_Lattice_area) ([].map (Dv.v K)) [] (fAd K ("Lattice", some "area")) fd
  c__law_spanned_right : mg "_law_spanned_right" = some (.ref (ga K "_law_spanned_right"))
  D__law_spanned_right : ∃ fd, FunD K "_law_spanned_right" "_law_spanned_right" (defArgs s__law_spanned_right) (defBody s__law_spanned_right) (defScope s__law_spanned_right) ([].map (Dv.v K)) [] (fAd K ("_law_spanned_right", none)) fd
  c__law_three : mg "_law_three" = some (.ref (ga K "_law_three"))
  D__law_three : ∃ fd, FunD K "_law_three" "_law_three" (defArgs s__law_three) (defBody s__law_three) (defScope s__law_three) ([].map (Dv.v K)) [] (fAd K ("_law_three", none)) fd
  c__law_place : mg "_law_place" = some (.ref (ga K "_law_place"))
  D__law_place : ∃ fd, FunD K "_law_place" "_law_place" (defArgs s__law_place) (defBody s__law_place) (defScope s__law_place) ([].map (Dv.v K)) [] (fAd K ("_law_place", none)) fd
  c__law_holds : mg "_law_holds" = some (.ref (ga K "_law_holds"))
  D__law_holds : ∃ fd, FunD K "_law_holds" "_law_holds" (defArgs s__law_holds) (defBody s__law_holds) (defScope s__law_holds) ([].map (Dv.v K)) [] (fAd K ("_law_holds", none)) fd
  c_is_remainder : mg "is_remainder" = some (.ref (ga K "is_remainder"))
  D_is_remainder : ∃ fd, FunD K "is_remainder" "is_remainder" (defArgs s_is_remainder) (defBody s_is_remainder) (defScope s_is_remainder) ([].map (Dv.v K)) [] (fAd K ("is_remainder", none)) fd
  c_check_remainder : mg "check_remainder" = some (.ref (ga K "check_remainder"))
  D_check_remainder : ∃ fd, FunD K "check_remainder" "check_remainder" (defArgs s_check_remainder) (defBody s_check_remainder) (defScope s_check_remainder) ([].map (Dv.v K)) [] (fAd K ("check_remainder", none)) fd
  c_inverse : mg "inverse" = some (.ref (ga K "inverse"))
  D_inverse : ∃ fd, FunD K "inverse" "inverse" (defArgs s_inverse) (defBody s_inverse) (defScope s_inverse) ([].map (Dv.v K)) [] (fAd K ("inverse", none)) fd
  c_remainder_of : mg "remainder_of" = some (.ref (ga K "remainder_of"))
  D_remainder_of : ∃ fd, FunD K "remainder_of" "remainder_of" (defArgs s_remainder_of) (defBody s_remainder_of) (defScope s_remainder_of) ([].map (Dv.v K)) [] (fAd K ("remainder_of", none)) fd
  c_both_remainders : mg "both_remainders" = some (.ref (ga K "both_remainders"))
  D_both_remainders : ∃ fd, FunD K "both_remainders" "both_remainders" (defArgs s_both_remainders) (defBody s_both_remainders) (defScope s_both_remainders) ([].map (Dv.v K)) [] (fAd K ("both_remainders", none)) fd
  c_check_lattice : mg "check_lattice" = some (.ref (ga K "check_lattice"))
  D_check_lattice : ∃ fd, FunD K "check_lattice" "check_lattice" (defArgs s_check_lattice) (defBody s_check_lattice) (defScope s_check_lattice) ([].map (Dv.v K)) [] (fAd K ("check_lattice", none)) fd
  c_least_multiple : mg "least_multiple" = some (.ref (ga K "least_multiple"))
  D_least_multiple : ∃ fd, FunD K "least_multiple" "least_multiple" (defArgs s_least_multiple) (defBody s_least_multiple) (defScope s_least_multiple) ([].map (Dv.v K)) [] (fAd K ("least_multiple", none)) fd
  c_common_lattice : mg "common_lattice" = some (.ref (ga K "common_lattice"))
  D_common_lattice : ∃ fd, FunD K "common_lattice" "common_lattice" (defArgs s_common_lattice) (defBody s_common_lattice) (defScope s_common_lattice) ([].map (Dv.v K)) [] (fAd K ("common_lattice", none)) fd
  c_with_shift : mg "with_shift" = some (.ref (ga K "with_shift"))
  D_with_shift : ∃ fd, FunD K "with_shift" "with_shift" (defArgs s_with_shift) (defBody s_with_shift) (defScope s_with_shift) ([].map (Dv.v K)) [] (fAd K ("with_shift", none)) fd
  c_joined_lattice : mg "joined_lattice" = some (.ref (ga K "joined_lattice"))
  D_joined_lattice : ∃ fd, FunD K "joined_lattice" "joined_lattice" (defArgs s_joined_lattice) (defBody s_joined_lattice) (defScope s_joined_lattice) ([].map (Dv.v K)) [] (fAd K ("joined_lattice", none)) fd
  h_Lattice_le : Meth K (ga K "Lattice") "__le__" (ma K (ga K "Lattice") "__le__")
  D_Lattice_le : ∃ fd, FunD K "__le__" "Lattice.__le__" (defArgs s_Lattice_le) (defBody s_Lattice_le) (defScope s_Lattice_le) ([].map (Dv.v K)) [] (fAd K ("Lattice", some "__le__")) fd
  c__law_two_right : mg "_law_two_right" = some (.ref (ga K "_law_two_right"))
  D__law_two_right : ∃ fd, FunD K "_law_two_right" "_law_two_right" (defArgs s__law_two_right) (defBody s__law_two_right) (defScope s__law_two_right) ([].map (Dv.v K)) [] (fAd K ("_law_two_right", none)) fd
  c_law : mg "law" = some (.ref (ga K "law"))
  D_law : ∃ fd, FunD K "law" "law" (defArgs s_law) (defBody s_law) (defScope s_law) ([].map (Dv.v K)) [] (fAd K ("law", none)) fd
section
variable {wd : World} {base : Heap} {K : PySem.W.Frag} {mg : Str → Option Value}
theorem sc__law_refused : FnScope ["_law_call", "e"] ["_law_call"] (defScope s__law_refused) := ⟨rfl, rfl, rfl, by decide +kernel, rfl, by decide +kernel, by decide +kernel⟩
def hs__law_refused : List HdS := [(xmF xr_BadPart, 1, (hRet (fun c p => fLst (List.map (fun f : HM T => f c p) [(fun _ _ => (fC (.str "part"))), (hFld xf_part)])))), (xmF xr_BadNumber, 1, (fun _ _ _ _ => .bad)), (xmF xr_BadIndex, 1, (fun _ _ _ _ => .bad)), (xmF xr_NotSo, 1, (hRet (fun c p => fLst (List.map (fun f : HM T => f c p) [(fun _ _ => (fC (.str "so"))), (hFld xf_word)])))), (xmF xr_TooMany, 1, (fun _ _ _ _ => .bad))]
def rest__law_refused : Sm := (qSeq (qRet (fLst [(fC (.str "none"))]))
    qNil)
theorem hg__law_refused (T : Tx base wd K mg) {g : Addr} {cdg : Value} {A : Around} {outer : List PySem.Env} {s : Shared} {H : Hp} : HG (cxOf C8.CX0 PW wd K mg base ["_law_call", "e"] "_law_refused" (defScope s__law_refused) g cdg A outer s H C8.E0).nox (GG K mg) W0 (hdsOf (defBody s__law_refused)) hs__law_refused :=
  (hg_cons ⟨rfl, by decide, .inl T.c_BadPart⟩ rfl rfl T.xm_BadPart (fun _ _ _ _ _ hz hf => (hs_ret (he_lst (fs := [(fun _ _ => (fC (.str "part"))), (hFld xf_part)]) (ha_cons (he_of s_str) (ha_cons (he_fld rfl hz hf xf_part T.xg_part rfl (Or.inl rfl)) ha_nil)))))
    (hg_cons ⟨rfl, by decide, .inl T.c_BadNumber⟩ rfl rfl T.xm_BadNumber (fun _ _ _ _ _ hz hf => hs_never)
    (hg_cons ⟨rfl, by decide, .inl T.c_BadIndex⟩ rfl rfl T.xm_BadIndex (fun _ _ _ _ _ hz hf => hs_never)
    (hg_cons ⟨rfl, by decide, .inl T.c_NotSo⟩ rfl rfl T.xm_NotSo (fun _ _ _ _ _ hz hf => (hs_ret (he_lst (fs := [(fun _ _ => (fC (.str "so"))), (hFld xf_word)]) (ha_cons (he_of s_str) (ha_cons (he_fld rfl hz hf xf_word T.xg_word rfl (Or.inl rfl)) ha_nil)))))
    (hg_cons ⟨rfl, by decide, .inl T.c_TooMany⟩ rfl rfl T.xm_TooMany (fun _ _ _ _ _ hz hf => hs_never)
    hg_nil)))))
theorem hr__law_refused (T : Tx base wd K mg) {g : Addr} {cdg : Value} {A : Around} {outer : List PySem.Env} {s : Shared} {H : Hp} : SSs (cxOf C8.CX0 PW wd K mg base ["_law_call", "e"] "_law_refused" (defScope s__law_refused) g cdg A outer s H C8.E0).nox (GG K mg) W0 (restOf (defBody s__law_refused)) rest__law_refused :=
  (ss_cons (ss_ret (s_lst (a_cons s_str a_nil)))
    ss_nil)
/-! _law_draw -/
def g__law_draw : Sm := (qSeq (qIf (fCmpB gtT (fIx (fVar 0) (fC (.int 0))) (fC (.int 0))) (qSeq (qSet 2 (fBin modT (fB1 intT (fIx (fVar 0) (fC (.int 0)))) (fVar 1)))
    (qSeq (qSetIx 0 (fBin divT (fIx (fVar 0) (fC (.int 0))) (fVar 1)) (fC (.int 0)))
    (qSeq (qRet (fVar 2))
    qNil))) qNil)
    (qSeq (qSetIx 0 (fBin modT (fB1 intT (fBin addT (fBin mulT (fIx (fVar 0) (fC (.int 1))) (fC (.int 48271))) (fC (.int 11)))) (fC (.int 2147483647))) (fC (.int 1)))
    (qSeq (qRet (fBin modT (fBin divT (fBin modT (fB1 intT (fBin mulT (fIx (fVar 0) (fC (.int 1))) (fIx (fVar 0) (fC (.int 1))))) (fC (.int 2147483629))) (fC (.int 32))) (fVar 1)))
    qNil)))
def F__law_draw : List T → M T := fnS 1 g__law_draw
theorem sc__law_draw : FnScope ["_law_pool", "_law_many", "_law_found"] ["_law_pool", "_law_many"] (defScope s__law_draw) := ⟨rfl, rfl, rfl, by decide +kernel, rfl, by decide +kernel, by decide +kernel⟩
theorem run__law_draw (T : Tx base wd K mg) {f : Addr} {fd : FuncData} {dv : List V} {kw : List (Str × V)} (F : FunD K "_law_draw" "_law_draw" (defArgs s__law_draw) (defBody s__law_draw) (defScope s__law_draw) dv kw f fd) : FnOk PW wd K mg base (L2.CX PW wd) 1 f fd ["_law_pool", "_law_many"] (spF (GG K mg) 2 (fnS 1 g__law_draw)) :=
  fn_run (G := GG K mg) (k := 0) F sc__law_draw rfl rfl fun cdv A outer s H E hr => by
    have B := bd_of (P := PW) (wd := wd) (G := GG K mg) (base := base) (cdv := cdv) (outer := outer) (H := H) (E := E) sc__law_draw hr
    exact (ss_cons (ss_if (B.gtB (k_of (B.ix (k_of (vr 0)) s_int)) (k_of s_int)) (ss_cons (B.set 2 (B.mod (B.int T.m_int (k_of (B.ix (k_of (vr 0)) s_int))) (vr 1)))
    (ss_cons (B.put 0 (B.div (B.ix (k_of (vr 0)) s_int) (vr 1)) s_int)
    (ss_cons (ss_ret (vr 2))
    ss_nil))) ss_nil)
    (ss_cons (B.put 0 (B.mod (B.int T.m_int (k_of (B.add (B.mul (B.ix (k_of (vr 0)) s_int) s_int) s_int))) s_int) s_int)
    (ss_cons (ss_ret (B.mod (B.div (B.mod (B.int T.m_int (k_of (B.mul (B.ix (k_of (vr 0)) s_int) (B.ix (k_of (vr 0)) s_int)))) s_int) s_int) (vr 1)))
    ss_nil)))
theorem d__law_draw (T : Tx base wd K mg) : DefOk PW wd base (GG K mg) 1 "_law_draw" 2 [] F__law_draw := by
  obtain ⟨fd, F⟩ := T.D__law_draw
  exact ⟨_, fd, ["_law_pool", "_law_many"], [], [], run__law_draw T F, T.c__law_draw, F.kp, (F.bindsN fun _ _ _ _ _ _ us hl => match us, hl with | [_, _], _ => rfl), .nil, fun _ => .nil⟩
/-! _law_opened -/
def g__law_opened : Sm := (qSeq (qSet 2 (fIx (fBin addT (fSl (fVar 0) (some (fVar 1)) (some (fBin addT (fVar 1) (fC (.int 1))))) (fLst [(fC (.int 0))])) (fC (.int 0))))
    (qSeq (qSet 3 (fBin max2T (fB1 intT (fVar 2)) (fB1 intT (fBin subT (fUn negT (fC (.int 1))) (fVar 2)))))
    (qSeq (qSet 4 (fBin modT (fBin mulT (fBin addT (fBin addT (fBin modT (fB1 intT (fVar 3)) (fC (.int 2147483647))) (fBin mulT (fC (.int 7919)) (fVar 1))) (fC (.int 1))) (fC (.int 48271))) (fC (.int 2147483629))))
    (qSeq (qRet (fRef (fAll [(fBin mulT (fB1 intT (fCmp geT (fVar 3) (fBin powT (fC (.int 10)) (fC (.int 18))))) (fVar 3)), (fVar 4)])))
    qNil))))
def F__law_opened : List T → M T := fnS 3 g__law_opened
theorem sc__law_opened : FnScope ["_law_script", "_law_k", "_law_start", "_law_whole", "_law_seed"] ["_law_script", "_law_k"] (defScope s__law_opened) := ⟨rfl, rfl, rfl, by decide +kernel, rfl, by decide +kernel, by decide +kernel⟩
theorem run__law_opened (T : Tx base wd K mg) {f : Addr} {fd : FuncData} {dv : List V} {kw : List (Str × V)} (F : FunD K "_law_opened" "_law_opened" (defArgs s__law_opened) (defBody s__law_opened) (defScope s__law_opened) dv kw f fd) : FnOk PW wd K mg base (L2.CX PW wd) 1 f fd ["_law_script", "_law_k"] (spF (GG K mg) 2 (fnS 3 g__law_opened)) :=
  fn_run (G := GG K mg) (k := 0) F sc__law_opened rfl rfl fun cdv A outer s H E hr => by
    have B := bd_of (P := PW) (wd := wd) (G := GG K mg) (base := base) (cdv := cdv) (outer := outer) (H := H) (E := E) sc__law_opened hr
    exact (ss_cons (B.set 2 (B.ix (k_of (B.add (B.sl (k_of (vr 0)) (o_some (vr 1)) (o_some (B.add (vr 1) s_int))) (s_lst (a_cons s_int a_nil)))) s_int))
    (ss_cons (B.set 3 (B.max2 T.m_max (B.int T.m_int (k_of (vr 2))) (B.int T.m_int (k_of (B.sub (B.neg s_int) (vr 2))))))
    (ss_cons (B.set 4 (B.mod (B.mul (B.add (B.add (B.mod (B.int T.m_int (k_of (vr 3))) s_int) (B.mul s_int (vr 1))) s_int) s_int) s_int))
    (ss_cons (ss_ret (s_ref (l_lst (a_cons (B.mul (B.int T.m_int (k_of (B.ge (k_of (vr 3)) (k_of (B.pow s_int s_int))))) (vr 3)) (a_cons (vr 4) a_nil)))))
    ss_nil))))
theorem d__law_opened (T : Tx base wd K mg) : DefOk PW wd base (GG K mg) 1 "_law_opened" 2 [] F__law_opened := by
  obtain ⟨fd, F⟩ := T.D__law_opened
  exact ⟨_, fd, ["_law_script", "_law_k"], [], [], run__law_opened T F, T.c__law_opened, F.kp, (F.bindsN fun _ _ _ _ _ _ us hl => match us, hl with | [_, _], _ => rfl), .nil, fun _ => .nil⟩
/-! _law_pick -/
def g__law_pick : Sm := (qSeq (qRet (fIx (fVar 1) (fCall F__law_draw [] [(fVar 0), (fB1 lenT (fVar 1))])))
    qNil)
def F__law_pick : List T → M T := fnS 0 g__law_pick
theorem sc__law_pick : FnScope ["_law_pool", "_law_some"] ["_law_pool", "_law_some"] (defScope s__law_pick) := ⟨rfl, rfl, rfl, by decide +kernel, rfl, by decide +kernel, by decide +kernel⟩
theorem run__law_pick (T : Tx base wd K mg) {f : Addr} {fd : FuncData} {dv : List V} {kw : List (Str × V)} (F : FunD K "_law_pick" "_law_pick" (defArgs s__law_pick) (defBody s__law_pick) (defScope s__law_pick) dv kw f fd) : FnOk PW wd K mg base (L2.CX PW wd) 2 f fd ["_law_pool", "_law_some"] (spF (GG K mg) 2 (fnS 0 g__law_pick)) :=
  fn_run (G := GG K mg) (k := 1) F sc__law_pick rfl rfl fun cdv A outer s H E hr => by
    have B := bd_of (P := PW) (wd := wd) (G := GG K mg) (base := base) (cdv := cdv) (outer := outer) (H := H) (E := E) sc__law_pick hr
    exact (ss_cons (ss_ret (B.ix (k_of (vr 1)) (B.call (d__law_draw T) (a_cons (vr 0) (a_cons (B.len T.m_len (k_of (vr 1))) a_nil)))))
    ss_nil)
theorem d__law_pick (T : Tx base wd K mg) : DefOk PW wd base (GG K mg) 2 "_law_pick" 2 [] F__law_pick := by
  obtain ⟨fd, F⟩ := T.D__law_pick
  exact ⟨_, fd, ["_law_pool", "_law_some"], [], [], run__law_pick T F, T.c__law_pick, F.kp, (F.bindsN fun _ _ _ _ _ _ us hl => match us, hl with | [_, _], _ => rfl), .nil, fun _ => .nil⟩
/-! _law_is_sum -/
def g__law_is_sum : Sm := (qSeq (qSet 4 (fBin subT (fBin mulT (fIx (fVar 0) (fC (.int 0))) (fIx (fVar 1) (fC (.int 1)))) (fBin mulT (fIx (fVar 1) (fC (.int 0))) (fIx (fVar 0) (fC (.int 1))))))
    (qSeq (qRet (fAnd (fCmp eqT (fBin modT (fBin subT (fBin mulT (fVar 2) (fIx (fVar 1) (fC (.int 1)))) (fBin mulT (fVar 3) (fIx (fVar 1) (fC (.int 0))))) (fVar 4)) (fC (.int 0))) (fCmp eqT (fBin modT (fBin subT (fBin mulT (fVar 3) (fIx (fVar 0) (fC (.int 0)))) (fBin mulT (fVar 2) (fIx (fVar 0) (fC (.int 1))))) (fVar 4)) (fC (.int 0)))))
    qNil))
def F__law_is_sum : List T → M T := fnS 1 g__law_is_sum
theorem sc__law_is_sum : FnScope ["_law_one", "_law_other", "_law_x", "_law_y", "_law_whole"] ["_law_one", "_law_other", "_law_x", "_law_y"] (defScope s__law_is_sum) := ⟨rfl, rfl, rfl, by decide +kernel, rfl, by decide +kernel, by decide +kernel⟩
theorem run__law_is_sum (T : Tx base wd K mg) {f : Addr} {fd : FuncData} {dv : List V} {kw : List (Str × V)} (F : FunD K "_law_is_sum" "_law_is_sum" (defArgs s__law_is_sum) (defBody s__law_is_sum) (defScope s__law_is_sum) dv kw f fd) : FnOk PW wd K mg base (L2.CX PW wd) 1 f fd ["_law_one", "_law_other", "_law_x", "_law_y"] (spF (GG K mg) 4 (fnS 1 g__law_is_sum)) :=
  fn_run (G := GG K mg) (k := 0) F sc__law_is_sum rfl rfl fun cdv A outer s H E hr => by
    have B := bd_of (P := PW) (wd := wd) (G := GG K mg) (base := base) (cdv := cdv) (outer := outer) (H := H) (E := E) sc__law_is_sum hr
    exact (ss_cons (B.set 4 (B.sub (B.mul (B.ix (k_of (vr 0)) s_int) (B.ix (k_of (vr 1)) s_int)) (B.mul (B.ix (k_of (vr 1)) s_int) (B.ix (k_of (vr 0)) s_int))))
    (ss_cons (ss_ret (s_and (B.eq (k_of (B.mod (B.sub (B.mul (vr 2) (B.ix (k_of (vr 1)) s_int)) (B.mul (vr 3) (B.ix (k_of (vr 1)) s_int))) (vr 4))) (k_of s_int)) (s_one (B.eq (k_of (B.mod (B.sub (B.mul (vr 3) (B.ix (k_of (vr 0)) s_int)) (B.mul (vr 2) (B.ix (k_of (vr 0)) s_int))) (vr 4))) (k_of s_int)))))
    ss_nil))
theorem d__law_is_sum (T : Tx base wd K mg) : DefOk PW wd base (GG K mg) 1 "_law_is_sum" 4 [] F__law_is_sum := by
  obtain ⟨fd, F⟩ := T.D__law_is_sum
  exact ⟨_, fd, ["_law_one", "_law_other", "_law_x", "_law_y"], [], [], run__law_is_sum T F, T.c__law_is_sum, F.kp, (F.bindsN fun _ _ _ _ _ _ us hl => match us, hl with | [_, _, _, _], _ => rfl), .nil, fun _ => .nil⟩
/-! is_integer -/
def g_is_integer : Sm := (qSeq (qRet (fAnd (fBin (isiT tab) (fVar 0) (fC (.ty "int"))) (fNot (fBin (isiT tab) (fVar 0) (fC (.ty "bool"))))))
    qNil)
def F_is_integer : List T → M T := fnS 0 g_is_integer
theorem sc_is_integer : FnScope ["value"] ["value"] (defScope s_is_integer) := ⟨rfl, rfl, rfl, by decide +kernel, rfl, by decide +kernel, by decide +kernel⟩
theorem run_is_integer (T : Tx base wd K mg) {f : Addr} {fd : FuncData} {dv : List V} {kw : List (Str × V)} (F : FunD K "is_integer" "is_integer" (defArgs s_is_integer) (defBody s_is_integer) (defScope s_is_integer) dv kw f fd) : FnOk PW wd K mg base (L2.CX PW wd) 1 f fd ["value"] (spF (GG K mg) 1 (fnS 0 g_is_integer)) :=
  fn_run (G := GG K mg) (k := 0) F sc_is_integer rfl rfl fun cdv A outer s H E hr => by
    have B := bd_of (P := PW) (wd := wd) (G := GG K mg) (base := base) (cdv := cdv) (outer := outer) (H := H) (E := E) sc_is_integer hr
    exact (ss_cons (ss_ret (s_and (B.isi T.tab T.m_isinstance (vr 0) (B.ty "int" T.m_int)) (s_one (s_not (B.isi T.tab T.m_isinstance (vr 0) (B.ty "bool" T.m_bool))))))
    ss_nil)
theorem d_is_integer (T : Tx base wd K mg) : DefOk PW wd base (GG K mg) 1 "is_integer" 1 [] F_is_integer := by
  obtain ⟨fd, F⟩ := T.D_is_integer
  exact ⟨_, fd, ["value"], [], [], run_is_integer T F, T.c_is_integer, F.kp, (F.bindsN fun _ _ _ _ _ _ us hl => match us, hl with | [_], _ => rfl), .nil, fun _ => .nil⟩
/-! is_shift -/
def g_is_shift : Sm := (qSeq (qRet (fAnd (fBin (isiT tab) (fVar 0) (fC (.ty "tuple"))) (fAnd (fCmp eqT (fB1 lenT (fVar 0)) (fC (.int 2))) (fAnd (fCall F_is_integer [] [(fIx (fVar 0) (fC (.int 0)))]) (fCall F_is_integer [] [(fIx (fVar 0) (fC (.int 1)))])))))
    qNil)
def F_is_shift : List T → M T := fnS 0 g_is_shift
theorem sc_is_shift : FnScope ["value"] ["value"] (defScope s_is_shift) := ⟨rfl, rfl, rfl, by decide +kernel, rfl, by decide +kernel, by decide +kernel⟩
theorem run_is_shift (T : Tx base wd K mg) {f : Addr} {fd : FuncData} {dv : List V} {kw : List (Str × V)} (F : FunD K "is_shift" "is_shift" (defArgs s_is_shift) (defBody s_is_shift) (defScope s_is_shift) dv kw f fd) : FnOk PW wd K mg base (L2.CX PW wd) 2 f fd ["value"] (spF (GG K mg) 1 (fnS 0 g_is_shift)) :=
  fn_run (G := GG K mg) (k := 1) F sc_is_shift rfl rfl fun cdv A outer s H E hr => by
    have B := bd_of (P := PW) (wd := wd) (G := GG K mg) (base := base) (cdv := cdv) (outer := outer) (H := H) (E := E) sc_is_shift hr
    exact (ss_cons (ss_ret (s_and (B.isi T.tab T.m_isinstance (vr 0) (B.ty "tuple" T.m_tuple)) (s_and (B.eq (k_of (B.len T.m_len (k_of (vr 0)))) (k_of s_int)) (s_and (B.call (d_is_integer T) (a_cons (B.ix (k_of (vr 0)) s_int) a_nil)) (s_one (B.call (d_is_integer T) (a_cons (B.ix (k_of (vr 0)) s_int) a_nil)))))))
    ss_nil)
theorem d_is_shift (T : Tx base wd K mg) : DefOk PW wd base (GG K mg) 2 "is_shift" 1 [] F_is_shift := by
  obtain ⟨fd, F⟩ := T.D_is_shift
  exact ⟨_, fd, ["value"], [], [], run_is_shift T F, T.c_is_shift, F.kp, (F.bindsN fun _ _ _ _ _ _ us hl => match us, hl with | [_], _ => rfl), .nil, fun _ => .nil⟩
/-! check_shift -/
def g_check_shift : Sm := (qSeq (qIf (fNotB (fTru (fCall F_is_shift [] [(fVar 0)]))) (qSeq (qRaise 0 (fC (.str "shift")))
    qNil) qNil)
    qNil)
def F_check_shift : List T → M T := fnS 0 g_check_shift
theorem sc_check_shift : FnScope ["value"] ["value"] (defScope s_check_shift) := ⟨rfl, rfl, rfl, by decide +kernel, rfl, by decide +kernel, by decide +kernel⟩
theorem run_check_shift (T : Tx base wd K mg) {f : Addr} {fd : FuncData} {dv : List V} {kw : List (Str × V)} (F : FunD K "check_shift" "check_shift" (defArgs s_check_shift) (defBody s_check_shift) (defScope s_check_shift) dv kw f fd) : FnOk PW wd K mg base (L2.CX PW wd) 3 f fd ["value"] (spF (GG K mg) 1 (fnS 0 g_check_shift)) :=
  fn_run (G := GG K mg) (k := 2) F sc_check_shift rfl rfl fun cdv A outer s H E hr => by
    have B := bd_of (P := PW) (wd := wd) (G := GG K mg) (base := base) (cdv := cdv) (outer := outer) (H := H) (E := E) sc_check_shift hr
    exact (ss_cons (ss_if (w_not (B.tru (B.call (d_is_shift T) (a_cons (vr 0) a_nil)))) (ss_cons (ss_raise B.calm B.eK B.eM B.tk B.rm (by decide) T.x_BadPart rfl s_str rfl)
    ss_nil) ss_nil)
    ss_nil)
theorem d_check_shift (T : Tx base wd K mg) : DefOk PW wd base (GG K mg) 3 "check_shift" 1 [] F_check_shift := by
  obtain ⟨fd, F⟩ := T.D_check_shift
  exact ⟨_, fd, ["value"], [], [], run_check_shift T F, T.c_check_shift, F.kp, (F.bindsN fun _ _ _ _ _ _ us hl => match us, hl with | [_], _ => rfl), .nil, fun _ => .nil⟩
/-! divisor_sum -/
def g_divisor_sum : Sm := (qSeq (qPar2 2 3 (fTup [(fVar 0), (fC (.int 1)), (fC (.int 0))]) (fTup [(fVar 1), (fC (.int 0)), (fC (.int 1))]))
    (qSeq (qWhile (fuT 3) (fCmpB neT (fIx (fVar 3) (fC (.int 0))) (fC (.int 0))) (qSeq (qSet 5 (fBin divT (fB1 intT (fIx (fVar 2) (fC (.int 0)))) (fIx (fVar 3) (fC (.int 0)))))
    (qSeq (qPar2 2 3 (fVar 3) (fB1 tupT (fOwn (fComp [6, 7] (hTupL 2 (hCons (hName 6) (hCons (hName 7) hNil))) fYes (fBin subT (fVar 6) (fBin mulT (fVar 5) (fVar 7))) (fZip (fVar 2) (fVar 3))))))
    qNil)))
    (qSeq (qSet 4 (fIf (fCmpB ltT (fIx (fVar 2) (fC (.int 0))) (fC (.int 0))) (fUn negT (fC (.int 1))) (fC (.int 1))))
    (qSeq (qRet (fTup [(fBin mulT (fVar 4) (fIx (fVar 2) (fC (.int 1)))), (fBin mulT (fVar 4) (fIx (fVar 2) (fC (.int 2))))]))
    qNil))))
def F_divisor_sum : List T → M T := fnS 6 g_divisor_sum
theorem sc_divisor_sum : FnScope ["one", "other", "row", "later", "sign", "many", "first", "second"] ["one", "other"] (defScope s_divisor_sum) := ⟨rfl, rfl, rfl, by decide +kernel, rfl, by decide +kernel, by decide +kernel⟩
theorem run_divisor_sum (T : Tx base wd K mg) {f : Addr} {fd : FuncData} {dv : List V} {kw : List (Str × V)} (F : FunD K "divisor_sum" "divisor_sum" (defArgs s_divisor_sum) (defBody s_divisor_sum) (defScope s_divisor_sum) dv kw f fd) : FnOk PW wd K mg base (L2.CX PW wd) 1 f fd ["one", "other"] (spF (GG K mg) 2 (fnS 6 g_divisor_sum)) :=
  fn_run (G := GG K mg) (k := 0) F sc_divisor_sum rfl rfl fun cdv A outer s H E hr => by
    have B := bd_of (P := PW) (wd := wd) (G := GG K mg) (base := base) (cdv := cdv) (outer := outer) (H := H) (E := E) sc_divisor_sum hr
    exact (ss_cons (B.par2 2 3 (a_cons (s_tup (a_cons (vr 0) (a_cons s_int (a_cons s_int a_nil)))) (a_cons (s_tup (a_cons (vr 1) (a_cons s_int (a_cons s_int a_nil)))) a_nil)))
    (ss_cons (ss_while (fuT 3) po_of (B.neB (k_of (B.ix (k_of (vr 3)) s_int)) (k_of s_int)) (ss_cons (B.set 5 (B.div (B.int T.m_int (k_of (B.ix (k_of (vr 2)) s_int))) (B.ix (k_of (vr 3)) s_int)))
    (ss_cons (B.par2 2 3 (a_cons (vr 3) (a_cons (B.tuple T.m_tuple (k_of (s_own (B.comp [("first", 6), ("second", 7)] (i_zip B.eK rfl (by rw [B.eM]; exact T.m_zip) (vr 2) (vr 3)) (fun _ _ _ _ _ => ((B.blk _ _ _ _ _).tl 2 (gs_cons ((B.blk _ _ _ _ _).nm 6) (gs_cons ((B.blk _ _ _ _ _).nm 7) gs_nil)))) (fun _ _ _ _ _ => ts_nil) (fun _ _ _ _ _ => ((B.blk _ _ _ _ _).sub (vr 6) ((B.blk _ _ _ _ _).mul (vr 5) (vr 7)))))))) a_nil)))
    ss_nil)))
    (ss_cons (B.set 4 (s_if (B.ltB (k_of (B.ix (k_of (vr 2)) s_int)) (k_of s_int)) (B.neg s_int) s_int))
    (ss_cons (ss_ret (s_tup (a_cons (B.mul (vr 4) (B.ix (k_of (vr 2)) s_int)) (a_cons (B.mul (vr 4) (B.ix (k_of (vr 2)) s_int)) a_nil))))
    ss_nil))))
theorem d_divisor_sum (T : Tx base wd K mg) : DefOk PW wd base (GG K mg) 1 "divisor_sum" 2 [] F_divisor_sum := by
  obtain ⟨fd, F⟩ := T.D_divisor_sum
  exact ⟨_, fd, ["one", "other"], [], [], run_divisor_sum T F, T.c_divisor_sum, F.kp, (F.bindsN fun _ _ _ _ _ _ us hl => match us, hl with | [_, _], _ => rfl), .nil, fun _ => .nil⟩
/-! check_integer -/
def g_check_integer : Sm := (qSeq (qIf (fNotB (fTru (fCall F_is_integer [] [(fVar 0)]))) (qSeq (qRaise 1 (fVar 0))
    qNil) qNil)
    qNil)
def F_check_integer : List T → M T := fnS 0 g_check_integer
theorem sc_check_integer : FnScope ["number"] ["number"] (defScope s_check_integer) := ⟨rfl, rfl, rfl, by decide +kernel, rfl, by decide +kernel, by decide +kernel⟩
theorem run_check_integer (T : Tx base wd K mg) {f : Addr} {fd : FuncData} {dv : List V} {kw : List (Str × V)} (F : FunD K "check_integer" "check_integer" (defArgs s_check_integer) (defBody s_check_integer) (defScope s_check_integer) dv kw f fd) : FnOk PW wd K mg base (L2.CX PW wd) 3 f fd ["number"] (spF (GG K mg) 1 (fnS 0 g_check_integer)) :=
  fn_run (G := GG K mg) (k := 2) F sc_check_integer rfl rfl fun cdv A outer s H E hr => by
    have B := bd_of (P := PW) (wd := wd) (G := GG K mg) (base := base) (cdv := cdv) (outer := outer) (H := H) (E := E) sc_check_integer hr
    exact (ss_cons (ss_if (w_not (B.tru (B.call (d_is_integer T) (a_cons (vr 0) a_nil)))) (ss_cons (ss_raise B.calm B.eK B.eM B.tk B.rm (by decide) T.x_BadNumber rfl (vr 0) rfl)
    ss_nil) ss_nil)
    ss_nil)
theorem d_check_integer (T : Tx base wd K mg) : DefOk PW wd base (GG K mg) 3 "check_integer" 1 [] F_check_integer := by
  obtain ⟨fd, F⟩ := T.D_check_integer
  exact ⟨_, fd, ["number"], [], [], run_check_integer T F, T.c_check_integer, F.kp, (F.bindsN fun _ _ _ _ _ _ us hl => match us, hl with | [_], _ => rfl), .nil, fun _ => .nil⟩
/-! greatest_divisor -/
def g_greatest_divisor : Sm := (qSeq (qExpr (fCall F_check_integer [] [(fVar 0)]))
    (qSeq (qExpr (fCall F_check_integer [] [(fVar 1)]))
    (qSeq (qPar2 2 3 (fB1 absT (fVar 0)) (fB1 absT (fVar 1)))
    (qSeq (qWhile (fuI 3) (fCmpB neT (fVar 3) (fC (.int 0))) (qSeq (qPar2 2 3 (fVar 3) (fBin modT (fB1 intT (fVar 2)) (fVar 3)))
    qNil))
    (qSeq (qRet (fVar 2))
    qNil)))))
def F_greatest_divisor : List T → M T := fnS 2 g_greatest_divisor
theorem sc_greatest_divisor : FnScope ["one", "other", "left", "rest"] ["one", "other"] (defScope s_greatest_divisor) := ⟨rfl, rfl, rfl, by decide +kernel, rfl, by decide +kernel, by decide +kernel⟩
theorem run_greatest_divisor (T : Tx base wd K mg) {f : Addr} {fd : FuncData} {dv : List V} {kw : List (Str × V)} (F : FunD K "greatest_divisor" "greatest_divisor" (defArgs s_greatest_divisor) (defBody s_greatest_divisor) (defScope s_greatest_divisor) dv kw f fd) : FnOk PW wd K mg base (L2.CX PW wd) 4 f fd ["one", "other"] (spF (GG K mg) 2 (fnS 2 g_greatest_divisor)) :=
  fn_run (G := GG K mg) (k := 3) F sc_greatest_divisor rfl rfl fun cdv A outer s H E hr => by
    have B := bd_of (P := PW) (wd := wd) (G := GG K mg) (base := base) (cdv := cdv) (outer := outer) (H := H) (E := E) sc_greatest_divisor hr
    exact (ss_cons (ss_expr (B.call (d_check_integer T) (a_cons (vr 0) a_nil)))
    (ss_cons (ss_expr (B.call (d_check_integer T) (a_cons (vr 1) a_nil)))
    (ss_cons (B.par2 2 3 (a_cons (B.abs T.m_abs (k_of (vr 0))) (a_cons (B.abs T.m_abs (k_of (vr 1))) a_nil)))
    (ss_cons (ss_while (fuI 3) po_of (B.neB (k_of (vr 3)) (k_of s_int)) (ss_cons (B.par2 2 3 (a_cons (vr 3) (a_cons (B.mod (B.int T.m_int (k_of (vr 2))) (vr 3)) a_nil)))
    ss_nil))
    (ss_cons (ss_ret (vr 2))
    ss_nil)))))
theorem d_greatest_divisor (T : Tx base wd K mg) : DefOk PW wd base (GG K mg) 4 "greatest_divisor" 2 [] F_greatest_divisor := by
  obtain ⟨fd, F⟩ := T.D_greatest_divisor
  exact ⟨_, fd, ["one", "other"], [], [], run_greatest_divisor T F, T.c_greatest_divisor, F.kp, (F.bindsN fun _ _ _ _ _ _ us hl => match us, hl with | [_, _], _ => rfl), .nil, fun _ => .nil⟩
/-! is_between -/
def g_is_between : Sm := (qSeq (qRet (fAnd (fCall F_is_integer [] [(fVar 0)]) (fChain leT leT (fVar 1) (fVar 0) (fVar 2))))
    qNil)
def F_is_between : List T → M T := fnS 0 g_is_between
theorem sc_is_between : FnScope ["value", "least", "most"] ["value", "least", "most"] (defScope s_is_between) := ⟨rfl, rfl, rfl, by decide +kernel, rfl, by decide +kernel, by decide +kernel⟩
theorem run_is_between (T : Tx base wd K mg) {f : Addr} {fd : FuncData} {dv : List V} {kw : List (Str × V)} (F : FunD K "is_between" "is_between" (defArgs s_is_between) (defBody s_is_between) (defScope s_is_between) dv kw f fd) : FnOk PW wd K mg base (L2.CX PW wd) 2 f fd ["value", "least", "most"] (spF (GG K mg) 3 (fnS 0 g_is_between)) :=
  fn_run (G := GG K mg) (k := 1) F sc_is_between rfl rfl fun cdv A outer s H E hr => by
    have B := bd_of (P := PW) (wd := wd) (G := GG K mg) (base := base) (cdv := cdv) (outer := outer) (H := H) (E := E) sc_is_between hr
    exact (ss_cons (ss_ret (s_and (B.call (d_is_integer T) (a_cons (vr 0) a_nil)) (s_one (s_chain op_le op_le v_le v_le (vr 1) (vr 0) (vr 2) rfl))))
    ss_nil)
theorem d_is_between (T : Tx base wd K mg) : DefOk PW wd base (GG K mg) 2 "is_between" 3 [] F_is_between := by
  obtain ⟨fd, F⟩ := T.D_is_between
  exact ⟨_, fd, ["value", "least", "most"], [], [], run_is_between T F, T.c_is_between, F.kp, (F.bindsN fun _ _ _ _ _ _ us hl => match us, hl with | [_, _, _], _ => rfl), .nil, fun _ => .nil⟩
/-! check_basis -/
def g_check_basis : Sm := (qSeq (qIf (fOrB (fNotB (fTru (fCall F_is_integer [] [(fVar 0)]))) (fCmpB ltT (fVar 0) (fC (.int 1)))) (qSeq (qRaise 0 (fC (.str "a")))
    qNil) qNil)
    (qSeq (qIf (fNotB (fTru (fCall F_is_between [] [(fVar 1), (fC (.int 0)), (fBin subT (fVar 0) (fC (.int 1)))]))) (qSeq (qRaise 0 (fC (.str "b")))
    qNil) qNil)
    (qSeq (qIf (fOrB (fNotB (fTru (fCall F_is_integer [] [(fVar 2)]))) (fCmpB ltT (fVar 2) (fC (.int 1)))) (qSeq (qRaise 0 (fC (.str "d")))
    qNil) qNil)
    qNil)))
def F_check_basis : List T → M T := fnS 0 g_check_basis
theorem sc_check_basis : FnScope ["a", "b", "d"] ["a", "b", "d"] (defScope s_check_basis) := ⟨rfl, rfl, rfl, by decide +kernel, rfl, by decide +kernel, by decide +kernel⟩
theorem run_check_basis (T : Tx base wd K mg) {f : Addr} {fd : FuncData} {dv : List V} {kw : List (Str × V)} (F : FunD K "check_basis" "check_basis" (defArgs s_check_basis) (defBody s_check_basis) (defScope s_check_basis) dv kw f fd) : FnOk PW wd K mg base (L2.CX PW wd) 3 f fd ["a", "b", "d"] (spF (GG K mg) 3 (fnS 0 g_check_basis)) :=
  fn_run (G := GG K mg) (k := 2) F sc_check_basis rfl rfl fun cdv A outer s H E hr => by
    have B := bd_of (P := PW) (wd := wd) (G := GG K mg) (base := base) (cdv := cdv) (outer := outer) (H := H) (E := E) sc_check_basis hr
    exact (ss_cons (ss_if (w_t (w_or (w_not (B.tru (B.call (d_is_integer T) (a_cons (vr 0) a_nil)))) (w_or1 (B.ltB (k_of (vr 0)) (k_of s_int))))) (ss_cons (ss_raise B.calm B.eK B.eM B.tk B.rm (by decide) T.x_BadPart rfl s_str rfl)
    ss_nil) ss_nil)
    (ss_cons (ss_if (w_not (B.tru (B.call (d_is_between T) (a_cons (vr 1) (a_cons s_int (a_cons (B.sub (vr 0) s_int) a_nil)))))) (ss_cons (ss_raise B.calm B.eK B.eM B.tk B.rm (by decide) T.x_BadPart rfl s_str rfl)
    ss_nil) ss_nil)
    (ss_cons (ss_if (w_t (w_or (w_not (B.tru (B.call (d_is_integer T) (a_cons (vr 2) a_nil)))) (w_or1 (B.ltB (k_of (vr 2)) (k_of s_int))))) (ss_cons (ss_raise B.calm B.eK B.eM B.tk B.rm (by decide) T.x_BadPart rfl s_str rfl)
    ss_nil) ss_nil)
    ss_nil)))
theorem d_check_basis (T : Tx base wd K mg) : DefOk PW wd base (GG K mg) 3 "check_basis" 3 [] F_check_basis := by
  obtain ⟨fd, F⟩ := T.D_check_basis
  exact ⟨_, fd, ["a", "b", "d"], [], [], run_check_basis T F, T.c_check_basis, F.kp, (F.bindsN fun _ _ _ _ _ _ us hl => match us, hl with | [_, _, _], _ => rfl), .nil, fun _ => .nil⟩
/-! Lattice_init -/
def g_Lattice_init : Sm := (qSeq (qExpr (fCall F_check_basis [] [(fVar 1), (fVar 2), (fVar 3)]))
    (qSeq (qFld 0 5 0 (fVar 1))
    (qSeq (qFld 0 5 1 (fVar 2))
    (qSeq (qFld 0 5 2 (fVar 3))
    qNil))))
def F_Lattice_init : List T → M (List T) := fnI (GG [] (fun _ => none)) 5 0 g_Lattice_init
theorem sc_Lattice_init : FnScope ["self", "a", "b", "d"] ["self", "a", "b", "d"] (defScope s_Lattice_init) := ⟨rfl, rfl, rfl, by decide +kernel, rfl, by decide +kernel, by decide +kernel⟩
theorem run_Lattice_init (T : Tx base wd K mg) {f : Addr} {fd : FuncData} {dv : List V} {kw : List (Str × V)} (F : FunD K "__init__" "Lattice.__init__" (defArgs s_Lattice_init) (defBody s_Lattice_init) (defScope s_Lattice_init) dv kw f fd) : FnOk PW wd K mg base (L2.CX PW wd) 4 f fd ["self", "a", "b", "d"] (spI (GG K mg) 5 3 (fnI (GG K mg) 5 0 g_Lattice_init)) :=
  make_run (G := GG K mg) (k := 3) F sc_Lattice_init rfl rfl fun cdv A outer s H E hr => by
    have B := bd_of (P := PW) (wd := wd) (G := GG K mg) (base := base) (cdv := cdv) (outer := outer) (H := H) (E := E) sc_Lattice_init hr
    exact (ss_cons (ss_expr (B.call (d_check_basis T) (a_cons (vr 1) (a_cons (vr 2) (a_cons (vr 3) a_nil)))))
    (ss_cons (ss_fld B.eK 0 rfl (Or.inl rfl) T.n_Lattice_a (vr 1))
    (ss_cons (ss_fld B.eK 0 rfl (Or.inl rfl) T.n_Lattice_b (vr 2))
    (ss_cons (ss_fld B.eK 0 rfl (Or.inl rfl) T.n_Lattice_d (vr 3))
    ss_nil))))
theorem d_Lattice_init (T : Tx base wd K mg) : MakeOk PW wd base (GG K mg) 4 5 3 [] F_Lattice_init := by
  obtain ⟨fd, F⟩ := T.D_Lattice_init
  exact ⟨_, _, fd, ["self", "a", "b", "d"], [], [], T.c_Lattice, T.mk_Lattice, run_Lattice_init T F, (F.bindsN fun _ _ _ _ _ _ us hl => match us, hl with | [_, _, _, _], _ => rfl), .nil, fun _ => .nil⟩
/-! spanned -/
def g_spanned : Sm := (qSeq (qExpr (fCall F_check_shift [] [(fVar 0)]))
    (qSeq (qExpr (fCall F_check_shift [] [(fVar 1)]))
    (qSeq (qSet 2 (fB1 absT (fBin subT (fBin mulT (fIx (fVar 0) (fC (.int 0))) (fIx (fVar 1) (fC (.int 1)))) (fBin mulT (fIx (fVar 1) (fC (.int 0))) (fIx (fVar 0) (fC (.int 1)))))))
    (qSeq (qIf (fCmpB eqT (fVar 2) (fC (.int 0))) (qSeq (qRaise 3 (fC (.str "parallel")))
    qNil) qNil)
    (qSeq (qSet 3 (fCall F_greatest_divisor [] [(fIx (fVar 0) (fC (.int 1))), (fIx (fVar 1) (fC (.int 1)))]))
    (qSeq (qAsg (fCall F_divisor_sum [] [(fIx (fVar 0) (fC (.int 1))), (fIx (fVar 1) (fC (.int 1)))]) (hTupL 2 (hCons (hName 4) (hCons (hName 5) hNil))))
    (qSeq (qSet 6 (fBin divT (fVar 2) (fVar 3)))
    (qSeq (qRet (fMake 5 F_Lattice_init [] [(fVar 6), (fBin modT (fB1 intT (fBin addT (fBin mulT (fVar 4) (fIx (fVar 0) (fC (.int 0)))) (fBin mulT (fVar 5) (fIx (fVar 1) (fC (.int 0)))))) (fVar 6)), (fVar 3)]))
    qNil))))))))
def F_spanned : List T → M T := fnS 5 g_spanned
theorem sc_spanned : FnScope ["one", "other", "size", "d", "u", "v", "a"] ["one", "other"] (defScope s_spanned) := ⟨rfl, rfl, rfl, by decide +kernel, rfl, by decide +kernel, by decide +kernel⟩
theorem run_spanned (T : Tx base wd K mg) {f : Addr} {fd : FuncData} {dv : List V} {kw : List (Str × V)} (F : FunD K "spanned" "spanned" (defArgs s_spanned) (defBody s_spanned) (defScope s_spanned) dv kw f fd) : FnOk PW wd K mg base (L2.CX PW wd) 6 f fd ["one", "other"] (spF (GG K mg) 2 (fnS 5 g_spanned)) :=
  fn_run (G := GG K mg) (k := 5) F sc_spanned rfl rfl fun cdv A outer s H E hr => by
    have B := bd_of (P := PW) (wd := wd) (G := GG K mg) (base := base) (cdv := cdv) (outer := outer) (H := H) (E := E) sc_spanned hr
    exact (ss_cons (ss_expr (B.call (d_check_shift T) (a_cons (vr 0) a_nil)))
    (ss_cons (ss_expr (B.call (d_check_shift T) (a_cons (vr 1) a_nil)))
    (ss_cons (B.set 2 (B.abs T.m_abs (k_of (B.sub (B.mul (B.ix (k_of (vr 0)) s_int) (B.ix (k_of (vr 1)) s_int)) (B.mul (B.ix (k_of (vr 1)) s_int) (B.ix (k_of (vr 0)) s_int))))))
    (ss_cons (ss_if (B.eqB (k_of (vr 2)) (k_of s_int)) (ss_cons (ss_raise B.calm B.eK B.eM B.tk B.rm (by decide) T.x_NotSo rfl s_str rfl)
    ss_nil) ss_nil)
    (ss_cons (B.set 3 (B.call (d_greatest_divisor T) (a_cons (B.ix (k_of (vr 0)) s_int) (a_cons (B.ix (k_of (vr 1)) s_int) a_nil))))
    (ss_cons (ss_asg (B.call (d_divisor_sum T) (a_cons (B.ix (k_of (vr 0)) s_int) (a_cons (B.ix (k_of (vr 1)) s_int) a_nil))) (B.tl 2 (gs_cons (B.nm 4) (gs_cons (B.nm 5) gs_nil))))
    (ss_cons (B.set 6 (B.div (vr 2) (vr 3)))
    (ss_cons (ss_ret (B.make (d_Lattice_init T) (a_cons (vr 6) (a_cons (B.mod (B.int T.m_int (k_of (B.add (B.mul (vr 4) (B.ix (k_of (vr 0)) s_int)) (B.mul (vr 5) (B.ix (k_of (vr 1)) s_int))))) (vr 6)) (a_cons (vr 3) a_nil)))))
    ss_nil))))))))
theorem d_spanned (T : Tx base wd K mg) : DefOk PW wd base (GG K mg) 6 "spanned" 2 [] F_spanned := by
  obtain ⟨fd, F⟩ := T.D_spanned
  exact ⟨_, fd, ["one", "other"], [], [], run_spanned T F, T.c_spanned, F.kp, (F.bindsN fun _ _ _ _ _ _ us hl => match us, hl with | [_, _], _ => rfl), .nil, fun _ => .nil⟩
/-! check_cell -/
def g_check_cell : Sm := (qSeq (qIf (fNotB (fTru (fCall F_is_shift [] [(fVar 0)]))) (qSeq (qRaise 0 (fC (.str "cell")))
    qNil) qNil)
    qNil)
def F_check_cell : List T → M T := fnS 0 g_check_cell
theorem sc_check_cell : FnScope ["value"] ["value"] (defScope s_check_cell) := ⟨rfl, rfl, rfl, by decide +kernel, rfl, by decide +kernel, by decide +kernel⟩
theorem run_check_cell (T : Tx base wd K mg) {f : Addr} {fd : FuncData} {dv : List V} {kw : List (Str × V)} (F : FunD K "check_cell" "check_cell" (defArgs s_check_cell) (defBody s_check_cell) (defScope s_check_cell) dv kw f fd) : FnOk PW wd K mg base (L2.CX PW wd) 3 f fd ["value"] (spF (GG K mg) 1 (fnS 0 g_check_cell)) :=
  fn_run (G := GG K mg) (k := 2) F sc_check_cell rfl rfl fun cdv A outer s H E hr => by
    have B := bd_of (P := PW) (wd := wd) (G := GG K mg) (base := base) (cdv := cdv) (outer := outer) (H := H) (E := E) sc_check_cell hr
    exact (ss_cons (ss_if (w_not (B.tru (B.call (d_is_shift T) (a_cons (vr 0) a_nil)))) (ss_cons (ss_raise B.calm B.eK B.eM B.tk B.rm (by decide) T.x_BadPart rfl s_str rfl)
    ss_nil) ss_nil)
    ss_nil)
theorem d_check_cell (T : Tx base wd K mg) : DefOk PW wd base (GG K mg) 3 "check_cell" 1 [] F_check_cell := by
  obtain ⟨fd, F⟩ := T.D_check_cell
  exact ⟨_, fd, ["value"], [], [], run_check_cell T F, T.c_check_cell, F.kp, (F.bindsN fun _ _ _ _ _ _ us hl => match us, hl with | [_], _ => rfl), .nil, fun _ => .nil⟩
/-! Lattice_place -/
def g_Lattice_place : Sm := (qSeq (qExpr (fCall F_check_cell [] [(fVar 1)]))
    (qSeq (qAsg (fVar 1) (hTupL 2 (hCons (hName 2) (hCons (hName 3) hNil))))
    (qSeq (qSet 4 (fBin divT (fB1 intT (fVar 3)) (fFld m_d (fVar 0))))
    (qSeq (qRet (fTup [(fBin modT (fB1 intT (fBin subT (fVar 2) (fBin mulT (fVar 4) (fFld m_b (fVar 0))))) (fFld m_a (fVar 0))), (fBin subT (fVar 3) (fBin mulT (fVar 4) (fFld m_d (fVar 0))))]))
    qNil))))
def F_Lattice_place : List T → M T := fnS 3 g_Lattice_place
theorem sc_Lattice_place : FnScope ["self", "cell", "x", "y", "many"] ["self", "cell"] (defScope s_Lattice_place) := ⟨rfl, rfl, rfl, by decide +kernel, rfl, by decide +kernel, by decide +kernel⟩
theorem run_Lattice_place (T : Tx base wd K mg) {f : Addr} {fd : FuncData} {dv : List V} {kw : List (Str × V)} (F : FunD K "place" "Lattice.place" (defArgs s_Lattice_place) (defBody s_Lattice_place) (defScope s_Lattice_place) dv kw f fd) : FnOk PW wd K mg base (L2.CX PW wd) 4 f fd ["self", "cell"] (spF (GG K mg) 2 (fnS 3 g_Lattice_place)) :=
  fn_run (G := GG K mg) (k := 3) F sc_Lattice_place rfl rfl fun cdv A outer s H E hr => by
    have B := bd_of (P := PW) (wd := wd) (G := GG K mg) (base := base) (cdv := cdv) (outer := outer) (H := H) (E := E) sc_Lattice_place hr
    exact (ss_cons (ss_expr (B.call (d_check_cell T) (a_cons (vr 1) a_nil)))
    (ss_cons (ss_asg (vr 1) (B.tl 2 (gs_cons (B.nm 2) (gs_cons (B.nm 3) gs_nil))))
    (ss_cons (B.set 4 (B.div (B.int T.m_int (k_of (vr 3))) (B.fld m_d T.f_d (vr 0))))
    (ss_cons (ss_ret (s_tup (a_cons (B.mod (B.int T.m_int (k_of (B.sub (vr 2) (B.mul (vr 4) (B.fld m_b T.f_b (vr 0)))))) (B.fld m_a T.f_a (vr 0))) (a_cons (B.sub (vr 3) (B.mul (vr 4) (B.fld m_d T.f_d (vr 0)))) a_nil))))
    ss_nil))))
theorem d_Lattice_place (T : Tx base wd K mg) : MethOk PW wd base (GG K mg) 4 5 "place" 2 [] F_Lattice_place := by
  obtain ⟨fd, F⟩ := T.D_Lattice_place
  exact ⟨⟨_, _, fd, ["self", "cell"], [], [], T.c_Lattice, T.k_Lattice, T.h_Lattice_place, run_Lattice_place T F, (F.bindsN fun _ _ _ _ _ _ us hl => match us, hl with | [_, _], _ => rfl), .nil, fun _ => .nil⟩, show ("place" : Str) ∉ fl 5 by decide⟩
/-! Lattice_contains -/
def g_Lattice_contains : Sm := (qSeq (qRet (fAnd (fCall F_is_shift [] [(fVar 1)]) (fCmp eqT (fMeth 5 F_Lattice_place [] (fVar 0) [(fVar 1)]) (fTup [(fC (.int 0)), (fC (.int 0))]))))
    qNil)
def F_Lattice_contains : List T → M T := fnS 0 g_Lattice_contains
theorem sc_Lattice_contains : FnScope ["self", "value"] ["self", "value"] (defScope s_Lattice_contains) := ⟨rfl, rfl, rfl, by decide +kernel, rfl, by decide +kernel, by decide +kernel⟩
theorem run_Lattice_contains (T : Tx base wd K mg) {f : Addr} {fd : FuncData} {dv : List V} {kw : List (Str × V)} (F : FunD K "__contains__" "Lattice.__contains__" (defArgs s_Lattice_contains) (defBody s_Lattice_contains) (defScope s_Lattice_contains) dv kw f fd) : FnOk PW wd K mg base (L2.CX PW wd) 5 f fd ["self", "value"] (spF (GG K mg) 2 (fnS 0 g_Lattice_contains)) :=
  fn_run (G := GG K mg) (k := 4) F sc_Lattice_contains rfl rfl fun cdv A outer s H E hr => by
    have B := bd_of (P := PW) (wd := wd) (G := GG K mg) (base := base) (cdv := cdv) (outer := outer) (H := H) (E := E) sc_Lattice_contains hr
    exact (ss_cons (ss_ret (s_and (B.call (d_is_shift T) (a_cons (vr 1) a_nil)) (s_one (B.eq (k_of (s_meth (d_Lattice_place T) B.eK B.eM B.tk B.rm (by decide) (vr 0) (a_cons (vr 1) a_nil))) (k_of (s_tup (a_cons s_int (a_cons s_int a_nil))))))))
    ss_nil)
theorem d_Lattice_contains (T : Tx base wd K mg) : MethOk PW wd base (GG K mg) 5 5 "__contains__" 2 [] F_Lattice_contains := by
  obtain ⟨fd, F⟩ := T.D_Lattice_contains
  exact ⟨⟨_, _, fd, ["self", "value"], [], [], T.c_Lattice, T.k_Lattice, T.h_Lattice_contains, run_Lattice_contains T F, (F.bindsN fun _ _ _ _ _ _ us hl => match us, hl with | [_, _], _ => rfl), .nil, fun _ => .nil⟩, show ("__contains__" : Str) ∉ fl 5 by decide⟩
/-! Lattice_eq -/
def g_Lattice_eq : Sm := (qSeq (qRet (fAnd (fBin (isiT tab) (fVar 1) (fC (.cl 5))) (fCmp eqT (fTup [(fFld m_a (fVar 0)), (fFld m_b (fVar 0)), (fFld m_d (fVar 0))]) (fTup [(fFld m_a (fVar 1)), (fFld m_b (fVar 1)), (fFld m_d (fVar 1))]))))
    qNil)
def F_Lattice_eq : List T → M T := fnS 0 g_Lattice_eq
theorem sc_Lattice_eq : FnScope ["self", "other"] ["self", "other"] (defScope s_Lattice_eq) := ⟨rfl, rfl, rfl, by decide +kernel, rfl, by decide +kernel, by decide +kernel⟩
theorem run_Lattice_eq (T : Tx base wd K mg) {f : Addr} {fd : FuncData} {dv : List V} {kw : List (Str × V)} (F : FunD K "__eq__" "Lattice.__eq__" (defArgs s_Lattice_eq) (defBody s_Lattice_eq) (defScope s_Lattice_eq) dv kw f fd) : FnOk PW wd K mg base (L2.CX PW wd) 1 f fd ["self", "other"] (spF (GG K mg) 2 (fnS 0 g_Lattice_eq)) :=
  fn_run (G := GG K mg) (k := 0) F sc_Lattice_eq rfl rfl fun cdv A outer s H E hr => by
    have B := bd_of (P := PW) (wd := wd) (G := GG K mg) (base := base) (cdv := cdv) (outer := outer) (H := H) (E := E) sc_Lattice_eq hr
    exact (ss_cons (ss_ret (s_and (B.isi T.tab T.m_isinstance (vr 1) (B.cls 5 T.c_Lattice)) (s_one (B.eq (k_of (s_tup (a_cons (B.fld m_a T.f_a (vr 0)) (a_cons (B.fld m_b T.f_b (vr 0)) (a_cons (B.fld m_d T.f_d (vr 0)) a_nil))))) (k_of (s_tup (a_cons (B.fld m_a T.f_a (vr 1)) (a_cons (B.fld m_b T.f_b (vr 1)) (a_cons (B.fld m_d T.f_d (vr 1)) a_nil)))))))))
    ss_nil)
theorem d_Lattice_eq (T : Tx base wd K mg) : MethOk PW wd base (GG K mg) 1 5 "__eq__" 2 [] F_Lattice_eq := by
  obtain ⟨fd, F⟩ := T.D_Lattice_eq
  exact ⟨⟨_, _, fd, ["self", "other"], [], [], T.c_Lattice, T.k_Lattice, T.h_Lattice_eq, run_Lattice_eq T F, (F.bindsN fun _ _ _ _ _ _ us hl => match us, hl with | [_, _], _ => rfl), .nil, fun _ => .nil⟩, show ("__eq__" : Str) ∉ fl 5 by decide⟩
/-! Lattice_area -/
def g_Lattice_area : Sm := (qSeq (qRet (fBin mulT (fFld m_a (fVar 0)) (fFld m_d (fVar 0))))
    qNil)
def F_Lattice_area : List T → M T := fnS 0 g_Lattice_area
theorem sc_Lattice_area : FnScope ["self"] ["self"] (defScope s_Lattice_area) := ⟨rfl, rfl, rfl, by decide +kernel, rfl, by decide +kernel, by decide +kernel⟩
theorem run_Lattice_area (T : Tx base wd K mg) {f : Addr} {fd : FuncData} {dv : List V} {kw : List (Str × V)} (F : FunD K "area" "Lattice.area" (defArgs s_Lattice_area) (defBody s_Lattice_area) (defScope s_Lattice_area) dv kw f fd) : FnOk PW wd K mg base (L2.CX PW wd) 1 f fd ["self"] (spF (GG K mg) 1 (fnS 0 g_Lattice_area)) :=
  fn_run (G := GG K mg) (k := 0) F sc_Lattice_area rfl rfl fun cdv A outer s H E hr => by
    have B := bd_of (P := PW) (wd := wd) (G := GG K mg) (base := base) (cdv := cdv) (outer := outer) (H := H) (E := E) sc_Lattice_area hr
    exact (ss_cons (ss_ret (B.mul (B.fld m_a T.f_a (vr 0)) (B.fld m_d T.f_d (vr 0))))
    ss_nil)
theorem d_Lattice_area (T : Tx base wd K mg) : MethOk PW wd base (GG K mg) 1 5 "area" 1 [] F_Lattice_area := by
  obtain ⟨fd, F⟩ := T.D_Lattice_area
  exact ⟨⟨_, _, fd, ["self"], [], [], T.c_Lattice, T.k_Lattice, T.h_Lattice_area, run_Lattice_area T F, (F.bindsN fun _ _ _ _ _ _ us hl => match us, hl with | [_], _ => rfl), .nil, fun _ => .nil⟩, show ("area" : Str) ∉ fl 5 by decide⟩
/-! _law_spanned_right -/
def g__law_spanned_right : Sm := (qSeq (qSet 3 (fBin subT (fBin mulT (fIx (fVar 1) (fC (.int 0))) (fIx (fVar 2) (fC (.int 1)))) (fBin mulT (fIx (fVar 2) (fC (.int 0))) (fIx (fVar 1) (fC (.int 1))))))
    (qSeq (qIf (fCmpB eqT (fVar 3) (fC (.int 0))) (qSeq (qRet (fCmp eqT (fun env => heardS 2 hs__law_refused rest__law_refused ((fCall F_spanned [] [(fVar 1), (fVar 2)]) env)) (fLst [(fC (.str "so")), (fC (.str "parallel"))])))
    qNil) qNil)
    (qSeq (qSet 4 (fCall F_spanned [] [(fVar 1), (fVar 2)]))
    (qSeq (qIf (fOrB (fCmpB neT (fMeth 5 F_Lattice_area [] (fVar 4) []) (fBin max2T (fB1 intT (fVar 3)) (fB1 intT (fBin subT (fC (.int 0)) (fVar 3))))) (fToB (fun env => (fCall F_spanned [] [(fVar 2), (fVar 1)]) env >>= fun x => (fVar 4) env >>= fun y => own2n 5 F_Lattice_eq x y))) (qSeq (qRet (fC (.bl false)))
    qNil) qNil)
    (qSeq (qIf (fOrB (fToB (fun env => (fVar 1) env >>= fun x => (fVar 4) env >>= fun y => own2nc 5 F_Lattice_contains x y)) (fOrB (fToB (fun env => (fVar 2) env >>= fun x => (fVar 4) env >>= fun y => own2nc 5 F_Lattice_contains x y)) (fToB (fun env => (fTup [(fC (.int 0)), (fC (.int 0))]) env >>= fun x => (fVar 4) env >>= fun y => own2nc 5 F_Lattice_contains x y)))) (qSeq (qRet (fC (.bl false)))
    qNil) qNil)
    (qSeq (qFor (fRng1 (fC (.int 30))) (hName 5) (qSeq (qPar2 6 7 (fBin subT (fCall F__law_draw [] [(fVar 0), (fC (.int 25))]) (fC (.int 12))) (fBin subT (fCall F__law_draw [] [(fVar 0), (fC (.int 25))]) (fC (.int 12))))
    (qSeq (qIf (fCmpB eqT (fBin modT (fVar 5) (fC (.int 3))) (fC (.int 0))) (qSeq (qSet 8 (fTup [(fBin addT (fBin mulT (fIx (fVar 1) (fC (.int 0))) (fVar 6)) (fBin mulT (fIx (fVar 2) (fC (.int 0))) (fVar 7))), (fBin addT (fBin mulT (fIx (fVar 1) (fC (.int 1))) (fVar 6)) (fBin mulT (fIx (fVar 2) (fC (.int 1))) (fVar 7)))]))
    (qSeq (qAsg (fVar 8) (hTupL 2 (hCons (hName 6) (hCons (hName 7) hNil))))
    qNil)) qNil)
    (qSeq (qIf (fCmpB eqT (fBin modT (fVar 5) (fC (.int 3))) (fC (.int 1))) (qSeq (qPar2 6 7 (fBin addT (fVar 6) (fBin mulT (fBin powT (fC (.int 10)) (fC (.int 25))) (fVar 3))) (fBin subT (fVar 7) (fBin mulT (fBin powT (fC (.int 10)) (fC (.int 24))) (fVar 3))))
    qNil) qNil)
    (qSeq (qIf (fCmpB neT (fun env => (fTup [(fVar 6), (fVar 7)]) env >>= fun x => (fVar 4) env >>= fun y => own2c 5 F_Lattice_contains x y) (fCall F__law_is_sum [] [(fVar 1), (fVar 2), (fVar 6), (fVar 7)])) (qSeq (qRet (fC (.bl false)))
    qNil) qNil)
    qNil)))))
    (qSeq (qRet (fun env => (fCall F_spanned [] [(fTup [(fBin addT (fIx (fVar 1) (fC (.int 0))) (fIx (fVar 2) (fC (.int 0)))), (fBin addT (fIx (fVar 1) (fC (.int 1))) (fIx (fVar 2) (fC (.int 1))))]), (fTup [(fBin subT (fC (.int 0)) (fIx (fVar 2) (fC (.int 0)))), (fBin subT (fC (.int 0)) (fIx (fVar 2) (fC (.int 1))))])]) env >>= fun x => (fVar 4) env >>= fun y => own2s 5 F_Lattice_eq x y))
    qNil)))))))
def F__law_spanned_right : List T → M T := fnS 6 g__law_spanned_right
theorem sc__law_spanned_right : FnScope ["_law_pool", "_law_one", "_law_other", "_law_whole", "_law_lattice", "_law_step", "_law_x", "_law_y", "_law_near"] ["_law_pool", "_law_one", "_law_other"] (defScope s__law_spanned_right) := ⟨rfl, rfl, rfl, by decide +kernel, rfl, by decide +kernel, by decide +kernel⟩
theorem run__law_spanned_right (T : Tx base wd K mg) {fd : FuncData} {dv : List V} {kw : List (Str × V)} (F : FunD K "_law_spanned_right" "_law_spanned_right" (defArgs s__law_spanned_right) (defBody s__law_spanned_right) (defScope s__law_spanned_right) dv kw (ga K "_law_spanned_right") fd) : FnOk PW wd K mg base (L2.CX PW wd) 9 (ga K "_law_spanned_right") fd ["_law_pool", "_law_one", "_law_other"] (spF (GG K mg) 3 (fnS 6 g__law_spanned_right)) :=
  T.D__law_refused.elim fun fd__law_refused F_heard__law_refused =>
  fn_runC (G := GG K mg) (k := 8) F sc__law_spanned_right rfl rfl fun cdv A outer s H E ecd hr => by
    have B := bd_of (P := PW) (wd := wd) (G := GG K mg) (base := base) (cdv := cdv) (outer := outer) (H := H) (E := E) sc__law_spanned_right hr
    have hq : (cxB PW wd (GG K mg) base ["_law_pool", "_law_one", "_law_other", "_law_whole", "_law_lattice", "_law_step", "_law_x", "_law_y", "_law_near"] "_law_spanned_right" s__law_spanned_right (ga K "_law_spanned_right") cdv A outer s H E).env.qual = "_law_spanned_right" ++ ".<locals>." := rfl
    exact (ss_cons (B.set 3 (B.sub (B.mul (B.ix (k_of (vr 1)) s_int) (B.ix (k_of (vr 2)) s_int)) (B.mul (B.ix (k_of (vr 2)) s_int) (B.ix (k_of (vr 1)) s_int))))
    (ss_cons (ss_if (B.eqB (k_of (vr 3)) (k_of s_int)) (ss_cons (ss_ret (B.eq (k_of (s_lamQ (k := 6) ("_law_spanned_right" ++ ".<locals>.") B.eK B.eM rfl T.c__law_refused F_heard__law_refused (F_heard__law_refused.bindsN fun _ _ _ _ _ _ us hl => match us, hl with | [_], _ => rfl) sc__law_refused rfl (Or.inl rfl) rfl rfl (by decide) (fun _ _ _ => hg__law_refused T) (fun _ _ _ => hr__law_refused T) T.tb__law_spanned_right (ecd.trans T.cd__law_spanned_right) hq (tb_mem__law_spanned_right K) T.tb_nd (B.rm.mono (by decide)) (by kernel_rfl) B.tk (fun A2 outer2 s2 H2 E2 f2 c2 hr2 => by
      have B2 := bd_lam (j := 6) (E := E2) (outer := outer2) (s := s2) (H := H2) B.nd B.eK B.eM hr2
      exact (B2.call (d_spanned T) (a_cons (vr 1) (a_cons (vr 2) a_nil)))))) (k_of (s_lst (a_cons s_str (a_cons s_str a_nil))))))
    ss_nil) ss_nil)
    (ss_cons (B.set 4 (B.call (d_spanned T) (a_cons (vr 1) (a_cons (vr 2) a_nil))))
    (ss_cons (ss_if (w_t (w_or (B.neB (k_of (s_meth0 (d_Lattice_area T) B.eK B.eM B.tk B.rm (by decide) (vr 4))) (k_of (B.max2 T.m_max (B.int T.m_int (k_of (vr 3))) (B.int T.m_int (k_of (B.sub s_int (vr 3))))))) (w_or1 (b_ownN (d_Lattice_eq T) T.ne_Lattice B.eK B.eM B.rm (by decide) (B.call (d_spanned T) (a_cons (vr 2) (a_cons (vr 1) a_nil))) (vr 4) rfl)))) (ss_cons (ss_ret s_bl)
    ss_nil) ss_nil)
    (ss_cons (ss_if (w_t (w_or (b_ownNin (d_Lattice_contains T) B.eK B.eM B.rm (by decide) (vr 1) (vr 4) rfl) (w_or (b_ownNin (d_Lattice_contains T) B.eK B.eM B.rm (by decide) (vr 2) (vr 4) rfl) (w_or1 (b_ownNin (d_Lattice_contains T) B.eK B.eM B.rm (by decide) (s_tup (a_cons s_int (a_cons s_int a_nil))) (vr 4) rfl))))) (ss_cons (ss_ret s_bl)
    ss_nil) ss_nil)
    (ss_cons (ss_for po_of B.calm (i_range1 rfl (by rw [B.eM]; exact T.m_range) s_int) (B.nm 5) (ss_cons (B.par2 6 7 (a_cons (B.sub (B.call (d__law_draw T) (a_cons (vr 0) (a_cons s_int a_nil))) s_int) (a_cons (B.sub (B.call (d__law_draw T) (a_cons (vr 0) (a_cons s_int a_nil))) s_int) a_nil)))
    (ss_cons (ss_if (B.eqB (k_of (B.mod (vr 5) s_int)) (k_of s_int)) (ss_cons (B.set 8 (s_tup (a_cons (B.add (B.mul (B.ix (k_of (vr 1)) s_int) (vr 6)) (B.mul (B.ix (k_of (vr 2)) s_int) (vr 7))) (a_cons (B.add (B.mul (B.ix (k_of (vr 1)) s_int) (vr 6)) (B.mul (B.ix (k_of (vr 2)) s_int) (vr 7))) a_nil))))
    (ss_cons (ss_asg (vr 8) (B.tl 2 (gs_cons (B.nm 6) (gs_cons (B.nm 7) gs_nil))))
    ss_nil)) ss_nil)
    (ss_cons (ss_if (B.eqB (k_of (B.mod (vr 5) s_int)) (k_of s_int)) (ss_cons (B.par2 6 7 (a_cons (B.add (vr 6) (B.mul (B.pow s_int s_int) (vr 3))) (a_cons (B.sub (vr 7) (B.mul (B.pow s_int s_int) (vr 3))) a_nil)))
    ss_nil) ss_nil)
    (ss_cons (ss_if (B.neB (k_of (s_ownIn (d_Lattice_contains T) B.eK B.eM B.rm (by decide) (s_tup (a_cons (vr 6) (a_cons (vr 7) a_nil))) (vr 4) rfl)) (k_of (B.call (d__law_is_sum T) (a_cons (vr 1) (a_cons (vr 2) (a_cons (vr 6) (a_cons (vr 7) a_nil))))))) (ss_cons (ss_ret s_bl)
    ss_nil) ss_nil)
    ss_nil)))))
    (ss_cons (ss_ret (s_ownC (fun _ _ => rfl) (d_Lattice_eq T) B.eK B.eM B.rm (by decide) (B.call (d_spanned T) (a_cons (s_tup (a_cons (B.add (B.ix (k_of (vr 1)) s_int) (B.ix (k_of (vr 2)) s_int)) (a_cons (B.add (B.ix (k_of (vr 1)) s_int) (B.ix (k_of (vr 2)) s_int)) a_nil))) (a_cons (s_tup (a_cons (B.sub s_int (B.ix (k_of (vr 2)) s_int)) (a_cons (B.sub s_int (B.ix (k_of (vr 2)) s_int)) a_nil))) a_nil))) (vr 4) rfl))
    ss_nil)))))))
theorem d__law_spanned_right (T : Tx base wd K mg) : DefOk PW wd base (GG K mg) 9 "_law_spanned_right" 3 [] F__law_spanned_right := by
  obtain ⟨fd, F⟩ := T.D__law_spanned_right
  exact ⟨_, fd, ["_law_pool", "_law_one", "_law_other"], [], [], run__law_spanned_right T F, T.c__law_spanned_right, F.kp, (F.bindsN fun _ _ _ _ _ _ us hl => match us, hl with | [_, _, _], _ => rfl), .nil, fun _ => .nil⟩
/-! _law_three -/
def g__law_three : Sm := (qSeq (qSet 2 (fBin addT (fC (.int 1)) (fCall F__law_draw [] [(fVar 0), (fVar 1)])))
    (qSeq (qRet (fLst [(fVar 2), (fCall F__law_draw [] [(fVar 0), (fVar 2)]), (fBin addT (fC (.int 1)) (fCall F__law_draw [] [(fVar 0), (fVar 1)]))]))
    qNil))
def F__law_three : List T → M T := fnS 1 g__law_three
theorem sc__law_three : FnScope ["_law_pool", "_law_most", "_law_wide"] ["_law_pool", "_law_most"] (defScope s__law_three) := ⟨rfl, rfl, rfl, by decide +kernel, rfl, by decide +kernel, by decide +kernel⟩
theorem run__law_three (T : Tx base wd K mg) {f : Addr} {fd : FuncData} {dv : List V} {kw : List (Str × V)} (F : FunD K "_law_three" "_law_three" (defArgs s__law_three) (defBody s__law_three) (defScope s__law_three) dv kw f fd) : FnOk PW wd K mg base (L2.CX PW wd) 2 f fd ["_law_pool", "_law_most"] (spF (GG K mg) 2 (fnS 1 g__law_three)) :=
  fn_run (G := GG K mg) (k := 1) F sc__law_three rfl rfl fun cdv A outer s H E hr => by
    have B := bd_of (P := PW) (wd := wd) (G := GG K mg) (base := base) (cdv := cdv) (outer := outer) (H := H) (E := E) sc__law_three hr
    exact (ss_cons (B.set 2 (B.add s_int (B.call (d__law_draw T) (a_cons (vr 0) (a_cons (vr 1) a_nil)))))
    (ss_cons (ss_ret (s_lst (a_cons (vr 2) (a_cons (B.call (d__law_draw T) (a_cons (vr 0) (a_cons (vr 2) a_nil))) (a_cons (B.add s_int (B.call (d__law_draw T) (a_cons (vr 0) (a_cons (vr 1) a_nil)))) a_nil)))))
    ss_nil))
theorem d__law_three (T : Tx base wd K mg) : DefOk PW wd base (GG K mg) 2 "_law_three" 2 [] F__law_three := by
  obtain ⟨fd, F⟩ := T.D__law_three
  exact ⟨_, fd, ["_law_pool", "_law_most"], [], [], run__law_three T F, T.c__law_three, F.kp, (F.bindsN fun _ _ _ _ _ _ us hl => match us, hl with | [_, _], _ => rfl), .nil, fun _ => .nil⟩
/-! _law_place -/
def g__law_place : Sm := (qSeq (qAsg (fVar 0) (hTupL 3 (hCons (hName 3) (hCons (hName 4) (hCons (hName 5) hNil)))))
    (qSeq (qRet (fTup [(fBin modT (fBin subT (fVar 1) (fBin mulT (fVar 4) (fBin divT (fVar 2) (fVar 5)))) (fVar 3)), (fBin modT (fVar 2) (fVar 5))]))
    qNil))
def F__law_place : List T → M T := fnS 3 g__law_place
theorem sc__law_place : FnScope ["_law_three_here", "_law_x", "_law_y", "_law_wide", "_law_slant", "_law_high"] ["_law_three_here", "_law_x", "_law_y"] (defScope s__law_place) := ⟨rfl, rfl, rfl, by decide +kernel, rfl, by decide +kernel, by decide +kernel⟩
theorem run__law_place (T : Tx base wd K mg) {f : Addr} {fd : FuncData} {dv : List V} {kw : List (Str × V)} (F : FunD K "_law_place" "_law_place" (defArgs s__law_place) (defBody s__law_place) (defScope s__law_place) dv kw f fd) : FnOk PW wd K mg base (L2.CX PW wd) 1 f fd ["_law_three_here", "_law_x", "_law_y"] (spF (GG K mg) 3 (fnS 3 g__law_place)) :=
  fn_run (G := GG K mg) (k := 0) F sc__law_place rfl rfl fun cdv A outer s H E hr => by
    have B := bd_of (P := PW) (wd := wd) (G := GG K mg) (base := base) (cdv := cdv) (outer := outer) (H := H) (E := E) sc__law_place hr
    exact (ss_cons (ss_asg (vr 0) (B.tl 3 (gs_cons (B.nm 3) (gs_cons (B.nm 4) (gs_cons (B.nm 5) gs_nil)))))
    (ss_cons (ss_ret (s_tup (a_cons (B.mod (B.sub (vr 1) (B.mul (vr 4) (B.div (vr 2) (vr 5)))) (vr 3)) (a_cons (B.mod (vr 2) (vr 5)) a_nil))))
    ss_nil))
theorem d__law_place (T : Tx base wd K mg) : DefOk PW wd base (GG K mg) 1 "_law_place" 3 [] F__law_place := by
  obtain ⟨fd, F⟩ := T.D__law_place
  exact ⟨_, fd, ["_law_three_here", "_law_x", "_law_y"], [], [], run__law_place T F, T.c__law_place, F.kp, (F.bindsN fun _ _ _ _ _ _ us hl => match us, hl with | [_, _, _], _ => rfl), .nil, fun _ => .nil⟩
/-! _law_holds -/
def g__law_holds : Sm := (qSeq (qRet (fCmp eqT (fCall F__law_place [] [(fVar 0), (fVar 1), (fVar 2)]) (fTup [(fC (.int 0)), (fC (.int 0))])))
    qNil)
def F__law_holds : List T → M T := fnS 0 g__law_holds
theorem sc__law_holds : FnScope ["_law_three_here", "_law_x", "_law_y"] ["_law_three_here", "_law_x", "_law_y"] (defScope s__law_holds) := ⟨rfl, rfl, rfl, by decide +kernel, rfl, by decide +kernel, by decide +kernel⟩
theorem run__law_holds (T : Tx base wd K mg) {f : Addr} {fd : FuncData} {dv : List V} {kw : List (Str × V)} (F : FunD K "_law_holds" "_law_holds" (defArgs s__law_holds) (defBody s__law_holds) (defScope s__law_holds) dv kw f fd) : FnOk PW wd K mg base (L2.CX PW wd) 2 f fd ["_law_three_here", "_law_x", "_law_y"] (spF (GG K mg) 3 (fnS 0 g__law_holds)) :=
  fn_run (G := GG K mg) (k := 1) F sc__law_holds rfl rfl fun cdv A outer s H E hr => by
    have B := bd_of (P := PW) (wd := wd) (G := GG K mg) (base := base) (cdv := cdv) (outer := outer) (H := H) (E := E) sc__law_holds hr
    exact (ss_cons (ss_ret (B.eq (k_of (B.call (d__law_place T) (a_cons (vr 0) (a_cons (vr 1) (a_cons (vr 2) a_nil))))) (k_of (s_tup (a_cons s_int (a_cons s_int a_nil))))))
    ss_nil)
theorem d__law_holds (T : Tx base wd K mg) : DefOk PW wd base (GG K mg) 2 "_law_holds" 3 [] F__law_holds := by
  obtain ⟨fd, F⟩ := T.D__law_holds
  exact ⟨_, fd, ["_law_three_here", "_law_x", "_law_y"], [], [], run__law_holds T F, T.c__law_holds, F.kp, (F.bindsN fun _ _ _ _ _ _ us hl => match us, hl with | [_, _, _], _ => rfl), .nil, fun _ => .nil⟩
/-! is_remainder -/
def g_is_remainder : Sm := (qSeq (qRet (fAnd (fBin (isiT tab) (fVar 0) (fC (.ty "tuple"))) (fAnd (fCmp eqT (fB1 lenT (fVar 0)) (fC (.int 2))) (fAnd (fB1 allT (fOwn (fComp [1] (hName 1) fYes (fCall F_is_integer [] [(fVar 1)]) (fIter (fVar 0))))) (fCmp geT (fIx (fVar 0) (fC (.int 1))) (fC (.int 1)))))))
    qNil)
def F_is_remainder : List T → M T := fnS 1 g_is_remainder
theorem sc_is_remainder : FnScope ["value", "part"] ["value"] (defScope s_is_remainder) := ⟨rfl, rfl, rfl, by decide +kernel, rfl, by decide +kernel, by decide +kernel⟩
theorem run_is_remainder (T : Tx base wd K mg) {f : Addr} {fd : FuncData} {dv : List V} {kw : List (Str × V)} (F : FunD K "is_remainder" "is_remainder" (defArgs s_is_remainder) (defBody s_is_remainder) (defScope s_is_remainder) dv kw f fd) : FnOk PW wd K mg base (L2.CX PW wd) 2 f fd ["value"] (spF (GG K mg) 1 (fnS 1 g_is_remainder)) :=
  fn_run (G := GG K mg) (k := 1) F sc_is_remainder rfl rfl fun cdv A outer s H E hr => by
    have B := bd_of (P := PW) (wd := wd) (G := GG K mg) (base := base) (cdv := cdv) (outer := outer) (H := H) (E := E) sc_is_remainder hr
    exact (ss_cons (ss_ret (s_and (B.isi T.tab T.m_isinstance (vr 0) (B.ty "tuple" T.m_tuple)) (s_and (B.eq (k_of (B.len T.m_len (k_of (vr 0)))) (k_of s_int)) (s_and (B.all T.m_all (k_of (s_own (B.comp [("part", 1)] (i_seq B.eK (vr 0)) (fun _ _ _ _ _ => ((B.blk _ _ _ _ _).nm 1)) (fun _ _ _ _ _ => ts_nil) (fun _ _ _ _ _ => ((B.blk _ _ _ _ _).call (d_is_integer T) (a_cons (vr 1) a_nil))))))) (s_one (B.ge (k_of (B.ix (k_of (vr 0)) s_int)) (k_of s_int)))))))
    ss_nil)
theorem d_is_remainder (T : Tx base wd K mg) : DefOk PW wd base (GG K mg) 2 "is_remainder" 1 [] F_is_remainder := by
  obtain ⟨fd, F⟩ := T.D_is_remainder
  exact ⟨_, fd, ["value"], [], [], run_is_remainder T F, T.c_is_remainder, F.kp, (F.bindsN fun _ _ _ _ _ _ us hl => match us, hl with | [_], _ => rfl), .nil, fun _ => .nil⟩
/-! check_remainder -/
def g_check_remainder : Sm := (qSeq (qExpr (fCall F_check_integer [] [(fVar 0)]))
    (qSeq (qIf (fOrB (fNotB (fTru (fCall F_is_integer [] [(fVar 1)]))) (fCmpB ltT (fVar 1) (fC (.int 1)))) (qSeq (qRaise 1 (fVar 1))
    qNil) qNil)
    qNil))
def F_check_remainder : List T → M T := fnS 0 g_check_remainder
theorem sc_check_remainder : FnScope ["r", "p"] ["r", "p"] (defScope s_check_remainder) := ⟨rfl, rfl, rfl, by decide +kernel, rfl, by decide +kernel, by decide +kernel⟩
theorem run_check_remainder (T : Tx base wd K mg) {f : Addr} {fd : FuncData} {dv : List V} {kw : List (Str × V)} (F : FunD K "check_remainder" "check_remainder" (defArgs s_check_remainder) (defBody s_check_remainder) (defScope s_check_remainder) dv kw f fd) : FnOk PW wd K mg base (L2.CX PW wd) 4 f fd ["r", "p"] (spF (GG K mg) 2 (fnS 0 g_check_remainder)) :=
  fn_run (G := GG K mg) (k := 3) F sc_check_remainder rfl rfl fun cdv A outer s H E hr => by
    have B := bd_of (P := PW) (wd := wd) (G := GG K mg) (base := base) (cdv := cdv) (outer := outer) (H := H) (E := E) sc_check_remainder hr
    exact (ss_cons (ss_expr (B.call (d_check_integer T) (a_cons (vr 0) a_nil)))
    (ss_cons (ss_if (w_t (w_or (w_not (B.tru (B.call (d_is_integer T) (a_cons (vr 1) a_nil)))) (w_or1 (B.ltB (k_of (vr 1)) (k_of s_int))))) (ss_cons (ss_raise B.calm B.eK B.eM B.tk B.rm (by decide) T.x_BadNumber rfl (vr 1) rfl)
    ss_nil) ss_nil)
    ss_nil))
theorem d_check_remainder (T : Tx base wd K mg) : DefOk PW wd base (GG K mg) 4 "check_remainder" 2 [] F_check_remainder := by
  obtain ⟨fd, F⟩ := T.D_check_remainder
  exact ⟨_, fd, ["r", "p"], [], [], run_check_remainder T F, T.c_check_remainder, F.kp, (F.bindsN fun _ _ _ _ _ _ us hl => match us, hl with | [_, _], _ => rfl), .nil, fun _ => .nil⟩
/-! inverse -/
def g_inverse : Sm := (qSeq (qAsg (fTup [(fVar 1), (fBin modT (fB1 intT (fVar 0)) (fVar 1)), (fC (.int 0)), (fC (.int 1))]) (hTupL 4 (hCons (hName 2) (hCons (hName 3) (hCons (hName 4) (hCons (hName 5) hNil))))))
    (qSeq (qWhile (fuI 3) (fCmpB neT (fVar 3) (fC (.int 0))) (qSeq (qSet 6 (fBin divT (fB1 intT (fVar 2)) (fVar 3)))
    (qSeq (qAsg (fTup [(fVar 3), (fBin subT (fVar 2) (fBin mulT (fVar 6) (fVar 3))), (fVar 5), (fBin subT (fVar 4) (fBin mulT (fVar 6) (fVar 5)))]) (hTupL 4 (hCons (hName 2) (hCons (hName 3) (hCons (hName 4) (hCons (hName 5) hNil))))))
    qNil)))
    (qSeq (qRet (fBin modT (fB1 intT (fVar 4)) (fVar 1)))
    qNil)))
def F_inverse : List T → M T := fnS 5 g_inverse
theorem sc_inverse : FnScope ["number", "modulus", "left", "rest", "near", "far", "times"] ["number", "modulus"] (defScope s_inverse) := ⟨rfl, rfl, rfl, by decide +kernel, rfl, by decide +kernel, by decide +kernel⟩
theorem run_inverse (T : Tx base wd K mg) {f : Addr} {fd : FuncData} {dv : List V} {kw : List (Str × V)} (F : FunD K "inverse" "inverse" (defArgs s_inverse) (defBody s_inverse) (defScope s_inverse) dv kw f fd) : FnOk PW wd K mg base (L2.CX PW wd) 1 f fd ["number", "modulus"] (spF (GG K mg) 2 (fnS 5 g_inverse)) :=
  fn_run (G := GG K mg) (k := 0) F sc_inverse rfl rfl fun cdv A outer s H E hr => by
    have B := bd_of (P := PW) (wd := wd) (G := GG K mg) (base := base) (cdv := cdv) (outer := outer) (H := H) (E := E) sc_inverse hr
    exact (ss_cons (ss_asg (s_tup (a_cons (vr 1) (a_cons (B.mod (B.int T.m_int (k_of (vr 0))) (vr 1)) (a_cons s_int (a_cons s_int a_nil))))) (B.tl 4 (gs_cons (B.nm 2) (gs_cons (B.nm 3) (gs_cons (B.nm 4) (gs_cons (B.nm 5) gs_nil))))))
    (ss_cons (ss_while (fuI 3) po_of (B.neB (k_of (vr 3)) (k_of s_int)) (ss_cons (B.set 6 (B.div (B.int T.m_int (k_of (vr 2))) (vr 3)))
    (ss_cons (ss_asg (s_tup (a_cons (vr 3) (a_cons (B.sub (vr 2) (B.mul (vr 6) (vr 3))) (a_cons (vr 5) (a_cons (B.sub (vr 4) (B.mul (vr 6) (vr 5))) a_nil))))) (B.tl 4 (gs_cons (B.nm 2) (gs_cons (B.nm 3) (gs_cons (B.nm 4) (gs_cons (B.nm 5) gs_nil))))))
    ss_nil)))
    (ss_cons (ss_ret (B.mod (B.int T.m_int (k_of (vr 4))) (vr 1)))
    ss_nil)))
theorem d_inverse (T : Tx base wd K mg) : DefOk PW wd base (GG K mg) 1 "inverse" 2 [] F_inverse := by
  obtain ⟨fd, F⟩ := T.D_inverse
  exact ⟨_, fd, ["number", "modulus"], [], [], run_inverse T F, T.c_inverse, F.kp, (F.bindsN fun _ _ _ _ _ _ us hl => match us, hl with | [_, _], _ => rfl), .nil, fun _ => .nil⟩
/-! remainder_of -/
def g_remainder_of : Sm := (qSeq (qExpr (fCall F_check_integer [] [(fVar 0)]))
    (qSeq (qExpr (fCall F_check_integer [] [(fVar 1)]))
    (qSeq (qExpr (fCall F_check_remainder [] [(fVar 2), (fVar 3)]))
    (qSeq (qSet 4 (fCall F_greatest_divisor [] [(fVar 1), (fVar 3)]))
    (qSeq (qIf (fCmpB neT (fBin modT (fB1 intT (fBin subT (fVar 2) (fVar 0))) (fVar 4)) (fC (.int 0))) (qSeq (qRet (fC .non))
    qNil) qNil)
    (qSeq (qSet 5 (fBin divT (fB1 intT (fVar 3)) (fVar 4)))
    (qSeq (qRet (fTup [(fBin modT (fB1 intT (fBin mulT (fBin divT (fB1 intT (fBin subT (fVar 2) (fVar 0))) (fVar 4)) (fCall F_inverse [] [(fBin divT (fB1 intT (fVar 1)) (fVar 4)), (fVar 5)]))) (fVar 5)), (fVar 5)]))
    qNil)))))))
def F_remainder_of : List T → M T := fnS 2 g_remainder_of
theorem sc_remainder_of : FnScope ["a", "b", "r", "p", "divisor", "modulus"] ["a", "b", "r", "p"] (defScope s_remainder_of) := ⟨rfl, rfl, rfl, by decide +kernel, rfl, by decide +kernel, by decide +kernel⟩
theorem run_remainder_of (T : Tx base wd K mg) {f : Addr} {fd : FuncData} {dv : List V} {kw : List (Str × V)} (F : FunD K "remainder_of" "remainder_of" (defArgs s_remainder_of) (defBody s_remainder_of) (defScope s_remainder_of) dv kw f fd) : FnOk PW wd K mg base (L2.CX PW wd) 5 f fd ["a", "b", "r", "p"] (spF (GG K mg) 4 (fnS 2 g_remainder_of)) :=
  fn_run (G := GG K mg) (k := 4) F sc_remainder_of rfl rfl fun cdv A outer s H E hr => by
    have B := bd_of (P := PW) (wd := wd) (G := GG K mg) (base := base) (cdv := cdv) (outer := outer) (H := H) (E := E) sc_remainder_of hr
    exact (ss_cons (ss_expr (B.call (d_check_integer T) (a_cons (vr 0) a_nil)))
    (ss_cons (ss_expr (B.call (d_check_integer T) (a_cons (vr 1) a_nil)))
    (ss_cons (ss_expr (B.call (d_check_remainder T) (a_cons (vr 2) (a_cons (vr 3) a_nil))))
    (ss_cons (B.set 4 (B.call (d_greatest_divisor T) (a_cons (vr 1) (a_cons (vr 3) a_nil))))
    (ss_cons (ss_if (B.neB (k_of (B.mod (B.int T.m_int (k_of (B.sub (vr 2) (vr 0)))) (vr 4))) (k_of s_int)) (ss_cons (ss_ret s_non)
    ss_nil) ss_nil)
    (ss_cons (B.set 5 (B.div (B.int T.m_int (k_of (vr 3))) (vr 4)))
    (ss_cons (ss_ret (s_tup (a_cons (B.mod (B.int T.m_int (k_of (B.mul (B.div (B.int T.m_int (k_of (B.sub (vr 2) (vr 0)))) (vr 4)) (B.call (d_inverse T) (a_cons (B.div (B.int T.m_int (k_of (vr 1))) (vr 4)) (a_cons (vr 5) a_nil)))))) (vr 5)) (a_cons (vr 5) a_nil))))
    ss_nil)))))))
theorem d_remainder_of (T : Tx base wd K mg) : DefOk PW wd base (GG K mg) 5 "remainder_of" 4 [] F_remainder_of := by
  obtain ⟨fd, F⟩ := T.D_remainder_of
  exact ⟨_, fd, ["a", "b", "r", "p"], [], [], run_remainder_of T F, T.c_remainder_of, F.kp, (F.bindsN fun _ _ _ _ _ _ us hl => match us, hl with | [_, _, _, _], _ => rfl), .nil, fun _ => .nil⟩
/-! both_remainders -/
def g_both_remainders : Sm := (qSeq (qIf (fOrB (fNotB (fTru (fCall F_is_remainder [] [(fVar 0)]))) (fNotB (fTru (fCall F_is_remainder [] [(fVar 1)])))) (qSeq (qRaise 0 (fC (.str "remainder")))
    qNil) qNil)
    (qSeq (qSet 2 (fCall F_remainder_of [] [(fIx (fVar 0) (fC (.int 0))), (fIx (fVar 0) (fC (.int 1))), (fIx (fVar 1) (fC (.int 0))), (fIx (fVar 1) (fC (.int 1)))]))
    (qSeq (qIf (fCmpB isT (fVar 2) (fC .non)) (qSeq (qRet (fC .non))
    qNil) qNil)
    (qSeq (qSet 3 (fBin mulT (fIx (fVar 0) (fC (.int 1))) (fIx (fVar 2) (fC (.int 1)))))
    (qSeq (qRet (fTup [(fBin modT (fB1 intT (fBin addT (fIx (fVar 0) (fC (.int 0))) (fBin mulT (fIx (fVar 0) (fC (.int 1))) (fIx (fVar 2) (fC (.int 0)))))) (fVar 3)), (fVar 3)]))
    qNil)))))
def F_both_remainders : List T → M T := fnS 2 g_both_remainders
theorem sc_both_remainders : FnScope ["one", "other", "found", "modulus"] ["one", "other"] (defScope s_both_remainders) := ⟨rfl, rfl, rfl, by decide +kernel, rfl, by decide +kernel, by decide +kernel⟩
theorem run_both_remainders (T : Tx base wd K mg) {f : Addr} {fd : FuncData} {dv : List V} {kw : List (Str × V)} (F : FunD K "both_remainders" "both_remainders" (defArgs s_both_remainders) (defBody s_both_remainders) (defScope s_both_remainders) dv kw f fd) : FnOk PW wd K mg base (L2.CX PW wd) 6 f fd ["one", "other"] (spF (GG K mg) 2 (fnS 2 g_both_remainders)) :=
  fn_run (G := GG K mg) (k := 5) F sc_both_remainders rfl rfl fun cdv A outer s H E hr => by
    have B := bd_of (P := PW) (wd := wd) (G := GG K mg) (base := base) (cdv := cdv) (outer := outer) (H := H) (E := E) sc_both_remainders hr
    exact (ss_cons (ss_if (w_t (w_or (w_not (B.tru (B.call (d_is_remainder T) (a_cons (vr 0) a_nil)))) (w_or1 (w_not (B.tru (B.call (d_is_remainder T) (a_cons (vr 1) a_nil))))))) (ss_cons (ss_raise B.calm B.eK B.eM B.tk B.rm (by decide) T.x_BadPart rfl s_str rfl)
    ss_nil) ss_nil)
    (ss_cons (B.set 2 (B.call (d_remainder_of T) (a_cons (B.ix (k_of (vr 0)) s_int) (a_cons (B.ix (k_of (vr 0)) s_int) (a_cons (B.ix (k_of (vr 1)) s_int) (a_cons (B.ix (k_of (vr 1)) s_int) a_nil))))))
    (ss_cons (ss_if (B.isB (k_of (vr 2)) (k_of s_non)) (ss_cons (ss_ret s_non)
    ss_nil) ss_nil)
    (ss_cons (B.set 3 (B.mul (B.ix (k_of (vr 0)) s_int) (B.ix (k_of (vr 2)) s_int)))
    (ss_cons (ss_ret (s_tup (a_cons (B.mod (B.int T.m_int (k_of (B.add (B.ix (k_of (vr 0)) s_int) (B.mul (B.ix (k_of (vr 0)) s_int) (B.ix (k_of (vr 2)) s_int))))) (vr 3)) (a_cons (vr 3) a_nil))))
    ss_nil)))))
theorem d_both_remainders (T : Tx base wd K mg) : DefOk PW wd base (GG K mg) 6 "both_remainders" 2 [] F_both_remainders := by
  obtain ⟨fd, F⟩ := T.D_both_remainders
  exact ⟨_, fd, ["one", "other"], [], [], run_both_remainders T F, T.c_both_remainders, F.kp, (F.bindsN fun _ _ _ _ _ _ us hl => match us, hl with | [_, _], _ => rfl), .nil, fun _ => .nil⟩
/-! check_lattice -/
def g_check_lattice : Sm := (qSeq (qIf (fNotB (fTru (fBin (isiT tab) (fVar 0) (fC (.cl 5))))) (qSeq (qRaise 0 (fC (.str "lattice")))
    qNil) qNil)
    qNil)
def F_check_lattice : List T → M T := fnS 0 g_check_lattice
theorem sc_check_lattice : FnScope ["value"] ["value"] (defScope s_check_lattice) := ⟨rfl, rfl, rfl, by decide +kernel, rfl, by decide +kernel, by decide +kernel⟩
theorem run_check_lattice (T : Tx base wd K mg) {f : Addr} {fd : FuncData} {dv : List V} {kw : List (Str × V)} (F : FunD K "check_lattice" "check_lattice" (defArgs s_check_lattice) (defBody s_check_lattice) (defScope s_check_lattice) dv kw f fd) : FnOk PW wd K mg base (L2.CX PW wd) 3 f fd ["value"] (spF (GG K mg) 1 (fnS 0 g_check_lattice)) :=
  fn_run (G := GG K mg) (k := 2) F sc_check_lattice rfl rfl fun cdv A outer s H E hr => by
    have B := bd_of (P := PW) (wd := wd) (G := GG K mg) (base := base) (cdv := cdv) (outer := outer) (H := H) (E := E) sc_check_lattice hr
    exact (ss_cons (ss_if (w_not (B.tru (B.isi T.tab T.m_isinstance (vr 0) (B.cls 5 T.c_Lattice)))) (ss_cons (ss_raise B.calm B.eK B.eM B.tk B.rm (by decide) T.x_BadPart rfl s_str rfl)
    ss_nil) ss_nil)
    ss_nil)
theorem d_check_lattice (T : Tx base wd K mg) : DefOk PW wd base (GG K mg) 3 "check_lattice" 1 [] F_check_lattice := by
  obtain ⟨fd, F⟩ := T.D_check_lattice
  exact ⟨_, fd, ["value"], [], [], run_check_lattice T F, T.c_check_lattice, F.kp, (F.bindsN fun _ _ _ _ _ _ us hl => match us, hl with | [_], _ => rfl), .nil, fun _ => .nil⟩
/-! least_multiple -/
def g_least_multiple : Sm := (qSeq (qFor (fIter (fTup [(fVar 0), (fVar 1)])) (hName 2) (qSeq (qIf (fOrB (fNotB (fTru (fCall F_is_integer [] [(fVar 2)]))) (fCmpB ltT (fVar 2) (fC (.int 1)))) (qSeq (qRaise 1 (fVar 2))
    qNil) qNil)
    qNil))
    (qSeq (qRet (fBin divT (fBin mulT (fVar 0) (fB1 intT (fVar 1))) (fCall F_greatest_divisor [] [(fVar 0), (fVar 1)])))
    qNil))
def F_least_multiple : List T → M T := fnS 1 g_least_multiple
theorem sc_least_multiple : FnScope ["one", "other", "number"] ["one", "other"] (defScope s_least_multiple) := ⟨rfl, rfl, rfl, by decide +kernel, rfl, by decide +kernel, by decide +kernel⟩
theorem run_least_multiple (T : Tx base wd K mg) {f : Addr} {fd : FuncData} {dv : List V} {kw : List (Str × V)} (F : FunD K "least_multiple" "least_multiple" (defArgs s_least_multiple) (defBody s_least_multiple) (defScope s_least_multiple) dv kw f fd) : FnOk PW wd K mg base (L2.CX PW wd) 5 f fd ["one", "other"] (spF (GG K mg) 2 (fnS 1 g_least_multiple)) :=
  fn_run (G := GG K mg) (k := 4) F sc_least_multiple rfl rfl fun cdv A outer s H E hr => by
    have B := bd_of (P := PW) (wd := wd) (G := GG K mg) (base := base) (cdv := cdv) (outer := outer) (H := H) (E := E) sc_least_multiple hr
    exact (ss_cons (ss_for po_of B.calm (i_seq B.eK (s_tup (a_cons (vr 0) (a_cons (vr 1) a_nil)))) (B.nm 2) (ss_cons (ss_if (w_t (w_or (w_not (B.tru (B.call (d_is_integer T) (a_cons (vr 2) a_nil)))) (w_or1 (B.ltB (k_of (vr 2)) (k_of s_int))))) (ss_cons (ss_raise B.calm B.eK B.eM B.tk B.rm (by decide) T.x_BadNumber rfl (vr 2) rfl)
    ss_nil) ss_nil)
    ss_nil))
    (ss_cons (ss_ret (B.div (B.mul (vr 0) (B.int T.m_int (k_of (vr 1)))) (B.call (d_greatest_divisor T) (a_cons (vr 0) (a_cons (vr 1) a_nil)))))
    ss_nil))
theorem d_least_multiple (T : Tx base wd K mg) : DefOk PW wd base (GG K mg) 5 "least_multiple" 2 [] F_least_multiple := by
  obtain ⟨fd, F⟩ := T.D_least_multiple
  exact ⟨_, fd, ["one", "other"], [], [], run_least_multiple T F, T.c_least_multiple, F.kp, (F.bindsN fun _ _ _ _ _ _ us hl => match us, hl with | [_, _], _ => rfl), .nil, fun _ => .nil⟩
/-! common_lattice -/
def g_common_lattice : Sm := (qSeq (qExpr (fCall F_check_lattice [] [(fVar 0)]))
    (qSeq (qExpr (fCall F_check_lattice [] [(fVar 1)]))
    (qSeq (qSet 2 (fCall F_least_multiple [] [(fFld m_d (fVar 0)), (fFld m_d (fVar 1))]))
    (qSeq (qPar2 3 4 (fBin mulT (fBin divT (fVar 2) (fFld m_d (fVar 0))) (fFld m_b (fVar 0))) (fBin mulT (fBin divT (fVar 2) (fFld m_d (fVar 1))) (fFld m_b (fVar 1))))
    (qSeq (qSet 5 (fCall F_greatest_divisor [] [(fFld m_a (fVar 0)), (fFld m_a (fVar 1))]))
    (qSeq (qSet 6 (fBin divT (fVar 5) (fCall F_greatest_divisor [] [(fVar 5), (fBin subT (fVar 3) (fVar 4))])))
    (qSeq (qSet 7 (fCall F_both_remainders [] [(fTup [(fBin mulT (fVar 6) (fVar 3)), (fFld m_a (fVar 0))]), (fTup [(fBin mulT (fVar 6) (fVar 4)), (fFld m_a (fVar 1))])]))
    (qSeq (qRet (fMake 5 F_Lattice_init [] [(fIx (fVar 7) (fC (.int 1))), (fIx (fVar 7) (fC (.int 0))), (fBin mulT (fVar 6) (fVar 2))]))
    qNil))))))))
def F_common_lattice : List T → M T := fnS 6 g_common_lattice
theorem sc_common_lattice : FnScope ["one", "other", "up", "first", "second", "share", "many", "found"] ["one", "other"] (defScope s_common_lattice) := ⟨rfl, rfl, rfl, by decide +kernel, rfl, by decide +kernel, by decide +kernel⟩
theorem run_common_lattice (T : Tx base wd K mg) {f : Addr} {fd : FuncData} {dv : List V} {kw : List (Str × V)} (F : FunD K "common_lattice" "common_lattice" (defArgs s_common_lattice) (defBody s_common_lattice) (defScope s_common_lattice) dv kw f fd) : FnOk PW wd K mg base (L2.CX PW wd) 7 f fd ["one", "other"] (spF (GG K mg) 2 (fnS 6 g_common_lattice)) :=
  fn_run (G := GG K mg) (k := 6) F sc_common_lattice rfl rfl fun cdv A outer s H E hr => by
    have B := bd_of (P := PW) (wd := wd) (G := GG K mg) (base := base) (cdv := cdv) (outer := outer) (H := H) (E := E) sc_common_lattice hr
    exact (ss_cons (ss_expr (B.call (d_check_lattice T) (a_cons (vr 0) a_nil)))
    (ss_cons (ss_expr (B.call (d_check_lattice T) (a_cons (vr 1) a_nil)))
    (ss_cons (B.set 2 (B.call (d_least_multiple T) (a_cons (B.fld m_d T.f_d (vr 0)) (a_cons (B.fld m_d T.f_d (vr 1)) a_nil))))
    (ss_cons (B.par2 3 4 (a_cons (B.mul (B.div (vr 2) (B.fld m_d T.f_d (vr 0))) (B.fld m_b T.f_b (vr 0))) (a_cons (B.mul (B.div (vr 2) (B.fld m_d T.f_d (vr 1))) (B.fld m_b T.f_b (vr 1))) a_nil)))
    (ss_cons (B.set 5 (B.call (d_greatest_divisor T) (a_cons (B.fld m_a T.f_a (vr 0)) (a_cons (B.fld m_a T.f_a (vr 1)) a_nil))))
    (ss_cons (B.set 6 (B.div (vr 5) (B.call (d_greatest_divisor T) (a_cons (vr 5) (a_cons (B.sub (vr 3) (vr 4)) a_nil)))))
    (ss_cons (B.set 7 (B.call (d_both_remainders T) (a_cons (s_tup (a_cons (B.mul (vr 6) (vr 3)) (a_cons (B.fld m_a T.f_a (vr 0)) a_nil))) (a_cons (s_tup (a_cons (B.mul (vr 6) (vr 4)) (a_cons (B.fld m_a T.f_a (vr 1)) a_nil))) a_nil))))
    (ss_cons (ss_ret (B.make (d_Lattice_init T) (a_cons (B.ix (k_of (vr 7)) s_int) (a_cons (B.ix (k_of (vr 7)) s_int) (a_cons (B.mul (vr 6) (vr 2)) a_nil)))))
    ss_nil))))))))
theorem d_common_lattice (T : Tx base wd K mg) : DefOk PW wd base (GG K mg) 7 "common_lattice" 2 [] F_common_lattice := by
  obtain ⟨fd, F⟩ := T.D_common_lattice
  exact ⟨_, fd, ["one", "other"], [], [], run_common_lattice T F, T.c_common_lattice, F.kp, (F.bindsN fun _ _ _ _ _ _ us hl => match us, hl with | [_, _], _ => rfl), .nil, fun _ => .nil⟩
/-! with_shift -/
def g_with_shift : Sm := (qSeq (qAsg (fVar 1) (hTupL 2 (hCons (hName 2) (hCons (hName 3) hNil))))
    (qSeq (qSet 4 (fCall F_greatest_divisor [] [(fFld m_d (fVar 0)), (fVar 3)]))
    (qSeq (qAsg (fCall F_divisor_sum [] [(fFld m_d (fVar 0)), (fVar 3)]) (hTupL 2 (hCons (hName 5) (hCons (hName 6) hNil))))
    (qSeq (qSet 7 (fCall F_greatest_divisor [] [(fFld m_a (fVar 0)), (fBin divT (fB1 intT (fBin subT (fBin mulT (fVar 3) (fFld m_b (fVar 0))) (fBin mulT (fFld m_d (fVar 0)) (fVar 2)))) (fVar 4))]))
    (qSeq (qRet (fMake 5 F_Lattice_init [] [(fVar 7), (fBin modT (fB1 intT (fBin addT (fBin mulT (fVar 5) (fFld m_b (fVar 0))) (fBin mulT (fVar 6) (fVar 2)))) (fVar 7)), (fVar 4)]))
    qNil)))))
def F_with_shift : List T → M T := fnS 6 g_with_shift
theorem sc_with_shift : FnScope ["lattice", "shift", "x", "y", "d", "u", "v", "a"] ["lattice", "shift"] (defScope s_with_shift) := ⟨rfl, rfl, rfl, by decide +kernel, rfl, by decide +kernel, by decide +kernel⟩
theorem run_with_shift (T : Tx base wd K mg) {f : Addr} {fd : FuncData} {dv : List V} {kw : List (Str × V)} (F : FunD K "with_shift" "with_shift" (defArgs s_with_shift) (defBody s_with_shift) (defScope s_with_shift) dv kw f fd) : FnOk PW wd K mg base (L2.CX PW wd) 6 f fd ["lattice", "shift"] (spF (GG K mg) 2 (fnS 6 g_with_shift)) :=
  fn_run (G := GG K mg) (k := 5) F sc_with_shift rfl rfl fun cdv A outer s H E hr => by
    have B := bd_of (P := PW) (wd := wd) (G := GG K mg) (base := base) (cdv := cdv) (outer := outer) (H := H) (E := E) sc_with_shift hr
    exact (ss_cons (ss_asg (vr 1) (B.tl 2 (gs_cons (B.nm 2) (gs_cons (B.nm 3) gs_nil))))
    (ss_cons (B.set 4 (B.call (d_greatest_divisor T) (a_cons (B.fld m_d T.f_d (vr 0)) (a_cons (vr 3) a_nil))))
    (ss_cons (ss_asg (B.call (d_divisor_sum T) (a_cons (B.fld m_d T.f_d (vr 0)) (a_cons (vr 3) a_nil))) (B.tl 2 (gs_cons (B.nm 5) (gs_cons (B.nm 6) gs_nil))))
    (ss_cons (B.set 7 (B.call (d_greatest_divisor T) (a_cons (B.fld m_a T.f_a (vr 0)) (a_cons (B.div (B.int T.m_int (k_of (B.sub (B.mul (vr 3) (B.fld m_b T.f_b (vr 0))) (B.mul (B.fld m_d T.f_d (vr 0)) (vr 2))))) (vr 4)) a_nil))))
    (ss_cons (ss_ret (B.make (d_Lattice_init T) (a_cons (vr 7) (a_cons (B.mod (B.int T.m_int (k_of (B.add (B.mul (vr 5) (B.fld m_b T.f_b (vr 0))) (B.mul (vr 6) (vr 2))))) (vr 7)) (a_cons (vr 4) a_nil)))))
    ss_nil)))))
theorem d_with_shift (T : Tx base wd K mg) : DefOk PW wd base (GG K mg) 6 "with_shift" 2 [] F_with_shift := by
  obtain ⟨fd, F⟩ := T.D_with_shift
  exact ⟨_, fd, ["lattice", "shift"], [], [], run_with_shift T F, T.c_with_shift, F.kp, (F.bindsN fun _ _ _ _ _ _ us hl => match us, hl with | [_, _], _ => rfl), .nil, fun _ => .nil⟩
/-! joined_lattice -/
def g_joined_lattice : Sm := (qSeq (qExpr (fCall F_check_lattice [] [(fVar 0)]))
    (qSeq (qExpr (fCall F_check_lattice [] [(fVar 1)]))
    (qSeq (qRet (fCall F_with_shift [] [(fCall F_with_shift [] [(fVar 0), (fTup [(fFld m_a (fVar 1)), (fC (.int 0))])]), (fTup [(fFld m_b (fVar 1)), (fFld m_d (fVar 1))])]))
    qNil)))
def F_joined_lattice : List T → M T := fnS 0 g_joined_lattice
theorem sc_joined_lattice : FnScope ["one", "other"] ["one", "other"] (defScope s_joined_lattice) := ⟨rfl, rfl, rfl, by decide +kernel, rfl, by decide +kernel, by decide +kernel⟩
theorem run_joined_lattice (T : Tx base wd K mg) {f : Addr} {fd : FuncData} {dv : List V} {kw : List (Str × V)} (F : FunD K "joined_lattice" "joined_lattice" (defArgs s_joined_lattice) (defBody s_joined_lattice) (defScope s_joined_lattice) dv kw f fd) : FnOk PW wd K mg base (L2.CX PW wd) 7 f fd ["one", "other"] (spF (GG K mg) 2 (fnS 0 g_joined_lattice)) :=
  fn_run (G := GG K mg) (k := 6) F sc_joined_lattice rfl rfl fun cdv A outer s H E hr => by
    have B := bd_of (P := PW) (wd := wd) (G := GG K mg) (base := base) (cdv := cdv) (outer := outer) (H := H) (E := E) sc_joined_lattice hr
    exact (ss_cons (ss_expr (B.call (d_check_lattice T) (a_cons (vr 0) a_nil)))
    (ss_cons (ss_expr (B.call (d_check_lattice T) (a_cons (vr 1) a_nil)))
    (ss_cons (ss_ret (B.call (d_with_shift T) (a_cons (B.call (d_with_shift T) (a_cons (vr 0) (a_cons (s_tup (a_cons (B.fld m_a T.f_a (vr 1)) (a_cons s_int a_nil))) a_nil))) (a_cons (s_tup (a_cons (B.fld m_b T.f_b (vr 1)) (a_cons (B.fld m_d T.f_d (vr 1)) a_nil))) a_nil))))
    ss_nil)))
theorem d_joined_lattice (T : Tx base wd K mg) : DefOk PW wd base (GG K mg) 7 "joined_lattice" 2 [] F_joined_lattice := by
  obtain ⟨fd, F⟩ := T.D_joined_lattice
  exact ⟨_, fd, ["one", "other"], [], [], run_joined_lattice T F, T.c_joined_lattice, F.kp, (F.bindsN fun _ _ _ _ _ _ us hl => match us, hl with | [_, _], _ => rfl), .nil, fun _ => .nil⟩
/-! Lattice_le -/
def g_Lattice_le : Sm := (qSeq (qRet (fAnd (fBin (isiT tab) (fVar 1) (fC (.cl 5))) (fAnd (fun env => (fTup [(fFld m_a (fVar 0)), (fC (.int 0))]) env >>= fun x => (fVar 1) env >>= fun y => own2c 5 F_Lattice_contains x y) (fun env => (fTup [(fFld m_b (fVar 0)), (fFld m_d (fVar 0))]) env >>= fun x => (fVar 1) env >>= fun y => own2c 5 F_Lattice_contains x y))))
    qNil)
def F_Lattice_le : List T → M T := fnS 0 g_Lattice_le
theorem sc_Lattice_le : FnScope ["self", "other"] ["self", "other"] (defScope s_Lattice_le) := ⟨rfl, rfl, rfl, by decide +kernel, rfl, by decide +kernel, by decide +kernel⟩
theorem run_Lattice_le (T : Tx base wd K mg) {f : Addr} {fd : FuncData} {dv : List V} {kw : List (Str × V)} (F : FunD K "__le__" "Lattice.__le__" (defArgs s_Lattice_le) (defBody s_Lattice_le) (defScope s_Lattice_le) dv kw f fd) : FnOk PW wd K mg base (L2.CX PW wd) 6 f fd ["self", "other"] (spF (GG K mg) 2 (fnS 0 g_Lattice_le)) :=
  fn_run (G := GG K mg) (k := 5) F sc_Lattice_le rfl rfl fun cdv A outer s H E hr => by
    have B := bd_of (P := PW) (wd := wd) (G := GG K mg) (base := base) (cdv := cdv) (outer := outer) (H := H) (E := E) sc_Lattice_le hr
    exact (ss_cons (ss_ret (s_and (B.isi T.tab T.m_isinstance (vr 1) (B.cls 5 T.c_Lattice)) (s_and (s_ownIn (d_Lattice_contains T) B.eK B.eM B.rm (by decide) (s_tup (a_cons (B.fld m_a T.f_a (vr 0)) (a_cons s_int a_nil))) (vr 1) rfl) (s_one (s_ownIn (d_Lattice_contains T) B.eK B.eM B.rm (by decide) (s_tup (a_cons (B.fld m_b T.f_b (vr 0)) (a_cons (B.fld m_d T.f_d (vr 0)) a_nil))) (vr 1) rfl)))))
    ss_nil)
theorem d_Lattice_le (T : Tx base wd K mg) : MethOk PW wd base (GG K mg) 6 5 "__le__" 2 [] F_Lattice_le := by
  obtain ⟨fd, F⟩ := T.D_Lattice_le
  exact ⟨⟨_, _, fd, ["self", "other"], [], [], T.c_Lattice, T.k_Lattice, T.h_Lattice_le, run_Lattice_le T F, (F.bindsN fun _ _ _ _ _ _ us hl => match us, hl with | [_, _], _ => rfl), .nil, fun _ => .nil⟩, show ("__le__" : Str) ∉ fl 5 by decide⟩
/-! _law_two_right -/
def g__law_two_right : Sm := (qSeq (qPar2 3 4 (fMake 5 F_Lattice_init [] [(fIx (fVar 1) (fC (.int 0))), (fIx (fVar 1) (fC (.int 1))), (fIx (fVar 1) (fC (.int 2)))]) (fMake 5 F_Lattice_init [] [(fIx (fVar 2) (fC (.int 0))), (fIx (fVar 2) (fC (.int 1))), (fIx (fVar 2) (fC (.int 2)))]))
    (qSeq (qPar2 5 6 (fCall F_common_lattice [] [(fVar 3), (fVar 4)]) (fCall F_joined_lattice [] [(fVar 3), (fVar 4)]))
    (qSeq (qIf (fOrB (fToB (fun env => (fCall F_common_lattice [] [(fVar 4), (fVar 3)]) env >>= fun x => (fVar 5) env >>= fun y => own2n 5 F_Lattice_eq x y)) (fToB (fun env => (fCall F_joined_lattice [] [(fVar 4), (fVar 3)]) env >>= fun x => (fVar 6) env >>= fun y => own2n 5 F_Lattice_eq x y))) (qSeq (qRet (fC (.bl false)))
    qNil) qNil)
    (qSeq (qIf (fCmpB neT (fBin mulT (fMeth 5 F_Lattice_area [] (fVar 5) []) (fMeth 5 F_Lattice_area [] (fVar 6) [])) (fBin mulT (fMeth 5 F_Lattice_area [] (fVar 3) []) (fMeth 5 F_Lattice_area [] (fVar 4) []))) (qSeq (qRet (fC (.bl false)))
    qNil) qNil)
    (qSeq (qIf (fNotB (fAndB (fToB (fun env => (fVar 5) env >>= fun x => (fVar 3) env >>= fun y => own2s 5 F_Lattice_le x y)) (fAndB (fToB (fun env => (fVar 5) env >>= fun x => (fVar 4) env >>= fun y => own2s 5 F_Lattice_le x y)) (fAndB (fToB (fun env => (fVar 3) env >>= fun x => (fVar 6) env >>= fun y => own2s 5 F_Lattice_le x y)) (fToB (fun env => (fVar 4) env >>= fun x => (fVar 6) env >>= fun y => own2s 5 F_Lattice_le x y)))))) (qSeq (qRet (fC (.bl false)))
    qNil) qNil)
    (qSeq (qFor (fRng1 (fC (.int 40))) (hName 7) (qSeq (qPar2 8 9 (fBin subT (fCall F__law_draw [] [(fVar 0), (fC (.int 40))]) (fC (.int 12))) (fBin subT (fCall F__law_draw [] [(fVar 0), (fC (.int 40))]) (fC (.int 12))))
    (qSeq (qIf (fCmpB eqT (fBin modT (fVar 7) (fC (.int 2))) (fC (.int 0))) (qSeq (qPar2 8 9 (fBin addT (fBin mulT (fVar 8) (fIx (fVar 1) (fC (.int 0)))) (fBin mulT (fVar 9) (fIx (fVar 1) (fC (.int 1))))) (fBin mulT (fVar 9) (fIx (fVar 1) (fC (.int 2)))))
    qNil) qNil)
    (qSeq (qSet 11 (fLst [(fCall F__law_holds [] [(fVar 1), (fVar 8), (fVar 9)]), (fCall F__law_holds [] [(fVar 2), (fVar 8), (fVar 9)])]))
    (qSeq (qIf (fCmpB neT (fun env => (fTup [(fVar 8), (fVar 9)]) env >>= fun x => (fVar 5) env >>= fun y => own2c 5 F_Lattice_contains x y) (fCmp eqT (fVar 11) (fLst [(fC (.bl true)), (fC (.bl true))]))) (qSeq (qRet (fC (.bl false)))
    qNil) qNil)
    (qSeq (qIf (fAndB (fCmpB inT (fC (.bl true)) (fVar 11)) (fToB (fun env => (fTup [(fVar 8), (fVar 9)]) env >>= fun x => (fVar 6) env >>= fun y => own2nc 5 F_Lattice_contains x y))) (qSeq (qRet (fC (.bl false)))
    qNil) qNil)
    qNil))))))
    (qSeq (qPar2 8 9 (fBin subT (fCall F__law_draw [] [(fVar 0), (fC (.int 9))]) (fC (.int 4))) (fBin subT (fCall F__law_draw [] [(fVar 0), (fC (.int 9))]) (fC (.int 4))))
    (qSeq (qSet 10 (fTup [(fBin addT (fBin addT (fBin mulT (fVar 8) (fIx (fVar 1) (fC (.int 0)))) (fBin mulT (fVar 9) (fIx (fVar 2) (fC (.int 1))))) (fIx (fVar 2) (fC (.int 0)))), (fBin mulT (fVar 9) (fIx (fVar 2) (fC (.int 2))))]))
    (qSeq (qRet (fAnd (fun env => (fVar 10) env >>= fun x => (fVar 6) env >>= fun y => own2c 5 F_Lattice_contains x y) (fAnd (fCmp eqT (fun env => (fVar 5) env >>= fun x => (fVar 3) env >>= fun y => own2s 5 F_Lattice_eq x y) (fun env => (fVar 3) env >>= fun x => (fVar 4) env >>= fun y => own2s 5 F_Lattice_le x y)) (fCmp eqT (fun env => (fVar 6) env >>= fun x => (fVar 3) env >>= fun y => own2s 5 F_Lattice_eq x y) (fun env => (fVar 4) env >>= fun x => (fVar 3) env >>= fun y => own2s 5 F_Lattice_le x y)))))
    qNil)))))))))
def F__law_two_right : List T → M T := fnS 9 g__law_two_right
theorem sc__law_two_right : FnScope ["_law_pool", "_law_one", "_law_other", "_law_first", "_law_second", "_law_common", "_law_joined", "_law_step", "_law_x", "_law_y", "_law_near", "_law_held"] ["_law_pool", "_law_one", "_law_other"] (defScope s__law_two_right) := ⟨rfl, rfl, rfl, by decide +kernel, rfl, by decide +kernel, by decide +kernel⟩
theorem run__law_two_right (T : Tx base wd K mg) {f : Addr} {fd : FuncData} {dv : List V} {kw : List (Str × V)} (F : FunD K "_law_two_right" "_law_two_right" (defArgs s__law_two_right) (defBody s__law_two_right) (defScope s__law_two_right) dv kw f fd) : FnOk PW wd K mg base (L2.CX PW wd) 8 f fd ["_law_pool", "_law_one", "_law_other"] (spF (GG K mg) 3 (fnS 9 g__law_two_right)) :=
  fn_run (G := GG K mg) (k := 7) F sc__law_two_right rfl rfl fun cdv A outer s H E hr => by
    have B := bd_of (P := PW) (wd := wd) (G := GG K mg) (base := base) (cdv := cdv) (outer := outer) (H := H) (E := E) sc__law_two_right hr
    exact (ss_cons (B.par2 3 4 (a_cons (B.make (d_Lattice_init T) (a_cons (B.ix (k_of (vr 1)) s_int) (a_cons (B.ix (k_of (vr 1)) s_int) (a_cons (B.ix (k_of (vr 1)) s_int) a_nil)))) (a_cons (B.make (d_Lattice_init T) (a_cons (B.ix (k_of (vr 2)) s_int) (a_cons (B.ix (k_of (vr 2)) s_int) (a_cons (B.ix (k_of (vr 2)) s_int) a_nil)))) a_nil)))
    (ss_cons (B.par2 5 6 (a_cons (B.call (d_common_lattice T) (a_cons (vr 3) (a_cons (vr 4) a_nil))) (a_cons (B.call (d_joined_lattice T) (a_cons (vr 3) (a_cons (vr 4) a_nil))) a_nil)))
    (ss_cons (ss_if (w_t (w_or (b_ownN (d_Lattice_eq T) T.ne_Lattice B.eK B.eM B.rm (by decide) (B.call (d_common_lattice T) (a_cons (vr 4) (a_cons (vr 3) a_nil))) (vr 5) rfl) (w_or1 (b_ownN (d_Lattice_eq T) T.ne_Lattice B.eK B.eM B.rm (by decide) (B.call (d_joined_lattice T) (a_cons (vr 4) (a_cons (vr 3) a_nil))) (vr 6) rfl)))) (ss_cons (ss_ret s_bl)
    ss_nil) ss_nil)
    (ss_cons (ss_if (B.neB (k_of (B.mul (s_meth0 (d_Lattice_area T) B.eK B.eM B.tk B.rm (by decide) (vr 5)) (s_meth0 (d_Lattice_area T) B.eK B.eM B.tk B.rm (by decide) (vr 6)))) (k_of (B.mul (s_meth0 (d_Lattice_area T) B.eK B.eM B.tk B.rm (by decide) (vr 3)) (s_meth0 (d_Lattice_area T) B.eK B.eM B.tk B.rm (by decide) (vr 4))))) (ss_cons (ss_ret s_bl)
    ss_nil) ss_nil)
    (ss_cons (ss_if (w_not (w_t (w_and (b_ownC (fun _ _ => rfl) (d_Lattice_le T) B.eK B.eM B.rm (by decide) (vr 5) (vr 3) rfl) (w_and (b_ownC (fun _ _ => rfl) (d_Lattice_le T) B.eK B.eM B.rm (by decide) (vr 5) (vr 4) rfl) (w_and (b_ownC (fun _ _ => rfl) (d_Lattice_le T) B.eK B.eM B.rm (by decide) (vr 3) (vr 6) rfl) (w_and1 (b_ownC (fun _ _ => rfl) (d_Lattice_le T) B.eK B.eM B.rm (by decide) (vr 4) (vr 6) rfl))))))) (ss_cons (ss_ret s_bl)
    ss_nil) ss_nil)
    (ss_cons (ss_for po_of B.calm (i_range1 rfl (by rw [B.eM]; exact T.m_range) s_int) (B.nm 7) (ss_cons (B.par2 8 9 (a_cons (B.sub (B.call (d__law_draw T) (a_cons (vr 0) (a_cons s_int a_nil))) s_int) (a_cons (B.sub (B.call (d__law_draw T) (a_cons (vr 0) (a_cons s_int a_nil))) s_int) a_nil)))
    (ss_cons (ss_if (B.eqB (k_of (B.mod (vr 7) s_int)) (k_of s_int)) (ss_cons (B.par2 8 9 (a_cons (B.add (B.mul (vr 8) (B.ix (k_of (vr 1)) s_int)) (B.mul (vr 9) (B.ix (k_of (vr 1)) s_int))) (a_cons (B.mul (vr 9) (B.ix (k_of (vr 1)) s_int)) a_nil)))
    ss_nil) ss_nil)
    (ss_cons (B.set 11 (s_lst (a_cons (B.call (d__law_holds T) (a_cons (vr 1) (a_cons (vr 8) (a_cons (vr 9) a_nil)))) (a_cons (B.call (d__law_holds T) (a_cons (vr 2) (a_cons (vr 8) (a_cons (vr 9) a_nil)))) a_nil))))
    (ss_cons (ss_if (B.neB (k_of (s_ownIn (d_Lattice_contains T) B.eK B.eM B.rm (by decide) (s_tup (a_cons (vr 8) (a_cons (vr 9) a_nil))) (vr 5) rfl)) (k_of (B.eq (k_of (vr 11)) (k_of (s_lst (a_cons s_bl (a_cons s_bl a_nil))))))) (ss_cons (ss_ret s_bl)
    ss_nil) ss_nil)
    (ss_cons (ss_if (w_t (w_and (B.inB (k_of s_bl) (k_of (vr 11))) (w_and1 (b_ownNin (d_Lattice_contains T) B.eK B.eM B.rm (by decide) (s_tup (a_cons (vr 8) (a_cons (vr 9) a_nil))) (vr 6) rfl)))) (ss_cons (ss_ret s_bl)
    ss_nil) ss_nil)
    ss_nil))))))
    (ss_cons (B.par2 8 9 (a_cons (B.sub (B.call (d__law_draw T) (a_cons (vr 0) (a_cons s_int a_nil))) s_int) (a_cons (B.sub (B.call (d__law_draw T) (a_cons (vr 0) (a_cons s_int a_nil))) s_int) a_nil)))
    (ss_cons (B.set 10 (s_tup (a_cons (B.add (B.add (B.mul (vr 8) (B.ix (k_of (vr 1)) s_int)) (B.mul (vr 9) (B.ix (k_of (vr 2)) s_int))) (B.ix (k_of (vr 2)) s_int)) (a_cons (B.mul (vr 9) (B.ix (k_of (vr 2)) s_int)) a_nil))))
    (ss_cons (ss_ret (s_and (s_ownIn (d_Lattice_contains T) B.eK B.eM B.rm (by decide) (vr 10) (vr 6) rfl) (s_and (B.eq (k_of (s_ownC (fun _ _ => rfl) (d_Lattice_eq T) B.eK B.eM B.rm (by decide) (vr 5) (vr 3) rfl)) (k_of (s_ownC (fun _ _ => rfl) (d_Lattice_le T) B.eK B.eM B.rm (by decide) (vr 3) (vr 4) rfl))) (s_one (B.eq (k_of (s_ownC (fun _ _ => rfl) (d_Lattice_eq T) B.eK B.eM B.rm (by decide) (vr 6) (vr 3) rfl)) (k_of (s_ownC (fun _ _ => rfl) (d_Lattice_le T) B.eK B.eM B.rm (by decide) (vr 4) (vr 3) rfl)))))))
    ss_nil)))))))))
theorem d__law_two_right (T : Tx base wd K mg) : DefOk PW wd base (GG K mg) 8 "_law_two_right" 3 [] F__law_two_right := by
  obtain ⟨fd, F⟩ := T.D__law_two_right
  exact ⟨_, fd, ["_law_pool", "_law_one", "_law_other"], [], [], run__law_two_right T F, T.c__law_two_right, F.kp, (F.bindsN fun _ _ _ _ _ _ us hl => match us, hl with | [_, _, _], _ => rfl), .nil, fun _ => .nil⟩
/-! law -/
def g_law : Sm := (qSeq (qFor (fRng1 (fBin max2T (fC (.int 1)) (fBin min2T (fC (.int 5)) (fB1 lenT (fVar 0))))) (hName 1) (qSeq (qSet 2 (fCall F__law_opened [] [(fVar 0), (fVar 1)]))
    (qSeq (qSet 3 (fTup [(fBin subT (fCall F__law_draw [] [(fVar 2), (fC (.int 13))]) (fC (.int 6))), (fBin subT (fCall F__law_draw [] [(fVar 2), (fC (.int 13))]) (fC (.int 6)))]))
    (qSeq (qSet 4 (fTup [(fBin subT (fCall F__law_draw [] [(fVar 2), (fC (.int 13))]) (fC (.int 6))), (fBin subT (fCall F__law_draw [] [(fVar 2), (fC (.int 13))]) (fC (.int 6)))]))
    (qSeq (qFor (fIter (fLst [(fLst [(fVar 3), (fVar 4)]), (fLst [(fVar 3), (fTup [(fBin mulT (fIx (fVar 3) (fC (.int 0))) (fC (.int 3))), (fBin mulT (fIx (fVar 3) (fC (.int 1))) (fC (.int 3)))])]), (fLst [(fTup [(fC (.int 0)), (fC (.int 0))]), (fVar 4)]), (fLst [(fTup [(fC (.int 1)), (fC (.int 0))]), (fVar 4)])])) (hName 5) (qSeq (qIf (fNotB (fTru (fCall F__law_spanned_right [] [(fVar 2), (fIx (fVar 5) (fC (.int 0))), (fIx (fVar 5) (fC (.int 1)))]))) (qSeq (qRet (fC (.bl false)))
    qNil) qNil)
    qNil))
    (qSeq (qPar2 6 7 (fCall F__law_three [] [(fVar 2), (fC (.int 6))]) (fCall F__law_three [] [(fVar 2), (fCall F__law_pick [] [(fVar 2), (fLst [(fC (.int 6)), (fC (.int 30))])])]))
    (qSeq (qSet 8 (fLst [(fBin mulT (fIx (fVar 6) (fC (.int 0))) (fC (.int 2))), (fBin modT (fBin addT (fIx (fVar 6) (fC (.int 1))) (fBin mulT (fIx (fVar 6) (fC (.int 0))) (fCall F__law_draw [] [(fVar 2), (fC (.int 2))]))) (fBin mulT (fIx (fVar 6) (fC (.int 0))) (fC (.int 2)))), (fIx (fVar 6) (fC (.int 2)))]))
    (qSeq (qFor (fIter (fLst [(fLst [(fVar 6), (fVar 7)]), (fLst [(fVar 6), (fVar 6)]), (fLst [(fVar 8), (fVar 6)]), (fLst [(fVar 6), (fVar 8)])])) (hName 5) (qSeq (qIf (fNotB (fTru (fCall F__law_two_right [] [(fVar 2), (fIx (fVar 5) (fC (.int 0))), (fIx (fVar 5) (fC (.int 1)))]))) (qSeq (qRet (fC (.bl false)))
    qNil) qNil)
    qNil))
    (qSeq (qSet 9 (fMake 5 F_Lattice_init [] [(fC (.int 1)), (fC (.int 0)), (fC (.int 1))]))
    (qSeq (qFor (fIter (fLst [(fC .non), (fTup [(fC (.int 1)), (fC (.int 0)), (fC (.int 1))]), (fC (.str "lattice")), (fC (.int 1))])) (hName 10) (qSeq (qOwn 11 (fAll [(fun env => heardS 2 hs__law_refused rest__law_refused ((fCall F_common_lattice [] [(fVar 10), (fVar 9)]) env))]))
    (qSeq (qApp 11 (fun env => heardS 2 hs__law_refused rest__law_refused ((fCall F_common_lattice [] [(fVar 9), (fVar 10)]) env)))
    (qSeq (qApp 11 (fun env => heardS 2 hs__law_refused rest__law_refused ((fCall F_joined_lattice [] [(fVar 9), (fVar 10)]) env)))
    (qSeq (qIf (fCmpB neT (fBor 11) (fBin mulT (fLst [(fLst [(fC (.str "part")), (fC (.str "lattice"))])]) (fC (.int 3)))) (qSeq (qRet (fC (.bl false)))
    qNil) qNil)
    qNil)))))
    (qSeq (qFor (fIter (fLst [(fC .non), (fTup [(fC (.int 1))]), (fLst [(fC (.int 1)), (fC (.int 0))]), (fTup [(fC (.int 1)), (fC (.bl true))]), (fC (.str "10")), (fTup [(fC (.int 1)), (fC (.int 0)), (fC (.int 0))])])) (hName 10) (qSeq (qOwn 11 (fAll [(fun env => heardS 2 hs__law_refused rest__law_refused ((fCall F_spanned [] [(fVar 10), (fC .non)]) env)), (fLst [(fC (.str "part")), (fC (.str "shift"))])]))
    (qSeq (qIf (fOrB (fCmpB neT (fIx (fBor 11) (fC (.int 0))) (fIx (fBor 11) (fC (.int 1)))) (fCmpB neT (fun env => heardS 2 hs__law_refused rest__law_refused ((fCall F_spanned [] [(fTup [(fC (.int 0)), (fC (.int 0))]), (fVar 10)]) env)) (fIx (fBor 11) (fC (.int 1))))) (qSeq (qRet (fC (.bl false)))
    qNil) qNil)
    qNil)))
    qNil)))))))))))
    (qSeq (qRet (fC (.bl true)))
    qNil))
def F_law : List T → M T := fnS 11 g_law
theorem sc_law : FnScope ["_law_script", "_law_k", "_law_pool", "_law_one", "_law_other", "_law_pair", "_law_first", "_law_second", "_law_inner", "_law_good", "_law_odd", "_law_rows"] ["_law_script"] (defScope s_law) := ⟨rfl, rfl, rfl, by decide +kernel, rfl, by decide +kernel, by decide +kernel⟩
theorem run_law (T : Tx base wd K mg) {fd : FuncData} {dv : List V} {kw : List (Str × V)} (F : FunD K "law" "law" (defArgs s_law) (defBody s_law) (defScope s_law) dv kw (ga K "law") fd) : FnOk PW wd K mg base (L2.CX PW wd) 12 (ga K "law") fd ["_law_script"] (spF (GG K mg) 1 (fnS 11 g_law)) :=
  T.D__law_refused.elim fun fd__law_refused F_heard__law_refused =>
  fn_runC (G := GG K mg) (k := 11) F sc_law rfl rfl fun cdv A outer s H E ecd hr => by
    have B := bd_of (P := PW) (wd := wd) (G := GG K mg) (base := base) (cdv := cdv) (outer := outer) (H := H) (E := E) sc_law hr
    have hq : (cxB PW wd (GG K mg) base ["_law_script", "_law_k", "_law_pool", "_law_one", "_law_other", "_law_pair", "_law_first", "_law_second", "_law_inner", "_law_good", "_law_odd", "_law_rows"] "law" s_law (ga K "law") cdv A outer s H E).env.qual = "law" ++ ".<locals>." := rfl
    exact (ss_cons (ss_for po_of B.calm (i_range1 rfl (by rw [B.eM]; exact T.m_range) (B.max2 T.m_max s_int (B.min2 T.m_min s_int (B.len T.m_len (k_of (vr 0)))))) (B.nm 1) (ss_cons (B.set 2 (B.call (d__law_opened T) (a_cons (vr 0) (a_cons (vr 1) a_nil))))
    (ss_cons (B.set 3 (s_tup (a_cons (B.sub (B.call (d__law_draw T) (a_cons (vr 2) (a_cons s_int a_nil))) s_int) (a_cons (B.sub (B.call (d__law_draw T) (a_cons (vr 2) (a_cons s_int a_nil))) s_int) a_nil))))
    (ss_cons (B.set 4 (s_tup (a_cons (B.sub (B.call (d__law_draw T) (a_cons (vr 2) (a_cons s_int a_nil))) s_int) (a_cons (B.sub (B.call (d__law_draw T) (a_cons (vr 2) (a_cons s_int a_nil))) s_int) a_nil))))
    (ss_cons (ss_for po_of B.calm (i_seq B.eK (s_lst (a_cons (s_lst (a_cons (vr 3) (a_cons (vr 4) a_nil))) (a_cons (s_lst (a_cons (vr 3) (a_cons (s_tup (a_cons (B.mul (B.ix (k_of (vr 3)) s_int) s_int) (a_cons (B.mul (B.ix (k_of (vr 3)) s_int) s_int) a_nil))) a_nil))) (a_cons (s_lst (a_cons (s_tup (a_cons s_int (a_cons s_int a_nil))) (a_cons (vr 4) a_nil))) (a_cons (s_lst (a_cons (s_tup (a_cons s_int (a_cons s_int a_nil))) (a_cons (vr 4) a_nil))) a_nil)))))) (B.nm 5) (ss_cons (ss_if (w_not (B.tru (B.call (d__law_spanned_right T) (a_cons (vr 2) (a_cons (B.ix (k_of (vr 5)) s_int) (a_cons (B.ix (k_of (vr 5)) s_int) a_nil)))))) (ss_cons (ss_ret s_bl)
    ss_nil) ss_nil)
    ss_nil))
    (ss_cons (B.par2 6 7 (a_cons (B.call (d__law_three T) (a_cons (vr 2) (a_cons s_int a_nil))) (a_cons (B.call (d__law_three T) (a_cons (vr 2) (a_cons (B.call (d__law_pick T) (a_cons (vr 2) (a_cons (s_lst (a_cons s_int (a_cons s_int a_nil))) a_nil))) a_nil))) a_nil)))
    (ss_cons (B.set 8 (s_lst (a_cons (B.mul (B.ix (k_of (vr 6)) s_int) s_int) (a_cons (B.mod (B.add (B.ix (k_of (vr 6)) s_int) (B.mul (B.ix (k_of (vr 6)) s_int) (B.call (d__law_draw T) (a_cons (vr 2) (a_cons s_int a_nil))))) (B.mul (B.ix (k_of (vr 6)) s_int) s_int)) (a_cons (B.ix (k_of (vr 6)) s_int) a_nil)))))
    (ss_cons (ss_for po_of B.calm (i_seq B.eK (s_lst (a_cons (s_lst (a_cons (vr 6) (a_cons (vr 7) a_nil))) (a_cons (s_lst (a_cons (vr 6) (a_cons (vr 6) a_nil))) (a_cons (s_lst (a_cons (vr 8) (a_cons (vr 6) a_nil))) (a_cons (s_lst (a_cons (vr 6) (a_cons (vr 8) a_nil))) a_nil)))))) (B.nm 5) (ss_cons (ss_if (w_not (B.tru (B.call (d__law_two_right T) (a_cons (vr 2) (a_cons (B.ix (k_of (vr 5)) s_int) (a_cons (B.ix (k_of (vr 5)) s_int) a_nil)))))) (ss_cons (ss_ret s_bl)
    ss_nil) ss_nil)
    ss_nil))
    (ss_cons (B.set 9 (B.make (d_Lattice_init T) (a_cons s_int (a_cons s_int (a_cons s_int a_nil)))))
    (ss_cons (ss_for po_of B.calm (i_seq B.eK (s_lst (a_cons s_non (a_cons (s_tup (a_cons s_int (a_cons s_int (a_cons s_int a_nil)))) (a_cons s_str (a_cons s_int a_nil)))))) (B.nm 10) (ss_cons (B.own 11 (l_lst (a_cons (s_lamQ (k := 9) ("law" ++ ".<locals>.") B.eK B.eM rfl T.c__law_refused F_heard__law_refused (F_heard__law_refused.bindsN fun _ _ _ _ _ _ us hl => match us, hl with | [_], _ => rfl) sc__law_refused rfl (Or.inl rfl) rfl rfl (by decide) (fun _ _ _ => hg__law_refused T) (fun _ _ _ => hr__law_refused T) T.tb_law (ecd.trans T.cd_law) hq (tb_mem_law K) T.tb_nd (B.rm.mono (by decide)) (by kernel_rfl) B.tk (fun A2 outer2 s2 H2 E2 f2 c2 hr2 => by
      have B2 := bd_lam (j := 9) (E := E2) (outer := outer2) (s := s2) (H := H2) B.nd B.eK B.eM hr2
      exact (B2.call (d_common_lattice T) (a_cons (vr 10) (a_cons (vr 9) a_nil))))) a_nil)))
    (ss_cons (ss_app B.eK 11 rfl (by first | exact Or.inl rfl | exact Or.inr (Or.inl rfl) | exact Or.inr (Or.inr rfl)) (s_lamQ (k := 9) ("law" ++ ".<locals>.") B.eK B.eM rfl T.c__law_refused F_heard__law_refused (F_heard__law_refused.bindsN fun _ _ _ _ _ _ us hl => match us, hl with | [_], _ => rfl) sc__law_refused rfl (Or.inl rfl) rfl rfl (by decide) (fun _ _ _ => hg__law_refused T) (fun _ _ _ => hr__law_refused T) T.tb_law (ecd.trans T.cd_law) hq (tb_mem_law K) T.tb_nd (B.rm.mono (by decide)) (by kernel_rfl) B.tk (fun A2 outer2 s2 H2 E2 f2 c2 hr2 => by
      have B2 := bd_lam (j := 9) (E := E2) (outer := outer2) (s := s2) (H := H2) B.nd B.eK B.eM hr2
      exact (B2.call (d_common_lattice T) (a_cons (vr 9) (a_cons (vr 10) a_nil))))))
    (ss_cons (ss_app B.eK 11 rfl (by first | exact Or.inl rfl | exact Or.inr (Or.inl rfl) | exact Or.inr (Or.inr rfl)) (s_lamQ (k := 9) ("law" ++ ".<locals>.") B.eK B.eM rfl T.c__law_refused F_heard__law_refused (F_heard__law_refused.bindsN fun _ _ _ _ _ _ us hl => match us, hl with | [_], _ => rfl) sc__law_refused rfl (Or.inl rfl) rfl rfl (by decide) (fun _ _ _ => hg__law_refused T) (fun _ _ _ => hr__law_refused T) T.tb_law (ecd.trans T.cd_law) hq (tb_mem_law K) T.tb_nd (B.rm.mono (by decide)) (by kernel_rfl) B.tk (fun A2 outer2 s2 H2 E2 f2 c2 hr2 => by
      have B2 := bd_lam (j := 9) (E := E2) (outer := outer2) (s := s2) (H := H2) B.nd B.eK B.eM hr2
      exact (B2.call (d_joined_lattice T) (a_cons (vr 9) (a_cons (vr 10) a_nil))))))
    (ss_cons (ss_if (B.neB (kv 11) (k_of (B.mul (s_lst (a_cons (s_lst (a_cons s_str (a_cons s_str a_nil))) a_nil)) s_int))) (ss_cons (ss_ret s_bl)
    ss_nil) ss_nil)
    ss_nil)))))
    (ss_cons (ss_for po_of B.calm (i_seq B.eK (s_lst (a_cons s_non (a_cons (s_tup (a_cons s_int a_nil)) (a_cons (s_lst (a_cons s_int (a_cons s_int a_nil))) (a_cons (s_tup (a_cons s_int (a_cons s_bl a_nil))) (a_cons s_str (a_cons (s_tup (a_cons s_int (a_cons s_int (a_cons s_int a_nil)))) a_nil)))))))) (B.nm 10) (ss_cons (B.own 11 (l_lst (a_cons (s_lamQ (k := 9) ("law" ++ ".<locals>.") B.eK B.eM rfl T.c__law_refused F_heard__law_refused (F_heard__law_refused.bindsN fun _ _ _ _ _ _ us hl => match us, hl with | [_], _ => rfl) sc__law_refused rfl (Or.inl rfl) rfl rfl (by decide) (fun _ _ _ => hg__law_refused T) (fun _ _ _ => hr__law_refused T) T.tb_law (ecd.trans T.cd_law) hq (tb_mem_law K) T.tb_nd (B.rm.mono (by decide)) (by kernel_rfl) B.tk (fun A2 outer2 s2 H2 E2 f2 c2 hr2 => by
      have B2 := bd_lam (j := 9) (E := E2) (outer := outer2) (s := s2) (H := H2) B.nd B.eK B.eM hr2
      exact (B2.call (d_spanned T) (a_cons (vr 10) (a_cons s_non a_nil))))) (a_cons (s_lst (a_cons s_str (a_cons s_str a_nil))) a_nil))))
    (ss_cons (ss_if (w_t (w_or (B.neB (k_of (B.ix (kv 11) s_int)) (k_of (B.ix (kv 11) s_int))) (w_or1 (B.neB (k_of (s_lamQ (k := 9) ("law" ++ ".<locals>.") B.eK B.eM rfl T.c__law_refused F_heard__law_refused (F_heard__law_refused.bindsN fun _ _ _ _ _ _ us hl => match us, hl with | [_], _ => rfl) sc__law_refused rfl (Or.inl rfl) rfl rfl (by decide) (fun _ _ _ => hg__law_refused T) (fun _ _ _ => hr__law_refused T) T.tb_law (ecd.trans T.cd_law) hq (tb_mem_law K) T.tb_nd (B.rm.mono (by decide)) (by kernel_rfl) B.tk (fun A2 outer2 s2 H2 E2 f2 c2 hr2 => by
      have B2 := bd_lam (j := 9) (E := E2) (outer := outer2) (s := s2) (H := H2) B.nd B.eK B.eM hr2
      exact (B2.call (d_spanned T) (a_cons (s_tup (a_cons s_int (a_cons s_int a_nil))) (a_cons (vr 10) a_nil)))))) (k_of (B.ix (kv 11) s_int)))))) (ss_cons (ss_ret s_bl)
    ss_nil) ss_nil)
    ss_nil)))
    ss_nil)))))))))))
    (ss_cons (ss_ret s_bl)
    ss_nil))
theorem d_law (T : Tx base wd K mg) : DefOk PW wd base (GG K mg) 12 "law" 1 [] F_law := by
  obtain ⟨fd, F⟩ := T.D_law
  exact ⟨_, fd, ["_law_script"], [], [], run_law T F, T.c_law, F.kp, (F.bindsN fun _ _ _ _ _ _ us hl => match us, hl with | [_], _ => rfl), .nil, fun _ => .nil⟩
end
def fa : List Fa := [
  .free "abs",
  .free "all",
  .free "bool",
  .free "int",
  .free "isinstance",
  .free "len",
  .free "max",
  .free "min",
  .free "range",
  .free "tuple",
  .free "zip",
  .glo "BadIndex",
  .glo "BadNumber",
  .glo "BadPart",
  .glo "Lattice",
  .glo "NotSo",
  .glo "TooMany",
  .glo "_law_refused",
  .cls "Lattice",
  .noat "Lattice" "a",
  .noat "Lattice" "b",
  .noat "Lattice" "d",
  .mkr "Lattice",
  .glo "_law_draw",
  .glo "_law_opened",
  .glo "_law_pick",
  .glo "_law_is_sum",
  .glo "is_integer",
  .glo "is_shift",
  .glo "check_shift",
  .glo "divisor_sum",
  .glo "check_integer",
  .glo "greatest_divisor",
  .glo "is_between",
  .glo "check_basis",
  .glo "spanned",
  .glo "check_cell",
  .meth "Lattice" "place",
  .meth "Lattice" "__contains__",
  .meth "Lattice" "__eq__",
  .meth "Lattice" "area",
  .glo "_law_spanned_right",
  .glo "_law_three",
  .glo "_law_place",
  .glo "_law_holds",
  .glo "is_remainder",
  .glo "check_remainder",
  .glo "inverse",
  .glo "remainder_of",
  .glo "both_remainders",
  .glo "check_lattice",
  .glo "least_multiple",
  .glo "common_lattice",
  .glo "with_shift",
  .glo "joined_lattice",
  .meth "Lattice" "__le__",
  .glo "_law_two_right",
  .glo "law"]
def fns : List DefD := [
  { at_ := ("_law_draw", none), name := "_law_draw", qual := "_law_draw", params := defArgs s__law_draw, body := defBody s__law_draw, scope := defScope s__law_draw, dfl := [] },
  { at_ := ("_law_opened", none), name := "_law_opened", qual := "_law_opened", params := defArgs s__law_opened, body := defBody s__law_opened, scope := defScope s__law_opened, dfl := [] },
  { at_ := ("_law_pick", none), name := "_law_pick", qual := "_law_pick", params := defArgs s__law_pick, body := defBody s__law_pick, scope := defScope s__law_pick, dfl := [] },
  { at_ := ("_law_is_sum", none), name := "_law_is_sum", qual := "_law_is_sum", params := defArgs s__law_is_sum, body := defBody s__law_is_sum, scope := defScope s__law_is_sum, dfl := [] },
  { at_ := ("is_integer", none), name := "is_integer", qual := "is_integer", params := defArgs s_is_integer, body := defBody s_is_integer, scope := defScope s_is_integer, dfl := [] },
  { at_ := ("is_shift", none), name := "is_shift", qual := "is_shift", params := defArgs s_is_shift, body := defBody s_is_shift, scope := defScope s_is_shift, dfl := [] },
  { at_ := ("check_shift", none), name := "check_shift", qual := "check_shift", params := defArgs s_check_shift, body := defBody s_check_shift, scope := defScope s_check_shift, dfl := [] },
  { at_ := ("divisor_sum", none), name := "divisor_sum", qual := "divisor_sum", params := defArgs s_divisor_sum, body := defBody s_divisor_sum, scope := defScope s_divisor_sum, dfl := [] },
  { at_ := ("check_integer", none), name := "check_integer", qual := "check_integer", params := defArgs s_check_integer, body := defBody s_check_integer, scope := defScope s_check_integer, dfl := [] },
  { at_ := ("greatest_divisor", none), name := "greatest_divisor", qual := "greatest_divisor", params := defArgs s_greatest_divisor, body := defBody s_greatest_divisor, scope := defScope s_greatest_divisor, dfl := [] },
  { at_ := ("is_between", none), name := "is_between", qual := "is_between", params := defArgs s_is_between, body := defBody s_is_between, scope := defScope s_is_between, dfl := [] },
  { at_ := ("check_basis", none), name := "check_basis", qual := "check_basis", params := defArgs s_check_basis, body := defBody s_check_basis, scope := defScope s_check_basis, dfl := [] },
  { at_ := ("Lattice", some "__init__"), name := "__init__", qual := "Lattice.__init__", params := defArgs s_Lattice_init, body := defBody s_Lattice_init, scope := defScope s_Lattice_init, dfl := [] },
  { at_ := ("spanned", none), name := "spanned", qual := "spanned", params := defArgs s_spanned, body := defBody s_spanned, scope := defScope s_spanned, dfl := [] },
  { at_ := ("check_cell", none), name := "check_cell", qual := "check_cell", params := defArgs s_check_cell, body := defBody s_check_cell, scope := defScope s_check_cell, dfl := [] },
  { at_ := ("Lattice", some "place"), name := "place", qual := "Lattice.place", params := defArgs s_Lattice_place, body := defBody s_Lattice_place, scope := defScope s_Lattice_place, dfl := [] },
  { at_ := ("Lattice", some "__contains__"), name := "__contains__", qual := "Lattice.__contains__", params := defArgs s_Lattice_contains, body := defBody s_Lattice_contains, scope := defScope s_Lattice_contains, dfl := [] },
  { at_ := ("Lattice", some "__eq__"), name := "__eq__", qual := "Lattice.__eq__", params := defArgs s_Lattice_eq, body := defBody s_Lattice_eq, scope := defScope s_Lattice_eq, dfl := [] },
  { at_ := ("Lattice", some "area"), name := "area", qual := "Lattice.area", params := defArgs s_Lattice_area, body := defBody s_Lattice_area, scope := defScope s_Lattice_area, dfl := [] },
  { at_ := ("_law_spanned_right", none), name := "_law_spanned_right", qual := "_law_spanned_right", params := defArgs s__law_spanned_right, body := defBody s__law_spanned_right, scope := defScope s__law_spanned_right, dfl := [] },
  { at_ := ("_law_three", none), name := "_law_three", qual := "_law_three", params := defArgs s__law_three, body := defBody s__law_three, scope := defScope s__law_three, dfl := [] },
  { at_ := ("_law_place", none), name := "_law_place", qual := "_law_place", params := defArgs s__law_place, body := defBody s__law_place, scope := defScope s__law_place, dfl := [] },
  { at_ := ("_law_holds", none), name := "_law_holds", qual := "_law_holds", params := defArgs s__law_holds, body := defBody s__law_holds, scope := defScope s__law_holds, dfl := [] },
  { at_ := ("is_remainder", none), name := "is_remainder", qual := "is_remainder", params := defArgs s_is_remainder, body := defBody s_is_remainder, scope := defScope s_is_remainder, dfl := [] },
  { at_ := ("check_remainder", none), name := "check_remainder", qual := "check_remainder", params := defArgs s_check_remainder, body := defBody s_check_remainder, scope := defScope s_check_remainder, dfl := [] },
  { at_ := ("inverse", none), name := "inverse", qual := "inverse", params := defArgs s_inverse, body := defBody s_inverse, scope := defScope s_inverse, dfl := [] },
  { at_ := ("remainder_of", none), name := "remainder_of", qual := "remainder_of", params := defArgs s_remainder_of, body := defBody s_remainder_of, scope := defScope s_remainder_of, dfl := [] },
  { at_ := ("both_remainders", none), name := "both_remainders", qual := "both_remainders", params := defArgs s_both_remainders, body := defBody s_both_remainders, scope := defScope s_both_remainders, dfl := [] },
  { at_ := ("check_lattice", none), name := "check_lattice", qual := "check_lattice", params := defArgs s_check_lattice, body := defBody s_check_lattice, scope := defScope s_check_lattice, dfl := [] },
  { at_ := ("least_multiple", none), name := "least_multiple", qual := "least_multiple", params := defArgs s_least_multiple, body := defBody s_least_multiple, scope := defScope s_least_multiple, dfl := [] },
  { at_ := ("common_lattice", none), name := "common_lattice", qual := "common_lattice", params := defArgs s_common_lattice, body := defBody s_common_lattice, scope := defScope s_common_lattice, dfl := [] },
  { at_ := ("with_shift", none), name := "with_shift", qual := "with_shift", params := defArgs s_with_shift, body := defBody s_with_shift, scope := defScope s_with_shift, dfl := [] },
  { at_ := ("joined_lattice", none), name := "joined_lattice", qual := "joined_lattice", params := defArgs s_joined_lattice, body := defBody s_joined_lattice, scope := defScope s_joined_lattice, dfl := [] },
  { at_ := ("Lattice", some "__le__"), name := "__le__", qual := "Lattice.__le__", params := defArgs s_Lattice_le, body := defBody s_Lattice_le, scope := defScope s_Lattice_le, dfl := [] },
  { at_ := ("_law_two_right", none), name := "_law_two_right", qual := "_law_two_right", params := defArgs s__law_two_right, body := defBody s__law_two_right, scope := defScope s__law_two_right, dfl := [] },
  { at_ := ("law", none), name := "law", qual := "law", params := defArgs s_law, body := defBody s_law, scope := defScope s_law, dfl := [] },
  { at_ := ("_law_refused", none), name := "_law_refused", qual := "_law_refused", params := defArgs s__law_refused, body := defBody s__law_refused, scope := defScope s__law_refused, dfl := [] }]
def chk (K : PySem.W.Frag) : List Bool := [
  tabB K cn tabR,
  decide (PySem.W.findIn K (.ref (ga K "Lattice")) "__ne__" = some (some (.builtin "object.__ne__"))),
  decide (PySem.W.mroIn K (ga K "Lattice") (.type "object") = some true),
  PySem.W.selfFirst K (ga K "Lattice"),
  (supL SupX.xVE PW K (ga K "BadNumber") "BadNumber.__init__" "number").all id,
  (supL SupX.xVE PW K (ga K "BadPart") "BadPart.__init__" "part").all id,
  (supL SupX.xVE PW K (ga K "NotSo") "NotSo.__init__" "word").all id,
  xmB K cn "BadIndex" xr_BadIndex,
  xmB K cn "BadNumber" xr_BadNumber,
  xmB K cn "BadPart" xr_BadPart,
  xmB K cn "NotSo" xr_NotSo,
  xmB K cn "TooMany" xr_TooMany,
  (xgL K (ga K (cn 0)) "part").all id,
  (xgL K (ga K (cn 3)) "word").all id,
  tabC K "law",
  tabC K "_law_spanned_right",
  decide ((tb K).map (·.1)).Nodup]
theorem chk_at {K : PySem.W.Frag} (h : (chk K).all id = true) (i : Nat) {b : Bool} (e : (chk K)[i]? = some b := by rfl) : b = true := List.all_eq_true.mp h b (List.mem_of_getElem? e)
def cs (K : PySem.W.Frag) : List (Addr × Addr) := [tabW K "law", tabW K "_law_spanned_right"]
theorem tx_of {base : Heap} {wd : World} {K : PySem.W.Frag} {h : Heap} {mg : Str → Option Value} (KX : K.In h) (Ns : h.Ns mainGlobals mg) (c : SaysD fa fns K) (ck : (chk K).all id = true)  (e_BadNumber : supW K (ma K (ga K "BadNumber") "__init__") = supV "BadNumber.__init__" s_BadNumber_init) (e_BadPart : supW K (ma K (ga K "BadPart") "__init__") = supV "BadPart.__init__" s_BadPart_init) (e_NotSo : supW K (ma K (ga K "NotSo") "__init__") = supV "NotSo.__init__" s_NotSo_init) (TB : ∀ p ∈ cs K, LamX.TabB base mg p.1 p.2) : Tx base wd K mg := by
  have c_BadIndex : mg "BadIndex" = some (.ref (ga K "BadIndex")) := glo_ok KX Ns (c.fact 11)
  have c_BadNumber : mg "BadNumber" = some (.ref (ga K "BadNumber")) := glo_ok KX Ns (c.fact 12)
  have c_BadPart : mg "BadPart" = some (.ref (ga K "BadPart")) := glo_ok KX Ns (c.fact 13)
  have c_Lattice : mg "Lattice" = some (.ref (ga K "Lattice")) := glo_ok KX Ns (c.fact 14)
  have c_NotSo : mg "NotSo" = some (.ref (ga K "NotSo")) := glo_ok KX Ns (c.fact 15)
  have c_TooMany : mg "TooMany" = some (.ref (ga K "TooMany")) := glo_ok KX Ns (c.fact 16)
  have hc : ∀ C cA, mg (cn C) = some (.ref cA) → cA = ga K (cn C) := fun C cA h => match C, h with
    | 0, h => (Value.ref.inj (Option.some.inj (h.symm.trans c_BadPart)))
    | 1, h => (Value.ref.inj (Option.some.inj (h.symm.trans c_BadNumber)))
    | 2, h => (Value.ref.inj (Option.some.inj (h.symm.trans c_BadIndex)))
    | 3, h => (Value.ref.inj (Option.some.inj (h.symm.trans c_NotSo)))
    | 4, h => (Value.ref.inj (Option.some.inj (h.symm.trans c_TooMany)))
    | 5, h => (Value.ref.inj (Option.some.inj (h.symm.trans c_Lattice)))
    | _ + 6, h => (Value.ref.inj (Option.some.inj (h.symm.trans c_BadPart)))
  exact {
    m_abs := free_ok KX Ns (c.fact 0)
    m_all := free_ok KX Ns (c.fact 1)
    m_bool := free_ok KX Ns (c.fact 2)
    m_int := free_ok KX Ns (c.fact 3)
    m_isinstance := free_ok KX Ns (c.fact 4)
    m_len := free_ok KX Ns (c.fact 5)
    m_max := free_ok KX Ns (c.fact 6)
    m_min := free_ok KX Ns (c.fact 7)
    m_range := free_ok KX Ns (c.fact 8)
    m_tuple := free_ok KX Ns (c.fact 9)
    m_zip := free_ok KX Ns (c.fact 10)
    c_BadIndex := c_BadIndex
    c_BadNumber := c_BadNumber
    c_BadPart := c_BadPart
    c_Lattice := c_Lattice
    c_NotSo := c_NotSo
    c_TooMany := c_TooMany
    hc := hc
    tab := tabB_ok (G := GG K mg) rfl hc (chk_at ck 0)
    f_a := by
      intro C j h
      unfold m_a at h
      split at h
      · cases h; exact ⟨(show List.findIdx? (fun y => y == ("a" : Str)) (fl 5) = some 0 by decide), fun cA hA => by have e := hc 5 _ hA; subst e; exact ⟨cls_ok (c.fact 18), noat_ok (c.fact 19)⟩⟩
      · cases h
    f_b := by
      intro C j h
      unfold m_b at h
      split at h
      · cases h; exact ⟨(show List.findIdx? (fun y => y == ("b" : Str)) (fl 5) = some 1 by decide), fun cA hA => by have e := hc 5 _ hA; subst e; exact ⟨cls_ok (c.fact 18), noat_ok (c.fact 20)⟩⟩
      · cases h
    f_d := by
      intro C j h
      unfold m_d at h
      split at h
      · cases h; exact ⟨(show List.findIdx? (fun y => y == ("d" : Str)) (fl 5) = some 2 by decide), fun cA hA => by have e := hc 5 _ hA; subst e; exact ⟨cls_ok (c.fact 18), noat_ok (c.fact 21)⟩⟩
      · cases h
    n_Lattice_a := ⟨by rfl, (show ("a" : Str) ∉ (fl 5).take 0 by decide), (show (fl 5).length < 1000 by decide), fun cA hA => by have e := hc 5 _ hA; subst e; exact ⟨cls_ok (c.fact 18), noat_ok (c.fact 19)⟩⟩
    n_Lattice_b := ⟨by rfl, (show ("b" : Str) ∉ (fl 5).take 1 by decide), (show (fl 5).length < 1000 by decide), fun cA hA => by have e := hc 5 _ hA; subst e; exact ⟨cls_ok (c.fact 18), noat_ok (c.fact 20)⟩⟩
    n_Lattice_d := ⟨by rfl, (show ("d" : Str) ∉ (fl 5).take 2 by decide), (show (fl 5).length < 1000 by decide), fun cA hA => by have e := hc 5 _ hA; subst e; exact ⟨cls_ok (c.fact 18), noat_ok (c.fact 21)⟩⟩
    k_Lattice := cls_ok (c.fact 18)
    mk_Lattice := mkr_ok (c.fact 22)
    ne_Lattice := ⟨fun cA hA => by have e := hc 5 _ hA; subst e; exact ⟨of_decide_eq_true (chk_at ck 1), of_decide_eq_true (chk_at ck 2)⟩⟩
    sf_Lattice := fun cA hA => by have e := hc 5 _ hA; subst e; exact chk_at ck 3
    x_BadNumber := xc_of (G := GG K mg) rfl c_BadNumber e_BadNumber SupX.xVE_ok (chk_at ck 4) supt_BadNumber fok_BadNumber
    x_BadPart := xc_of (G := GG K mg) rfl c_BadPart e_BadPart SupX.xVE_ok (chk_at ck 5) supt_BadPart fok_BadPart
    x_NotSo := xc_of (G := GG K mg) rfl c_NotSo e_NotSo SupX.xVE_ok (chk_at ck 6) supt_NotSo fok_NotSo
    xm_BadIndex := xm_of hc (chk_at ck 7)
    xm_BadNumber := xm_of hc (chk_at ck 8)
    xm_BadPart := xm_of hc (chk_at ck 9)
    xm_NotSo := xm_of hc (chk_at ck 10)
    xm_TooMany := xm_of hc (chk_at ck 11)
    xg_part := fun c h => (by have e : c = 0 := (by simpa [xf_part] using h); subst e; exact xg_of (G := GG K mg) rfl (fun cA hA => hc 0 _ hA) (chk_at ck 12))
    xg_word := fun c h => (by have e : c = 3 := (by simpa [xf_word] using h); subst e; exact xg_of (G := GG K mg) rfl (fun cA hA => hc 3 _ hA) (chk_at ck 13))
    tb_law := TB _ (by simp [cs])
    cd_law := (tab_ok (chk_at ck 14)).2.2
    tb__law_spanned_right := TB _ (by simp [cs])
    cd__law_spanned_right := (tab_ok (chk_at ck 15)).2.2
    tb_nd := of_decide_eq_true (chk_at ck 16)
    c__law_refused := glo_ok KX Ns (c.fact 17)
    D__law_refused := c.def_ 36
    c__law_draw := glo_ok KX Ns (c.fact 23)
    D__law_draw := c.def_ 0
    c__law_opened := glo_ok KX Ns (c.fact 24)
    D__law_opened := c.def_ 1
    c__law_pick := glo_ok KX Ns (c.fact 25)
    D__law_pick := c.def_ 2
    c__law_is_sum := glo_ok KX Ns (c.fact 26)
    D__law_is_sum := c.def_ 3
    c_is_integer := glo_ok KX Ns (c.fact 27)
    D_is_integer := c.def_ 4
    c_is_shift := glo_ok KX Ns (c.fact 28)
    D_is_shift := c.def_ 5
    c_check_shift := glo_ok KX Ns (c.fact 29)
    D_check_shift := c.def_ 6
    c_divisor_sum := glo_ok KX Ns (c.fact 30)
    D_divisor_sum := c.def_ 7
    c_check_integer := glo_ok KX Ns (c.fact 31)
    D_check_integer := c.def_ 8
    c_greatest_divisor := glo_ok KX Ns (c.fact 32)
    D_greatest_divisor := c.def_ 9
    c_is_between := glo_ok KX Ns (c.fact 33)
    D_is_between := c.def_ 10
    c_check_basis := glo_ok KX Ns (c.fact 34)
    D_check_basis := c.def_ 11
    D_Lattice_init := c.def_ 12
    c_spanned := glo_ok KX Ns (c.fact 35)
    D_spanned := c.def_ 13
    c_check_cell := glo_ok KX Ns (c.fact 36)
    D_check_cell := c.def_ 14
    h_Lattice_place := meth_ok (c.fact 37)
    D_Lattice_place := c.def_ 15
    h_Lattice_contains := meth_ok (c.fact 38)
    D_Lattice_contains := c.def_ 16
    h_Lattice_eq := meth_ok (c.fact 39)
    D_Lattice_eq := c.def_ 17
    h_Lattice_area := meth_ok (c.fact 40)
    D_Lattice_area := c.def_ 18
    c__law_spanned_right := glo_ok KX Ns (c.fact 41)
    D__law_spanned_right := c.def_ 19
    c__law_three := glo_ok KX Ns (c.fact 42)
    D__law_three := c.def_ 20
    c__law_place := glo_ok KX Ns (c.fact 43)
    D__law_place := c.def_ 21
    c__law_holds := glo_ok KX Ns (c.fact 44)
    D__law_holds := c.def_ 22
    c_is_remainder := glo_ok KX Ns (c.fact 45)
    D_is_remainder := c.def_ 23
    c_check_remainder := glo_ok KX Ns (c.fact 46)
    D_check_remainder := c.def_ 24
    c_inverse := glo_ok KX Ns (c.fact 47)
    D_inverse := c.def_ 25
    c_remainder_of := glo_ok KX Ns (c.fact 48)
    D_remainder_of := c.def_ 26
    c_both_remainders := glo_ok KX Ns (c.fact 49)
    D_both_remainders := c.def_ 27
    c_check_lattice := glo_ok KX Ns (c.fact 50)
    D_check_lattice := c.def_ 28
    c_least_multiple := glo_ok KX Ns (c.fact 51)
    D_least_multiple := c.def_ 29
    c_common_lattice := glo_ok KX Ns (c.fact 52)
    D_common_lattice := c.def_ 30
    c_with_shift := glo_ok KX Ns (c.fact 53)
    D_with_shift := c.def_ 31
    c_joined_lattice := glo_ok KX Ns (c.fact 54)
    D_joined_lattice := c.def_ 32
    h_Lattice_le := meth_ok (c.fact 55)
    D_Lattice_le := c.def_ 33
    c__law_two_right := glo_ok KX Ns (c.fact 56)
    D__law_two_right := c.def_ 34
    c_law := glo_ok KX Ns (c.fact 57)
    D_law := c.def_ 35
  }
end K09
namespace K09
open PySem Ep
section
variable {α β : Type}
def bnd (o : Out α) (k : α → M β) : Out β := match o with
  | .ok a r => k a r
  | .exn c p r => .exn c p r
  | .bad => .bad
theorem bndO (a : α) (r : RS) (k : α → M β) : bnd (.ok a r) k = k a r := rfl
theorem bndX (c : Nat) (p : T) (r : RS) (k : α → M β) : bnd (.exn c p r) k = .exn c p r := rfl
theorem bindR (m : M α) (k : α → M β) (r : RS) : (m >>= k) r = bnd (m r) k := by
  show M.bind m k r = _
  unfold M.bind bnd
  cases m r <;> rfl
theorem pureR (a : α) (r : RS) : (pure a : M α) r = .ok a r := rfl
theorem badR (r : RS) : (M.bad : M α) r = .bad := rfl
theorem liftS (a : α) : M.lift (some a) = M.pure a := rfl
theorem liftN : (M.lift none : M α) = M.bad := rfl
theorem mpureR (a : α) (r : RS) : (M.pure a : M α) r = .ok a r := rfl
end
def b1k (h : RS → T → Option T) (x : T) : M T := fun r => M.lift (h r x) r
theorem b1kR (h : RS → T → Option T) (x : T) (r : RS) : b1k h x r = M.lift (h r x) r := rfl
theorem fB1R (h : RS → T → Option T) (f : Ep.Env → M T) (env : Ep.Env) (r : RS) : fB1 h f env r = bnd (f env r) (b1k h) := bindR _ _ _
def ixk2 (x : T) (y : T) : M T := fun r => M.lift (ixT r x y) r
def ixk (g : Ep.Env → M T) (env : Ep.Env) (x : T) : M T := fun r => bnd (g env r) (ixk2 x)
theorem ixk2R (x y : T) (r : RS) : ixk2 x y r = M.lift (ixT r x y) r := rfl
theorem ixkR (g : Ep.Env → M T) (env : Ep.Env) (x : T) (r : RS) : ixk g env x r = bnd (g env r) (ixk2 x) := rfl
theorem fIxR (f g : Ep.Env → M T) (env : Ep.Env) (r : RS) : fIx f g env r = bnd (f env r) (ixk g env) := by
  refine (bindR _ _ _).trans ?_
  congr 1
theorem intI (r : RS) (i : Int) : intT r (.int i) = some (.int i) := rfl
theorem ix0 (r : RS) (a b d : Int) : ixT r (.lst [.int a, .int b, .int d]) (.int 0) = some (.int a) := rfl
theorem ix1 (r : RS) (a b d : Int) : ixT r (.lst [.int a, .int b, .int d]) (.int 1) = some (.int b) := rfl
theorem ix2 (r : RS) (a b d : Int) : ixT r (.lst [.int a, .int b, .int d]) (.int 2) = some (.int d) := rfl
theorem mulB {i j : Int} (hi : i.natAbs < 2 ^ 1000) (hj : j.natAbs < 2 ^ 1000) : mulT (.int i) (.int j) = some (.int (i * j)) := by
  refine if_pos ?_
  unfold mulOk
  have l : ∀ n : Nat, n < 2 ^ 1000 → n.log2 < 1001 := fun n h => by
    by_cases z : n = 0
    · subst z; decide
    · have := (Nat.log2_lt z).mpr h
      omega
  have := l _ hi
  have := l _ hj
  rw [decide_eq_true (by omega : i.natAbs.log2 + j.natAbs.log2 < 1000000)]
  simp
theorem modP {i j : Int} (h : 0 < j) : modT (.int i) (.int j) = some (.int (i % j)) := if_pos h
theorem divB {i j : Int} (h : 0 < j) (h2 : j.natAbs < 2 ^ 1000) : divT (.int i) (.int j) = some (.int (i / j)) := by
  refine if_pos ⟨h, ?_⟩
  have := (Nat.log2_lt (by omega : j.natAbs ≠ 0)).mpr h2
  omega
/-- the lattice of a, b, d -/
structure Lt (a b d : Int) : Prop where
  a0 : 0 < a
  b0 : 0 ≤ b
  b1 : b < a
  d0 : 0 < d
  aB : a ≤ 10 ^ 22
  dB : d ≤ 10 ^ 22
abbrev three (a b d : Int) : T := .lst [.int a, .int b, .int d]
abbrev latt (a b d : Int) : T := .obj 5 [.int a, .int b, .int d]
abbrev pr (x y : Int) : T := .tup [.int x, .int y]
def plX (a b d x y : Int) : Int := (x - b * (y / d)) % a
def plY (d y : Int) : Int := y % d
def held (a b d x y : Int) : Bool := decide (plX a b d x y = 0) && decide (plY d y = 0)
theorem bdiv {y d : Int} (hd : 0 < d) : (y / d).natAbs ≤ y.natAbs := by
  have := Int.natAbs_ediv_le_natAbs y d
  omega
theorem eq2 (x y z w : Int) : eqT (pr x y) (pr z w) = some (decide (x = z) && decide (y = w)) := by
  rw [eq_ii, Bool.and_true]; rfl
theorem place {a b d x y : Int} (L : Lt a b d) (hx : x.natAbs < 2 ^ 900) (hy : y.natAbs < 2 ^ 900) (r : RS) : F__law_place [three a b d, .int x, .int y] r = .ok (pr (plX a b d x y) (plY d y)) r := by
  have h1 : b.natAbs < 2 ^ 1000 := by have := L.b0; have := L.b1; have := L.aB; omega
  have h2 : d.natAbs < 2 ^ 1000 := by have := L.d0; have := L.dB; omega
  have h3 : (y / d).natAbs < 2 ^ 1000 := by have := bdiv (y := y) L.d0; omega
  simp [F__law_place, g__law_place, fnS, envOf, qSeq, qAsg, qRet, qNil, ofM, fVar, hTupL, hCons, hName, hNil, fTup, fAll, fBin, bindR, bndO, bndX, pureR, mpureR, liftS, modP L.a0, modP L.d0, divB L.d0 h2, mulB h1 h3, subT, plX, plY]
theorem holds {a b d x y : Int} (L : Lt a b d) (hx : x.natAbs < 2 ^ 900) (hy : y.natAbs < 2 ^ 900) (r : RS) : F__law_holds [three a b d, .int x, .int y] r = .ok (.bl (held a b d x y)) r := by
  simp [F__law_holds, g__law_holds, fnS, envOf, qSeq, qRet, ofM, fVar, fC, fCall, fTup, fAll, fCmp, fBin, bindR, bndO, bndX, pureR, mpureR, place L hx hy, eq2, liftS, held]
theorem is_integer_int (i : Int) (r : RS) : F_is_integer [.int i] r = .ok (.bl true) r := rfl
theorem is_integer_non (r : RS) : F_is_integer [.non] r = .ok (.bl false) r := rfl
theorem is_integer_bl (b : Bool) (r : RS) : F_is_integer [.bl b] r = .ok (.bl false) r := rfl
theorem is_integer_str (s : Str) (r : RS) : F_is_integer [.str s] r = .ok (.bl false) r := rfl
theorem is_integer_tup (s : List T) (r : RS) : F_is_integer [.tup s] r = .ok (.bl false) r := rfl
theorem is_shift_pr (x y : Int) (r : RS) : F_is_shift [pr x y] r = .ok (.bl true) r := rfl
theorem check_cell_pr (x y : Int) (r : RS) : F_check_cell [pr x y] r = .ok .non r := rfl
theorem check_shift_pr (x y : Int) (r : RS) : F_check_shift [pr x y] r = .ok .non r := rfl
theorem check_integer_int (x : Int) (r : RS) : F_check_integer [.int x] r = .ok .non r := rfl
theorem ltI (i j : Int) : ltT (.int i) (.int j) = some (decide (i < j)) := rfl
theorem leI (i j : Int) : leT (.int i) (.int j) = some (decide (i ≤ j)) := rfl
theorem is_between_int (i j k : Int) (r : RS) : F_is_between [.int i, .int j, .int k] r = .ok (.bl (decide (j ≤ i) && decide (i ≤ k))) r := by
  by_cases h : j ≤ i <;> by_cases h2 : i ≤ k <;>
  simp [F_is_between, g_is_between, fnS, envOf, qSeq, qRet, ofM, fVar, fCall, fAll, fAnd, fChain, bindR, bndO, bndX, pureR, mpureR, liftS, is_integer_int, leI, h, h2]
theorem basis {a b d : Int} (L : Lt a b d) (r : RS) : F_check_basis [.int a, .int b, .int d] r = .ok .non r := by
  have h1 := L.a0
  have h2 := L.b0
  have h3 := L.b1
  have h4 := L.d0
  simp [F_check_basis, g_check_basis, fnS, envOf, qSeq, qIf, qNil, ofM, fVar, fC, fCall, fAll, fTru, truT, fNotB, fOrB, fCmpB, fBin, bindR, bndO, bndX, pureR, mpureR, liftS, is_integer_int, is_between_int, ltI, subT, show ¬ a < 1 by omega, show ¬ d < 1 by omega, show 0 ≤ b by omega, show b ≤ a - 1 by omega]
theorem init {a b d : Int} (L : Lt a b d) (r : RS) : F_Lattice_init [.int a, .int b, .int d] r = .ok [.int a, .int b, .int d] r := by
  simp [F_Lattice_init, g_Lattice_init, fnI, envOf, qSeq, qExpr, qFld, qNil, ofM, fVar, fCall, fAll, bindR, bndO, bndX, pureR, mpureR, liftS, basis L, insOf, GG, fl]
theorem l_place {a b d x y : Int} (L : Lt a b d) (hx : x.natAbs < 2 ^ 900) (hy : y.natAbs < 2 ^ 900) (r : RS) : F_Lattice_place [latt a b d, pr x y] r = .ok (pr (plX a b d x y) (plY d y)) r := by
  have h1 : b.natAbs < 2 ^ 1000 := by have := L.b0; have := L.b1; have := L.aB; omega
  have h2 : d.natAbs < 2 ^ 1000 := by have := L.d0; have := L.dB; omega
  have h3 : (y / d).natAbs < 2 ^ 1000 := by have := bdiv (y := y) L.d0; omega
  have e : y - d * (y / d) = y % d := (Int.emod_def y d).symm
  simp [F_Lattice_place, g_Lattice_place, fnS, envOf, qSeq, qExpr, qAsg, qSet, qRet, qNil, ofM, fVar, fCall, hTupL, hCons, hName, hNil, fTup, fAll, fBin, fB1R, b1kR, intI, fFld, m_a, m_b, m_d, bindR, bndO, bndX, pureR, mpureR, liftS, check_cell_pr, modP L.a0, modP L.d0, divB L.d0 h2, mulB h3 h1, mulB h3 h2, subT, plX, plY, e, Int.mul_comm]
theorem l_contains {a b d x y : Int} (L : Lt a b d) (hx : x.natAbs < 2 ^ 900) (hy : y.natAbs < 2 ^ 900) (r : RS) : F_Lattice_contains [latt a b d, pr x y] r = .ok (.bl (held a b d x y)) r := by
  simp [F_Lattice_contains, g_Lattice_contains, fnS, envOf, qSeq, qRet, ofM, fVar, fC, fCall, fMeth, fTup, fAll, fAnd, fCmp, fBin, bindR, bndO, bndX, pureR, mpureR, is_shift_pr, l_place L hx hy, eq2, liftS, held]
theorem l_in {a b d x y : Int} (L : Lt a b d) (hx : x.natAbs < 2 ^ 900) (hy : y.natAbs < 2 ^ 900) (r : RS) : own2c 5 F_Lattice_contains (pr x y) (latt a b d) r = .ok (.bl (held a b d x y)) r := by
  simp [own2c, own2, noEx, bindR, bndO, bndX, l_contains L hx hy, pureR]
theorem l_nin {a b d x y : Int} (L : Lt a b d) (hx : x.natAbs < 2 ^ 900) (hy : y.natAbs < 2 ^ 900) (r : RS) : own2nc 5 F_Lattice_contains (pr x y) (latt a b d) r = .ok (.bl (!held a b d x y)) r := by
  simp [own2nc, own2, noEx, bindR, bndO, bndX, l_contains L hx hy, pureR, negB]
theorem l_area {a b d : Int} (L : Lt a b d) (r : RS) : F_Lattice_area [latt a b d] r = .ok (.int (a * d)) r := by
  have h1 : a.natAbs < 2 ^ 1000 := by have := L.a0; have := L.aB; omega
  have h2 : d.natAbs < 2 ^ 1000 := by have := L.d0; have := L.dB; omega
  simp [F_Lattice_area, g_Lattice_area, fnS, envOf, qSeq, qRet, ofM, fVar, fBin, fFld, m_a, m_d, bindR, bndO, bndX, pureR, mpureR, liftS, mulB h1 h2]
end K09
namespace K09
/-- the cells of the lattice a, b, d -/
def In (a b d x y : Int) : Prop := ∃ t k, y = d * t ∧ x = b * t + a * k
theorem In.comb {a b d x y x' y' : Int} (h1 : In a b d x y) (h2 : In a b d x' y') (n : Int) : In a b d (x + n * x') (y + n * y') := by
  obtain ⟨t, k, e1, e2⟩ := h1
  obtain ⟨t', k', e3, e4⟩ := h2
  exact ⟨t + n * t', k + n * k', by grind, by grind⟩
theorem In.smul {a b d x y : Int} (h : In a b d x y) (n : Int) : In a b d (n * x) (n * y) := by
  obtain ⟨t, k, e1, e2⟩ := h
  exact ⟨n * t, n * k, by grind, by grind⟩
theorem In.gen1 (a b d : Int) : In a b d a 0 := ⟨0, 1, by grind, by grind⟩
theorem In.gen2 (a b d : Int) : In a b d b d := ⟨1, 0, by grind, by grind⟩
theorem In.zero (a b d : Int) : In a b d 0 0 := ⟨0, 0, by grind, by grind⟩
theorem In.sub {a b d a' b' d' x y : Int} (h1 : In a' b' d' a 0) (h2 : In a' b' d' b d) (h : In a b d x y) : In a' b' d' x y := by
  obtain ⟨t, k, e1, e2⟩ := h
  have := (h2.smul t).comb h1 k
  have e : x = t * b + k * a := by grind
  have e' : y = t * d + k * 0 := by grind
  rw [e, e']; exact this
theorem held_iff {a b d x y : Int} (ha : 0 < a) (hd : 0 < d) : ((x - b * (y / d)) % a = 0 ∧ y % d = 0) ↔ In a b d x y := by
  constructor
  · rintro ⟨h1, h2⟩
    have e1 := Int.mul_ediv_add_emod y d
    have e2 := Int.mul_ediv_add_emod (x - b * (y / d)) a
    exact ⟨y / d, (x - b * (y / d)) / a, by grind, by grind⟩
  · rintro ⟨t, k, e1, e2⟩
    subst e1
    rw [Int.mul_ediv_cancel_left _ (by omega), Int.mul_emod_right]
    refine ⟨?_, rfl⟩
    have : x - b * t = a * k := by grind
    rw [this, Int.mul_emod_right]
structure Ok (a b d : Int) : Prop where
  a0 : 0 < a
  b0 : 0 ≤ b
  b1 : b < a
  d0 : 0 < d
theorem gen_dvd {a b d a' b' d' : Int} (O : Ok a b d) (O' : Ok a' b' d') (h1 : In a' b' d' a 0) (h2 : In a' b' d' b d) : a' ∣ a ∧ d' ∣ d := by
  obtain ⟨t, k, e1, e2⟩ := h1
  obtain ⟨t', k', e3, e4⟩ := h2
  have : t = 0 := by
    rcases Int.mul_eq_zero.mp e1.symm with h | h
    · have := O'.d0; omega
    · exact h
  subst this
  exact ⟨⟨k, by grind⟩, ⟨t', e3⟩⟩
theorem uniq {a b d a' b' d' : Int} (O : Ok a b d) (O' : Ok a' b' d') (h1 : In a' b' d' a 0) (h2 : In a' b' d' b d) (h3 : In a b d a' 0) (h4 : In a b d b' d') : a = a' ∧ b = b' ∧ d = d' := by
  obtain ⟨q1, q2⟩ := gen_dvd O O' h1 h2
  obtain ⟨q3, q4⟩ := gen_dvd O' O h3 h4
  have ea : a = a' := Int.dvd_antisymm (by have := O.a0; omega) (by have := O'.a0; omega) q3 q1
  have ed : d = d' := Int.dvd_antisymm (by have := O.d0; omega) (by have := O'.d0; omega) q4 q2
  subst ea ed
  obtain ⟨t, k, e3, e4⟩ := h2
  have ht : t = 1 := by
    have hd := O.d0
    have : d * (t - 1) = 0 := by grind
    rcases Int.mul_eq_zero.mp this with h | h <;> omega
  subst ht
  have hk : k = 0 := by
    have b0 := O.b0; have b1 := O.b1; have b0' := O'.b0; have b1' := O'.b1; have a0 := O.a0
    have e5 : a * k = b - b' := by grind
    by_cases hk : k = 0
    · exact hk
    · exfalso
      rcases Int.lt_or_gt_of_ne hk with h | h
      · have : a * k ≤ a * (-1) := Int.mul_le_mul_of_nonneg_left (by omega) (by omega)
        omega
      · have : a * 1 ≤ a * k := Int.mul_le_mul_of_nonneg_left (by omega) (by omega)
        omega
  subst hk
  exact ⟨rfl, by grind, rfl⟩
theorem uniq_set {a b d a' b' d' : Int} (O : Ok a b d) (O' : Ok a' b' d') (h : ∀ x y, In a b d x y ↔ In a' b' d' x y) : a = a' ∧ b = b' ∧ d = d' :=
  uniq O O' ((h _ _).mp (In.gen1 ..)) ((h _ _).mp (In.gen2 ..)) ((h _ _).mpr (In.gen1 ..)) ((h _ _).mpr (In.gen2 ..))
/-! spanned -/
theorem span_iff {x1 y1 x2 y2 d p q u v E a b x y : Int} (hy1 : y1 = d * p) (hy2 : y2 = d * q) (hu : u * p + v * q = 1) (hE : E = x1 * q - x2 * p) (hE0 : E ≠ 0) (hd : d ≠ 0) (ha : a = E ∨ a = -E) (hb : ∃ k, b = u * x1 + v * x2 + a * k) :
    In a b d x y ↔ (d * E ∣ x * y2 - y * x2 ∧ d * E ∣ y * x1 - x * y1) := by
  obtain ⟨k0, hb⟩ := hb
  constructor
  · rintro ⟨t, k, e1, e2⟩
    subst e1 e2 hb hy1 hy2
    rcases ha with rfl | rfl
    · exact ⟨⟨t * u + (k0 * t + k) * q, by grind⟩, ⟨t * v - (k0 * t + k) * p, by grind⟩⟩
    · exact ⟨⟨t * u - (k0 * t + k) * q, by grind⟩, ⟨t * v + (k0 * t + k) * p, by grind⟩⟩
  · rintro ⟨⟨m, h1⟩, ⟨n, h2⟩⟩
    have hy : y * E = d * E * (n * q + m * p) := by grind
    have hy' : y = d * (n * q + m * p) := by
      have : E * (y - d * (n * q + m * p)) = 0 := by grind
      rcases Int.mul_eq_zero.mp this with h | h
      · exact absurd h hE0
      · omega
    obtain ⟨t, ht⟩ : ∃ t, t = n * q + m * p := ⟨_, rfl⟩
    rw [← ht] at hy'
    subst hy' hy1 hy2
    have g1 : x * q - t * x2 = E * m := by
      have : d * (x * q - t * x2 - E * m) = 0 := by grind
      rcases Int.mul_eq_zero.mp this with h | h
      · exact absurd h hd
      · omega
    have g2 : t * x1 - x * p = E * n := by
      have : d * (t * x1 - x * p - E * n) = 0 := by grind
      rcases Int.mul_eq_zero.mp this with h | h
      · exact absurd h hd
      · omega
    have hx : x = (u * x1 + v * x2) * t + E * (v * m - u * n) := by grind
    rcases ha with rfl | rfl
    · exact ⟨t, v * m - u * n - k0 * t, rfl, by grind⟩
    · exact ⟨t, -(v * m - u * n) - k0 * t, rfl, by grind⟩
/-! common -/
theorem aux1 {b1 e1 T g g1 k1 b2 e2 g2 k2 : Int} (h : b1 * (e1 * T) + g * g1 * k1 = b2 * (e2 * T) + g * g2 * k2) : (e1 * b1 - e2 * b2) * T = g * (g2 * k2 - g1 * k1) := by grind
theorem aux2 {x X M S e1 b1 a1 k1 j1 : Int} (h : x = b1 * (e1 * (M * S)) + a1 * k1) (h2 : X - M * (e1 * b1) = a1 * j1) : x - X * S = a1 * (k1 - j1 * S) := by grind
theorem common_iff {a1 b1 d1 a2 b2 d2 e1 e2 up g M m X x y : Int} (h1 : up = d1 * e1) (h2 : up = d2 * e2) (hup : ∀ y, d1 ∣ y → d2 ∣ y → up ∣ y) (hd1 : d1 ≠ 0) (hd2 : d2 ≠ 0)
    (hg1 : g ∣ a1) (hg2 : g ∣ a2) (hM : ∀ t, g ∣ (e1 * b1 - e2 * b2) * t → M ∣ t) (hX1 : a1 ∣ X - M * (e1 * b1)) (hX2 : a2 ∣ X - M * (e2 * b2)) (hm1 : a1 ∣ m) (hm2 : a2 ∣ m) (hm : ∀ z, a1 ∣ z → a2 ∣ z → m ∣ z) :
    In m X (M * up) x y ↔ (In a1 b1 d1 x y ∧ In a2 b2 d2 x y) := by
  obtain ⟨j1, hj1⟩ := hX1
  obtain ⟨j2, hj2⟩ := hX2
  obtain ⟨i1, hi1⟩ := hm1
  obtain ⟨i2, hi2⟩ := hm2
  constructor
  · rintro ⟨t, k, q1, q2⟩
    exact ⟨⟨M * e1 * t, j1 * t + i1 * k, by grind, by grind⟩, ⟨M * e2 * t, j2 * t + i2 * k, by grind, by grind⟩⟩
  · rintro ⟨⟨t1, k1, q1, q2⟩, ⟨t2, k2, q3, q4⟩⟩
    obtain ⟨T, hT⟩ := hup y ⟨t1, q1⟩ ⟨t2, q3⟩
    have ht1 : t1 = e1 * T := Int.eq_of_mul_eq_mul_left hd1 (by rw [← q1, hT, h1, Int.mul_assoc])
    have ht2 : t2 = e2 * T := Int.eq_of_mul_eq_mul_left hd2 (by rw [← q3, hT, h2, Int.mul_assoc])
    subst ht1 ht2
    obtain ⟨g1, rfl⟩ := hg1
    obtain ⟨g2, rfl⟩ := hg2
    obtain ⟨S, rfl⟩ := hM T ⟨g2 * k2 - g1 * k1, aux1 (q2.symm.trans q4)⟩
    obtain ⟨r, hr⟩ := hm (x - X * S) ⟨k1 - j1 * S, aux2 q2 hj1⟩ ⟨k2 - j2 * S, aux2 q4 hj2⟩
    exact ⟨S, r, by rw [hT, Int.mul_comm M up, Int.mul_assoc], by omega⟩
/-! with a shift -/
theorem shift_iff {a b d x y g p q u v c a' b' X Y : Int} (hd : d = g * p) (hy : y = g * q) (hu : u * p + v * q = 1) (hc : c = q * b - p * x) (ha1 : a' ∣ a) (ha2 : a' ∣ c) (hab : ∃ i j, a' = i * a + j * c) (hb : ∃ k, b' = u * b + v * x + a' * k) :
    In a' b' g X Y ↔ ∃ n, In a b d (X - n * x) (Y - n * y) := by
  obtain ⟨i1, hi1⟩ := ha1
  obtain ⟨i2, hi2⟩ := ha2
  obtain ⟨i, j, hij⟩ := hab
  obtain ⟨k0, hk0⟩ := hb
  constructor
  · rintro ⟨t, k, e1, e2⟩
    refine ⟨v * t - j * (k0 * t + k) * p, u * t + j * (k0 * t + k) * q, i * (k0 * t + k), ?_, ?_⟩
    · grind
    · grind
  · rintro ⟨n, t, k, e1, e2⟩
    refine ⟨p * t + q * n, i1 * k + i2 * (v * t - u * n) - k0 * (p * t + q * n), ?_, ?_⟩
    · grind
    · grind
end K09
namespace K09
open PySem Ep L2
theorem gcdN (R L : Nat) : Int.gcd (R : Int) ((L % R : Nat) : Int) = Int.gcd (L : Int) (R : Int) := by
  show Nat.gcd R (L % R) = Nat.gcd L R
  rw [Nat.gcd_comm L R, Nat.gcd_rec R L, Nat.gcd_comm]
theorem neI (i j : Int) : neT (.int i) (.int j) = some (!(i == j)) := rfl
abbrev gBody : Sm := (qSeq (qPar2 2 3 (fVar 3) (fBin modT (fB1 intT (fVar 2)) (fVar 3))) qNil)
theorem gcd_loop (s0 s1 : Slot) (r : RS) : ∀ (n L R : Nat), R < n → whileF (fCmpB neT (fVar 3) (fC (.int 0))) gBody n [s0, s1, .val (.int L), .val (.int R)] r = .nx [s0, s1, .val (.int (Int.gcd L R)), .val (.int 0)] r
  | 0, L, R, h => by omega
  | n + 1, L, R, h => by
    by_cases hR : R = 0
    · subst hR
      simp [whileF, ofM, fCmpB, fVar, fC, bindR, bndO, pureR, mpureR, neI, liftS]
    · have h1 : ((R : Int) == 0) = false := by simp; omega
      have hm : L % R < n := by have := Nat.mod_lt L (show 0 < R by omega); omega
      have ih := gcd_loop s0 s1 r n R (L % R) hm
      rw [gcdN] at ih
      simp [whileF, ofM, fCmpB, fVar, fC, bindR, bndO, pureR, mpureR, neI, liftS, h1, gBody, qSeq, qNil, qPar2, fAll, fBin, fB1R, b1kR, intI, modP (show (0 : Int) < R by omega)]
      exact ih
theorem absI (r : RS) (i : Int) : absT r (.int i) = some (.int i.natAbs) := by
  show some (T.int (if i < 0 then -i else i)) = _
  congr 2
  split <;> omega
theorem gdiv (i j : Int) (r : RS) : F_greatest_divisor [.int i, .int j] r = .ok (.int (Int.gcd i j)) r := by
  have e := gcd_loop (.val (.int i)) (.val (.int j)) r (j.natAbs + 1) i.natAbs j.natAbs (by omega)
  simp [F_greatest_divisor, g_greatest_divisor, fnS, envOf, qSeq, qExpr, qPar2, qRet, qNil, qWhile, fuI, ofM, fVar, fCall, fAll, fB1R, b1kR, absI, bindR, bndO, pureR, mpureR, liftS, check_integer_int]
  simp at e
  rw [e]
  simp [fVar]
  rfl
theorem gle (i j : Int) (h : 0 < i) : (Int.gcd i j : Int) ≤ i ∧ 0 < (Int.gcd i j : Int) := by
  have := Int.le_of_dvd h (Int.gcd_dvd_left i j)
  have := Int.gcd_pos_of_ne_zero_left j (show i ≠ 0 by omega)
  omega
theorem mulb {i j : Int} {m n : Nat} (hi : i.natAbs < 2 ^ m) (hj : j.natAbs < 2 ^ n) : (i * j).natAbs < 2 ^ (m + n) := by
  rw [Int.natAbs_mul, Nat.pow_add]
  exact Nat.mul_lt_mul'' hi hj
section
variable {f g : Ep.Env → M T} {env : Ep.Env} {r r1 r2 : RS} {t : T}
theorem n_setIx {i k j : Nat} {x : Int} {xs : List T} (hi : env[i]? = some (.val (.ref k))) (h1 : f env r = .ok t r1) (h2 : g env r1 = .ok (.int x) r2) (hk : r2[k]? = some xs) (hx : L2.ixN xs.length x = some j) : qSetIx i f g env r = .nx env (r2.set k (xs.set j t)) := by
  have e1 : isMut env i = true := by unfold isMut; rw [hi]
  have e2 : mutGet env i r2 = some xs := by unfold mutGet; rw [hi]; exact hk
  have e3 : mutSet env i r2 (xs.set j t) = .nx env (r2.set k (xs.set j t)) := by unfold mutSet; rw [hi]
  unfold qSetIx
  rw [if_pos e1, h1]
  show ofM env (fun u r => match mutGet env i r, u with
    | some xs, .int k => match L2.ixN xs.length k with
      | some j => mutSet env i r (xs.set j t)
      | none => .bad
    | _, _ => .bad) (g env r1) = _
  rw [h2]
  show (match mutGet env i r2, T.int x with
    | some xs, .int k => match L2.ixN xs.length k with
      | some j => mutSet env i r2 (xs.set j t)
      | none => .bad
    | _, _ => .bad) = _
  rw [e2]
  show (match L2.ixN xs.length x with
      | some j => mutSet env i r2 (xs.set j t)
      | none => .bad) = _
  rw [hx]
  exact e3
end
theorem ix_ref {r : RS} {k : Nat} {xs : List T} {i : Int} {t : T} (hk : r[k]? = some xs) (h : L2.atI xs i = some t) : ixT r (.ref k) (.int i) = some t := by
  show (r[k]?).bind (fun xs => L2.atI xs i) = some t
  rw [hk]
  exact h
theorem mulR {i j : Int} (h1 : -(2 ^ 64) < j) (h2 : j < 2 ^ 64) : mulT (.int i) (.int j) = some (.int (i * j)) := by
  show (if mulOk i j = true then some (T.int (i * j)) else none) = _
  rw [if_pos]
  unfold mulOk
  rw [decide_eq_true h1, decide_eq_true h2]
  simp
theorem mulL {i j : Int} (h1 : -(2 ^ 64) < i) (h2 : i < 2 ^ 64) : mulT (.int i) (.int j) = some (.int (i * j)) := by
  show (if mulOk i j = true then some (T.int (i * j)) else none) = _
  rw [if_pos]
  unfold mulOk
  rw [decide_eq_true h1, decide_eq_true h2]
  simp
theorem gt_ii (i j : Int) : gtT (.int i) (.int j) = some (decide (j < i)) := rfl
theorem fst_ref {r : RS} {k : Nat} {a b : Int} (hk : r[k]? = some [.int a, .int b]) : ixT r (.ref k) (.int 0) = some (.int a) := ix_ref hk rfl
theorem snd_ref {r : RS} {k : Nat} {a b : Int} (hk : r[k]? = some [.int a, .int b]) : ixT r (.ref k) (.int 1) = some (.int b) := ix_ref hk rfl
theorem draw {k : Nat} {a b n : Int} {r : RS} (hk : r[k]? = some [.int a, .int b]) (hn : 0 < n) (hn2 : n.natAbs < 2 ^ 1000) : ∃ v a' b', F__law_draw [.ref k, .int n] r = .ok (.int v) (r.set k [.int a', .int b']) ∧ 0 ≤ v ∧ v < n := by
  by_cases h : 0 < a
  · refine ⟨a % n, a / n, b, ?_, Int.emod_nonneg _ (by omega), Int.emod_lt_of_pos _ hn⟩
    refine n_fn (n_seqR (n_ifT (r1 := r) (e_cmpB (x := .int a) (y := .int 0) (r1 := r) (r2 := r) (e_ix rfl rfl (fst_ref hk)) rfl ?_) (n_seq (n_set (t := .int (a % n)) (r1 := r) (e_bin (r1 := r) (r2 := r) (x := .int a) (y := .int n) (e_b1 (x := .int a) (e_ix rfl rfl (fst_ref hk)) rfl) rfl (modP hn)))
      (n_seq (n_setIx (k := k) (j := 0) (x := 0) (xs := [.int a, .int b]) (t := .int (a / n)) (r1 := r) (r2 := r) rfl (e_bin (r1 := r) (x := .int a) (y := .int n) (e_ix rfl rfl (fst_ref hk)) rfl (divB hn hn2)) rfl hk rfl) (n_seqR (n_ret (t := .int (a % n)) (r1 := r.set k [.int (a / n), .int b]) rfl))))))
    rw [gt_ii, decide_eq_true h]
  · have hl : k < r.length := (List.getElem?_eq_some_iff.mp hk).1
    have m1 : 0 ≤ (b * 48271 + 11) % 2147483647 := Int.emod_nonneg _ (by omega)
    have m2 : (b * 48271 + 11) % 2147483647 < 2147483647 := Int.emod_lt_of_pos _ (by omega)
    generalize e : (b * 48271 + 11) % 2147483647 = c at m1 m2
    have hk2 : (r.set k [.int a, .int c])[k]? = some [.int a, .int c] := List.getElem?_set_self hl
    refine ⟨(c * c) % 2147483629 / 32 % n, a, c, ?_, Int.emod_nonneg _ (by omega), Int.emod_lt_of_pos _ hn⟩
    refine n_fn (n_seq (env' := envOf 1 [.ref k, .int n]) (r1 := r) (n_ifF (r1 := r) (e_cmpB (x := .int a) (y := .int 0) (r1 := r) (r2 := r) (e_ix rfl rfl (fst_ref hk)) rfl ?_) rfl)
      (n_seq (n_setIx (k := k) (j := 1) (x := 1) (xs := [.int a, .int b]) (t := .int c) (r1 := r) (r2 := r) rfl
        (e_bin (x := .int (b * 48271 + 11)) (y := .int 2147483647) (r1 := r) (e_b1 (x := .int (b * 48271 + 11)) (e_bin (x := .int (b * 48271)) (y := .int 11) (r1 := r) (e_bin (x := .int b) (y := .int 48271) (r1 := r) (e_ix rfl rfl (snd_ref hk)) rfl (mulR (by decide) (by decide))) rfl rfl) rfl) rfl ?_) rfl hk rfl)
      (n_seqR (n_ret (t := .int ((c * c) % 2147483629 / 32 % n)) (r1 := r.set k [.int a, .int c])
        (e_bin (x := .int ((c * c) % 2147483629 / 32)) (y := .int n) (r1 := r.set k [.int a, .int c]) (e_bin (x := .int ((c * c) % 2147483629)) (y := .int 32) (r1 := r.set k [.int a, .int c]) (e_bin (x := .int (c * c)) (y := .int 2147483629) (r1 := r.set k [.int a, .int c])
          (e_b1 (x := .int (c * c)) (e_bin (x := .int c) (y := .int c) (r1 := r.set k [.int a, .int c]) (e_ix rfl rfl (snd_ref hk2)) (e_ix rfl rfl (snd_ref hk2)) (mulR (by omega) (by omega))) rfl) rfl (modP (by decide))) rfl (divB (by decide) (by decide))) rfl (modP hn))))))
    · rw [gt_ii, decide_eq_false h]
    · rw [modP (by decide), e]
def Pool (k : Nat) (r : RS) : Prop := ∃ a b : Int, r[k]? = some [.int a, .int b]
theorem Pool.set {k : Nat} {r : RS} (h : Pool k r) (a b : Int) : Pool k (r.set k [.int a, .int b]) := by
  obtain ⟨a', b', h⟩ := h
  exact ⟨a, b, List.getElem?_set_self (List.getElem?_eq_some_iff.mp h).1⟩
theorem draw' {k : Nat} {n : Int} {r : RS} (h : Pool k r) (hn : 0 < n) (hn2 : n.natAbs < 2 ^ 1000) : ∃ v r', F__law_draw [.ref k, .int n] r = .ok (.int v) r' ∧ Pool k r' ∧ 0 ≤ v ∧ v < n := by
  have h0 := h
  obtain ⟨a, b, hk⟩ := h
  obtain ⟨v, a', b', e, h1, h2⟩ := draw hk hn hn2
  exact ⟨v, _, e, h0.set a' b', h1, h2⟩
theorem pick {k : Nat} {xs : List T} {r : RS} (h : Pool k r) (h0 : 0 < xs.length) (h1 : xs.length < 2 ^ 64) : ∃ t r', F__law_pick [.ref k, .lst xs] r = .ok t r' ∧ Pool k r' ∧ t ∈ xs := by
  obtain ⟨v, r', e, hp, v0, v1⟩ := draw' (n := xs.length) h (by omega) (by omega)
  have hv : v.toNat < xs.length := by omega
  have ea : L2.atI xs v = some xs[v.toNat] := by
    unfold L2.atI L2.ixN
    rw [if_pos v0, if_pos v1]
    simp [hv]
  refine ⟨xs[v.toNat], r', ?_, hp, List.getElem_mem _⟩
  exact n_fn (n_seqR (n_ret (e_ix (x := .lst xs) (y := .int v) (r1 := r) rfl (e_call (e_cons (x := .ref k) rfl (e_cons (x := .int xs.length) rfl e_nil)) e) ea)))
theorem threeR {k : Nat} {m : Int} {r : RS} (h : Pool k r) (h0 : 0 < m) (h1 : m ≤ 10 ^ 21) : ∃ a b d r', F__law_three [.ref k, .int m] r = .ok (three a b d) r' ∧ Pool k r' ∧ Lt a b d ∧ a ≤ m ∧ d ≤ m := by
  obtain ⟨v1, r1, e1, p1, v10, v11⟩ := draw' (n := m) h h0 (by omega)
  obtain ⟨v2, r2, e2, p2, v20, v21⟩ := draw' (n := 1 + v1) p1 (by omega) (by omega)
  obtain ⟨v3, r3, e3, p3, v30, v31⟩ := draw' (n := m) p2 h0 (by omega)
  refine ⟨1 + v1, v2, 1 + v3, r3, ?_, p3, ⟨by omega, by omega, by omega, by omega, by omega, by omega⟩, by omega, by omega⟩
  simp [F__law_three, g__law_three, fnS, envOf, qSeq, qSet, qRet, ofM, fVar, fC, fCall, fLst, fAll, fBin, addT, bindR, bndO, pureR, mpureR, liftS, e1, e2, e3]
theorem cut_sub (xs : List T) (lo hi : Option Int) : (∀ x ∈ cutT xs lo hi, x ∈ xs) ∧ (cutT xs lo hi).length ≤ xs.length := by
  unfold cutT
  refine ⟨fun x hx => List.mem_of_mem_drop (List.mem_of_mem_take hx), ?_⟩
  rw [List.length_take, List.length_drop]
  omega
theorem start_of (ns : List Int) (h : ns.length ≤ 63) (k : Int) : ∃ c ys, addT (.lst (cutT (ns.map T.int) (some k) (some (k + 1)))) (.lst [.int 0]) = some (.lst ys) ∧ ∀ r, ixT r (.lst ys) (.int 0) = some (.int c) := by
  obtain ⟨h1, h2⟩ := cut_sub (ns.map T.int) (some k) (some (k + 1))
  rw [List.length_map] at h2
  have e : addT (.lst (cutT (ns.map T.int) (some k) (some (k + 1)))) (.lst [.int 0]) = some (.lst (cutT (ns.map T.int) (some k) (some (k + 1)) ++ [.int 0])) := if_pos (by
    have : ([T.int 0] : List T).length = 1 := rfl
    omega)
  cases q : cutT (ns.map T.int) (some k) (some (k + 1)) with
  | nil => rw [q] at e; exact ⟨0, _, e, fun r => rfl⟩
  | cons y ys =>
    obtain ⟨c, _, rfl⟩ := List.mem_map.mp (h1 y (by rw [q]; exact List.mem_cons_self))
    rw [q] at e
    refine ⟨c, _, e, fun r => ?_⟩
    show L2.atI (.int c :: ys ++ [T.int 0]) 0 = _
    unfold L2.atI L2.ixN
    rw [if_pos (by decide), if_pos (by simp only [List.cons_append, List.length_cons]; omega)]
    rfl
theorem fSlR (f a b : Ep.Env → M T) (env : Ep.Env) {r : RS} {x y : T} {i j : Int} (h1 : f env r = .ok x r) (h2 : a env r = .ok (.int i) r) (h3 : b env r = .ok (.int j) r) (h4 : slT r x (some i) (some j) = some y) : fSl f (some a) (some b) env r = .ok y r := by
  refine bind_ok h1 (bind_ok (a := some i) (r1 := r) (bind_ok h2 rfl) (bind_ok (a := some j) (r1 := r) (bind_ok h3 rfl) ?_))
  rw [h4]; rfl
theorem opened (ns : List Int) (h : ns.length ≤ 63) (k : Int) (k0 : 0 ≤ k) (k1 : k < 64) (r : RS) : ∃ a b, F__law_opened [.kls (ns.map T.int), .int k] r = .ok (.ref r.length) (r ++ [[.int a, .int b]]) := by
  obtain ⟨c, ys, e1, e2⟩ := start_of ns h k
  obtain ⟨w, ew⟩ : ∃ w, w = (if -1 - c > c then -1 - c else c) := ⟨_, rfl⟩
  have e3 : max2T (.int c) (.int (-1 - c)) = some (.int w) := by rw [ew]; rfl
  obtain ⟨s, es⟩ : ∃ s, s = (w % 2147483647 + 7919 * k + 1) * 48271 % 2147483629 := ⟨_, rfl⟩
  have n1 : (fSl (fVar 0) (some (fVar 1)) (some (fBin addT (fVar 1) (fC (.int 1))))) (envOf 3 [.kls (ns.map T.int), .int k]) r = .ok (.lst (cutT (ns.map T.int) (some k) (some (k + 1)))) r := fSlR _ _ _ _ rfl rfl rfl rfl
  have m1 : mulT (.int 7919) (.int k) = some (.int (7919 * k)) := mulL (by decide) (by decide)
  have m2 : mulT (.int (w % 2147483647 + 7919 * k + 1)) (.int 48271) = some (.int ((w % 2147483647 + 7919 * k + 1) * 48271)) := mulR (by decide) (by decide)
  have d1 : modT (.int w) (.int 2147483647) = some (.int (w % 2147483647)) := modP (by decide)
  have d2 : modT (.int ((w % 2147483647 + 7919 * k + 1) * 48271)) (.int 2147483629) = some (.int s) := by rw [es]; exact modP (by decide)
  have w1 : powT (.int 10) (.int 18) = some (.int (10 ^ 18)) := rfl
  have g1 : geT (.int w) (.int (10 ^ 18)) = some (decide (10 ^ 18 ≤ w)) := rfl
  have i1 : ∀ r, intT r (.bl (decide (10 ^ 18 ≤ w))) = some (.int (if decide (10 ^ 18 ≤ w) then 1 else 0)) := fun r => rfl
  have m3 : mulT (.int (if decide (10 ^ 18 ≤ w) then 1 else 0)) (.int w) = some (.int ((if decide (10 ^ 18 ≤ w) then 1 else 0) * w)) := mulL (by split <;> decide) (by split <;> decide)
  refine ⟨(if decide (10 ^ 18 ≤ w) then 1 else 0) * w, s, ?_⟩
  refine n_fn (n_seq (n_set (e_ix (e_bin n1 (e_lst (e_cons (x := .int 0) rfl e_nil)) e1) rfl (e2 r))) (n_seq (n_set (e_bin (e_b1 (x := .int c) rfl rfl) (e_b1 (x := .int (-1 - c)) (e_bin (x := .int (-1)) (y := .int c) rfl rfl rfl) rfl) e3))
    (n_seq (n_set (e_bin (e_bin (e_bin (e_bin (e_bin (e_b1 (x := .int w) rfl rfl) rfl d1) (e_bin (x := .int 7919) (y := .int k) rfl rfl m1) rfl) rfl rfl) rfl m2) rfl d2)) (n_seqR (n_ret ?_)))))
  unfold fRef
  rw [e_cons (e_bin (e_b1 (e_cmp (x := .int w) rfl (e_bin (x := .int 10) (y := .int 18) rfl rfl w1) g1) (i1 r)) (x := .int (if decide (10 ^ 18 ≤ w) then 1 else 0)) (y := .int w) rfl m3) (e_cons (x := .int s) rfl e_nil)]
theorem qTry_x {g : Sm} {hs : List HdS} {env e : Ep.Env} {r r' : RS} {c : Nat} {p : T} (h : g env r = .exn c p e r') : qTry g hs env r = pickH hs c p e r' := by
  unfold qTry; rw [h]
theorem heard_rt {n : Nat} {hs : List HdS} {rest : Sm} {act : M T} {r r' : RS} {t : T} (h : qTry (fun env r => ofM env (fun _ r => .nx env r) (act r)) hs (List.replicate n .un) r = .rt t r') : heardS n hs rest act r = .ok t r' := by
  unfold heardS qSeq; rw [h]
theorem ofM_x {α : Type} {env : Ep.Env} {k : α → RS → SO} {o : Out α} {c : Nat} {p : T} {r : RS} (h : o = .exn c p r) : ofM env k o = .exn c p env r := by subst h; rfl
theorem heardX {act : M T} {r r' : RS} {p : T} (h : act r = .exn 0 p r') : heardS 2 hs__law_refused rest__law_refused act r = .ok (.lst [.str "part", p]) r' :=
  heard_rt ((qTry_x (ofM_x h)).trans rfl)
theorem make_x {F : List T → M (List T)} {fs : List (Ep.Env → M T)} {ts : List T} {env : Ep.Env} {r r1 r2 : RS} {c : Nat} {p : T} (h1 : fAll fs env r = .ok ts r1) (h2 : F (ts ++ []) r1 = .exn c p r2) : fMake 5 F [] fs env r = .exn c p r2 := by
  refine bind_ok h1 ?_
  show M.bind (F (ts ++ [])) _ r1 = _
  unfold M.bind
  rw [h2]
theorem n_own {i : Nat} {f : Ep.Env → M (List T)} {env : Ep.Env} {r r1 : RS} {xs : List T} (h : f env r = .ok xs r1) : qOwn i f env r = .nx (env.set i (.own xs)) r1 := by unfold qOwn ofM; rw [h]
theorem n_app {i : Nat} {f : Ep.Env → M T} {env : Ep.Env} {r r1 : RS} {xs : List T} {t : T} (he : env[i]? = some (.own xs)) (hl : xs.length < 100000) (h : f env r = .ok t r1) : qApp i f env r = .nx (env.set i (.own (xs ++ [t]))) r1 := by
  have e1 : isMut env i = true := by unfold isMut; rw [he]
  have e2 : mutGet env i r1 = some xs := by unfold mutGet; rw [he]
  have e3 : mutSet env i r1 (xs ++ [t]) = .nx (env.set i (.own (xs ++ [t]))) r1 := by unfold mutSet; rw [he]
  unfold qApp
  rw [if_pos e1, h]
  show (match mutGet env i r1 with
    | some xs => if xs.length < 100000 then mutSet env i r1 (xs ++ [t]) else .bad
    | none => .bad) = _
  rw [e2]
  show (if xs.length < 100000 then mutSet env i r1 (xs ++ [t]) else .bad) = _
  rw [if_pos hl, e3]
abbrev ws (a b : Str) : T := .lst [.str a, .str b]
theorem comp_map {vs : List Nat} {h : T → Ep.Env → Option Ep.Env} {p : Ep.Env → M Bool} {f : Ep.Env → M T} {env : Ep.Env} (g : T → T) : ∀ (xs acc : List T) (r : RS), (∀ x ∈ xs, ∃ env1, h x (wipeE env vs) = some env1 ∧ p env1 r = .ok true r ∧ f env1 r = .ok (g x) r) → acc.length + xs.length ≤ 100000 → compF vs h p f xs acc env r = .ok (acc ++ xs.map g) r
  | [], acc, r, _, _ => by rw [List.map_nil, List.append_nil]; rfl
  | x :: xs, acc, r, H, hl => by
    obtain ⟨env1, h1, h2, h3⟩ := H x List.mem_cons_self
    have ih := comp_map (vs := vs) (h := h) (p := p) (f := f) (env := env) g xs (acc ++ [g x]) r (fun y hy => H y (List.mem_cons_of_mem _ hy)) (by rw [List.length_append]; simp at hl ⊢; omega)
    have hz : acc.length < sizeLine := by rw [sizeLine_eq]; simp at hl; omega
    unfold compF
    rw [h1]
    simp only [bindR, noEx, h2, h3, bndO, if_true]
    rw [if_pos hz, ih]
    simp
theorem ne_pr (x y : Int) : neT (pr x y) (pr x y) = some false := by
  unfold neT; rw [eq2]; simp
theorem ne_bl (x : Bool) : neT (.bl x) (.bl x) = some false := by cases x <;> rfl
theorem ne_int (x : Int) : neT (.int x) (.int x) = some false := by rw [neI]; simp
theorem isL (a b d : Int) : isiT tab (latt a b d) (.cl 5) = some (.bl true) := by
  have e : tab (.o 5) (.cl 5) = some true := by decide
  show ((tab (.o 5) (.cl 5)).map T.bl) = _
  rw [e]; rfl
theorem l_le {a b d a' b' d' : Int} (L : Lt a b d) (L' : Lt a' b' d') (r : RS) : own2s 5 F_Lattice_le (latt a b d) (latt a' b' d') r = .ok (.bl (held a' b' d' a 0 && held a' b' d' b d)) r := by
  have ha := L.a0; have hd := L.d0; have hb := L.b0; have hb1 := L.b1; have haB := L.aB; have hdB := L.dB
  have i1 := l_in (x := a) (y := 0) L' (by omega) (by decide) r
  have i2 := l_in (x := b) (y := d) L' (by omega) (by omega) r
  have e : F_Lattice_le [latt a b d, latt a' b' d'] r = .ok (.bl (held a' b' d' a 0 && held a' b' d' b d)) r := by
    refine n_fn (n_seqR (n_ret (e_andT (r1 := r) (e_bin (x := latt a' b' d') (y := .cl 5) (r1 := r) rfl rfl (isL _ _ _)) ?_)))
    have j1 := e_own2 (f := fTup [(fFld m_a (fVar 0)), (fC (.int 0))]) (g := fVar 1) (h := fun x y => own2c 5 F_Lattice_contains x y) (env := envOf 0 [latt a b d, latt a' b' d']) (r := r) (x := pr a 0) (y := latt a' b' d') (r1 := r) (r2 := r) rfl rfl i1
    have j2 := e_own2 (f := fTup [(fFld m_b (fVar 0)), (fFld m_d (fVar 0))]) (g := fVar 1) (h := fun x y => own2c 5 F_Lattice_contains x y) (env := envOf 0 [latt a b d, latt a' b' d']) (r := r) (x := pr b d) (y := latt a' b' d') (r1 := r) (r2 := r) rfl rfl i2
    cases q : held a' b' d' a 0 with
    | false => rw [q] at j1; exact e_andF j1
    | true => rw [q] at j1; exact e_andT j1 j2
  unfold own2s
  rw [if_pos (show sameT 5 (latt a b d) (latt a' b' d') = true from rfl)]
  show noEx (F_Lattice_le [latt a b d, latt a' b' d']) r = _
  unfold noEx
  rw [e]
theorem l_eq {a b d a' b' d' : Int} (r : RS) : own2s 5 F_Lattice_eq (latt a b d) (latt a' b' d') r = .ok (.bl ((a == a') && ((b == b') && ((d == d') && true)))) r := by
  have e : F_Lattice_eq [latt a b d, latt a' b' d'] r = .ok (.bl ((a == a') && ((b == b') && ((d == d') && true)))) r :=
    n_fn (n_seqR (n_ret (e_andT (r1 := r) (e_bin (x := latt a' b' d') (y := .cl 5) (r1 := r) rfl rfl (isL _ _ _)) (e_cmp (x := .tup [.int a, .int b, .int d]) (y := .tup [.int a', .int b', .int d']) (r1 := r) (r2 := r) rfl rfl rfl))))
  unfold own2s
  rw [if_pos (show sameT 5 (latt a b d) (latt a' b' d') = true from rfl)]
  show noEx (F_Lattice_eq [latt a b d, latt a' b' d']) r = _
  unfold noEx
  rw [e]
theorem self_held {a b d : Int} (L : Lt a b d) : (held a b d a 0 && held a b d b d) = true := by
  have hd := L.d0
  unfold held plX plY
  rw [Int.zero_ediv, Int.mul_zero, Int.sub_zero, Int.emod_self, Int.zero_emod, Int.ediv_self (by omega), Int.mul_one, Int.sub_self, Int.zero_emod, Int.emod_self]
  rfl
end K09
namespace K09
open PySem Ep L2
theorem gcd_step (x y k : Int) : Int.gcd y (x - k * y) = Int.gcd x y := by
  apply Nat.dvd_antisymm
  · have h1 : (Int.gcd y (x - k * y) : Int) ∣ y := Int.gcd_dvd_left ..
    have h2 : (Int.gcd y (x - k * y) : Int) ∣ x - k * y := Int.gcd_dvd_right ..
    have h3 : (Int.gcd y (x - k * y) : Int) ∣ x := by
      obtain ⟨a, ha⟩ := h1
      obtain ⟨b, hb⟩ := h2
      exact ⟨b + k * a, by grind⟩
    exact Int.natCast_dvd_natCast.mp (Int.dvd_coe_gcd h3 h1)
  · have h1 : (Int.gcd x y : Int) ∣ x := Int.gcd_dvd_left ..
    have h2 : (Int.gcd x y : Int) ∣ y := Int.gcd_dvd_right ..
    have h3 : (Int.gcd x y : Int) ∣ x - k * y := by
      obtain ⟨a, ha⟩ := h1
      obtain ⟨b, hb⟩ := h2
      exact ⟨a - k * b, by grind⟩
    exact Int.natCast_dvd_natCast.mp (Int.dvd_coe_gcd h2 h3)
theorem small_mul {i j : Int} {n : Nat} (hj : j ≠ 0) (h : (i * j).natAbs < n) : i.natAbs < n := by
  rw [Int.natAbs_mul] at h
  have : 1 ≤ j.natAbs := by omega
  have : i.natAbs * 1 ≤ i.natAbs * j.natAbs := Nat.mul_le_mul_left _ this
  omega
/-- one division of the sum -/
theorem fstep {i j : Int} (hi : i.natAbs < 2 ^ 29) (hj : j.natAbs < 2 ^ 29) (h0 : j ≠ 0) : ∃ k, divT (.int i) (.int j) = some (.int k) ∧ (i - k * j).natAbs < j.natAbs ∧ k.natAbs < 2 ^ 30 := by
  by_cases hp : 0 < j
  · have e := Int.mul_ediv_add_emod i j
    have e1 := Int.emod_nonneg i h0
    have e2 := Int.emod_lt_of_pos i hp
    have e3 : i - i / j * j = i % j := by grind
    refine ⟨i / j, divB hp (by omega), by rw [e3]; omega, small_mul h0 ?_⟩
    have : i / j * j = i - i % j := by omega
    rw [this]; omega
  · have e := Int.fmod_add_mul_fdiv i j
    have e3 : i - i.fdiv j * j = i.fmod j := by grind
    have e4 : (i.fmod j).natAbs < j.natAbs := by
      rw [Int.fmod_eq_emod]
      have e1 := Int.emod_nonneg i h0
      have e2 := Int.emod_lt i h0
      split
      · omega
      · rename_i hn
        have : i % j ≠ 0 := fun z => hn (.inr (Int.dvd_of_emod_eq_zero z))
        omega
    refine ⟨i.fdiv j, ?_, by rw [e3]; exact e4, small_mul h0 ?_⟩
    · show (if 0 < j ∧ j.natAbs.log2 < 9000 then some (T.int (i / j)) else if j < 0 ∧ j.natAbs < 1073741824 then some (T.int (i.fdiv j)) else none) = _
      rw [if_neg (by omega), if_pos (by omega)]
    · have : i.fdiv j * j = i - i.fmod j := by omega
      rw [this]; omega
abbrev rw3 (r p q : Int) : T := .tup [.int r, .int p, .int q]
abbrev dBody : Sm := (qSeq (qSet 5 (fBin divT (fB1 intT (fIx (fVar 2) (fC (.int 0)))) (fIx (fVar 3) (fC (.int 0)))))
    (qSeq (qPar2 2 3 (fVar 3) (fB1 tupT (fOwn (fComp [6, 7] (hTupL 2 (hCons (hName 6) (hCons (hName 7) hNil))) fYes (fBin subT (fVar 6) (fBin mulT (fVar 5) (fVar 7))) (fZip (fVar 2) (fVar 3))))))
    qNil))
def gk (k : Int) : T → T
  | .tup [.int a, .int b] => .int (a - k * b)
  | t => t
theorem d_step {r0 p0 q0 r1 p1 q1 k : Int} (hk : divT (.int r0) (.int r1) = some (.int k)) (hb : k.natAbs < 2 ^ 30) (s0 s1 s4 s5 s6 s7 : Slot) (r : RS) :
    dBody [s0, s1, .val (rw3 r0 p0 q0), .val (rw3 r1 p1 q1), s4, s5, s6, s7] r = .nx [s0, s1, .val (rw3 r1 p1 q1), .val (rw3 (r0 - k * r1) (p0 - k * p1) (q0 - k * q1)), s4, .val (.int k), s6, s7] r := by
  have hm : ∀ z, mulT (.int k) (.int z) = some (.int (k * z)) := fun z => mulL (by omega) (by omega)
  have c : compF [6, 7] (hTupL 2 (hCons (hName 6) (hCons (hName 7) hNil))) fYes (fBin subT (fVar 6) (fBin mulT (fVar 5) (fVar 7))) [.tup [.int r0, .int r1], .tup [.int p0, .int p1], .tup [.int q0, .int q1]] [] [s0, s1, .val (rw3 r0 p0 q0), .val (rw3 r1 p1 q1), s4, .val (.int k), s6, s7] r = .ok ([] ++ [.tup [.int r0, .int r1], .tup [.int p0, .int p1], .tup [.int q0, .int q1]].map (gk k)) r := by
    refine comp_map (gk k) _ _ r (fun x hx => ?_) (by simp)
    have : ∃ u v, x = .tup [.int u, .int v] := by
      simp only [List.mem_cons, List.not_mem_nil, or_false] at hx
      rcases hx with rfl | rfl | rfl <;> exact ⟨_, _, rfl⟩
    obtain ⟨u, v, rfl⟩ := this
    exact ⟨[s0, s1, .val (rw3 r0 p0 q0), .val (rw3 r1 p1 q1), s4, .val (.int k), .val (.int u), .val (.int v)], rfl, rfl, e_bin (x := .int u) (y := .int (k * v)) (r1 := r) rfl (e_bin (x := .int k) (y := .int v) (r1 := r) rfl rfl (hm v)) rfl⟩
  refine n_seq (n_set (t := .int k) (r1 := r) (e_bin (x := .int r0) (y := .int r1) (r1 := r) (e_b1 (x := .int r0) (r1 := r) rfl rfl) rfl hk)) ?_
  refine n_seq (n_par2 (x := rw3 r1 p1 q1) (y := rw3 (r0 - k * r1) (p0 - k * p1) (q0 - k * q1)) (r1 := r) (r2 := r) rfl (e_b1 (x := .lst [.int (r0 - k * r1), .int (p0 - k * p1), .int (q0 - k * q1)]) (r1 := r) (e_own (bind_ok (a := [T.tup [.int r0, .int r1], .tup [.int p0, .int p1], .tup [.int q0, .int q1]]) (r1 := r) rfl c)) rfl)) rfl
theorem ds_loop (one other : Int) (s0 s1 s4 s6 s7 : Slot) (r : RS) : ∀ (n : Nat) (r0 p0 q0 r1 p1 q1 : Int) (s5 : Slot), r1.natAbs < n → r0.natAbs < 2 ^ 29 → r1.natAbs < 2 ^ 29 → r0 = p0 * one + q0 * other → r1 = p1 * one + q1 * other →
    ∃ g p q p' q' s5', whileF (fCmpB neT (fIx (fVar 3) (fC (.int 0))) (fC (.int 0))) dBody n [s0, s1, .val (rw3 r0 p0 q0), .val (rw3 r1 p1 q1), s4, s5, s6, s7] r = .nx [s0, s1, .val (rw3 g p q), .val (rw3 0 p' q'), s4, s5', s6, s7] r ∧ g = p * one + q * other ∧ g.natAbs = Int.gcd r0 r1
  | 0, r0, p0, q0, r1, p1, q1, s5, h, _, _, _, _ => by omega
  | n + 1, r0, p0, q0, r1, p1, q1, s5, h, b0, b1, e0, e1 => by
    by_cases hz : r1 = 0
    · subst hz
      refine ⟨r0, p0, q0, p1, q1, s5, rfl, e0, ?_⟩
      rw [Int.gcd_zero_right]
    · obtain ⟨k, hk, hlt, hb⟩ := fstep b0 b1 hz
      have st := d_step (p0 := p0) (q0 := q0) (p1 := p1) (q1 := q1) hk hb s0 s1 s4 s5 s6 s7 r
      obtain ⟨g, p, q, p', q', s5', w, eg, hg⟩ := ds_loop one other s0 s1 s4 s6 s7 r n r1 p1 q1 (r0 - k * r1) (p0 - k * p1) (q0 - k * q1) (.val (.int k)) (by omega) b1 (by omega) e1 (by grind)
      refine ⟨g, p, q, p', q', s5', ?_, eg, by rw [hg, gcd_step]⟩
      have t : (fCmpB neT (fIx (fVar 3) (fC (.int 0))) (fC (.int 0))) [s0, s1, .val (rw3 r0 p0 q0), .val (rw3 r1 p1 q1), s4, s5, s6, s7] r = .ok true r := e_cmpB (x := .int r1) (y := .int 0) (r1 := r) (r2 := r) rfl rfl (by rw [neI]; simp [hz])
      unfold whileF ofM
      rw [t]
      show (match dBody _ r with
        | .nx e r' => whileF _ dBody n e r'
        | .ct e r' => whileF _ dBody n e r'
        | .bk e r' => .nx e r'
        | .rt t r' => .rt t r'
        | .exn c p e r' => .exn c p e r'
        | .bad => .bad) = _
      rw [st]
      exact w
theorem divisor_sum {one other : Int} (h1 : one.natAbs < 2 ^ 29) (h2 : other.natAbs < 2 ^ 29) (r : RS) : ∃ u v, F_divisor_sum [.int one, .int other] r = .ok (pr u v) r ∧ u * one + v * other = Int.gcd one other := by
  obtain ⟨g, p, q, p', q', s5', w, eg, hg⟩ := ds_loop one other (.val (.int one)) (.val (.int other)) .un .un .un r (other.natAbs + 1) one 1 0 other 0 1 .un (by omega) h1 h2 (by grind) (by grind)
  obtain ⟨s, hs, hss⟩ : ∃ s, (fIf (fCmpB ltT (fIx (fVar 2) (fC (.int 0))) (fC (.int 0))) (fUn negT (fC (.int 1))) (fC (.int 1))) [.val (.int one), .val (.int other), .val (rw3 g p q), .val (rw3 0 p' q'), .un, s5', .un, .un] r = .ok (.int s) r ∧ ((s = -1 ∧ g < 0) ∨ (s = 1 ∧ 0 ≤ g)) := by
    by_cases hn : g < 0
    · exact ⟨-1, e_ifT (r1 := r) (e_cmpB (x := .int g) (y := .int 0) (r1 := r) (r2 := r) rfl rfl (by rw [ltI, decide_eq_true hn])) rfl, .inl ⟨rfl, hn⟩⟩
    · exact ⟨1, e_ifF (r1 := r) (e_cmpB (x := .int g) (y := .int 0) (r1 := r) (r2 := r) rfl rfl (by rw [ltI, decide_eq_false hn])) rfl, .inr ⟨rfl, by omega⟩⟩
  have hm : ∀ z, mulT (.int s) (.int z) = some (.int (s * z)) := fun z => mulL (by omega) (by omega)
  refine ⟨s * p, s * q, ?_, ?_⟩
  · refine n_fn (n_seq (n_par2 (x := rw3 one 1 0) (y := rw3 other 0 1) (r1 := r) (r2 := r) rfl rfl) (n_seq w (n_seq (n_set hs) (n_seqR (n_ret ?_)))))
    exact e_tup (e_cons (x := .int (s * p)) (r1 := r) (e_bin (x := .int s) (y := .int p) (r1 := r) rfl rfl (hm p)) (e_cons (x := .int (s * q)) (r1 := r) (e_bin (x := .int s) (y := .int q) (r1 := r) rfl rfl (hm q)) e_nil))
  · have e : s * p * one + s * q * other = s * g := by grind
    rw [e, ← hg]
    rcases hss with ⟨rfl, h⟩ | ⟨rfl, h⟩ <;> omega
end K09
namespace K09
open PySem Ep L2
abbrev iBody : Sm := (qSeq (qSet 6 (fBin divT (fB1 intT (fVar 2)) (fVar 3)))
    (qSeq (qAsg (fTup [(fVar 3), (fBin subT (fVar 2) (fBin mulT (fVar 6) (fVar 3))), (fVar 5), (fBin subT (fVar 4) (fBin mulT (fVar 6) (fVar 5)))]) (hTupL 4 (hCons (hName 2) (hCons (hName 3) (hCons (hName 4) (hCons (hName 5) hNil))))))
    qNil))
theorem i_step {L R N F k : Int} (hk : divT (.int L) (.int R) = some (.int k)) (hb : k.natAbs < 2 ^ 30) (s0 s1 s6 : Slot) (r : RS) :
    iBody [s0, s1, .val (.int L), .val (.int R), .val (.int N), .val (.int F), s6] r = .nx [s0, s1, .val (.int R), .val (.int (L - k * R)), .val (.int F), .val (.int (N - k * F)), .val (.int k)] r := by
  have hm : ∀ z, mulT (.int k) (.int z) = some (.int (k * z)) := fun z => mulL (by omega) (by omega)
  refine n_seq (n_set (t := .int k) (r1 := r) (e_bin (x := .int L) (y := .int R) (r1 := r) (e_b1 (x := .int L) (r1 := r) rfl rfl) rfl hk)) ?_
  exact n_seq (n_asg (x := .tup [.int R, .int (L - k * R), .int F, .int (N - k * F)]) (r1 := r) (e_tup (e_cons (x := .int R) (r1 := r) rfl (e_cons (x := .int (L - k * R)) (r1 := r) (e_bin (x := .int L) (y := .int (k * R)) (r1 := r) rfl (e_bin (x := .int k) (y := .int R) (r1 := r) rfl rfl (hm R)) rfl)
    (e_cons (x := .int F) (r1 := r) rfl (e_cons (x := .int (N - k * F)) (r1 := r) (e_bin (x := .int N) (y := .int (k * F)) (r1 := r) rfl (e_bin (x := .int k) (y := .int F) (r1 := r) rfl rfl (hm F)) rfl) e_nil))))) rfl) rfl
theorem n_expr {f : Ep.Env → M T} {env : Ep.Env} {r r1 : RS} {t : T} (h1 : f env r = .ok t r1) : qExpr f env r = .nx env r1 := by unfold qExpr ofM; rw [h1]
theorem i_loop (nu m : Int) (s0 s1 : Slot) (r : RS) : ∀ (n : Nat) (L R N F cL cR : Int) (s6 : Slot), R.natAbs < n → 0 ≤ L → 0 ≤ R → L.natAbs < 2 ^ 29 → R.natAbs < 2 ^ 29 → L = N * nu + m * cL → R = F * nu + m * cR →
    ∃ N' F' c s6', whileF (fCmpB neT (fVar 3) (fC (.int 0))) iBody n [s0, s1, .val (.int L), .val (.int R), .val (.int N), .val (.int F), s6] r = .nx [s0, s1, .val (.int (Int.gcd L R)), .val (.int 0), .val (.int N'), .val (.int F'), s6'] r ∧ (Int.gcd L R : Int) = N' * nu + m * c
  | 0, L, R, N, F, cL, cR, s6, h, _, _, _, _, _, _ => by omega
  | n + 1, L, R, N, F, cL, cR, s6, h, pL, pR, bL, bR, eL, eR => by
    by_cases hz : R = 0
    · subst hz
      have e : (Int.gcd L 0 : Int) = L := by rw [Int.gcd_zero_right]; omega
      rw [e]
      exact ⟨N, F, cL, s6, rfl, eL⟩
    · obtain ⟨k, hk, hlt, hb⟩ := fstep bL bR hz
      have hk' : k = L / R := by
        have := (divB (i := L) (show 0 < R by omega) (by omega)).symm.trans hk
        exact (T.int.inj (Option.some.inj this)).symm
      have hpos : 0 ≤ L - k * R := by
        have e := Int.mul_ediv_add_emod L R
        have e1 := Int.emod_nonneg L hz
        have : L - k * R = L % R := by rw [hk']; grind
        omega
      have st := i_step (N := N) (F := F) hk hb s0 s1 s6 r
      obtain ⟨N', F', c, s6', w, eg⟩ := i_loop nu m s0 s1 r n R (L - k * R) F (N - k * F) cR (cL - k * cR) (.val (.int k)) (by omega) pR hpos bR (by omega) eR (by grind)
      rw [gcd_step] at w eg
      refine ⟨N', F', c, s6', ?_, eg⟩
      have t : (fCmpB neT (fVar 3) (fC (.int 0))) [s0, s1, .val (.int L), .val (.int R), .val (.int N), .val (.int F), s6] r = .ok true r := e_cmpB (x := .int R) (y := .int 0) (r1 := r) (r2 := r) rfl rfl (by rw [neI]; simp [hz])
      unfold whileF ofM
      rw [t]
      show (match iBody _ r with
        | .nx e r' => whileF _ iBody n e r'
        | .ct e r' => whileF _ iBody n e r'
        | .bk e r' => .nx e r'
        | .rt t r' => .rt t r'
        | .exn c p e r' => .exn c p e r'
        | .bad => .bad) = _
      rw [st]
      exact w
theorem inverse {nu m : Int} (hm : 0 < m) (hb : m < 2 ^ 28) (hg : Int.gcd nu m = 1) (r : RS) : ∃ i c, F_inverse [.int nu, .int m] r = .ok (.int i) r ∧ i * nu = 1 + m * c ∧ 0 ≤ i ∧ i < m := by
  have e1 := Int.emod_nonneg nu (show m ≠ 0 by omega)
  have e2 := Int.emod_lt_of_pos nu hm
  have e3 := Int.mul_ediv_add_emod nu m
  obtain ⟨N', F', c, s6', w, eg⟩ := i_loop nu m (.val (.int nu)) (.val (.int m)) r ((nu % m).natAbs + 1) m (nu % m) 0 1 1 (-(nu / m)) .un (by omega) (by omega) e1 (by omega) (by omega) (by grind) (by grind)
  have hg' : Int.gcd m (nu % m) = 1 := by
    have : nu % m = nu - (nu / m) * m := by grind
    rw [this, gcd_step, hg]
  rw [hg'] at w eg
  have d1 : modT (.int nu) (.int m) = some (.int (nu % m)) := modP hm
  have d2 : modT (.int N') (.int m) = some (.int (N' % m)) := modP hm
  have e4 := Int.mul_ediv_add_emod N' m
  refine ⟨N' % m, -c - (N' / m) * nu, ?_, by grind, Int.emod_nonneg _ (by omega), Int.emod_lt_of_pos _ hm⟩
  refine n_fn (n_seq (n_asg (x := .tup [.int m, .int (nu % m), .int 0, .int 1]) (r1 := r) (e_tup (e_cons (x := .int m) (r1 := r) rfl (e_cons (x := .int (nu % m)) (r1 := r) (e_bin (x := .int nu) (y := .int m) (r1 := r) (e_b1 (x := .int nu) (r1 := r) rfl rfl) rfl d1) rfl))) rfl) (n_seq w (n_seqR (n_ret (e_bin (x := .int N') (y := .int m) (r1 := r) (e_b1 (x := .int N') (r1 := r) rfl rfl) rfl d2)))))
theorem gcd_parts {b p : Int} (hp : 0 < p) : ∃ g b' p' : Int, g = (Int.gcd b p : Int) ∧ 0 < g ∧ b = g * b' ∧ p = g * p' ∧ Int.gcd b' p' = 1 ∧ 0 < p' := by
  have hg : 0 < (Int.gcd b p : Int) := by have := Int.gcd_pos_of_ne_zero_right b (show p ≠ 0 by omega); omega
  obtain ⟨b', hb⟩ : (Int.gcd b p : Int) ∣ b := Int.gcd_dvd_left ..
  obtain ⟨p', hp'⟩ : (Int.gcd b p : Int) ∣ p := Int.gcd_dvd_right ..
  refine ⟨(Int.gcd b p : Int), b', p', rfl, hg, hb, hp', ?_, ?_⟩
  · have h := Int.gcd_mul_left (Int.gcd b p : Int) b' p'
    rw [← hb, ← hp'] at h
    have : (Int.gcd b p : Int).natAbs = Int.gcd b p := rfl
    rw [this] at h
    have hpos : 0 < Int.gcd b p := by omega
    exact (Nat.eq_of_mul_eq_mul_left hpos (by omega : Int.gcd b p * 1 = Int.gcd b p * Int.gcd b' p')).symm
  · rw [hp'] at hp
    exact Int.pos_of_mul_pos_right hp (by omega)
theorem check_rem (a p : Int) (hp : 1 ≤ p) (r : RS) : F_check_remainder [.int a, .int p] r = .ok .non r := by
  simp [F_check_remainder, g_check_remainder, fnS, envOf, qSeq, qExpr, qIf, qNil, ofM, fVar, fC, fCall, fAll, fTru, truT, fNotB, fOrB, fCmpB, bindR, bndO, bndX, pureR, mpureR, liftS, is_integer_int, check_integer_int, ltI, show ¬ p < 1 by omega]
/-- the i for which a + b i is rr modulo p -/
theorem rem_of {a b rr p : Int} (hp : 0 < p) (hpB : p < 2 ^ 28) (hbB : b.natAbs < 2 ^ 60) (haB : a.natAbs < 2 ^ 60) (hrB : rr.natAbs < 2 ^ 60) (hd : (Int.gcd b p : Int) ∣ rr - a) (r : RS) :
    ∃ i m c, F_remainder_of [.int a, .int b, .int rr, .int p] r = .ok (pr i m) r ∧ p = (Int.gcd b p : Int) * m ∧ 0 ≤ i ∧ i < m ∧ a + b * i = rr + p * c := by
  obtain ⟨g, b', p', eg, hg, eb, ep, hc, hp'⟩ := gcd_parts (b := b) hp
  rw [← eg] at hd
  obtain ⟨s, hs⟩ := hd
  have hgp : g ≤ p := Int.le_of_dvd hp ⟨p', ep⟩
  have hpp : p' ≤ p := Int.le_of_dvd hp ⟨g, by rw [ep, Int.mul_comm]⟩
  obtain ⟨iv, c, ei, hi, i0, i1⟩ := inverse (nu := b') hp' (by omega) hc r
  have G := gdiv b p r
  rw [← eg] at G
  have sB : s.natAbs < 2 ^ 62 := small_mul (j := g) (by omega) (by rw [Int.mul_comm, ← hs]; omega)
  have m1 : modT (.int (rr - a)) (.int g) = some (.int 0) := by rw [modP hg, hs, Int.mul_emod_right]
  have d1 : divT (.int p) (.int g) = some (.int p') := by rw [divB hg (by omega)]; congr 2; rw [ep, Int.mul_ediv_cancel_left _ (by omega)]
  have d2 : divT (.int (rr - a)) (.int g) = some (.int s) := by rw [divB hg (by omega), hs, Int.mul_ediv_cancel_left _ (by omega)]
  have d3 : divT (.int b) (.int g) = some (.int b') := by rw [divB hg (by omega)]; congr 2; rw [eb, Int.mul_ediv_cancel_left _ (by omega)]
  have m2 : mulT (.int s) (.int iv) = some (.int (s * iv)) := mulL (by omega) (by omega)
  have m3 : modT (.int (s * iv)) (.int p') = some (.int (s * iv % p')) := modP hp'
  have e4 := Int.mul_ediv_add_emod (s * iv) p'
  refine ⟨s * iv % p', p', s * c - b' * (s * iv / p'), ?_, by rw [← eg]; exact ep, Int.emod_nonneg _ (by omega), Int.emod_lt_of_pos _ hp', ?_⟩
  · refine n_fn (n_seq (n_expr (check_integer_int a r)) (n_seq (n_expr (check_integer_int b r)) (n_seq (n_expr (check_rem rr p (by omega) r)) (n_seq (n_set (e_call (ts := [.int b, .int p]) (r1 := r) rfl G)) ?_))))
    refine n_seq (n_ifF (r1 := r) (e_cmpB (x := .int 0) (y := .int 0) (r1 := r) (r2 := r) (e_bin (x := .int (rr - a)) (y := .int g) (r1 := r) (e_b1 (x := .int (rr - a)) (r1 := r) (e_bin (x := .int rr) (y := .int a) (r1 := r) rfl rfl rfl) rfl) rfl m1) rfl rfl) rfl) ?_
    refine n_seq (n_set (t := .int p') (r1 := r) (e_bin (x := .int p) (y := .int g) (r1 := r) (e_b1 (x := .int p) (r1 := r) rfl rfl) rfl d1)) (n_seqR (n_ret ?_))
    refine e_tup (e_cons (x := .int (s * iv % p')) (r1 := r) (e_bin (x := .int (s * iv)) (y := .int p') (r1 := r) (e_b1 (x := .int (s * iv)) (r1 := r) (e_bin (x := .int s) (y := .int iv) (r1 := r) (e_bin (x := .int (rr - a)) (y := .int g) (r1 := r) (e_b1 (x := .int (rr - a)) (r1 := r) (e_bin (x := .int rr) (y := .int a) (r1 := r) rfl rfl rfl) rfl) rfl d2) (e_call (ts := [.int b', .int p']) (r1 := r) (e_cons (x := .int b') (r1 := r) (e_bin (x := .int b) (y := .int g) (r1 := r) (e_b1 (x := .int b) (r1 := r) rfl rfl) rfl d3) rfl) ei) m2) rfl) rfl m3) rfl)
  · have q1 : b * (s * iv % p') = g * b' * (s * iv) - g * b' * p' * (s * iv / p') := by rw [eb]; grind
    have q2 : g * b' * (s * iv) = g * s + g * p' * (c * s) := by grind
    grind
end K09
namespace K09
open PySem Ep L2
theorem dvd_cop {m n k : Int} (h : m ∣ n * k) (hc : Int.gcd m n = 1) : m ∣ k :=
  Int.natAbs_dvd_natAbs.mp (Nat.Coprime.dvd_of_dvd_mul_left (show Nat.gcd m.natAbs n.natAbs = 1 from hc) (by rw [← Int.natAbs_mul]; exact Int.natAbs_dvd_natAbs.mpr h))
theorem is_rem (x m : Int) (hm : 1 ≤ m) (r : RS) : F_is_remainder [pr x m] r = .ok (.bl true) r := by
  have c : compF [1] (hName 1) fYes (fCall F_is_integer [] [(fVar 1)]) [.int x, .int m] [] [.val (pr x m), .un] r = .ok ([] ++ [T.int x, .int m].map (fun _ => .bl true)) r := by
    refine comp_map (fun _ => .bl true) _ _ r (fun y hy => ?_) (by simp)
    have : ∃ z, y = .int z := by
      simp only [List.mem_cons, List.not_mem_nil, or_false] at hy
      rcases hy with rfl | rfl <;> exact ⟨_, rfl⟩
    obtain ⟨z, rfl⟩ := this
    exact ⟨[.val (pr x m), .val (.int z)], rfl, rfl, rfl⟩
  refine n_fn (n_seqR (n_ret (e_andT (r1 := r) rfl (e_andT (r1 := r) rfl (e_andT (r1 := r) (e_b1 (x := .lst [.bl true, .bl true]) (r1 := r) (e_own (bind_ok (a := [T.int x, .int m]) (r1 := r) rfl c)) rfl) (e_cmp (x := .int m) (y := .int 1) (r1 := r) (r2 := r) rfl rfl ?_))))))
  show some (decide (1 ≤ m)) = _
  rw [decide_eq_true hm]
theorem both_rem {x1 m1 x2 m2 : Int} (h1 : 0 < m1) (h2 : 0 < m2) (b1 : m1 < 2 ^ 27) (b2 : m2 < 2 ^ 27) (bx1 : x1.natAbs < 2 ^ 60) (bx2 : x2.natAbs < 2 ^ 60) (hd : (Int.gcd m1 m2 : Int) ∣ x2 - x1) (r : RS) :
    ∃ X k, F_both_remainders [pr x1 m1, pr x2 m2] r = .ok (pr X (m1 * k)) r ∧ m2 = (Int.gcd m1 m2 : Int) * k ∧ 0 ≤ X ∧ X < m1 * k ∧ m1 ∣ X - x1 ∧ m2 ∣ X - x2 := by
  obtain ⟨i, k, c, e, ek, i0, i1, ec⟩ := rem_of (a := x1) (b := m1) (rr := x2) h2 (by omega) (by omega) bx1 bx2 hd r
  obtain ⟨g, b', p', eg, hg, eb, ep, hc, hp'⟩ := gcd_parts (b := m1) h2
  have hkp : k = p' := by
    rw [← eg, ep] at ek
    exact (Int.eq_of_mul_eq_mul_left (by omega) ek).symm
  have hm : 0 < m1 * k := Int.mul_pos h1 (by omega)
  have q1 : mulT (.int m1) (.int k) = some (.int (m1 * k)) := mulL (by omega) (by omega)
  have q2 : mulT (.int m1) (.int i) = some (.int (m1 * i)) := mulL (by omega) (by omega)
  have q3 : modT (.int (x1 + m1 * i)) (.int (m1 * k)) = some (.int ((x1 + m1 * i) % (m1 * k))) := modP hm
  have e4 := Int.mul_ediv_add_emod (x1 + m1 * i) (m1 * k)
  generalize (x1 + m1 * i) / (m1 * k) = z at e4
  refine ⟨(x1 + m1 * i) % (m1 * k), k, ?_, ek, Int.emod_nonneg _ (by omega), Int.emod_lt_of_pos _ hm, ⟨i - k * z, by grind⟩, ⟨c - b' * z, ?_⟩⟩
  · refine n_fn (n_seq (n_ifF (r1 := r) (e_orBF (r1 := r) (e_notB (b := true) (e_tru (x := .bl true) (e_call (ts := [pr x1 m1]) (r1 := r) rfl (is_rem x1 m1 (by omega) r)) rfl)) (e_notB (b := true) (e_tru (x := .bl true) (e_call (ts := [pr x2 m2]) (r1 := r) rfl (is_rem x2 m2 (by omega) r)) rfl))) rfl) ?_)
    refine n_seq (n_set (e_call (ts := [.int x1, .int m1, .int x2, .int m2]) (r1 := r) rfl e)) ?_
    refine n_seq (n_ifF (r1 := r) (e_cmpB (x := pr i k) (y := .non) (r1 := r) (r2 := r) rfl rfl rfl) rfl) ?_
    refine n_seq (n_set (t := .int (m1 * k)) (r1 := r) (e_bin (x := .int m1) (y := .int k) (r1 := r) rfl rfl q1)) (n_seqR (n_ret ?_))
    exact e_tup (e_cons (x := .int ((x1 + m1 * i) % (m1 * k))) (r1 := r) (e_bin (x := .int (x1 + m1 * i)) (y := .int (m1 * k)) (r1 := r) (e_b1 (x := .int (x1 + m1 * i)) (r1 := r) (e_bin (x := .int x1) (y := .int (m1 * i)) (r1 := r) rfl (e_bin (x := .int m1) (y := .int i) (r1 := r) rfl rfl q2) rfl) rfl) rfl q3) rfl)
  · have : m1 * k = m2 * b' := by rw [hkp, eb, ep]; grind
    generalize m1 * k = w at *
    generalize (x1 + m1 * i) % w = v at *
    have : v = x1 + m1 * i - w * z := by omega
    rw [this]
    grind
theorem least_mul {x y : Int} (hx : 0 < x) (hy : 0 < y) (bx : x < 2 ^ 60) (r : RS) : F_least_multiple [.int x, .int y] r = .ok (.int (x * y / (Int.gcd x y : Int))) r := by
  have st : ∀ (z : Int) (s0 s1 : Slot), 1 ≤ z → (qSeq (qIf (fOrB (fNotB (fTru (fCall F_is_integer [] [(fVar 2)]))) (fCmpB ltT (fVar 2) (fC (.int 1)))) (qSeq (qRaise 1 (fVar 2)) qNil) qNil) qNil) [s0, s1, .val (.int z)] r = .nx [s0, s1, .val (.int z)] r := fun z s0 s1 hz =>
    n_seq (n_ifF (r1 := r) (e_orBF (r1 := r) (e_notB (b := true) (e_tru (x := .bl true) (e_call (ts := [.int z]) (r1 := r) rfl (is_integer_int z r)) rfl)) (e_cmpB (x := .int z) (y := .int 1) (r1 := r) (r2 := r) rfl rfl (by rw [ltI, decide_eq_false (by omega)]))) rfl) rfl
  have g := gle x y hx
  refine n_fn (n_seq (n_for (xs := [.int x, .int y]) (r1 := r) rfl (n_loop rfl (st x _ _ (by omega)) (n_loop rfl (st y _ _ (by omega)) rfl))) (n_seqR (n_ret ?_)))
  exact e_bin (x := .int (x * y)) (y := .int (Int.gcd x y)) (r1 := r) (e_bin (x := .int x) (y := .int y) (r1 := r) rfl (e_b1 (x := .int y) (r1 := r) rfl rfl) (mulL (by omega) (by omega))) (e_call (ts := [.int x, .int y]) (r1 := r) rfl (gdiv x y r)) (divB g.2 (by omega))
theorem check_lat (a b d : Int) (r : RS) : F_check_lattice [latt a b d] r = .ok .non r :=
  n_fnN (n_seq (n_ifF (r1 := r) (e_notB (b := true) (e_tru (x := .bl true) (e_bin (x := latt a b d) (y := .cl 5) (r1 := r) rfl rfl (isL a b d)) rfl)) rfl) rfl)
theorem ok_lt {a b d : Int} (O : Ok a b d) (ha : a ≤ 10 ^ 22) (hd : d ≤ 10 ^ 22) : Lt a b d := ⟨O.a0, O.b0, O.b1, O.d0, ha, hd⟩
/-- the common lattice -/
theorem common {a1 b1 d1 a2 b2 d2 : Int} (O1 : Ok a1 b1 d1) (O2 : Ok a2 b2 d2) (A1 : a1 ≤ 1000) (A2 : a2 ≤ 1000) (D1 : d1 ≤ 1000) (D2 : d2 ≤ 1000) (r : RS) :
    ∃ a b d, F_common_lattice [latt a1 b1 d1, latt a2 b2 d2] r = .ok (latt a b d) r ∧ Ok a b d ∧ a ≤ 10 ^ 22 ∧ d ≤ 10 ^ 22 ∧ (∀ x y, In a b d x y ↔ (In a1 b1 d1 x y ∧ In a2 b2 d2 x y)) ∧
      ∃ e1 e2 g G p, d1 = G * e2 ∧ d2 = G * e1 ∧ g = (Int.gcd a1 a2 : Int) ∧ 0 < g ∧ a * g = a1 * a2 ∧ g = p * (Int.gcd g (e1 * b1 - e2 * b2) : Int) ∧ d = p * (d1 * e1) ∧ G = (Int.gcd d1 d2 : Int) := by
  have ha1 := O1.a0; have hb1 := O1.b0; have hb1' := O1.b1; have hd1 := O1.d0
  have ha2 := O2.a0; have hb2 := O2.b0; have hb2' := O2.b1; have hd2 := O2.d0
  obtain ⟨G, e2, e1, eG, hG, ed1, ed2, hco, he1⟩ := gcd_parts (b := d1) hd2
  have he2 : 0 < e2 := by rw [ed1] at hd1; exact Int.pos_of_mul_pos_right hd1 (by omega)
  have le1 : e1 ≤ d2 := Int.le_of_dvd hd2 ⟨G, by rw [ed2, Int.mul_comm]⟩
  have le2 : e2 ≤ d1 := Int.le_of_dvd hd1 ⟨G, by rw [ed1, Int.mul_comm]⟩
  have up1 : d1 * d2 / G = d1 * e1 := by rw [ed2, Int.mul_left_comm, Int.mul_ediv_cancel_left _ (by omega)]
  have up2 : d1 * e1 = d2 * e2 := by rw [ed1, ed2]; grind
  have n1 : (e1 * b1).natAbs < 2 ^ 20 := by
    have := mulb (i := e1) (j := b1) (m := 10) (n := 10) (by omega) (by omega); omega
  have n2 : (e2 * b2).natAbs < 2 ^ 20 := by
    have := mulb (i := e2) (j := b2) (m := 10) (n := 10) (by omega) (by omega); omega
  obtain ⟨g, k1, k2, eg, hg, ea1, ea2, hk, hk2⟩ := gcd_parts (b := a1) ha2
  have lg : g ≤ a1 := Int.le_of_dvd ha1 ⟨k1, ea1⟩
  obtain ⟨h, p', p, eh, hh, ef, eg2, hcp, hp⟩ := gcd_parts (b := e1 * b1 - e2 * b2) hg
  have eh' : (Int.gcd g (e1 * b1 - e2 * b2) : Int) = h := by rw [Int.gcd_comm]; exact eh.symm
  have lp : p ≤ g := Int.le_of_dvd hg ⟨h, by rw [eg2, Int.mul_comm]⟩
  have n3 : (p * (e1 * b1)).natAbs < 2 ^ 30 := by
    have := mulb (i := p) (j := e1 * b1) (m := 10) (n := 20) (by omega) n1; omega
  have n4 : (p * (e2 * b2)).natAbs < 2 ^ 30 := by
    have := mulb (i := p) (j := e2 * b2) (m := 10) (n := 20) (by omega) n2; omega
  have n5 : (d1 * e1).natAbs < 2 ^ 20 := by
    have := mulb (i := d1) (j := e1) (m := 10) (n := 10) (by omega) (by omega); omega
  have n6 : (p * (d1 * e1)).natAbs < 2 ^ 30 := by
    have := mulb (i := p) (j := d1 * e1) (m := 10) (n := 20) (by omega) n5; omega
  have hM : ∀ t, g ∣ (e1 * b1 - e2 * b2) * t → p ∣ t := fun t ht => by
    rw [ef, eg2] at ht
    have : p ∣ p' * t := Int.dvd_of_mul_dvd_mul_left (by omega : h ≠ 0) (by rw [← Int.mul_assoc]; exact ht)
    exact dvd_cop this (by rw [Int.gcd_comm]; exact hcp)
  obtain ⟨X, k, eB, ek, x0, x1, x2, x3⟩ := both_rem (x1 := p * (e1 * b1)) (m1 := a1) (x2 := p * (e2 * b2)) (m2 := a2) ha1 ha2 (by omega) (by omega) (by omega) (by omega) (by
    rw [← eg]
    exact ⟨-p', by rw [eg2]; grind⟩) r
  have hkk : k = k2 := by
    rw [← eg, ea2] at ek
    exact (Int.eq_of_mul_eq_mul_left (by omega) ek).symm
  have hk0 : 0 < k := by omega
  have lk : k ≤ a2 := Int.le_of_dvd ha2 ⟨g, by rw [hkk, ea2, Int.mul_comm]⟩
  have n7 : (a1 * k).natAbs < 2 ^ 20 := by
    have := mulb (i := a1) (j := k) (m := 10) (n := 10) (by omega) (by omega); omega
  have pos1 : 0 < a1 * k := Int.mul_pos ha1 hk0
  have pos2 : 0 < p * (d1 * e1) := Int.mul_pos hp (Int.mul_pos hd1 he1)
  have O : Ok (a1 * k) X (p * (d1 * e1)) := ⟨pos1, x0, x1, pos2⟩
  refine ⟨a1 * k, X, p * (d1 * e1), ?_, O, by omega, by omega, fun x y => ?_, e1, e2, g, G, p, ed1, ed2, eg, hg, ?_, ?_, rfl, eG⟩
  · have c1 := check_lat a1 b1 d1 r
    have c2 := check_lat a2 b2 d2 r
    have u1 := least_mul hd1 hd2 (by omega) r
    rw [← eG, up1] at u1
    have v1 : divT (.int (d1 * e1)) (.int d1) = some (.int e1) := by rw [divB hd1 (by omega), Int.mul_ediv_cancel_left _ (by omega)]
    have v2 : divT (.int (d1 * e1)) (.int d2) = some (.int e2) := by rw [divB hd2 (by omega), up2, Int.mul_ediv_cancel_left _ (by omega)]
    have w1 : mulT (.int e1) (.int b1) = some (.int (e1 * b1)) := mulL (by omega) (by omega)
    have w2 : mulT (.int e2) (.int b2) = some (.int (e2 * b2)) := mulL (by omega) (by omega)
    have g1 := gdiv a1 a2 r
    rw [← eg] at g1
    have g2 := gdiv g (e1 * b1 - e2 * b2) r
    rw [eh'] at g2
    have v3 : divT (.int g) (.int h) = some (.int p) := by rw [divB hh (by have := Int.le_of_dvd hg ⟨p, eg2⟩; omega)]; congr 2; rw [eg2, Int.mul_ediv_cancel_left _ (by omega)]
    have w3 : mulT (.int p) (.int (e1 * b1)) = some (.int (p * (e1 * b1))) := mulL (by omega) (by omega)
    have w4 : mulT (.int p) (.int (e2 * b2)) = some (.int (p * (e2 * b2))) := mulL (by omega) (by omega)
    have w5 : mulT (.int p) (.int (d1 * e1)) = some (.int (p * (d1 * e1))) := mulL (by omega) (by omega)
    have I := init (ok_lt O (by omega) (by omega)) r
    refine n_fn (n_seq (n_expr (e_call (ts := [latt a1 b1 d1]) (r1 := r) rfl c1)) (n_seq (n_expr (e_call (ts := [latt a2 b2 d2]) (r1 := r) rfl c2)) (n_seq (n_set (e_call (ts := [.int d1, .int d2]) (r1 := r) rfl u1)) ?_)))
    refine n_seq (n_par2 (x := .int (e1 * b1)) (y := .int (e2 * b2)) (r1 := r) (r2 := r) (e_bin (x := .int e1) (y := .int b1) (r1 := r) (e_bin (x := .int (d1 * e1)) (y := .int d1) (r1 := r) rfl rfl v1) rfl w1) (e_bin (x := .int e2) (y := .int b2) (r1 := r) (e_bin (x := .int (d1 * e1)) (y := .int d2) (r1 := r) rfl rfl v2) rfl w2)) ?_
    refine n_seq (n_set (e_call (ts := [.int a1, .int a2]) (r1 := r) rfl g1)) ?_
    refine n_seq (n_set (t := .int p) (r1 := r) (e_bin (x := .int g) (y := .int h) (r1 := r) rfl (e_call (ts := [.int g, .int (e1 * b1 - e2 * b2)]) (r1 := r) rfl g2) v3)) ?_
    refine n_seq (n_set (e_call (ts := [pr (p * (e1 * b1)) a1, pr (p * (e2 * b2)) a2]) (r1 := r) (e_cons (x := pr (p * (e1 * b1)) a1) (r1 := r) (e_tup (e_cons (x := .int (p * (e1 * b1))) (r1 := r) (e_bin (x := .int p) (y := .int (e1 * b1)) (r1 := r) rfl rfl w3) rfl)) (e_cons (x := pr (p * (e2 * b2)) a2) (r1 := r) (e_tup (e_cons (x := .int (p * (e2 * b2))) (r1 := r) (e_bin (x := .int p) (y := .int (e2 * b2)) (r1 := r) rfl rfl w4) rfl)) rfl)) eB)) ?_
    exact n_seqR (n_ret (e_make (ts := [.int (a1 * k), .int X, .int (p * (d1 * e1))]) (r1 := r) (e_cons (x := .int (a1 * k)) (r1 := r) rfl (e_cons (x := .int X) (r1 := r) rfl (e_cons (x := .int (p * (d1 * e1))) (r1 := r) (e_bin (x := .int p) (y := .int (d1 * e1)) (r1 := r) rfl rfl w5) rfl))) I))
  · have hup : ∀ y, d1 ∣ y → d2 ∣ y → d1 * e1 ∣ y := fun y h1 h2 => by
      obtain ⟨t, rfl⟩ := h1
      have : e1 ∣ e2 * t := Int.dvd_of_mul_dvd_mul_left (by omega : G ≠ 0) (by rw [← Int.mul_assoc, ← ed1, ← ed2]; exact h2)
      obtain ⟨s, rfl⟩ := dvd_cop this (by rw [Int.gcd_comm]; exact hco)
      exact ⟨s, by rw [Int.mul_assoc]⟩
    have hm : ∀ z, a1 ∣ z → a2 ∣ z → a1 * k ∣ z := fun z h1 h2 => by
      obtain ⟨t, rfl⟩ := h1
      have : k2 ∣ k1 * t := Int.dvd_of_mul_dvd_mul_left (by omega : g ≠ 0) (by rw [← Int.mul_assoc, ← ea1, ← ea2]; exact h2)
      obtain ⟨s, rfl⟩ := dvd_cop this (by rw [Int.gcd_comm]; exact hk)
      exact ⟨s, by rw [hkk, Int.mul_assoc]⟩
    exact common_iff (e1 := e1) (e2 := e2) (g := g) rfl up2 hup (by omega) (by omega) ⟨k1, ea1⟩ ⟨k2, ea2⟩ hM x2 x3 ⟨k, rfl⟩ ⟨k1, by rw [hkk, ea1, ea2]; grind⟩ hm
  · rw [hkk]
    have : a1 * k2 * g = a1 * (g * k2) := by grind
    rw [this, ← ea2]
  · rw [eh', Int.mul_comm]; exact eg2
end K09
namespace K09
open PySem Ep L2
theorem gcd_parts0 {b p : Int} (h : Int.gcd b p ≠ 0) : ∃ g b' p' : Int, g = (Int.gcd b p : Int) ∧ 0 < g ∧ b = g * b' ∧ p = g * p' ∧ Int.gcd b' p' = 1 := by
  have hg : 0 < (Int.gcd b p : Int) := by omega
  obtain ⟨b', hb⟩ : (Int.gcd b p : Int) ∣ b := Int.gcd_dvd_left ..
  obtain ⟨p', hp'⟩ : (Int.gcd b p : Int) ∣ p := Int.gcd_dvd_right ..
  refine ⟨(Int.gcd b p : Int), b', p', rfl, hg, hb, hp', ?_⟩
  have h := Int.gcd_mul_left (Int.gcd b p : Int) b' p'
  rw [← hb, ← hp'] at h
  have : (Int.gcd b p : Int).natAbs = Int.gcd b p := rfl
  rw [this] at h
  have hpos : 0 < Int.gcd b p := by omega
  exact (Nat.eq_of_mul_eq_mul_left hpos (by omega : Int.gcd b p * 1 = Int.gcd b p * Int.gcd b' p')).symm
theorem with_shift {a b d x y : Int} (O : Ok a b d) (A : a ≤ 1000) (D : d ≤ 1000) (bx : x.natAbs ≤ 1000) (bY : y.natAbs ≤ 1000) (r : RS) :
    ∃ a' b' g p q, F_with_shift [latt a b d, pr x y] r = .ok (latt a' b' g) r ∧ Ok a' b' g ∧ a' ≤ a ∧ g ≤ d ∧ (∀ X Y, In a' b' g X Y ↔ ∃ n, In a b d (X - n * x) (Y - n * y)) ∧ d = g * p ∧ y = g * q ∧ g = (Int.gcd d y : Int) ∧ a' = (Int.gcd a (q * b - p * x) : Int) ∧ a' ∣ a := by
  have ha := O.a0; have hb := O.b0; have hb' := O.b1; have hd := O.d0
  obtain ⟨g, p, q, eg, hg, ed, ey, hc⟩ := gcd_parts0 (b := d) (p := y) (by have := Int.gcd_pos_of_ne_zero_left y (show d ≠ 0 by omega); omega)
  have lg : g ≤ d := Int.le_of_dvd hd ⟨p, ed⟩
  obtain ⟨u, v, eS, hS⟩ := divisor_sum (one := d) (other := y) (by omega) (by omega) r
  rw [← eg] at hS
  have huv : u * p + v * q = 1 := Int.eq_of_mul_eq_mul_left (by omega : g ≠ 0) (by rw [Int.mul_one]; grind)
  have n1 : (y * b).natAbs < 2 ^ 20 := by
    have := mulb (i := y) (j := b) (m := 10) (n := 10) (by omega) (by omega); omega
  have n2 : (d * x).natAbs < 2 ^ 20 := by
    have := mulb (i := d) (j := x) (m := 10) (n := 10) (by omega) (by omega); omega
  obtain ⟨c, ec⟩ : ∃ c, c = q * b - p * x := ⟨_, rfl⟩
  have ec' : y * b - d * x = g * c := by rw [ec, ed, ey]; grind
  have nc : c.natAbs < 2 ^ 22 := small_mul (j := g) (by omega) (by rw [Int.mul_comm, ← ec']; omega)
  have hga : 0 < (Int.gcd a c : Int) := by have := Int.gcd_pos_of_ne_zero_left c (show a ≠ 0 by omega); omega
  have la : (Int.gcd a c : Int) ≤ a := Int.le_of_dvd ha (Int.gcd_dvd_left ..)
  obtain ⟨i, j, _, hij⟩ := divisor_sum (one := a) (other := c) (by omega) (by omega) r
  obtain ⟨a', ea'⟩ : ∃ a' : Int, a' = (Int.gcd a c : Int) := ⟨_, rfl⟩
  rw [← ea'] at hga la hij
  have e4 := Int.mul_ediv_add_emod (u * b + v * x) a'
  have O' : Ok a' ((u * b + v * x) % a') g := ⟨hga, Int.emod_nonneg _ (by omega), Int.emod_lt_of_pos _ hga, hg⟩
  refine ⟨a', (u * b + v * x) % a', g, p, q, ?_, O', la, lg, fun X Y => ?_, ed, ey, eg, by rw [ea', ec], by rw [ea']; exact Int.gcd_dvd_left ..⟩
  · have G := gdiv d y r
    rw [← eg] at G
    have w1 : mulT (.int y) (.int b) = some (.int (y * b)) := mulL (by omega) (by omega)
    have w2 : mulT (.int d) (.int x) = some (.int (d * x)) := mulL (by omega) (by omega)
    have w3 : divT (.int (y * b - d * x)) (.int g) = some (.int c) := by rw [divB hg (by omega), ec', Int.mul_ediv_cancel_left _ (by omega)]
    have G2 := gdiv a c r
    rw [← ea'] at G2
    have w4 : mulT (.int u) (.int b) = some (.int (u * b)) := mulR (by omega) (by omega)
    have w5 : mulT (.int v) (.int x) = some (.int (v * x)) := mulR (by omega) (by omega)
    have w6 : modT (.int (u * b + v * x)) (.int a') = some (.int ((u * b + v * x) % a')) := modP hga
    have I := init (ok_lt O' (by omega) (by omega)) r
    refine n_fn (n_seq (n_asg (x := pr x y) (r1 := r) rfl rfl) (n_seq (n_set (e_call (ts := [.int d, .int y]) (r1 := r) rfl G)) (n_seq (n_asg (e_call (ts := [.int d, .int y]) (r1 := r) rfl eS) rfl) ?_)))
    refine n_seq (n_set (e_call (ts := [.int a, .int c]) (r1 := r) (e_cons (x := .int a) (r1 := r) rfl (e_cons (x := .int c) (r1 := r) (e_bin (x := .int (y * b - d * x)) (y := .int g) (r1 := r) (e_b1 (x := .int (y * b - d * x)) (r1 := r) (e_bin (x := .int (y * b)) (y := .int (d * x)) (r1 := r) (e_bin (x := .int y) (y := .int b) (r1 := r) rfl rfl w1) (e_bin (x := .int d) (y := .int x) (r1 := r) rfl rfl w2) rfl) rfl) rfl w3) rfl)) G2)) ?_
    exact n_seqR (n_ret (e_make (ts := [.int a', .int ((u * b + v * x) % a'), .int g]) (r1 := r) (e_cons (x := .int a') (r1 := r) rfl (e_cons (x := .int ((u * b + v * x) % a')) (r1 := r) (e_bin (x := .int (u * b + v * x)) (y := .int a') (r1 := r) (e_b1 (x := .int (u * b + v * x)) (r1 := r) (e_bin (x := .int (u * b)) (y := .int (v * x)) (r1 := r) (e_bin (x := .int u) (y := .int b) (r1 := r) rfl rfl w4) (e_bin (x := .int v) (y := .int x) (r1 := r) rfl rfl w5) rfl) rfl) rfl w6) rfl)) I))
  · exact shift_iff ed ey huv ec (by rw [ea']; exact Int.gcd_dvd_left ..) (by rw [ea']; exact Int.gcd_dvd_right ..) ⟨i, j, hij.symm⟩ ⟨-((u * b + v * x) / a'), by grind⟩
theorem gcd_congr {m x y : Int} (h : m ∣ x - y) : Int.gcd m x = Int.gcd m y := by
  obtain ⟨k, hk⟩ := h
  have := gcd_step y m (-k)
  have e : y - -k * m = x := by grind
  rw [e, Int.gcd_comm y m] at this
  exact this
/-- the joined lattice -/
theorem joined {a1 b1 d1 a2 b2 d2 : Int} (O1 : Ok a1 b1 d1) (O2 : Ok a2 b2 d2) (A1 : a1 ≤ 1000) (A2 : a2 ≤ 1000) (D1 : d1 ≤ 1000) (D2 : d2 ≤ 1000) (r : RS) :
    ∃ a b d, F_joined_lattice [latt a1 b1 d1, latt a2 b2 d2] r = .ok (latt a b d) r ∧ Ok a b d ∧ a ≤ 1000 ∧ d ≤ 1000 ∧ (∀ x y, In a b d x y ↔ ∃ x' y', In a2 b2 d2 x' y' ∧ In a1 b1 d1 (x - x') (y - y')) ∧
      ∃ p q, d1 = d * p ∧ d2 = d * q ∧ d = (Int.gcd d1 d2 : Int) ∧ a = (Int.gcd (Int.gcd a1 a2 : Int) (q * b1 - p * b2) : Int) := by
  have ha1 := O1.a0; have hd1 := O1.d0
  have ha2 := O2.a0; have hb2 := O2.b0; have hb2' := O2.b1; have hd2 := O2.d0
  obtain ⟨a', b', g', p', q', e1, O', la, lg, I1, f1, f2, f3, f4, f5⟩ := with_shift (x := a2) (y := 0) O1 A1 D1 (by omega) (by decide) r
  obtain ⟨a, b, d, p, q, e2, O, la2, lg2, I2, h1, h2, h3, h4, h5⟩ := with_shift (x := b2) (y := d2) O' (by omega) (by omega) (by omega) (by omega) r
  have hg' : g' = d1 := by rw [f3, Int.gcd_zero_right]; omega
  have hp' : p' = 1 := by
    rw [hg'] at f1
    exact (Int.eq_of_mul_eq_mul_left (by omega : d1 ≠ 0) (by rw [Int.mul_one]; exact f1)).symm
  have hq' : q' = 0 := by
    rcases Int.mul_eq_zero.mp f2.symm with h | h
    · omega
    · exact h
  have ea' : a' = (Int.gcd a1 a2 : Int) := by
    rw [f4, hp', hq', Int.zero_mul, Int.one_mul, Int.zero_sub, Int.gcd_neg]
  have hb' : a' ∣ b1 - b' := by
    have := (I1 b1 d1).mpr ⟨0, by rw [Int.zero_mul, Int.sub_zero, Int.zero_mul, Int.sub_zero]; exact In.gen2 ..⟩
    obtain ⟨t, k, k1, k2⟩ := this
    rw [hg'] at k1
    have ht : t = 1 := (Int.eq_of_mul_eq_mul_left (by omega : d1 ≠ 0) (by rw [Int.mul_one]; exact k1)).symm
    subst ht
    exact ⟨k, by grind⟩
  refine ⟨a, b, d, ?_, O, by omega, by omega, fun x y => ?_, p, q, by rw [← hg']; exact h1, h2, by rw [← hg']; exact h3, ?_⟩
  · have c1 := check_lat a1 b1 d1 r
    have c2 := check_lat a2 b2 d2 r
    refine n_fn (n_seq (n_expr (e_call (ts := [latt a1 b1 d1]) (r1 := r) rfl c1)) (n_seq (n_expr (e_call (ts := [latt a2 b2 d2]) (r1 := r) rfl c2)) (n_seqR (n_ret ?_))))
    exact e_call (ts := [latt a' b' g', pr b2 d2]) (r1 := r) (e_cons (e_call (ts := [latt a1 b1 d1, pr a2 0]) (r1 := r) rfl e1) rfl) e2
  · rw [I2]
    constructor
    · rintro ⟨n, h⟩
      obtain ⟨m, h⟩ := (I1 _ _).mp h
      refine ⟨n * b2 + m * a2, n * d2, ⟨n, m, by grind, by grind⟩, ?_⟩
      have k1 : x - n * b2 - m * a2 = x - (n * b2 + m * a2) := by omega
      have k2 : y - n * d2 - m * 0 = y - n * d2 := by omega
      rw [k1, k2] at h
      exact h
    · rintro ⟨x', y', ⟨t, k, k1, k2⟩, h⟩
      refine ⟨t, (I1 _ _).mpr ⟨k, ?_⟩⟩
      have k3 : x - t * b2 - k * a2 = x - x' := by rw [k2]; grind
      have k4 : y - t * d2 - k * 0 = y - y' := by rw [k1]; grind
      rw [k3, k4]; exact h
  · rw [h4, ← ea']
    congr 1
    refine gcd_congr ?_
    obtain ⟨k, hk⟩ := hb'
    exact ⟨-(q * k), by grind⟩
/-- the spanned lattice -/
theorem spanned {x1 y1 x2 y2 : Int} (h1 : x1.natAbs ≤ 100) (h2 : y1.natAbs ≤ 100) (h3 : x2.natAbs ≤ 100) (h4 : y2.natAbs ≤ 100) (hD : x1 * y2 - x2 * y1 ≠ 0) (r : RS) :
    ∃ a b d, F_spanned [pr x1 y1, pr x2 y2] r = .ok (latt a b d) r ∧ Ok a b d ∧ a ≤ 10 ^ 22 ∧ d ≤ 10 ^ 22 ∧ a * d = ((x1 * y2 - x2 * y1).natAbs : Int) ∧ (∀ x y, In a b d x y ↔ (x1 * y2 - x2 * y1 ∣ x * y2 - y * x2 ∧ x1 * y2 - x2 * y1 ∣ y * x1 - x * y1)) := by
  have hg0 : Int.gcd y1 y2 ≠ 0 := fun z => by
    have q := Int.gcd_eq_zero_iff.mp z
    rw [q.1, q.2, Int.mul_zero, Int.mul_zero] at hD
    exact hD rfl
  obtain ⟨d, p, q, ed, hd, ey1, ey2, hc⟩ := gcd_parts0 hg0
  obtain ⟨E, eE⟩ : ∃ E, E = x1 * q - x2 * p := ⟨_, rfl⟩
  have eD : x1 * y2 - x2 * y1 = d * E := by rw [ey1, ey2, eE]; grind
  have hE0 : E ≠ 0 := fun z => hD (by rw [eD, z, Int.mul_zero])
  have n1 : (x1 * y2).natAbs < 2 ^ 14 := by
    have := mulb (i := x1) (j := y2) (m := 7) (n := 7) (by omega) (by omega); omega
  have n2 : (x2 * y1).natAbs < 2 ^ 14 := by
    have := mulb (i := x2) (j := y1) (m := 7) (n := 7) (by omega) (by omega); omega
  have nE : E.natAbs < 2 ^ 16 := small_mul (j := d) (by omega) (by rw [Int.mul_comm, ← eD]; omega)
  have ld : d ≤ 1000 := by
    by_cases hz : y1 = 0
    · have hz2 : y2 ≠ 0 := fun z => hg0 (by rw [hz, z]; rfl)
      have := Int.le_of_dvd (by omega : (0 : Int) < y2.natAbs) (Int.dvd_natAbs.mpr ⟨q, ey2⟩)
      omega
    · have := Int.le_of_dvd (by omega : (0 : Int) < y1.natAbs) (Int.dvd_natAbs.mpr ⟨p, ey1⟩)
      omega
  obtain ⟨u, v, eS, hS⟩ := divisor_sum (one := y1) (other := y2) (by omega) (by omega) r
  rw [← ed] at hS
  have huv : u * p + v * q = 1 := Int.eq_of_mul_eq_mul_left (by omega : d ≠ 0) (by rw [Int.mul_one]; grind)
  obtain ⟨a, ea⟩ : ∃ a : Int, a = E.natAbs := ⟨_, rfl⟩
  have ha : 0 < a := by omega
  have haE : a = E ∨ a = -E := by omega
  have sz : ((x1 * y2 - x2 * y1).natAbs : Int) = d * a := by
    rw [eD, Int.natAbs_mul, Int.natCast_mul, ea]
    congr 1
    omega
  have O : Ok a ((u * x1 + v * x2) % a) d := ⟨ha, Int.emod_nonneg _ (by omega), Int.emod_lt_of_pos _ ha, hd⟩
  have e4 := Int.mul_ediv_add_emod (u * x1 + v * x2) a
  refine ⟨a, (u * x1 + v * x2) % a, d, ?_, O, by omega, by omega, by rw [sz, Int.mul_comm], fun x y => ?_⟩
  · have G := gdiv y1 y2 r
    rw [← ed] at G
    have w1 : mulT (.int x1) (.int y2) = some (.int (x1 * y2)) := mulL (by omega) (by omega)
    have w2 : mulT (.int x2) (.int y1) = some (.int (x2 * y1)) := mulL (by omega) (by omega)
    have w3 : ∀ r, absT r (.int (x1 * y2 - x2 * y1)) = some (.int (d * a)) := fun r => by rw [absI, sz]
    have hda : d * a ≠ 0 := fun z => by
      rcases Int.mul_eq_zero.mp z with h | h <;> omega
    have w4 : divT (.int (d * a)) (.int d) = some (.int a) := by rw [divB hd (by omega), Int.mul_ediv_cancel_left _ (by omega)]
    have w5 : mulT (.int u) (.int x1) = some (.int (u * x1)) := mulR (by omega) (by omega)
    have w6 : mulT (.int v) (.int x2) = some (.int (v * x2)) := mulR (by omega) (by omega)
    have w7 : modT (.int (u * x1 + v * x2)) (.int a) = some (.int ((u * x1 + v * x2) % a)) := modP ha
    have I := init (ok_lt O (by omega) (by omega)) r
    refine n_fn (n_seq (n_expr (e_call (ts := [pr x1 y1]) (r1 := r) rfl (check_shift_pr x1 y1 r))) (n_seq (n_expr (e_call (ts := [pr x2 y2]) (r1 := r) rfl (check_shift_pr x2 y2 r))) ?_))
    refine n_seq (n_set (t := .int (d * a)) (r1 := r) (e_b1 (x := .int (x1 * y2 - x2 * y1)) (r1 := r) (e_bin (x := .int (x1 * y2)) (y := .int (x2 * y1)) (r1 := r) (e_bin (x := .int x1) (y := .int y2) (r1 := r) rfl rfl w1) (e_bin (x := .int x2) (y := .int y1) (r1 := r) rfl rfl w2) rfl) (w3 r))) ?_
    refine n_seq (n_ifF (r1 := r) (e_cmpB (x := .int (d * a)) (y := .int 0) (r1 := r) (r2 := r) rfl rfl (by rw [eq_int]; simp [hda])) rfl) ?_
    refine n_seq (n_set (e_call (ts := [.int y1, .int y2]) (r1 := r) rfl G)) (n_seq (n_asg (e_call (ts := [.int y1, .int y2]) (r1 := r) rfl eS) rfl) ?_)
    refine n_seq (n_set (t := .int a) (r1 := r) (e_bin (x := .int (d * a)) (y := .int d) (r1 := r) rfl rfl w4)) ?_
    exact n_seqR (n_ret (e_make (ts := [.int a, .int ((u * x1 + v * x2) % a), .int d]) (r1 := r) (e_cons (x := .int a) (r1 := r) rfl (e_cons (x := .int ((u * x1 + v * x2) % a)) (r1 := r) (e_bin (x := .int (u * x1 + v * x2)) (y := .int a) (r1 := r) (e_b1 (x := .int (u * x1 + v * x2)) (r1 := r) (e_bin (x := .int (u * x1)) (y := .int (v * x2)) (r1 := r) (e_bin (x := .int u) (y := .int x1) (r1 := r) rfl rfl w5) (e_bin (x := .int v) (y := .int x2) (r1 := r) rfl rfl w6) rfl) rfl) rfl w7) rfl)) I))
  · rw [eD]
    exact span_iff ey1 ey2 huv eE hE0 (by omega) haE ⟨-((u * x1 + v * x2) / a), by grind⟩
end K09
namespace K09
open PySem Ep L2
abbrev sB : Sm := (qSeq (qPar2 6 7 (fBin subT (fCall F__law_draw [] [(fVar 0), (fC (.int 25))]) (fC (.int 12))) (fBin subT (fCall F__law_draw [] [(fVar 0), (fC (.int 25))]) (fC (.int 12)))) (qSeq (qIf (fCmpB eqT (fBin modT (fVar 5) (fC (.int 3))) (fC (.int 0))) (qSeq (qSet 8 (fTup [(fBin addT (fBin mulT (fIx (fVar 1) (fC (.int 0))) (fVar 6)) (fBin mulT (fIx (fVar 2) (fC (.int 0))) (fVar 7))), (fBin addT (fBin mulT (fIx (fVar 1) (fC (.int 1))) (fVar 6)) (fBin mulT (fIx (fVar 2) (fC (.int 1))) (fVar 7)))])) (qSeq (qAsg (fVar 8) (hTupL 2 (hCons (hName 6) (hCons (hName 7) hNil)))) qNil)) qNil) (qSeq (qIf (fCmpB eqT (fBin modT (fVar 5) (fC (.int 3))) (fC (.int 1))) (qSeq (qPar2 6 7 (fBin addT (fVar 6) (fBin mulT (fBin powT (fC (.int 10)) (fC (.int 25))) (fVar 3))) (fBin subT (fVar 7) (fBin mulT (fBin powT (fC (.int 10)) (fC (.int 24))) (fVar 3)))) qNil) qNil) (qSeq (qIf (fCmpB neT (fun env => (fTup [(fVar 6), (fVar 7)]) env >>= fun x => (fVar 4) env >>= fun y => own2c 5 F_Lattice_contains x y) (fCall F__law_is_sum [] [(fVar 1), (fVar 2), (fVar 6), (fVar 7)])) (qSeq (qRet (fC (.bl false))) qNil) qNil) qNil))))
theorem modD {D : Int} (h : D ≠ 0) (z : Int) : ∃ m, modT (.int z) (.int D) = some (.int m) ∧ (m = 0 ↔ D ∣ z) := by
  by_cases hp : 0 < D
  · exact ⟨z % D, modP hp, ⟨fun h => Int.dvd_of_emod_eq_zero h, fun h => Int.emod_eq_zero_of_dvd h⟩⟩
  · refine ⟨z.fmod D, ?_, ⟨fun h => ?_, fun h => ?_⟩⟩
    · show (if 0 < D then some (T.int (z % D)) else if D < 0 then some (T.int (z.fmod D)) else none) = _
      rw [if_neg hp, if_pos (by omega)]
    · have e := Int.fmod_add_mul_fdiv z D
      exact ⟨z.fdiv D, by omega⟩
    · rw [Int.fmod_eq_emod, if_pos (.inr h), Int.emod_eq_zero_of_dvd h]; rfl
def sumP (x1 y1 x2 y2 x y : Int) : Prop := x1 * y2 - x2 * y1 ∣ x * y2 - y * x2 ∧ x1 * y2 - x2 * y1 ∣ y * x1 - x * y1
theorem heldIn {a b d x y : Int} (O : Ok a b d) : held a b d x y = true ↔ In a b d x y := by
  rw [← held_iff O.a0 O.d0]
  unfold held plX plY
  rw [Bool.and_eq_true, decide_eq_true_iff, decide_eq_true_iff]
theorem held_eq {a b d x y : Int} {c : Bool} (O : Ok a b d) (h : In a b d x y ↔ c = true) : held a b d x y = c := by
  have := (heldIn (x := x) (y := y) O).trans h
  cases c <;> cases hh : held a b d x y <;> simp_all
theorem is_sum {x1 y1 x2 y2 x y : Int} (h1 : x1.natAbs ≤ 30) (h2 : y1.natAbs ≤ 30) (h3 : x2.natAbs ≤ 30) (h4 : y2.natAbs ≤ 30) (hD : x1 * y2 - x2 * y1 ≠ 0) (r : RS) :
    ∃ c, F__law_is_sum [pr x1 y1, pr x2 y2, .int x, .int y] r = .ok (.bl c) r ∧ (sumP x1 y1 x2 y2 x y ↔ c = true) := by
  obtain ⟨m, hm, em⟩ := modD hD (x * y2 - y * x2)
  obtain ⟨n, hn, en⟩ := modD hD (y * x1 - x * y1)
  have w1 : mulT (.int x1) (.int y2) = some (.int (x1 * y2)) := mulL (by omega) (by omega)
  have w2 : mulT (.int x2) (.int y1) = some (.int (x2 * y1)) := mulL (by omega) (by omega)
  have w3 : mulT (.int x) (.int y2) = some (.int (x * y2)) := mulR (by omega) (by omega)
  have w4 : mulT (.int y) (.int x2) = some (.int (y * x2)) := mulR (by omega) (by omega)
  have w5 : mulT (.int y) (.int x1) = some (.int (y * x1)) := mulR (by omega) (by omega)
  have w6 : mulT (.int x) (.int y1) = some (.int (x * y1)) := mulR (by omega) (by omega)
  refine ⟨(m == 0) && (n == 0), ?_, ?_⟩
  · have c1 : (fCmp eqT (fBin modT (fBin subT (fBin mulT (fVar 2) (fIx (fVar 1) (fC (.int 1)))) (fBin mulT (fVar 3) (fIx (fVar 1) (fC (.int 0))))) (fVar 4)) (fC (.int 0))) [.val (pr x1 y1), .val (pr x2 y2), .val (.int x), .val (.int y), .val (.int (x1 * y2 - x2 * y1))] r = .ok (.bl (m == 0)) r :=
      e_cmp (x := .int m) (y := .int 0) (r1 := r) (r2 := r) (e_bin (x := .int (x * y2 - y * x2)) (y := .int (x1 * y2 - x2 * y1)) (r1 := r) (e_bin (x := .int (x * y2)) (y := .int (y * x2)) (r1 := r) (e_bin (x := .int x) (y := .int y2) (r1 := r) rfl rfl w3) (e_bin (x := .int y) (y := .int x2) (r1 := r) rfl rfl w4) rfl) rfl hm) rfl rfl
    have c2 : (fCmp eqT (fBin modT (fBin subT (fBin mulT (fVar 3) (fIx (fVar 0) (fC (.int 0)))) (fBin mulT (fVar 2) (fIx (fVar 0) (fC (.int 1))))) (fVar 4)) (fC (.int 0))) [.val (pr x1 y1), .val (pr x2 y2), .val (.int x), .val (.int y), .val (.int (x1 * y2 - x2 * y1))] r = .ok (.bl (n == 0)) r :=
      e_cmp (x := .int n) (y := .int 0) (r1 := r) (r2 := r) (e_bin (x := .int (y * x1 - x * y1)) (y := .int (x1 * y2 - x2 * y1)) (r1 := r) (e_bin (x := .int (y * x1)) (y := .int (x * y1)) (r1 := r) (e_bin (x := .int y) (y := .int x1) (r1 := r) rfl rfl w5) (e_bin (x := .int x) (y := .int y1) (r1 := r) rfl rfl w6) rfl) rfl hn) rfl rfl
    refine n_fn (n_seq (n_set (t := .int (x1 * y2 - x2 * y1)) (r1 := r) (e_bin (x := .int (x1 * y2)) (y := .int (x2 * y1)) (r1 := r) (e_bin (x := .int x1) (y := .int y2) (r1 := r) rfl rfl w1) (e_bin (x := .int x2) (y := .int y1) (r1 := r) rfl rfl w2) rfl)) (n_seqR (n_ret ?_)))
    cases q : (m == 0) with
    | false => rw [q] at c1; exact e_andF c1
    | true => rw [q] at c1; exact e_andT c1 c2
  · unfold sumP
    rw [Bool.and_eq_true, beq_iff_eq, beq_iff_eq, em, en]
theorem lt_of {a b d : Int} (O : Ok a b d) (ha : a ≤ 10 ^ 22) (hd : d ≤ 10 ^ 22) : Lt a b d := ok_lt O ha hd
/-- one turn of the thirty -/
theorem step_s {x1 y1 x2 y2 a b d : Int} (h1 : x1.natAbs ≤ 30) (h2 : y1.natAbs ≤ 30) (h3 : x2.natAbs ≤ 30) (h4 : y2.natAbs ≤ 30) (hD : x1 * y2 - x2 * y1 ≠ 0) (O : Ok a b d) (A : a ≤ 10 ^ 22) (B : d ≤ 10 ^ 22) (hI : ∀ x y, In a b d x y ↔ sumP x1 y1 x2 y2 x y)
    {k : Nat} {r : RS} (hp : Pool k r) (n : Nat) (s6 s7 s8 : Slot) :
    ∃ s6' s7' s8' r', sB [.val (.ref k), .val (pr x1 y1), .val (pr x2 y2), .val (.int (x1 * y2 - x2 * y1)), .val (latt a b d), .val (.int n), s6, s7, s8] r = .nx [.val (.ref k), .val (pr x1 y1), .val (pr x2 y2), .val (.int (x1 * y2 - x2 * y1)), .val (latt a b d), .val (.int n), s6', s7', s8'] r' ∧ Pool k r' := by
  obtain ⟨v1, r1, e1, p1, v10, v11⟩ := draw' (n := 25) hp (by decide) (by decide)
  obtain ⟨v2, r2, e2, p2, v20, v21⟩ := draw' (n := 25) p1 (by decide) (by decide)
  obtain ⟨D, eD⟩ : ∃ D, D = x1 * y2 - x2 * y1 := ⟨_, rfl⟩
  have bD : D.natAbs < 2 ^ 12 := by
    have := mulb (i := x1) (j := y2) (m := 5) (n := 5) (by omega) (by omega)
    have := mulb (i := x2) (j := y1) (m := 5) (n := 5) (by omega) (by omega)
    omega
  have md : modT (.int n) (.int 3) = some (.int ((n : Int) % 3)) := modP (by decide)
  have w1 : powT (.int 10) (.int 25) = some (.int (10 ^ 25)) := rfl
  have w2 : powT (.int 10) (.int 24) = some (.int (10 ^ 24)) := rfl
  have w3 : mulT (.int (10 ^ 25)) (.int D) = some (.int (10 ^ 25 * D)) := mulR (by omega) (by omega)
  have w4 : mulT (.int (10 ^ 24)) (.int D) = some (.int (10 ^ 24 * D)) := mulR (by omega) (by omega)
  have last : ∀ (x y : Int) (s8 : Slot), x.natAbs < 2 ^ 200 → y.natAbs < 2 ^ 200 → (qSeq (qIf (fCmpB neT (fun env => (fTup [(fVar 6), (fVar 7)]) env >>= fun x => (fVar 4) env >>= fun y => own2c 5 F_Lattice_contains x y) (fCall F__law_is_sum [] [(fVar 1), (fVar 2), (fVar 6), (fVar 7)])) (qSeq (qRet (fC (.bl false))) qNil) qNil) qNil) [.val (.ref k), .val (pr x1 y1), .val (pr x2 y2), .val (.int D), .val (latt a b d), .val (.int n), .val (.int x), .val (.int y), s8] r2 = .nx [.val (.ref k), .val (pr x1 y1), .val (pr x2 y2), .val (.int D), .val (latt a b d), .val (.int n), .val (.int x), .val (.int y), s8] r2 := fun x y s8 bx bY => by
    obtain ⟨c, ec, hc⟩ := is_sum (x := x) (y := y) h1 h2 h3 h4 hD r2
    have q1 := l_in (x := x) (y := y) (lt_of O A B) (by omega) (by omega) r2
    rw [held_eq O ((hI x y).trans hc)] at q1
    exact n_seq (n_ifF (r1 := r2) (e_cmpB (e_own2 (x := pr x y) (y := latt a b d) (r1 := r2) (r2 := r2) rfl rfl q1) (e_call (ts := [pr x1 y1, pr x2 y2, .int x, .int y]) (r1 := r2) rfl ec) (ne_bl _)) rfl) rfl
  rw [← eD]
  have st1 : (qPar2 6 7 (fBin subT (fCall F__law_draw [] [(fVar 0), (fC (.int 25))]) (fC (.int 12))) (fBin subT (fCall F__law_draw [] [(fVar 0), (fC (.int 25))]) (fC (.int 12)))) [.val (.ref k), .val (pr x1 y1), .val (pr x2 y2), .val (.int D), .val (latt a b d), .val (.int n), s6, s7, s8] r = .nx [.val (.ref k), .val (pr x1 y1), .val (pr x2 y2), .val (.int D), .val (latt a b d), .val (.int n), .val (.int (v1 - 12)), .val (.int (v2 - 12)), s8] r2 :=
    n_par2 (x := .int (v1 - 12)) (y := .int (v2 - 12)) (e_bin (x := .int v1) (y := .int 12) (e_call (ts := [.ref k, .int 25]) rfl e1) rfl rfl) (e_bin (x := .int v2) (y := .int 12) (e_call (ts := [.ref k, .int 25]) rfl e2) rfl rfl)
  by_cases c0 : (n : Int) % 3 = 0
  · have u1 : mulT (.int x1) (.int (v1 - 12)) = some (.int (x1 * (v1 - 12))) := mulL (by omega) (by omega)
    have u2 : mulT (.int x2) (.int (v2 - 12)) = some (.int (x2 * (v2 - 12))) := mulL (by omega) (by omega)
    have u3 : mulT (.int y1) (.int (v1 - 12)) = some (.int (y1 * (v1 - 12))) := mulL (by omega) (by omega)
    have u4 : mulT (.int y2) (.int (v2 - 12)) = some (.int (y2 * (v2 - 12))) := mulL (by omega) (by omega)
    have n1 := mulb (i := x1) (j := v1 - 12) (m := 5) (n := 5) (by omega) (by omega)
    have n2 := mulb (i := x2) (j := v2 - 12) (m := 5) (n := 5) (by omega) (by omega)
    have n3 := mulb (i := y1) (j := v1 - 12) (m := 5) (n := 5) (by omega) (by omega)
    have n4 := mulb (i := y2) (j := v2 - 12) (m := 5) (n := 5) (by omega) (by omega)
    refine ⟨_, _, _, r2, n_seq st1 (n_seq (n_ifT (r1 := r2) (e_cmpB (x := .int ((n : Int) % 3)) (y := .int 0) (r1 := r2) (r2 := r2) (e_bin (x := .int n) (y := .int 3) (r1 := r2) rfl rfl md) rfl (by rw [c0]; rfl)) ?_) (n_seq (n_ifF (r1 := r2) (e_cmpB (x := .int ((n : Int) % 3)) (y := .int 1) (r1 := r2) (r2 := r2) (e_bin (x := .int n) (y := .int 3) (r1 := r2) rfl rfl md) rfl (by rw [c0]; rfl)) rfl) (last (x1 * (v1 - 12) + x2 * (v2 - 12)) (y1 * (v1 - 12) + y2 * (v2 - 12)) (.val (pr (x1 * (v1 - 12) + x2 * (v2 - 12)) (y1 * (v1 - 12) + y2 * (v2 - 12)))) (by omega) (by omega)))), p2⟩
    refine n_seq (n_set (t := pr (x1 * (v1 - 12) + x2 * (v2 - 12)) (y1 * (v1 - 12) + y2 * (v2 - 12))) (r1 := r2) (e_tup (e_cons (x := .int (x1 * (v1 - 12) + x2 * (v2 - 12))) (r1 := r2) (e_bin (x := .int (x1 * (v1 - 12))) (y := .int (x2 * (v2 - 12))) (r1 := r2) (e_bin (x := .int x1) (y := .int (v1 - 12)) (r1 := r2) rfl rfl u1) (e_bin (x := .int x2) (y := .int (v2 - 12)) (r1 := r2) rfl rfl u2) rfl) (e_cons (x := .int (y1 * (v1 - 12) + y2 * (v2 - 12))) (r1 := r2) (e_bin (x := .int (y1 * (v1 - 12))) (y := .int (y2 * (v2 - 12))) (r1 := r2) (e_bin (x := .int y1) (y := .int (v1 - 12)) (r1 := r2) rfl rfl u3) (e_bin (x := .int y2) (y := .int (v2 - 12)) (r1 := r2) rfl rfl u4) rfl) rfl)))) ?_
    exact n_seq (n_asg (x := pr (x1 * (v1 - 12) + x2 * (v2 - 12)) (y1 * (v1 - 12) + y2 * (v2 - 12))) (r1 := r2) rfl rfl) rfl
  · have c0' : eqT (.int ((n : Int) % 3)) (.int 0) = some false := by rw [eq_int]; simp [c0]
    by_cases c1 : (n : Int) % 3 = 1
    · refine ⟨_, _, _, r2, n_seq st1 (n_seq (n_ifF (r1 := r2) (e_cmpB (x := .int ((n : Int) % 3)) (y := .int 0) (r1 := r2) (r2 := r2) (e_bin (x := .int n) (y := .int 3) (r1 := r2) rfl rfl md) rfl c0') rfl) (n_seq (n_ifT (r1 := r2) (e_cmpB (x := .int ((n : Int) % 3)) (y := .int 1) (r1 := r2) (r2 := r2) (e_bin (x := .int n) (y := .int 3) (r1 := r2) rfl rfl md) rfl (by rw [c1]; rfl)) ?_) (last (v1 - 12 + 10 ^ 25 * D) (v2 - 12 - 10 ^ 24 * D) s8 (by omega) (by omega)))), p2⟩
      exact n_seq (n_par2 (x := .int (v1 - 12 + 10 ^ 25 * D)) (y := .int (v2 - 12 - 10 ^ 24 * D)) (r1 := r2) (r2 := r2) (e_bin (x := .int (v1 - 12)) (y := .int (10 ^ 25 * D)) (r1 := r2) rfl (e_bin (x := .int (10 ^ 25)) (y := .int D) (r1 := r2) (e_bin (x := .int 10) (y := .int 25) (r1 := r2) rfl rfl w1) rfl w3) rfl) (e_bin (x := .int (v2 - 12)) (y := .int (10 ^ 24 * D)) (r1 := r2) rfl (e_bin (x := .int (10 ^ 24)) (y := .int D) (r1 := r2) (e_bin (x := .int 10) (y := .int 24) (r1 := r2) rfl rfl w2) rfl w4) rfl)) rfl
    · have c1' : eqT (.int ((n : Int) % 3)) (.int 1) = some false := by rw [eq_int]; simp [c1]
      exact ⟨_, _, _, r2, n_seq st1 (n_seq (n_ifF (r1 := r2) (e_cmpB (x := .int ((n : Int) % 3)) (y := .int 0) (r1 := r2) (r2 := r2) (e_bin (x := .int n) (y := .int 3) (r1 := r2) rfl rfl md) rfl c0') rfl) (n_seq (n_ifF (r1 := r2) (e_cmpB (x := .int ((n : Int) % 3)) (y := .int 1) (r1 := r2) (r2 := r2) (e_bin (x := .int n) (y := .int 3) (r1 := r2) rfl rfl md) rfl c1') rfl) (last (v1 - 12) (v2 - 12) s8 (by omega) (by omega)))), p2⟩
end K09
namespace K09
open PySem Ep L2
theorem heardS3 {act : M T} {r r' : RS} {p : T} (h : act r = .exn 3 p r') : heardS 2 hs__law_refused rest__law_refused act r = .ok (.lst [.str "so", p]) r' :=
  heard_rt ((qTry_x (ofM_x h)).trans rfl)
theorem pr0 (r : RS) (x y : Int) : ixT r (pr x y) (.int 0) = some (.int x) := rfl
theorem pr1 (r : RS) (x y : Int) : ixT r (pr x y) (.int 1) = some (.int y) := rfl
theorem eq_so : eqT (ws "so" "parallel") (ws "so" "parallel") = some true := by kernel_rfl
theorem spanned_x {x1 y1 x2 y2 : Int} (h1 : x1.natAbs ≤ 100) (h3 : x2.natAbs ≤ 100) (hD : x1 * y2 - x2 * y1 = 0) (r : RS) : F_spanned [pr x1 y1, pr x2 y2] r = .exn 3 (.str "parallel") r := by
  have w1 : mulT (.int x1) (.int y2) = some (.int (x1 * y2)) := mulL (by omega) (by omega)
  have w2 : mulT (.int x2) (.int y1) = some (.int (x2 * y1)) := mulL (by omega) (by omega)
  have w3 : ∀ r, absT r (.int (x1 * y2 - x2 * y1)) = some (.int 0) := fun r => by rw [absI, hD]; rfl
  simp [F_spanned, g_spanned, fnS, envOf, qSeq, qExpr, qSet, qIf, qRaise, qNil, ofM, fVar, fC, fCall, fAll, fB1R, b1kR, fBin, fIxR, ixkR, ixk2R, pr0, pr1, subT, w1, w2, w3, fCmpB, bindR, bndO, bndX, pureR, mpureR, liftS, check_shift_pr, eq_int]
theorem l_ne {a b d a' b' d' : Int} (r : RS) : own2n 5 F_Lattice_eq (latt a b d) (latt a' b' d') r = .ok (.bl (!((a == a') && ((b == b') && ((d == d') && true))))) r := bind_ok (l_eq r) rfl
theorem l_same (a b d : Int) (r : RS) : own2s 5 F_Lattice_eq (latt a b d) (latt a b d) r = .ok (.bl true) r := by rw [l_eq]; simp
theorem l_nsame (a b d : Int) (r : RS) : own2n 5 F_Lattice_eq (latt a b d) (latt a b d) r = .ok (.bl false) r := by rw [l_ne]; simp
theorem spanned_right {x1 y1 x2 y2 : Int} (h1 : x1.natAbs ≤ 30) (h2 : y1.natAbs ≤ 30) (h3 : x2.natAbs ≤ 30) (h4 : y2.natAbs ≤ 30) {k : Nat} {r : RS} (hp : Pool k r) :
    ∃ r', F__law_spanned_right [.ref k, pr x1 y1, pr x2 y2] r = .ok (.bl true) r' ∧ Pool k r' := by
  have w1 : mulT (.int x1) (.int y2) = some (.int (x1 * y2)) := mulL (by omega) (by omega)
  have w2 : mulT (.int x2) (.int y1) = some (.int (x2 * y1)) := mulL (by omega) (by omega)
  have st : ∀ s, qSeq (qSet 3 (fBin subT (fBin mulT (fIx (fVar 1) (fC (.int 0))) (fIx (fVar 2) (fC (.int 1)))) (fBin mulT (fIx (fVar 2) (fC (.int 0))) (fIx (fVar 1) (fC (.int 1)))))) s (envOf 6 [.ref k, pr x1 y1, pr x2 y2]) r = s [.val (.ref k), .val (pr x1 y1), .val (pr x2 y2), .val (.int (x1 * y2 - x2 * y1)), .un, .un, .un, .un, .un] r := fun s =>
    n_seq (n_set (t := .int (x1 * y2 - x2 * y1)) (r1 := r) (e_bin (x := .int (x1 * y2)) (y := .int (x2 * y1)) (r1 := r) (e_bin (x := .int x1) (y := .int y2) (r1 := r) rfl rfl w1) (e_bin (x := .int x2) (y := .int y1) (r1 := r) rfl rfl w2) rfl)) rfl
  by_cases hD : x1 * y2 - x2 * y1 = 0
  · refine ⟨r, n_fn ((st _).trans ?_), hp⟩
    have hx : (fun env => heardS 2 hs__law_refused rest__law_refused ((fCall F_spanned [] [(fVar 1), (fVar 2)]) env)) [.val (.ref k), .val (pr x1 y1), .val (pr x2 y2), .val (.int (x1 * y2 - x2 * y1)), .un, .un, .un, .un, .un] r = .ok (ws "so" "parallel") r := heardS3 (e_call (ts := [pr x1 y1, pr x2 y2]) (r1 := r) rfl (spanned_x (by omega) (by omega) hD r))
    refine n_seqR (n_ifT (r1 := r) (e_cmpB (x := .int (x1 * y2 - x2 * y1)) (y := .int 0) (r1 := r) (r2 := r) rfl rfl (by rw [hD]; rfl)) (n_seqR (n_ret (e_cmp hx (y := ws "so" "parallel") rfl eq_so))))
  · obtain ⟨a, b, d, e1, O, A, B, ar, hI⟩ := spanned (r := r) (by omega) (by omega) (by omega) (by omega) hD
    have hD' : x2 * y1 - x1 * y2 ≠ 0 := by omega
    obtain ⟨a2, b2, d2, e2, O2, _, _, _, hI2⟩ := spanned (r := r) (x1 := x2) (y1 := y2) (x2 := x1) (y2 := y1) (by omega) (by omega) (by omega) (by omega) hD'
    have u2 := uniq_set O O2 (fun x y => (hI x y).trans ⟨fun ⟨⟨m, hm⟩, ⟨n, hn⟩⟩ => (hI2 x y).mpr ⟨⟨n, by grind⟩, ⟨m, by grind⟩⟩, fun h => by
      obtain ⟨⟨m, hm⟩, ⟨n, hn⟩⟩ := (hI2 x y).mp h
      exact ⟨⟨n, by grind⟩, ⟨m, by grind⟩⟩⟩)
    obtain ⟨rfl, rfl, rfl⟩ := u2
    have LT := lt_of O A B
    have i1 : held a b d x1 y1 = true := (heldIn O).mpr ((hI _ _).mpr ⟨⟨1, by grind⟩, ⟨0, by grind⟩⟩)
    have i2 : held a b d x2 y2 = true := (heldIn O).mpr ((hI _ _).mpr ⟨⟨0, by grind⟩, ⟨1, by grind⟩⟩)
    have i3 : held a b d 0 0 = true := (heldIn O).mpr (In.zero ..)
    have n1 := l_nin (x := x1) (y := y1) LT (by omega) (by omega) r
    have n2 := l_nin (x := x2) (y := y2) LT (by omega) (by omega) r
    have n3 := l_nin (x := 0) (y := 0) LT (by decide) (by decide) r
    rw [i1] at n1
    rw [i2] at n2
    rw [i3] at n3
    have AR := l_area LT r
    have mx : max2T (.int (x1 * y2 - x2 * y1)) (.int (0 - (x1 * y2 - x2 * y1))) = some (.int (a * d)) := by
      rw [ar]
      show some (T.int (if 0 - (x1 * y2 - x2 * y1) > x1 * y2 - x2 * y1 then 0 - (x1 * y2 - x2 * y1) else x1 * y2 - x2 * y1)) = _
      congr 2
      split <;> omega
    have hc0 : eqT (.int (x1 * y2 - x2 * y1)) (.int 0) = some false := by rw [eq_int]; simp [hD]
    obtain ⟨env', r', l1, ⟨s5, s6, s7, s8, q1⟩, p', _⟩ := loop_inv (s := sB) (h := hName 5) (fun xs env r' => (∃ s5 s6 s7 s8, env = [.val (.ref k), .val (pr x1 y1), .val (pr x2 y2), .val (.int (x1 * y2 - x2 * y1)), .val (latt a b d), s5, s6, s7, s8]) ∧ Pool k r' ∧ ∀ x ∈ xs, ∃ n : Nat, x = .int n) (fun x xs env r' ⟨⟨s5, s6, s7, s8, ee⟩, p, hx⟩ => by
      subst ee
      obtain ⟨n, rfl⟩ := hx x List.mem_cons_self
      obtain ⟨s6', s7', s8', r'', e, p''⟩ := step_s h1 h2 h3 h4 hD O A B (fun x y => hI x y) p n s6 s7 s8
      exact ⟨_, _, r'', rfl, e, ⟨_, _, _, _, rfl⟩, p'', fun y hy => hx y (List.mem_cons_of_mem _ hy)⟩) (rngL 0 30) [.val (.ref k), .val (pr x1 y1), .val (pr x2 y2), .val (.int (x1 * y2 - x2 * y1)), .val (latt a b d), .un, .un, .un, .un] r ⟨⟨_, _, _, _, rfl⟩, hp, fun x hx => by
      obtain ⟨n, _, e⟩ := List.mem_map.mp hx
      exact ⟨n, by rw [← e]; simp⟩⟩
    subst q1
    have hD3 : (x1 + x2) * (0 - y2) - (0 - x2) * (y1 + y2) ≠ 0 := by
      have : (x1 + x2) * (0 - y2) - (0 - x2) * (y1 + y2) = x2 * y1 - x1 * y2 := by grind
      omega
    obtain ⟨a3, b3, d3, e3, O3, _, _, _, hI3⟩ := spanned (r := r') (x1 := x1 + x2) (y1 := y1 + y2) (x2 := 0 - x2) (y2 := 0 - y2) (by omega) (by omega) (by omega) (by omega) hD3
    have u3 := uniq_set O O3 (fun x y => (hI x y).trans ⟨fun ⟨⟨m, hm⟩, ⟨n, hn⟩⟩ => (hI3 x y).mpr ⟨⟨m, by grind⟩, ⟨m - n, by grind⟩⟩, fun h => by
      obtain ⟨⟨m, hm⟩, ⟨n, hn⟩⟩ := (hI3 x y).mp h
      exact ⟨⟨m, by grind⟩, ⟨m - n, by grind⟩⟩⟩)
    obtain ⟨rfl, rfl, rfl⟩ := u3
    refine ⟨r', n_fn ((st _).trans ?_), p'⟩
    refine n_seq (n_ifF (r1 := r) (e_cmpB (x := .int (x1 * y2 - x2 * y1)) (y := .int 0) (r1 := r) (r2 := r) rfl rfl hc0) rfl) ?_
    refine n_seq (n_set (e_call (ts := [pr x1 y1, pr x2 y2]) (r1 := r) rfl e1)) ?_
    refine n_seq (n_ifF (r1 := r) (e_orBF (r1 := r) (e_cmpB (x := .int (a * d)) (y := .int (a * d)) (r1 := r) (r2 := r) (e_meth (C := 5) (ts := []) (r2 := r) rfl rfl AR) (e_bin (x := .int (x1 * y2 - x2 * y1)) (y := .int (0 - (x1 * y2 - x2 * y1))) (r1 := r) (r2 := r) rfl rfl mx) (by rw [neI]; simp)) (e_toB (e_own2 (y := latt a b d) (r2 := r) (e_call (ts := [pr x2 y2, pr x1 y1]) (r1 := r) rfl e2) rfl (l_nsame a b d r)))) rfl) ?_
    refine n_seq (n_ifF (r1 := r) (e_orBF (r1 := r) (e_toB (e_own2 (x := pr x1 y1) (y := latt a b d) (r1 := r) (r2 := r) rfl rfl n1)) (e_orBF (r1 := r) (e_toB (e_own2 (x := pr x2 y2) (y := latt a b d) (r1 := r) (r2 := r) rfl rfl n2)) (e_toB (e_own2 (x := pr 0 0) (y := latt a b d) (r1 := r) (r2 := r) rfl rfl n3)))) rfl) ?_
    refine n_seq (n_for (xs := rngL 0 30) (r1 := r) rfl l1) (n_seqR (n_ret ?_))
    exact e_own2 (y := latt a b d) (r2 := r') (e_call (ts := [pr (x1 + x2) (y1 + y2), pr (0 - x2) (0 - y2)]) (r1 := r') rfl e3) rfl (l_same a b d r')
end K09
namespace K09
open PySem Ep L2
abbrev tB : Sm := (qSeq (qPar2 8 9 (fBin subT (fCall F__law_draw [] [(fVar 0), (fC (.int 40))]) (fC (.int 12))) (fBin subT (fCall F__law_draw [] [(fVar 0), (fC (.int 40))]) (fC (.int 12)))) (qSeq (qIf (fCmpB eqT (fBin modT (fVar 7) (fC (.int 2))) (fC (.int 0))) (qSeq (qPar2 8 9 (fBin addT (fBin mulT (fVar 8) (fIx (fVar 1) (fC (.int 0)))) (fBin mulT (fVar 9) (fIx (fVar 1) (fC (.int 1))))) (fBin mulT (fVar 9) (fIx (fVar 1) (fC (.int 2))))) qNil) qNil) (qSeq (qSet 11 (fLst [(fCall F__law_holds [] [(fVar 1), (fVar 8), (fVar 9)]), (fCall F__law_holds [] [(fVar 2), (fVar 8), (fVar 9)])])) (qSeq (qIf (fCmpB neT (fun env => (fTup [(fVar 8), (fVar 9)]) env >>= fun x => (fVar 5) env >>= fun y => own2c 5 F_Lattice_contains x y) (fCmp eqT (fVar 11) (fLst [(fC (.bl true)), (fC (.bl true))]))) (qSeq (qRet (fC (.bl false))) qNil) qNil) (qSeq (qIf (fAndB (fCmpB inT (fC (.bl true)) (fVar 11)) (fToB (fun env => (fTup [(fVar 8), (fVar 9)]) env >>= fun x => (fVar 6) env >>= fun y => own2nc 5 F_Lattice_contains x y))) (qSeq (qRet (fC (.bl false))) qNil) qNil) qNil)))))
theorem eq_tt (u v : Bool) : eqT (.lst [.bl u, .bl v]) (.lst [.bl true, .bl true]) = some (u && v) := by cases u <;> cases v <;> rfl
theorem in_tt (u v : Bool) : inT (.bl true) (.lst [.bl u, .bl v]) = some (u || v) := by cases u <;> cases v <;> rfl
theorem eq_bb (u : Bool) : eqT (.bl u) (.bl u) = some true := by cases u <;> rfl
structure Cj (a1 b1 d1 a2 b2 d2 a b d a' b' d' : Int) : Prop where
  O1 : Ok a1 b1 d1
  O2 : Ok a2 b2 d2
  OC : Ok a b d
  OJ : Ok a' b' d'
  s1 : a1 ≤ 60 ∧ d1 ≤ 60 ∧ a2 ≤ 60 ∧ d2 ≤ 60 ∧ a ≤ 10 ^ 22 ∧ d ≤ 10 ^ 22 ∧ a' ≤ 1000 ∧ d' ≤ 1000
  hC : ∀ x y, In a b d x y ↔ (In a1 b1 d1 x y ∧ In a2 b2 d2 x y)
  hJ : ∀ x y, In a' b' d' x y ↔ ∃ x' y', In a2 b2 d2 x' y' ∧ In a1 b1 d1 (x - x') (y - y')
theorem Cj.j1 {a1 b1 d1 a2 b2 d2 a b d a' b' d' x y : Int} (c : Cj a1 b1 d1 a2 b2 d2 a b d a' b' d') (h : In a1 b1 d1 x y) : In a' b' d' x y := (c.hJ x y).mpr ⟨0, 0, In.zero .., by rw [Int.sub_zero, Int.sub_zero]; exact h⟩
theorem Cj.j2 {a1 b1 d1 a2 b2 d2 a b d a' b' d' x y : Int} (c : Cj a1 b1 d1 a2 b2 d2 a b d a' b' d') (h : In a2 b2 d2 x y) : In a' b' d' x y := (c.hJ x y).mpr ⟨x, y, h, by rw [Int.sub_self, Int.sub_self]; exact In.zero ..⟩
theorem step_t {a1 b1 d1 a2 b2 d2 a b d a' b' d' : Int} (c : Cj a1 b1 d1 a2 b2 d2 a b d a' b' d') {k : Nat} {r : RS} (hp : Pool k r) (n : Nat) (s8 s9 s10 s11 : Slot) :
    ∃ s8' s9' s11' r', tB [.val (.ref k), .val (three a1 b1 d1), .val (three a2 b2 d2), .val (latt a1 b1 d1), .val (latt a2 b2 d2), .val (latt a b d), .val (latt a' b' d'), .val (.int n), s8, s9, s10, s11] r = .nx [.val (.ref k), .val (three a1 b1 d1), .val (three a2 b2 d2), .val (latt a1 b1 d1), .val (latt a2 b2 d2), .val (latt a b d), .val (latt a' b' d'), .val (.int n), s8', s9', s10, s11'] r' ∧ Pool k r' := by
  obtain ⟨v1, r1, e1, p1, v10, v11⟩ := draw' (n := 40) hp (by decide) (by decide)
  obtain ⟨v2, r2, e2, p2, v20, v21⟩ := draw' (n := 40) p1 (by decide) (by decide)
  obtain ⟨A1, D1, A2, D2, AC, DC, AJ, DJ⟩ := c.s1
  have q1 := c.O1.a0; have q2 := c.O1.b0; have q3 := c.O1.b1; have q4 := c.O1.d0
  have L1 := lt_of c.O1 (by omega) (by omega)
  have L2 := lt_of c.O2 (by omega) (by omega)
  have LC := lt_of c.OC AC DC
  have LJ := lt_of c.OJ (by omega) (by omega)
  have md : modT (.int n) (.int 2) = some (.int ((n : Int) % 2)) := modP (by decide)
  have last : ∀ (x y : Int) (s11 : Slot), x.natAbs < 2 ^ 200 → y.natAbs < 2 ^ 200 → ∃ s11', (qSeq (qSet 11 (fLst [(fCall F__law_holds [] [(fVar 1), (fVar 8), (fVar 9)]), (fCall F__law_holds [] [(fVar 2), (fVar 8), (fVar 9)])])) (qSeq (qIf (fCmpB neT (fun env => (fTup [(fVar 8), (fVar 9)]) env >>= fun x => (fVar 5) env >>= fun y => own2c 5 F_Lattice_contains x y) (fCmp eqT (fVar 11) (fLst [(fC (.bl true)), (fC (.bl true))]))) (qSeq (qRet (fC (.bl false))) qNil) qNil) (qSeq (qIf (fAndB (fCmpB inT (fC (.bl true)) (fVar 11)) (fToB (fun env => (fTup [(fVar 8), (fVar 9)]) env >>= fun x => (fVar 6) env >>= fun y => own2nc 5 F_Lattice_contains x y))) (qSeq (qRet (fC (.bl false))) qNil) qNil) qNil))) [.val (.ref k), .val (three a1 b1 d1), .val (three a2 b2 d2), .val (latt a1 b1 d1), .val (latt a2 b2 d2), .val (latt a b d), .val (latt a' b' d'), .val (.int n), .val (.int x), .val (.int y), s10, s11] r2 = .nx [.val (.ref k), .val (three a1 b1 d1), .val (three a2 b2 d2), .val (latt a1 b1 d1), .val (latt a2 b2 d2), .val (latt a b d), .val (latt a' b' d'), .val (.int n), .val (.int x), .val (.int y), s10, s11'] r2 := fun x y s11 bx bY => by
    have f1 := holds (x := x) (y := y) L1 (by omega) (by omega) r2
    have f2 := holds (x := x) (y := y) L2 (by omega) (by omega) r2
    have f3 := l_in (x := x) (y := y) LC (by omega) (by omega) r2
    have f4 := l_nin (x := x) (y := y) LJ (by omega) (by omega) r2
    have k1 : held a b d x y = (held a1 b1 d1 x y && held a2 b2 d2 x y) := held_eq c.OC ((c.hC x y).trans (by rw [Bool.and_eq_true, heldIn c.O1, heldIn c.O2]))
    have k2 : (held a1 b1 d1 x y || held a2 b2 d2 x y) = true → held a' b' d' x y = true := fun h => by
      rcases Bool.or_eq_true_iff.mp h with h | h
      · exact (heldIn c.OJ).mpr (c.j1 ((heldIn c.O1).mp h))
      · exact (heldIn c.OJ).mpr (c.j2 ((heldIn c.O2).mp h))
    rw [k1] at f3
    generalize held a1 b1 d1 x y = u at *
    generalize held a2 b2 d2 x y = v at *
    refine ⟨.val (.lst [.bl u, .bl v]), n_seq (n_set (t := .lst [.bl u, .bl v]) (r1 := r2) (e_lst (e_cons (e_call (ts := [three a1 b1 d1, .int x, .int y]) (r1 := r2) rfl f1) (e_cons (e_call (ts := [three a2 b2 d2, .int x, .int y]) (r1 := r2) rfl f2) e_nil)))) ?_⟩
    refine n_seq (n_ifF (r1 := r2) (e_cmpB (e_own2 (x := pr x y) (y := latt a b d) (r1 := r2) (r2 := r2) rfl rfl f3) (e_cmp (x := .lst [.bl u, .bl v]) (y := .lst [.bl true, .bl true]) (r1 := r2) (r2 := r2) rfl rfl (eq_tt u v)) (ne_bl _)) rfl) ?_
    refine n_seq (n_ifF (r1 := r2) ?_ rfl) rfl
    have ci : (fCmpB inT (fC (.bl true)) (fVar 11)) [.val (.ref k), .val (three a1 b1 d1), .val (three a2 b2 d2), .val (latt a1 b1 d1), .val (latt a2 b2 d2), .val (latt a b d), .val (latt a' b' d'), .val (.int n), .val (.int x), .val (.int y), s10, .val (.lst [.bl u, .bl v])] r2 = .ok (u || v) r2 := e_cmpB (x := .bl true) (y := .lst [.bl u, .bl v]) (r1 := r2) (r2 := r2) rfl rfl (in_tt u v)
    cases h : (u || v) with
    | false => rw [h] at ci; exact e_andBF ci
    | true =>
      rw [h] at ci
      rw [k2 h] at f4
      exact e_andBT ci (e_toB (e_own2 (x := pr x y) (y := latt a' b' d') (r1 := r2) (r2 := r2) rfl rfl f4))
  have st1 : (qPar2 8 9 (fBin subT (fCall F__law_draw [] [(fVar 0), (fC (.int 40))]) (fC (.int 12))) (fBin subT (fCall F__law_draw [] [(fVar 0), (fC (.int 40))]) (fC (.int 12)))) [.val (.ref k), .val (three a1 b1 d1), .val (three a2 b2 d2), .val (latt a1 b1 d1), .val (latt a2 b2 d2), .val (latt a b d), .val (latt a' b' d'), .val (.int n), s8, s9, s10, s11] r = .nx [.val (.ref k), .val (three a1 b1 d1), .val (three a2 b2 d2), .val (latt a1 b1 d1), .val (latt a2 b2 d2), .val (latt a b d), .val (latt a' b' d'), .val (.int n), .val (.int (v1 - 12)), .val (.int (v2 - 12)), s10, s11] r2 :=
    n_par2 (x := .int (v1 - 12)) (y := .int (v2 - 12)) (e_bin (x := .int v1) (y := .int 12) (e_call (ts := [.ref k, .int 40]) rfl e1) rfl rfl) (e_bin (x := .int v2) (y := .int 12) (e_call (ts := [.ref k, .int 40]) rfl e2) rfl rfl)
  by_cases c0 : (n : Int) % 2 = 0
  · have u1 : mulT (.int (v1 - 12)) (.int a1) = some (.int ((v1 - 12) * a1)) := mulL (by omega) (by omega)
    have u2 : mulT (.int (v2 - 12)) (.int b1) = some (.int ((v2 - 12) * b1)) := mulL (by omega) (by omega)
    have u3 : mulT (.int (v2 - 12)) (.int d1) = some (.int ((v2 - 12) * d1)) := mulL (by omega) (by omega)
    have n1 := mulb (i := v1 - 12) (j := a1) (m := 6) (n := 6) (by omega) (by omega)
    have n2 := mulb (i := v2 - 12) (j := b1) (m := 6) (n := 6) (by omega) (by omega)
    have n3 := mulb (i := v2 - 12) (j := d1) (m := 6) (n := 6) (by omega) (by omega)
    obtain ⟨s11', el⟩ := last ((v1 - 12) * a1 + (v2 - 12) * b1) ((v2 - 12) * d1) s11 (by omega) (by omega)
    refine ⟨_, _, s11', r2, n_seq st1 (n_seq (n_ifT (r1 := r2) (e_cmpB (x := .int ((n : Int) % 2)) (y := .int 0) (r1 := r2) (r2 := r2) (e_bin (x := .int n) (y := .int 2) (r1 := r2) rfl rfl md) rfl (by rw [c0]; rfl)) ?_) el), p2⟩
    exact n_seq (n_par2 (x := .int ((v1 - 12) * a1 + (v2 - 12) * b1)) (y := .int ((v2 - 12) * d1)) (r1 := r2) (r2 := r2) (e_bin (x := .int ((v1 - 12) * a1)) (y := .int ((v2 - 12) * b1)) (r1 := r2) (e_bin (x := .int (v1 - 12)) (y := .int a1) (r1 := r2) rfl rfl u1) (e_bin (x := .int (v2 - 12)) (y := .int b1) (r1 := r2) rfl rfl u2) rfl) (e_bin (x := .int (v2 - 12)) (y := .int d1) (r1 := r2) rfl rfl u3)) rfl
  · have c0' : eqT (.int ((n : Int) % 2)) (.int 0) = some false := by rw [eq_int]; simp [c0]
    obtain ⟨s11', el⟩ := last (v1 - 12) (v2 - 12) s11 (by omega) (by omega)
    exact ⟨_, _, s11', r2, n_seq st1 (n_seq (n_ifF (r1 := r2) (e_cmpB (x := .int ((n : Int) % 2)) (y := .int 0) (r1 := r2) (r2 := r2) (e_bin (x := .int n) (y := .int 2) (r1 := r2) rfl rfl md) rfl c0') rfl) el), p2⟩
theorem le_iff {a b d a' b' d' : Int} (O' : Ok a' b' d') : (held a' b' d' a 0 && held a' b' d' b d) = true ↔ ∀ x y, In a b d x y → In a' b' d' x y := by
  rw [Bool.and_eq_true, heldIn O', heldIn O']
  exact ⟨fun h x y => In.sub h.1 h.2, fun h => ⟨h _ _ (In.gen1 ..), h _ _ (In.gen2 ..)⟩⟩
theorem eqb_iff {a b d a' b' d' : Int} (O : Ok a b d) (O' : Ok a' b' d') : ((a == a') && ((b == b') && ((d == d') && true))) = true ↔ ∀ x y, In a b d x y ↔ In a' b' d' x y := by
  simp only [Bool.and_eq_true, beq_iff_eq, and_true]
  exact ⟨fun ⟨h1, h2, h3⟩ => by subst h1 h2 h3; exact fun x y => Iff.rfl, fun h => uniq_set O O' h⟩
theorem bool_eq {u v : Bool} (h : u = true ↔ v = true) : u = v := by cases u <;> cases v <;> simp_all
theorem two_right {a1 b1 d1 a2 b2 d2 : Int} (O1 : Ok a1 b1 d1) (O2 : Ok a2 b2 d2) (A1 : a1 ≤ 60) (D1 : d1 ≤ 60) (A2 : a2 ≤ 60) (D2 : d2 ≤ 60) {k : Nat} {r : RS} (hp : Pool k r) :
    ∃ r', F__law_two_right [.ref k, three a1 b1 d1, three a2 b2 d2] r = .ok (.bl true) r' ∧ Pool k r' := by
  obtain ⟨a, b, d, eC, OC, AC, DC, hC, e1, e2, g, G, p, x1, x2, x3, x4, x5, x6, x7, x8⟩ := common O1 O2 (by omega) (by omega) (by omega) (by omega) r
  obtain ⟨a', b', d', eJ, OJ, AJ, DJ, hJ, p', q', y1, y2, y3, y4⟩ := joined O1 O2 (by omega) (by omega) (by omega) (by omega) r
  have c : Cj a1 b1 d1 a2 b2 d2 a b d a' b' d' := ⟨O1, O2, OC, OJ, ⟨A1, D1, A2, D2, AC, DC, AJ, DJ⟩, hC, hJ⟩
  obtain ⟨aa, bb, dd, eC', OC', _, _, hC', _⟩ := common O2 O1 (by omega) (by omega) (by omega) (by omega) r
  have u1 := uniq_set OC OC' (fun x y => (hC x y).trans (And.comm.trans (hC' x y).symm))
  obtain ⟨rfl, rfl, rfl⟩ := u1
  obtain ⟨aa, bb, dd, eJ', OJ', _, _, hJ', _⟩ := joined O2 O1 (by omega) (by omega) (by omega) (by omega) r
  have sw : ∀ {P Q : Int → Int → Prop} {x y : Int}, (∃ x' y', P x' y' ∧ Q (x - x') (y - y')) → ∃ x' y', Q x' y' ∧ P (x - x') (y - y') := fun {P Q x y} ⟨x', y', h1, h2⟩ => ⟨x - x', y - y', h2, by
    have k1 : x - (x - x') = x' := by omega
    have k2 : y - (y - y') = y' := by omega
    rw [k1, k2]; exact h1⟩
  have u2 := uniq_set OJ OJ' (fun x y => (hJ x y).trans (⟨sw, sw⟩ : _ ↔ _) |>.trans (hJ' x y).symm)
  obtain ⟨rfl, rfl, rfl⟩ := u2
  have L1 := lt_of O1 (by omega) (by omega)
  have L2 := lt_of O2 (by omega) (by omega)
  have LC := lt_of OC AC DC
  have LJ := lt_of OJ (by omega) (by omega)
  have ha1 := O1.a0; have hd1 := O1.d0; have hb1 := O1.b0; have hb1' := O1.b1
  have ha2 := O2.a0; have hd2 := O2.d0; have hb2 := O2.b0; have hb2' := O2.b1
  have haC := OC.a0; have hdC := OC.d0; have haJ := OJ.a0; have hdJ := OJ.d0
  -- the areas
  have hGd : G = d' := by rw [x8, y3]
  have he1 : e1 = q' := Int.eq_of_mul_eq_mul_left (by omega : d' ≠ 0) (by rw [← hGd, ← x2, hGd, ← y2])
  have he2 : e2 = p' := Int.eq_of_mul_eq_mul_left (by omega : d' ≠ 0) (by rw [← hGd, ← x1, hGd, ← y1])
  have ga : g = p * a' := by rw [y4, ← x3, ← he1, ← he2]; exact x6
  have area : a * d * (a' * d') = a1 * d1 * (a2 * d2) := by
    have : a * d * (a' * d') = a * (p * a') * (d1 * (d' * e1)) := by rw [x7]; grind
    rw [this, ← ga, x5, he1, ← y2]; grind
  have nb1 := mulb (i := a) (j := d) (m := 80) (n := 80) (by omega) (by omega)
  have nb2 := mulb (i := a') (j := d') (m := 80) (n := 80) (by omega) (by omega)
  have nb3 := mulb (i := a1) (j := d1) (m := 80) (n := 80) (by omega) (by omega)
  have nb4 := mulb (i := a2) (j := d2) (m := 80) (n := 80) (by omega) (by omega)
  have m1 : mulT (.int (a * d)) (.int (a' * d')) = some (.int (a * d * (a' * d'))) := mulB (by omega) (by omega)
  have m2 : mulT (.int (a1 * d1)) (.int (a2 * d2)) = some (.int (a1 * d1 * (a2 * d2))) := mulB (by omega) (by omega)
  -- one within the other
  have k1 := l_le LC L1 r
  rw [(le_iff O1).mpr fun x y h => ((hC x y).mp h).1] at k1
  have k2 := l_le LC L2 r
  rw [(le_iff O2).mpr fun x y h => ((hC x y).mp h).2] at k2
  have k3 := l_le L1 LJ r
  rw [(le_iff OJ).mpr fun x y h => c.j1 h] at k3
  have k4 := l_le L2 LJ r
  rw [(le_iff OJ).mpr fun x y h => c.j2 h] at k4
  -- the forty turns
  obtain ⟨env', r', l1, ⟨s7, s8, s9, s11, q1⟩, pp, _⟩ := loop_inv (s := tB) (h := hName 7) (fun xs env r' => (∃ s7 s8 s9 s11, env = [.val (.ref k), .val (three a1 b1 d1), .val (three a2 b2 d2), .val (latt a1 b1 d1), .val (latt a2 b2 d2), .val (latt a b d), .val (latt a' b' d'), s7, s8, s9, .un, s11]) ∧ Pool k r' ∧ ∀ x ∈ xs, ∃ n : Nat, x = .int n) (fun x xs env r' ⟨⟨s7, s8, s9, s11, ee⟩, p, hx⟩ => by
      subst ee
      obtain ⟨n, rfl⟩ := hx x List.mem_cons_self
      obtain ⟨s8', s9', s11', r'', e, p''⟩ := step_t c p n s8 s9 .un s11
      exact ⟨_, _, r'', rfl, e, ⟨_, _, _, _, rfl⟩, p'', fun y hy => hx y (List.mem_cons_of_mem _ hy)⟩) (rngL 0 40) [.val (.ref k), .val (three a1 b1 d1), .val (three a2 b2 d2), .val (latt a1 b1 d1), .val (latt a2 b2 d2), .val (latt a b d), .val (latt a' b' d'), .un, .un, .un, .un, .un] r ⟨⟨_, _, _, _, rfl⟩, hp, fun x hx => by
      obtain ⟨n, _, e⟩ := List.mem_map.mp hx
      exact ⟨n, by rw [← e]; simp⟩⟩
  subst q1
  obtain ⟨v1, r1, f1, p1, v10, v11⟩ := draw' (n := 9) pp (by decide) (by decide)
  obtain ⟨v2, r2, f2, p2, v20, v21⟩ := draw' (n := 9) p1 (by decide) (by decide)
  obtain ⟨x, ex⟩ : ∃ x, x = v1 - 4 := ⟨_, rfl⟩
  obtain ⟨y, ey⟩ : ∃ y, y = v2 - 4 := ⟨_, rfl⟩
  have z1 : mulT (.int x) (.int a1) = some (.int (x * a1)) := mulL (by omega) (by omega)
  have z2 : mulT (.int y) (.int b2) = some (.int (y * b2)) := mulL (by omega) (by omega)
  have z3 : mulT (.int y) (.int d2) = some (.int (y * d2)) := mulL (by omega) (by omega)
  have n1 := mulb (i := x) (j := a1) (m := 6) (n := 6) (by omega) (by omega)
  have n2 := mulb (i := y) (j := b2) (m := 6) (n := 6) (by omega) (by omega)
  have n3 := mulb (i := y) (j := d2) (m := 6) (n := 6) (by omega) (by omega)
  have near : held a' b' d' (x * a1 + y * b2 + a2) (y * d2) = true := (heldIn OJ).mpr ((hJ _ _).mpr ⟨y * b2 + a2, y * d2, ⟨y, 1, by grind, by grind⟩, ⟨0, x, by grind, by grind⟩⟩)
  have i1 := l_in (x := x * a1 + y * b2 + a2) (y := y * d2) LJ (by omega) (by omega) r2
  rw [near] at i1
  have t1 : ((a == a1) && ((b == b1) && ((d == d1) && true))) = (held a2 b2 d2 a1 0 && held a2 b2 d2 b1 d1) := bool_eq ((eqb_iff OC O1).trans (Iff.trans ⟨fun h x y hh => ((hC x y).mp ((h x y).mpr hh)).2, fun h x y => ⟨fun hh => ((hC x y).mp hh).1, fun hh => (hC x y).mpr ⟨hh, h x y hh⟩⟩⟩ (le_iff O2).symm))
  have t2 : ((a' == a1) && ((b' == b1) && ((d' == d1) && true))) = (held a1 b1 d1 a2 0 && held a1 b1 d1 b2 d2) := bool_eq ((eqb_iff OJ O1).trans (Iff.trans ⟨fun h x y hh => (h x y).mp (c.j2 hh), fun h x y => ⟨fun hh => by
    obtain ⟨x', y', w1, w2⟩ := (hJ x y).mp hh
    have := (h _ _ w1).comb w2 1
    have k1 : x' + 1 * (x - x') = x := by omega
    have k2 : y' + 1 * (y - y') = y := by omega
    rw [k1, k2] at this
    exact this, fun hh => c.j1 hh⟩⟩ (le_iff O1).symm))
  have j1 := l_eq (a := a) (b := b) (d := d) (a' := a1) (b' := b1) (d' := d1) r2
  have j2 := l_le L1 L2 r2
  rw [t1] at j1
  have j3 := l_eq (a := a') (b := b') (d := d') (a' := a1) (b' := b1) (d' := d1) r2
  have j4 := l_le L2 L1 r2
  rw [t2] at j3
  refine ⟨r2, ?_, p2⟩
  refine n_fn (n_seq (n_par2 (x := latt a1 b1 d1) (y := latt a2 b2 d2) (r1 := r) (r2 := r) (e_make (ts := [.int a1, .int b1, .int d1]) (r1 := r) rfl (init L1 r)) (e_make (ts := [.int a2, .int b2, .int d2]) (r1 := r) rfl (init L2 r))) ?_)
  refine n_seq (n_par2 (x := latt a b d) (y := latt a' b' d') (r1 := r) (r2 := r) (e_call (ts := [latt a1 b1 d1, latt a2 b2 d2]) (r1 := r) rfl eC) (e_call (ts := [latt a1 b1 d1, latt a2 b2 d2]) (r1 := r) rfl eJ)) ?_
  refine n_seq (n_ifF (r1 := r) (e_orBF (r1 := r) (e_toB (e_own2 (y := latt a b d) (r2 := r) (e_call (ts := [latt a2 b2 d2, latt a1 b1 d1]) (r1 := r) rfl eC') rfl (l_nsame a b d r))) (e_toB (e_own2 (y := latt a' b' d') (r2 := r) (e_call (ts := [latt a2 b2 d2, latt a1 b1 d1]) (r1 := r) rfl eJ') rfl (l_nsame a' b' d' r)))) rfl) ?_
  refine n_seq (n_ifF (r1 := r) (e_cmpB (x := .int (a * d * (a' * d'))) (y := .int (a1 * d1 * (a2 * d2))) (r1 := r) (r2 := r) (e_bin (x := .int (a * d)) (y := .int (a' * d')) (r1 := r) (r2 := r) (e_meth (C := 5) (ts := []) (r2 := r) rfl rfl (l_area LC r)) (e_meth (C := 5) (ts := []) (r2 := r) rfl rfl (l_area LJ r)) m1) (e_bin (x := .int (a1 * d1)) (y := .int (a2 * d2)) (r1 := r) (r2 := r) (e_meth (C := 5) (ts := []) (r2 := r) rfl rfl (l_area L1 r)) (e_meth (C := 5) (ts := []) (r2 := r) rfl rfl (l_area L2 r)) m2) (by rw [neI, area]; simp)) rfl) ?_
  refine n_seq (n_ifF (r1 := r) (e_notB (b := true) (e_andBT (r1 := r) (e_toB (e_own2 (x := latt a b d) (y := latt a1 b1 d1) (r1 := r) (r2 := r) rfl rfl k1)) (e_andBT (r1 := r) (e_toB (e_own2 (x := latt a b d) (y := latt a2 b2 d2) (r1 := r) (r2 := r) rfl rfl k2)) (e_andBT (r1 := r) (e_toB (e_own2 (x := latt a1 b1 d1) (y := latt a' b' d') (r1 := r) (r2 := r) rfl rfl k3)) (e_toB (e_own2 (x := latt a2 b2 d2) (y := latt a' b' d') (r1 := r) (r2 := r) rfl rfl k4)))))) rfl) ?_
  refine n_seq (n_for (xs := rngL 0 40) (r1 := r) rfl l1) ?_
  refine n_seq (n_par2 (x := .int x) (y := .int y) (e_bin (x := .int v1) (y := .int 4) (e_call (ts := [.ref k, .int 9]) rfl f1) rfl (by rw [ex]; rfl)) (e_bin (x := .int v2) (y := .int 4) (e_call (ts := [.ref k, .int 9]) rfl f2) rfl (by rw [ey]; rfl))) ?_
  refine n_seq (n_set (t := pr (x * a1 + y * b2 + a2) (y * d2)) (r1 := r2) (e_tup (e_cons (x := .int (x * a1 + y * b2 + a2)) (r1 := r2) (e_bin (x := .int (x * a1 + y * b2)) (y := .int a2) (r1 := r2) (e_bin (x := .int (x * a1)) (y := .int (y * b2)) (r1 := r2) (e_bin (x := .int x) (y := .int a1) (r1 := r2) rfl rfl z1) (e_bin (x := .int y) (y := .int b2) (r1 := r2) rfl rfl z2) rfl) rfl rfl) (e_cons (x := .int (y * d2)) (r1 := r2) (e_bin (x := .int y) (y := .int d2) (r1 := r2) rfl rfl z3) rfl)))) ?_
  refine n_seqR (n_ret (e_andT (e_own2 (x := pr (x * a1 + y * b2 + a2) (y * d2)) (y := latt a' b' d') (r1 := r2) (r2 := r2) rfl rfl i1) ?_))
  exact e_andT (e_cmp (b := true) (e_own2 (x := latt a b d) (y := latt a1 b1 d1) (r1 := r2) (r2 := r2) rfl rfl j1) (e_own2 (x := latt a1 b1 d1) (y := latt a2 b2 d2) (r1 := r2) (r2 := r2) rfl rfl j2) (eq_bb _)) (e_cmp (b := true) (e_own2 (x := latt a' b' d') (y := latt a1 b1 d1) (r1 := r2) (r2 := r2) rfl rfl j3) (e_own2 (x := latt a2 b2 d2) (y := latt a1 b1 d1) (r1 := r2) (r2 := r2) rfl rfl j4) (eq_bb _))
end K09
namespace K09
open PySem Ep L2
abbrev pA : Sm := (qSeq (qIf (fNotB (fTru (fCall F__law_spanned_right [] [(fVar 2), (fIx (fVar 5) (fC (.int 0))), (fIx (fVar 5) (fC (.int 1)))]))) (qSeq (qRet (fC (.bl false))) qNil) qNil) qNil)
abbrev pB : Sm := (qSeq (qIf (fNotB (fTru (fCall F__law_two_right [] [(fVar 2), (fIx (fVar 5) (fC (.int 0))), (fIx (fVar 5) (fC (.int 1)))]))) (qSeq (qRet (fC (.bl false))) qNil) qNil) qNil)
abbrev oA : Sm := (qSeq (qOwn 11 (fAll [(fun env => heardS 2 hs__law_refused rest__law_refused ((fCall F_common_lattice [] [(fVar 10), (fVar 9)]) env))])) (qSeq (qApp 11 (fun env => heardS 2 hs__law_refused rest__law_refused ((fCall F_common_lattice [] [(fVar 9), (fVar 10)]) env))) (qSeq (qApp 11 (fun env => heardS 2 hs__law_refused rest__law_refused ((fCall F_joined_lattice [] [(fVar 9), (fVar 10)]) env))) (qSeq (qIf (fCmpB neT (fBor 11) (fBin mulT (fLst [(fLst [(fC (.str "part")), (fC (.str "lattice"))])]) (fC (.int 3)))) (qSeq (qRet (fC (.bl false))) qNil) qNil) qNil))))
abbrev oB : Sm := (qSeq (qOwn 11 (fAll [(fun env => heardS 2 hs__law_refused rest__law_refused ((fCall F_spanned [] [(fVar 10), (fC .non)]) env)), (fLst [(fC (.str "part")), (fC (.str "shift"))])])) (qSeq (qIf (fOrB (fCmpB neT (fIx (fBor 11) (fC (.int 0))) (fIx (fBor 11) (fC (.int 1)))) (fCmpB neT (fun env => heardS 2 hs__law_refused rest__law_refused ((fCall F_spanned [] [(fTup [(fC (.int 0)), (fC (.int 0))]), (fVar 10)]) env)) (fIx (fBor 11) (fC (.int 1))))) (qSeq (qRet (fC (.bl false))) qNil) qNil) qNil))
abbrev lO : Sm := (qSeq (qSet 2 (fCall F__law_opened [] [(fVar 0), (fVar 1)])) (qSeq (qSet 3 (fTup [(fBin subT (fCall F__law_draw [] [(fVar 2), (fC (.int 13))]) (fC (.int 6))), (fBin subT (fCall F__law_draw [] [(fVar 2), (fC (.int 13))]) (fC (.int 6)))])) (qSeq (qSet 4 (fTup [(fBin subT (fCall F__law_draw [] [(fVar 2), (fC (.int 13))]) (fC (.int 6))), (fBin subT (fCall F__law_draw [] [(fVar 2), (fC (.int 13))]) (fC (.int 6)))])) (qSeq (qFor (fIter (fLst [(fLst [(fVar 3), (fVar 4)]), (fLst [(fVar 3), (fTup [(fBin mulT (fIx (fVar 3) (fC (.int 0))) (fC (.int 3))), (fBin mulT (fIx (fVar 3) (fC (.int 1))) (fC (.int 3)))])]), (fLst [(fTup [(fC (.int 0)), (fC (.int 0))]), (fVar 4)]), (fLst [(fTup [(fC (.int 1)), (fC (.int 0))]), (fVar 4)])])) (hName 5) (qSeq (qIf (fNotB (fTru (fCall F__law_spanned_right [] [(fVar 2), (fIx (fVar 5) (fC (.int 0))), (fIx (fVar 5) (fC (.int 1)))]))) (qSeq (qRet (fC (.bl false))) qNil) qNil) qNil)) (qSeq (qPar2 6 7 (fCall F__law_three [] [(fVar 2), (fC (.int 6))]) (fCall F__law_three [] [(fVar 2), (fCall F__law_pick [] [(fVar 2), (fLst [(fC (.int 6)), (fC (.int 30))])])])) (qSeq (qSet 8 (fLst [(fBin mulT (fIx (fVar 6) (fC (.int 0))) (fC (.int 2))), (fBin modT (fBin addT (fIx (fVar 6) (fC (.int 1))) (fBin mulT (fIx (fVar 6) (fC (.int 0))) (fCall F__law_draw [] [(fVar 2), (fC (.int 2))]))) (fBin mulT (fIx (fVar 6) (fC (.int 0))) (fC (.int 2)))), (fIx (fVar 6) (fC (.int 2)))])) (qSeq (qFor (fIter (fLst [(fLst [(fVar 6), (fVar 7)]), (fLst [(fVar 6), (fVar 6)]), (fLst [(fVar 8), (fVar 6)]), (fLst [(fVar 6), (fVar 8)])])) (hName 5) (qSeq (qIf (fNotB (fTru (fCall F__law_two_right [] [(fVar 2), (fIx (fVar 5) (fC (.int 0))), (fIx (fVar 5) (fC (.int 1)))]))) (qSeq (qRet (fC (.bl false))) qNil) qNil) qNil)) (qSeq (qSet 9 (fMake 5 F_Lattice_init [] [(fC (.int 1)), (fC (.int 0)), (fC (.int 1))])) (qSeq (qFor (fIter (fLst [(fC .non), (fTup [(fC (.int 1)), (fC (.int 0)), (fC (.int 1))]), (fC (.str "lattice")), (fC (.int 1))])) (hName 10) (qSeq (qOwn 11 (fAll [(fun env => heardS 2 hs__law_refused rest__law_refused ((fCall F_common_lattice [] [(fVar 10), (fVar 9)]) env))])) (qSeq (qApp 11 (fun env => heardS 2 hs__law_refused rest__law_refused ((fCall F_common_lattice [] [(fVar 9), (fVar 10)]) env))) (qSeq (qApp 11 (fun env => heardS 2 hs__law_refused rest__law_refused ((fCall F_joined_lattice [] [(fVar 9), (fVar 10)]) env))) (qSeq (qIf (fCmpB neT (fBor 11) (fBin mulT (fLst [(fLst [(fC (.str "part")), (fC (.str "lattice"))])]) (fC (.int 3)))) (qSeq (qRet (fC (.bl false))) qNil) qNil) qNil))))) (qSeq (qFor (fIter (fLst [(fC .non), (fTup [(fC (.int 1))]), (fLst [(fC (.int 1)), (fC (.int 0))]), (fTup [(fC (.int 1)), (fC (.bl true))]), (fC (.str "10")), (fTup [(fC (.int 1)), (fC (.int 0)), (fC (.int 0))])])) (hName 10) (qSeq (qOwn 11 (fAll [(fun env => heardS 2 hs__law_refused rest__law_refused ((fCall F_spanned [] [(fVar 10), (fC .non)]) env)), (fLst [(fC (.str "part")), (fC (.str "shift"))])])) (qSeq (qIf (fOrB (fCmpB neT (fIx (fBor 11) (fC (.int 0))) (fIx (fBor 11) (fC (.int 1)))) (fCmpB neT (fun env => heardS 2 hs__law_refused rest__law_refused ((fCall F_spanned [] [(fTup [(fC (.int 0)), (fC (.int 0))]), (fVar 10)]) env)) (fIx (fBor 11) (fC (.int 1))))) (qSeq (qRet (fC (.bl false))) qNil) qNil) qNil))) qNil))))))))))
structure Sh (t : T) : Prop where
  ex : ∃ x y, t = pr x y ∧ x.natAbs ≤ 30 ∧ y.natAbs ≤ 30
structure Th (t : T) : Prop where
  ex : ∃ a b d, t = three a b d ∧ Ok a b d ∧ a ≤ 60 ∧ d ≤ 60
theorem step_pA {t u : T} (h1 : Sh t) (h2 : Sh u) {k : Nat} {r : RS} (hp : Pool k r) (s0 s1 s3 s4 s6 s7 s8 s9 s10 s11 : Slot) : ∃ r', pA [s0, s1, .val (.ref k), s3, s4, .val (.lst [t, u]), s6, s7, s8, s9, s10, s11] r = .nx [s0, s1, .val (.ref k), s3, s4, .val (.lst [t, u]), s6, s7, s8, s9, s10, s11] r' ∧ Pool k r' := by
  obtain ⟨x1, y1, rfl, b1, b2⟩ := h1
  obtain ⟨x2, y2, rfl, b3, b4⟩ := h2
  obtain ⟨r', e, p⟩ := spanned_right b1 b2 b3 b4 hp
  exact ⟨r', n_seq (n_ifF (r1 := r') (e_notB (b := true) (e_tru (x := .bl true) (e_call (ts := [.ref k, pr x1 y1, pr x2 y2]) (r1 := r) rfl e) rfl)) rfl) rfl, p⟩
theorem step_pB {t u : T} (h1 : Th t) (h2 : Th u) {k : Nat} {r : RS} (hp : Pool k r) (s0 s1 s3 s4 s6 s7 s8 s9 s10 s11 : Slot) : ∃ r', pB [s0, s1, .val (.ref k), s3, s4, .val (.lst [t, u]), s6, s7, s8, s9, s10, s11] r = .nx [s0, s1, .val (.ref k), s3, s4, .val (.lst [t, u]), s6, s7, s8, s9, s10, s11] r' ∧ Pool k r' := by
  obtain ⟨a1, b1, d1, rfl, O1, A1, D1⟩ := h1
  obtain ⟨a2, b2, d2, rfl, O2, A2, D2⟩ := h2
  obtain ⟨r', e, p⟩ := two_right O1 O2 A1 D1 A2 D2 hp
  exact ⟨r', n_seq (n_ifF (r1 := r') (e_notB (b := true) (e_tru (x := .bl true) (e_call (ts := [.ref k, three a1 b1 d1, three a2 b2 d2]) (r1 := r) rfl e) rfl)) rfl) rfl, p⟩
abbrev oddsA : List T := [.non, .tup [.int 1, .int 0, .int 1], .str "lattice", .int 1]
abbrev oddsB : List T := [.non, .tup [.int 1], .lst [.int 1, .int 0], .tup [.int 1, .bl true], .str "10", .tup [.int 1, .int 0, .int 0]]
theorem oddA {t : T} (h : t ∈ oddsA) (r : RS) : F_common_lattice [t, latt 1 0 1] r = .exn 0 (.str "lattice") r ∧ F_common_lattice [latt 1 0 1, t] r = .exn 0 (.str "lattice") r ∧ F_joined_lattice [latt 1 0 1, t] r = .exn 0 (.str "lattice") r := by
  simp only [oddsA, List.mem_cons, List.not_mem_nil, or_false] at h
  rcases h with rfl | rfl | rfl | rfl <;> exact ⟨rfl, rfl, rfl⟩
theorem oddB {t : T} (h : t ∈ oddsB) (r : RS) : F_spanned [t, .non] r = .exn 0 (.str "shift") r ∧ F_spanned [pr 0 0, t] r = .exn 0 (.str "shift") r := by
  simp only [oddsB, List.mem_cons, List.not_mem_nil, or_false] at h
  rcases h with rfl | rfl | rfl | rfl | rfl | rfl <;> exact ⟨rfl, rfl⟩
theorem ne_l3 : neT (.lst [ws "part" "lattice", ws "part" "lattice", ws "part" "lattice"]) (.lst [ws "part" "lattice", ws "part" "lattice", ws "part" "lattice"]) = some false := by kernel_rfl
theorem ne_sh : neT (ws "part" "shift") (ws "part" "shift") = some false := by kernel_rfl
theorem step_oA {t : T} (ht : t ∈ oddsA) (s0 s1 s2 s3 s4 s5 s6 s7 s8 s11 : Slot) (r : RS) : oA [s0, s1, s2, s3, s4, s5, s6, s7, s8, .val (latt 1 0 1), .val t, s11] r = .nx [s0, s1, s2, s3, s4, s5, s6, s7, s8, .val (latt 1 0 1), .val t, .own [ws "part" "lattice", ws "part" "lattice", ws "part" "lattice"]] r := by
  obtain ⟨h1, h2, h3⟩ := oddA ht r
  refine n_seq (n_own (xs := [ws "part" "lattice"]) (e_cons (heardX (e_call (ts := [t, latt 1 0 1]) (r1 := r) rfl h1)) e_nil)) ?_
  refine n_seq (n_app (xs := [ws "part" "lattice"]) (t := ws "part" "lattice") rfl (by decide) (heardX (e_call (ts := [latt 1 0 1, t]) (r1 := r) rfl h2))) ?_
  refine n_seq (n_app (xs := [ws "part" "lattice", ws "part" "lattice"]) (t := ws "part" "lattice") rfl (by decide) (heardX (e_call (ts := [latt 1 0 1, t]) (r1 := r) rfl h3))) ?_
  exact n_seq (n_ifF (r1 := r) (e_cmpB (r1 := r) (r2 := r) rfl (e_bin (x := .lst [ws "part" "lattice"]) (y := .int 3) (r1 := r) rfl rfl rfl) ne_l3) rfl) rfl
theorem step_oB {t : T} (ht : t ∈ oddsB) (s0 s1 s2 s3 s4 s5 s6 s7 s8 s9 s11 : Slot) (r : RS) : oB [s0, s1, s2, s3, s4, s5, s6, s7, s8, s9, .val t, s11] r = .nx [s0, s1, s2, s3, s4, s5, s6, s7, s8, s9, .val t, .own [ws "part" "shift", ws "part" "shift"]] r := by
  obtain ⟨h1, h2⟩ := oddB ht r
  refine n_seq (n_own (xs := [ws "part" "shift", ws "part" "shift"]) (e_cons (heardX (e_call (ts := [t, .non]) (r1 := r) rfl h1)) (e_cons (x := ws "part" "shift") (r1 := r) rfl e_nil))) ?_
  have hx : (fun env => heardS 2 hs__law_refused rest__law_refused ((fCall F_spanned [] [(fTup [(fC (.int 0)), (fC (.int 0))]), (fVar 10)]) env)) [s0, s1, s2, s3, s4, s5, s6, s7, s8, s9, .val t, .own [ws "part" "shift", ws "part" "shift"]] r = .ok (ws "part" "shift") r := heardX (e_call (ts := [pr 0 0, t]) (r1 := r) rfl h2)
  exact n_seq (n_ifF (r1 := r) (e_orBF (r1 := r) (e_cmpB (x := ws "part" "shift") (y := ws "part" "shift") (r1 := r) (r2 := r) rfl rfl ne_sh) (e_cmpB hx (y := ws "part" "shift") (r2 := r) rfl ne_sh)) rfl) rfl
theorem th_of {a b d : Int} (L : Lt a b d) (h1 : a ≤ 60) (h2 : d ≤ 60) : Th (three a b d) := ⟨a, b, d, rfl, ⟨L.a0, L.b0, L.b1, L.d0⟩, h1, h2⟩
theorem shiftR {k : Nat} {r : RS} (h : Pool k r) (env : Ep.Env) (he : env[2]? = some (.val (.ref k))) : ∃ x y r', (fTup [(fBin subT (fCall F__law_draw [] [(fVar 2), (fC (.int 13))]) (fC (.int 6))), (fBin subT (fCall F__law_draw [] [(fVar 2), (fC (.int 13))]) (fC (.int 6)))]) env r = .ok (pr x y) r' ∧ Pool k r' ∧ x.natAbs ≤ 6 ∧ y.natAbs ≤ 6 := by
  obtain ⟨v1, r1, e1, p1, v10, v11⟩ := draw' (n := 13) h (by decide) (by decide)
  obtain ⟨v2, r2, e2, p2, v20, v21⟩ := draw' (n := 13) p1 (by decide) (by decide)
  have hv : ∀ r, fVar 2 env r = .ok (.ref k) r := fun r => by unfold fVar; rw [he]; rfl
  exact ⟨v1 - 6, v2 - 6, r2, e_tup (e_cons (x := .int (v1 - 6)) (r1 := r1) (e_bin (x := .int v1) (y := .int 6) (e_call (ts := [.ref k, .int 13]) (e_cons (hv r) rfl) e1) rfl rfl) (e_cons (x := .int (v2 - 6)) (r1 := r2) (e_bin (x := .int v2) (y := .int 6) (e_call (ts := [.ref k, .int 13]) (e_cons (hv r1) rfl) e2) rfl rfl) e_nil)), p2, by omega, by omega⟩
theorem stepO (ns : List Int) (hn : ns.length ≤ 63) (k : Nat) (hk : k < 64) (s2 s3 s4 s5 s6 s7 s8 s9 s10 s11 : Slot) (r : RS) : ∃ s2' s3' s4' s5' s6' s7' s8' s9' s10' s11' r', lO [.val (.kls (ns.map T.int)), .val (.int k), s2, s3, s4, s5, s6, s7, s8, s9, s10, s11] r = .nx [.val (.kls (ns.map T.int)), .val (.int k), s2', s3', s4', s5', s6', s7', s8', s9', s10', s11'] r' := by
  obtain ⟨X, Y, e0⟩ := opened ns hn k (by omega) (by omega) r
  have p0 : Pool r.length (r ++ [[.int X, .int Y]]) := ⟨X, Y, by simp⟩
  obtain ⟨x1, y1, r1, e1, p1, bx1, by1⟩ := shiftR p0 [.val (.kls (ns.map T.int)), .val (.int k), .val (.ref r.length), s3, s4, s5, s6, s7, s8, s9, s10, s11] rfl
  obtain ⟨x2, y2, r2, e2, p2, bx2, by2⟩ := shiftR p1 [.val (.kls (ns.map T.int)), .val (.int k), .val (.ref r.length), .val (pr x1 y1), s4, s5, s6, s7, s8, s9, s10, s11] rfl
  have m1 : mulT (.int x1) (.int 3) = some (.int (x1 * 3)) := mulR (by decide) (by decide)
  have m2 : mulT (.int y1) (.int 3) = some (.int (y1 * 3)) := mulR (by decide) (by decide)
  have z1 : Sh (pr x1 y1) := ⟨_, _, rfl, by omega, by omega⟩
  have z2 : Sh (pr x2 y2) := ⟨_, _, rfl, by omega, by omega⟩
  have z3 : Sh (pr (x1 * 3) (y1 * 3)) := ⟨_, _, rfl, by omega, by omega⟩
  have z4 : Sh (pr 0 0) := ⟨_, _, rfl, by decide, by decide⟩
  have z5 : Sh (pr 1 0) := ⟨_, _, rfl, by decide, by decide⟩
  obtain ⟨env1, r3, l1, ⟨u5, q1⟩, p3, _⟩ := loop_inv (s := pA) (h := hName 5) (fun xs env r' => (∃ s5, env = [.val (.kls (ns.map T.int)), .val (.int k), .val (.ref r.length), .val (pr x1 y1), .val (pr x2 y2), s5, s6, s7, s8, s9, s10, s11]) ∧ Pool r.length r' ∧ ∀ x ∈ xs, ∃ t u, x = .lst [t, u] ∧ Sh t ∧ Sh u) (fun x xs env r' ⟨⟨s5, ee⟩, p, hx⟩ => by
      subst ee
      obtain ⟨t, u, rfl, h1, h2⟩ := hx x List.mem_cons_self
      obtain ⟨r'', e, p'⟩ := step_pA h1 h2 p (.val (.kls (ns.map T.int))) (.val (.int k)) (.val (pr x1 y1)) (.val (pr x2 y2)) s6 s7 s8 s9 s10 s11
      exact ⟨_, _, r'', rfl, e, ⟨_, rfl⟩, p', fun y hy => hx y (List.mem_cons_of_mem _ hy)⟩) [.lst [pr x1 y1, pr x2 y2], .lst [pr x1 y1, pr (x1 * 3) (y1 * 3)], .lst [pr 0 0, pr x2 y2], .lst [pr 1 0, pr x2 y2]] [.val (.kls (ns.map T.int)), .val (.int k), .val (.ref r.length), .val (pr x1 y1), .val (pr x2 y2), s5, s6, s7, s8, s9, s10, s11] r2 ⟨⟨_, rfl⟩, p2, fun x hx => by
      simp only [List.mem_cons, List.not_mem_nil, or_false] at hx
      rcases hx with rfl | rfl | rfl | rfl
      · exact ⟨_, _, rfl, z1, z2⟩
      · exact ⟨_, _, rfl, z1, z3⟩
      · exact ⟨_, _, rfl, z4, z2⟩
      · exact ⟨_, _, rfl, z5, z2⟩⟩
  subst q1
  obtain ⟨a, b, d, r4, e4, p4, L, a6, d6⟩ := threeR (m := 6) p3 (by decide) (by decide)
  obtain ⟨t5, r5, e5, p5, h5⟩ := pick (xs := [.int 6, .int 30]) p4 (by simp) (by simp)
  obtain ⟨w, rfl, w0, w1⟩ : ∃ w, t5 = .int w ∧ 0 < w ∧ w ≤ 30 := by
    simp only [List.mem_cons, List.not_mem_nil, or_false] at h5
    rcases h5 with rfl | rfl <;> exact ⟨_, rfl, by decide, by decide⟩
  obtain ⟨a2, b2, d2, r6, e6, p6, L2, a30, d30⟩ := threeR (m := w) p5 w0 (by omega)
  obtain ⟨v, r7, e7, p7, v0, v1⟩ := draw' (n := 2) p6 (by decide) (by decide)
  have ha := L.a0; have hd := L.d0
  have m3 : mulT (.int a) (.int 2) = some (.int (a * 2)) := mulR (by decide) (by decide)
  have m4 : mulT (.int a) (.int v) = some (.int (a * v)) := mulR (by omega) (by omega)
  have m5 : modT (.int (b + a * v)) (.int (a * 2)) = some (.int ((b + a * v) % (a * 2))) := modP (by omega)
  have j1 : Th (three a b d) := th_of L (by omega) (by omega)
  have j2 : Th (three a2 b2 d2) := th_of L2 (by omega) (by omega)
  have j3 : Th (three (a * 2) ((b + a * v) % (a * 2)) d) := ⟨_, _, _, rfl, ⟨by omega, Int.emod_nonneg _ (by omega), Int.emod_lt_of_pos _ (by omega), hd⟩, by omega, by omega⟩
  obtain ⟨t8, et8⟩ : ∃ t8, t8 = three (a * 2) ((b + a * v) % (a * 2)) d := ⟨_, rfl⟩
  rw [← et8] at j3
  obtain ⟨env2, r8, l2, ⟨w5, q2⟩, p8, _⟩ := loop_inv (s := pB) (h := hName 5) (fun xs env r' => (∃ s5, env = [.val (.kls (ns.map T.int)), .val (.int k), .val (.ref r.length), .val (pr x1 y1), .val (pr x2 y2), s5, .val (three a b d), .val (three a2 b2 d2), .val t8, s9, s10, s11]) ∧ Pool r.length r' ∧ ∀ x ∈ xs, ∃ t u, x = .lst [t, u] ∧ Th t ∧ Th u) (fun x xs env r' ⟨⟨s5, ee⟩, p, hx⟩ => by
      subst ee
      obtain ⟨t, u, rfl, h1, h2⟩ := hx x List.mem_cons_self
      obtain ⟨r'', e, p'⟩ := step_pB h1 h2 p (.val (.kls (ns.map T.int))) (.val (.int k)) (.val (pr x1 y1)) (.val (pr x2 y2)) (.val (three a b d)) (.val (three a2 b2 d2)) (.val t8) s9 s10 s11
      exact ⟨_, _, r'', rfl, e, ⟨_, rfl⟩, p', fun y hy => hx y (List.mem_cons_of_mem _ hy)⟩) [.lst [three a b d, three a2 b2 d2], .lst [three a b d, three a b d], .lst [t8, three a b d], .lst [three a b d, t8]] [.val (.kls (ns.map T.int)), .val (.int k), .val (.ref r.length), .val (pr x1 y1), .val (pr x2 y2), u5, .val (three a b d), .val (three a2 b2 d2), .val t8, s9, s10, s11] r7 ⟨⟨_, rfl⟩, p7, fun x hx => by
      simp only [List.mem_cons, List.not_mem_nil, or_false] at hx
      rcases hx with rfl | rfl | rfl | rfl
      · exact ⟨_, _, rfl, j1, j2⟩
      · exact ⟨_, _, rfl, j1, j1⟩
      · exact ⟨_, _, rfl, j3, j1⟩
      · exact ⟨_, _, rfl, j1, j3⟩⟩
  subst q2
  obtain ⟨env3, r9, l3, ⟨w10, w11, q3, p9⟩, _⟩ := loop_inv (s := oA) (h := hName 10) (fun xs env r' => (∃ s10 s11, env = [.val (.kls (ns.map T.int)), .val (.int k), .val (.ref r.length), .val (pr x1 y1), .val (pr x2 y2), w5, .val (three a b d), .val (three a2 b2 d2), .val t8, .val (latt 1 0 1), s10, s11] ∧ r8 = r') ∧ ∀ x ∈ xs, x ∈ oddsA) (fun x xs env r' ⟨⟨s10, s11, ee, er⟩, hx⟩ => by
      subst ee er
      exact ⟨_, _, _, rfl, step_oA (hx x List.mem_cons_self) _ _ _ _ _ _ _ _ _ _ _, ⟨_, _, rfl, rfl⟩, fun y hy => hx y (List.mem_cons_of_mem _ hy)⟩) oddsA [.val (.kls (ns.map T.int)), .val (.int k), .val (.ref r.length), .val (pr x1 y1), .val (pr x2 y2), w5, .val (three a b d), .val (three a2 b2 d2), .val t8, .val (latt 1 0 1), s10, s11] r8 ⟨⟨_, _, rfl, rfl⟩, fun x h => h⟩
  subst q3 p9
  obtain ⟨env4, r10, l4, ⟨z10, z11, q4, p10⟩, _⟩ := loop_inv (s := oB) (h := hName 10) (fun xs env r' => (∃ s10 s11, env = [.val (.kls (ns.map T.int)), .val (.int k), .val (.ref r.length), .val (pr x1 y1), .val (pr x2 y2), w5, .val (three a b d), .val (three a2 b2 d2), .val t8, .val (latt 1 0 1), s10, s11] ∧ r8 = r') ∧ ∀ x ∈ xs, x ∈ oddsB) (fun x xs env r' ⟨⟨s10, s11, ee, er⟩, hx⟩ => by
      subst ee er
      exact ⟨_, _, _, rfl, step_oB (hx x List.mem_cons_self) _ _ _ _ _ _ _ _ _ _ _ _, ⟨_, _, rfl, rfl⟩, fun y hy => hx y (List.mem_cons_of_mem _ hy)⟩) oddsB [.val (.kls (ns.map T.int)), .val (.int k), .val (.ref r.length), .val (pr x1 y1), .val (pr x2 y2), w5, .val (three a b d), .val (three a2 b2 d2), .val t8, .val (latt 1 0 1), w10, w11] r8 ⟨⟨_, _, rfl, rfl⟩, fun x h => h⟩
  subst q4 p10
  have I1 := init (a := 1) (b := 0) (d := 1) ⟨by decide, by decide, by decide, by decide, by decide, by decide⟩ r8
  refine ⟨.val (.ref r.length), .val (pr x1 y1), .val (pr x2 y2), w5, .val (three a b d), .val (three a2 b2 d2), .val t8, .val (latt 1 0 1), z10, z11, r8, ?_⟩
  refine n_seq (n_set (e_call (ts := [.kls (ns.map T.int), .int k]) (r1 := r) rfl e0)) (n_seq (n_set e1) (n_seq (n_set e2) ?_))
  refine n_seq (n_for (xs := [.lst [pr x1 y1, pr x2 y2], .lst [pr x1 y1, pr (x1 * 3) (y1 * 3)], .lst [pr 0 0, pr x2 y2], .lst [pr 1 0, pr x2 y2]]) (r1 := r2) (bind_ok (a := .lst [.lst [pr x1 y1, pr x2 y2], .lst [pr x1 y1, pr (x1 * 3) (y1 * 3)], .lst [pr 0 0, pr x2 y2], .lst [pr 1 0, pr x2 y2]]) (r1 := r2) (e_lst (e_cons (x := .lst [pr x1 y1, pr x2 y2]) (r1 := r2) rfl (e_cons (x := .lst [pr x1 y1, pr (x1 * 3) (y1 * 3)]) (r1 := r2) (e_lst (e_cons (x := pr x1 y1) (r1 := r2) rfl (e_cons (x := pr (x1 * 3) (y1 * 3)) (r1 := r2) (e_tup (e_cons (x := .int (x1 * 3)) (r1 := r2) (e_bin (x := .int x1) (y := .int 3) (r1 := r2) rfl rfl m1) (e_cons (x := .int (y1 * 3)) (r1 := r2) (e_bin (x := .int y1) (y := .int 3) (r1 := r2) rfl rfl m2) e_nil))) e_nil))) rfl))) rfl) l1) ?_
  refine n_seq (n_par2 (x := three a b d) (y := three a2 b2 d2) (e_call (ts := [.ref r.length, .int 6]) (r1 := r3) rfl e4) (e_call (ts := [.ref r.length, .int w]) (r1 := r5) (e_cons (x := .ref r.length) (r1 := r4) rfl (e_cons (e_call (ts := [.ref r.length, .lst [.int 6, .int 30]]) (r1 := r4) rfl e5) e_nil)) e6)) ?_
  refine n_seq (n_set (t := t8) (r1 := r7) ?_) ?_
  · rw [et8]
    exact e_lst (e_cons (x := .int (a * 2)) (r1 := r6) (e_bin (x := .int a) (y := .int 2) (r1 := r6) rfl rfl m3) (e_cons (x := .int ((b + a * v) % (a * 2))) (r1 := r7) (e_bin (x := .int (b + a * v)) (y := .int (a * 2)) (r1 := r7) (e_bin (x := .int b) (y := .int (a * v)) (r1 := r6) rfl (e_bin (x := .int a) (y := .int v) (r1 := r6) rfl (e_call (ts := [.ref r.length, .int 2]) (r1 := r6) rfl e7) m4) rfl) (e_bin (x := .int a) (y := .int 2) (r1 := r7) rfl rfl m3) m5) (e_cons (x := .int d) (r1 := r7) rfl e_nil)))
  refine n_seq (n_for (r1 := r7) rfl l2) (n_seq (n_set (e_make (ts := [.int 1, .int 0, .int 1]) (r1 := r8) rfl I1)) (n_seq (n_for (r1 := r8) rfl l3) (n_seq (n_for (r1 := r8) rfl l4) rfl)))
theorem law_holds (ns : List Int) (hl : ns.length ≤ 63) : ∃ r, F_law [.kls (ns.map T.int)] [] = .ok (.bl true) r := by
  have hn : ∃ n : Nat, (fRng1 (fBin max2T (fC (.int 1)) (fBin min2T (fC (.int 5)) (fB1 lenT (fVar 0))))) (envOf 11 [.kls (ns.map T.int)]) [] = .ok (rngL 0 n) [] ∧ n ≤ 6 := by
    have l : ∀ m : Int, -(2 ^ 62) ≤ m → m < 2 ^ 62 → rng1T [.int m] = some (rngL 0 m.toNat) := fun m h1 h2 => if_pos ⟨h1, h2⟩
    have e0 : (fBin max2T (fC (.int 1)) (fBin min2T (fC (.int 5)) (fB1 lenT (fVar 0)))) (envOf 11 [.kls (ns.map T.int)]) [] = .ok (.int (if (if (ns.length : Int) < 5 then (ns.length : Int) else 5) > 1 then (if (ns.length : Int) < 5 then (ns.length : Int) else 5) else 1)) [] := by
      refine e_bin (x := .int 1) (y := .int (if (ns.length : Int) < 5 then (ns.length : Int) else 5)) (r1 := []) rfl (e_bin (x := .int 5) (y := .int ns.length) (r1 := []) rfl (e_b1 (x := .kls (ns.map T.int)) rfl ?_) rfl) rfl
      show some (T.int ((ns.map T.int).length : Nat)) = _
      rw [List.length_map]
    generalize hm : (if (if (ns.length : Int) < 5 then (ns.length : Int) else 5) > 1 then (if (ns.length : Int) < 5 then (ns.length : Int) else 5) else 1) = m at e0
    have b1 : 1 ≤ m ∧ m ≤ 6 := by
      subst hm
      split <;> split at * <;> omega
    exact ⟨m.toNat, bind_ok (e_cons e0 e_nil) (by rw [l m (by omega) (by omega)]; rfl), by omega⟩
  obtain ⟨n, en, n6⟩ := hn
  obtain ⟨env', r', el, i⟩ := loop_inv (s := lO) (h := hName 1) (fun xs env _ => (∀ x ∈ xs, ∃ k : Nat, x = .int k ∧ k < n) ∧ ∃ s1 s2 s3 s4 s5 s6 s7 s8 s9 s10 s11, env = [.val (.kls (ns.map T.int)), s1, s2, s3, s4, s5, s6, s7, s8, s9, s10, s11]) (fun x xs env r ⟨hx, s1, s2, s3, s4, s5, s6, s7, s8, s9, s10, s11, ee⟩ => by
      subst ee
      obtain ⟨k, rfl, hk⟩ := hx x List.mem_cons_self
      obtain ⟨s2', s3', s4', s5', s6', s7', s8', s9', s10', s11', r', e⟩ := stepO ns hl k (by omega) s2 s3 s4 s5 s6 s7 s8 s9 s10 s11 r
      exact ⟨_, _, r', rfl, e, fun y hy => hx y (List.mem_cons_of_mem _ hy), _, _, _, _, _, _, _, _, _, _, _, rfl⟩) (rngL 0 n) (envOf 11 [.kls (ns.map T.int)]) [] ⟨fun x hx => by
      obtain ⟨k, hk, e⟩ := List.mem_map.mp hx
      exact ⟨k, by rw [← e]; simp, List.mem_range.mp hk⟩, _, _, _, _, _, _, _, _, _, _, _, rfl⟩
  exact ⟨r', n_fn (n_seq (n_for en el) (n_seqR (n_ret rfl)))⟩
end K09
namespace K09
open PySem PySem.Spec L2 He Ep
theorem final {w : World} {K : PySem.W.Frag} {h : Heap} {mg : Str → Option Value} {f0 : Addr} (KX : K.In h) (Ns : h.Ns mainGlobals mg) (hm : mg "law" = some (.ref f0)) (c : SaysD fa fns K) (ck : (chk K).all id = true)
    (e_BadNumber : supW K (ma K (ga K "BadNumber") "__init__") = supV "BadNumber.__init__" s_BadNumber_init) (e_BadPart : supW K (ma K (ga K "BadPart") "__init__") = supV "BadPart.__init__" s_BadPart_init) (e_NotSo : supW K (ma K (ga K "NotSo") "__init__") = supV "NotSo.__init__" s_NotSo_init) :
    ∃ (G : Gm) (f : List T → M T) (fd : FuncData) (cs : List (Addr × Addr)), G.K = K ∧ G.mg = mg ∧ (∀ (s : Shared) (u : Value), BindsTo s fd ⟨[u], []⟩ [("_law_script", u)]) ∧
      (∀ p ∈ cs, ∃ y ∈ [("law" : Str), ("_law_spanned_right" : Str)], PySem.W.tabIn K y = some p) ∧ (∀ p ∈ cs, K.lookup p.2 = none) ∧ (∀ t ∈ G.tb, ∃ c, (c, t.1) ∈ cs) ∧
      (∀ ns : List Int, ns.length ≤ 63 → (∀ z ∈ ns, Builtin.Int.intBits z ≤ 1048576) → ∃ r, f [.kls (ns.map T.int)] [] = .ok (.bl true) r) ∧ ∀ base : Heap, K.In base → base.Ns mainGlobals mg → (∀ p ∈ cs, LamX.TabB base mg p.1 p.2) → FnOk PW w G.K G.mg base (L2.CX PW w) 12 f0 fd ["_law_script"] (spF G 1 f) := by
  obtain ⟨fd, F⟩ := c.def_ 35
  have cl : mg "law" = some (.ref (ga K "law")) := glo_ok KX Ns (c.fact 57)
  have e : f0 = ga K "law" := Value.ref.inj (Option.some.inj (hm.symm.trans cl))
  subst e
  have tklaw := tab_ok (chk_at ck 14)
  have tk_law_spanned_right := tab_ok (chk_at ck 15)
  refine ⟨GG K mg, F_law, fd, cs K, rfl, rfl, fun s u => F.bindsA (ps := ["_law_script"]) (fun _ _ _ _ _ _ us hl => match us, hl with | [_], _ => rfl) s [u] rfl, fun p hp => ?_, fun p hp => ?_, fun t ht => ?_, fun ns h _ => law_holds ns h, fun base _ _ TB => ?_⟩
  · simp only [cs, List.mem_cons, List.not_mem_nil, or_false] at hp
    rcases hp with rfl | rfl
    · exact ⟨"law", by simp, tklaw.1⟩
    · exact ⟨"_law_spanned_right", by simp, tk_law_spanned_right.1⟩
  · simp only [cs, List.mem_cons, List.not_mem_nil, or_false] at hp
    rcases hp with rfl | rfl
    · exact tklaw.2.1
    · exact tk_law_spanned_right.2.1
  · have ht : t ∈ tb K := ht
    simp only [tb, List.mem_cons, List.not_mem_nil, or_false] at ht
    rcases ht with rfl | rfl
    · exact ⟨(tabW K "law").1, by simp [cs]⟩
    · exact ⟨(tabW K "_law_spanned_right").1, by simp [cs]⟩
  · exact run_law (tx_of (wd := w) KX Ns c ck e_BadNumber e_BadPart e_NotSo TB) F
end K09
open PySem PySem.W
open PyProof.Rows
set_option maxHeartbeats 0 in
theorem PySem.Challenge.cw_endlessplane_k09_whole_lattices_put_toge_holds : PySem.Challenge.rw_endlessplane_k09_whole_lattices_put_toge.Holds := by
  w_on
  o_law
  k_head
  (case hw => w_witness2)
  k_fill
  refine Ep.law_endT (l := PySem.Challenge.rw_endlessplane_k09_whole_lattices_put_toge) (x := "_law_script") 12 ["law", "_law_spanned_right"] rfl rfl ⟨rfl, by decide, by decide⟩ (fun w h Y => PySem.W.km_in_of Y) ?hx ?F
  case hx =>
    intro y hy
    simp only [List.mem_cons, List.not_mem_nil, or_false] at hy
    rcases hy with rfl | rfl
    · kernel_rfl
    · kernel_rfl
  case F =>
    intro w mg fa h KX Ns hm
    refine' K09.final KX Ns hm ?c ?ck ?e_BadNumber ?e_BadPart ?e_NotSo
    (case c => show He.obsD _ _ _ = He.valD _; kernel_rfl)
    (case ck => kernel_rfl)
    (case e_BadNumber => kernel_rfl)
    (case e_BadPart => kernel_rfl)
    (case e_NotSo => kernel_rfl)
