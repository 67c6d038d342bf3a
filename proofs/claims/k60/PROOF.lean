import PyProof.Rows.All
import Wide.All
import OpenK.AllK
import Wide.FinOn
import HandS.ForMost
import HandS.Flow
import HandS.Codes
import HandS.Nested
import HandS.Wide
import HandS.TupAny
import HandS.SortKw
import HandS.SortInts
import HandS.Style
import HandS.Deep
import HandS.Zip
import HandS.Rev
import HandS.IsInst
import KE.KSortedM
import HandS.Ends
import HandS.EndBits
import HandS.Words
import HandS.Defaults
import HandS.HeadHook2
import HandS.Conv
import PyProof.ReprBulk
import HandS.Head0
import HandS.Head1
import HandS.Head2
import HandS.HeadEnd
import HandS.Property
import HandS.OwnEq
import PyProof.InstEq
import KE.GoesEnum
import HandS.FStr
import KE.KRevSl
import HandS.Dict
import HandS.SetFor
import HandS.Strs
import HandS.TupSets
import HandS.NoneIn
import KE.DataAny
import KE.SortData
import KE.KEqDict
import KE.LtData
import HandS.DictTup
import HandS.WordsDict
import HandS.ExcOwn
import HandS.TryOnly
import HandS.Iter
import HandS.Text
import HandS.ExcInit
import HandS.ExcField
import HandS.EndTab
import HandS.TupMul
import PySem.Challenge.RW_owncontraries_k60_sums_refused
set_option Elab.async false
set_option linter.all false
set_option maxRecDepth 100000
set_option maxHeartbeats 1000000
/-! Pw1: data without a heap (D), how a heap bears it (Den), steps of the heap, computations (Md), expressions (Sim). -/
namespace Pw
open PySem PySem.Spec PyProof.Rows L2

/-! ### computations -/
class Md (m : Type → Type) where
  ret : {α : Type} → α → m α
  bind : {α β : Type} → m α → (α → m β) → m β
  lift : {α : Type} → Option α → m α
  wp : {α : Type} → m α → (α → Prop) → Prop
  wp_ret : ∀ {α : Type} {a : α} {Q : α → Prop}, wp (ret a) Q → Q a
  wp_bind : ∀ {α β : Type} {x : m α} {f : α → m β} {Q : β → Prop}, wp (bind x f) Q → wp x fun a => wp (f a) Q
  wp_lift : ∀ {α : Type} {o : Option α} {Q : α → Prop}, wp (lift o) Q → ∃ a, o = some a ∧ Q a
  wp_mono : ∀ {α : Type} {x : m α} {P Q : α → Prop}, (∀ a, P a → Q a) → wp x P → wp x Q
/-- a computation that ends or does not -/
instance instMdOption : Md Option where
  ret := some
  bind := fun x f => match x with
    | some a => f a
    | none => none
  lift := fun o => o
  wp := fun x Q => ∃ a, x = some a ∧ Q a
  wp_ret := fun ⟨a, e, q⟩ => by cases e; exact q
  wp_bind := fun {α β x f Q} ⟨b, e, q⟩ => by
    cases x with
    | none => cases e
    | some a => exact ⟨a, rfl, b, e, q⟩
  wp_lift := fun h => h
  wp_mono := fun k ⟨a, e, p⟩ => ⟨a, e, k a p⟩
/-- one that draws: what is wanted of its end -/
structure G (α : Type) : Type where
  run : (α → Prop) → Prop
  mono : ∀ P Q : α → Prop, (∀ a, P a → Q a) → run P → run Q
instance instMdG : Md G where
  ret := fun a => ⟨fun Q => Q a, fun _ _ k p => k a p⟩
  bind := fun x f => ⟨fun Q => x.run fun a => (f a).run Q, fun P Q k p => x.mono _ _ (fun a => (f a).mono P Q k) p⟩
  lift := fun o => ⟨fun Q => ∃ a, o = some a ∧ Q a, fun _ _ k ⟨a, e, p⟩ => ⟨a, e, k a p⟩⟩
  wp := fun x Q => x.run Q
  wp_ret := fun h => h
  wp_bind := fun h => h
  wp_lift := fun h => h
  wp_mono := fun {α x P Q} k p => x.mono P Q k p

/-! ### data -/
inductive D where
  | non
  | bl (b : Bool)
  | int (i : Int)
  | str (x : Str)
  | lst (xs : List D)
  | tup (xs : List D)
  | ins (c : Str) (ns : List Str) (ds : List D)
  | pot
  | rep (p : PyData)
  | cls (x : Str)
  | ty (n : String)
  | scr (ns : List Int)
  | dic (kvs : List (Key × Int))
  | fn (c : Str) (ns : List Str) (ds : List D)
abbrev Env := List (Option D)
/-- a class whose instances are of no built-in type -/
structure InsT (K : PySem.W.Frag) (C : Addr) : Prop where
  ic : C8.InsC K C
  ty : ∀ t ∈ ["int", "bool", "str", "list", "tuple", "dict"], PySem.W.kitOne K (.ref C) (.type t) = some false
  nf : ∀ t ∈ ["NoneType", "bool", "int", "str", "list", "tuple", "dict"], PySem.W.notFirst K C (.type t) = true
/-- where the classes are; the tables of code objects of the defs that make functions -/
structure Cl where
  of : Str → Addr
  T : List (Addr × Str)
instance instCoeFunCl : CoeFun Cl (fun _ => Str → Addr) := ⟨Cl.of⟩
instance instCoeCl : Coe (Str → Addr) Cl := ⟨fun f => ⟨f, []⟩⟩
/-- the same object, or a dict that was locked, or let go -/
def SimO (o u : HO) : Prop := o = u ∨ ∃ l, (o = .dK l ∨ ∃ b, o = .frz b (.dK l)) ∧ (u = .dK l ∨ ∃ b, u = .frz b (.dK l))
theorem SimO.trans {o u v : HO} (a : SimO o u) (b : SimO u v) : SimO o v := by
  rcases a with rfl | ⟨l, a1, a2⟩
  · exact b
  · rcases b with rfl | ⟨l', b1, b2⟩
    · exact .inr ⟨l, a1, a2⟩
    · have : l = l' := by
        rcases a2 with rfl | ⟨x, rfl⟩ <;> rcases b1 with z | ⟨y, z⟩ <;> (cases z; try rfl)
      subst this
      exact .inr ⟨l, a1, b2⟩
def LatX (p : Option Addr) (H H' : Hp) : Prop := ∀ a o, p ≠ some a → (∀ ps, o ≠ .tbl ps) → H a = some o → ∃ u, H' a = some u ∧ SimO o u
theorem SimO.tbl {o u : HO} (a : SimO o u) (n : ∀ ps, o ≠ .tbl ps) : ∀ ps, u ≠ .tbl ps := by
  rcases a with rfl | ⟨l, a1, a2⟩
  · exact n
  · rcases a2 with rfl | ⟨x, rfl⟩ <;> exact fun ps z => nomatch z
theorem LatX.trans {p : Option Addr} {H H1 H2 : Hp} (a : LatX p H H1) (b : LatX p H1 H2) : LatX p H H2 := fun x o np nt e => by
  obtain ⟨u, e1, s1⟩ := a x o np nt e
  obtain ⟨v, e2, s2⟩ := b x u np (s1.tbl nt) e1
  exact ⟨v, e2, s1.trans s2⟩
theorem LatX.refl {p : Option Addr} {H : Hp} : LatX p H H := fun _ o _ _ e => ⟨o, e, .inl rfl⟩
/-- what a run shares: the pot; functions that are known, by what their calls do; what stays true of the heap -/
structure Sh where
  p : Option Addr
  fns : List (Addr × D)
  ok : Hp → Prop
  st : ∀ H H' : Hp, LatX p H H' → ok H → ok H'
def Sh.of (p : Option Addr) : Sh := ⟨p, [], fun _ => True, fun _ _ _ h => h⟩
/-- what is fixed while a def runs -/
structure Wd where
  K : PySem.W.Frag
  cl : Cl
  pot : Sh
abbrev Av := Addr → Prop
def Wd.pa (w : Wd) : Av := fun a => w.pot.p = some a ∨ ∃ q ∈ w.cl.T, q.1 = a
def Lat (M : Av) (H H' : Hp) : Prop := ∀ a o, ¬ M a → H a = some o → H' a = some o
structure PotOk (w : Wd) (H : Hp) : Prop where
  pot : ∀ p, w.pot.p = some p → ∃ a b : Int, H p = some (.lst [.int a, .int b]) ∧ 0 ≤ a ∧ 0 ≤ b ∧ b < 2147483648
  tab : LamX.Tabs w.cl.T H
  ok : w.pot.ok H
theorem PotOk.ex {w : Wd} {H : Hp} (h : PotOk w H) {a : Addr} (c : w.pa a) : ∃ o, H a = some o ∧ ((∃ x y : Int, o = .lst [.int x, .int y]) ∨ ∃ ps, o = .tbl ps) := by
  rcases c with c | ⟨q, m, rfl⟩
  · obtain ⟨x, y, e, _⟩ := h.pot a c
    exact ⟨_, e, .inl ⟨x, y, rfl⟩⟩
  · obtain ⟨ps, e, _⟩ := h.tab q m
    exact ⟨_, e, .inr ⟨ps, rfl⟩⟩
theorem PotOk.no {w : Wd} {H : Hp} (h : PotOk w H) {a : Addr} (c : w.pa a) (n : H a = none) : False := by
  obtain ⟨o, e, _⟩ := h.ex c
  rw [n] at e
  cases e
/-- what all but the shared objects of w keep -/
theorem PotOk.keep {w : Wd} {H H' : Hp} (h : PotOk w H) (k : ∀ a o, H a = some o → H' a = some o) : PotOk w H' :=
  ⟨fun p hp => let ⟨a, b, z, r⟩ := h.pot p hp; ⟨a, b, k _ _ z, r⟩, h.tab.ext k, w.pot.st _ _ (fun a o _ _ e => ⟨o, k a o e, .inl rfl⟩) h.ok⟩
/-- the ok part of a step -/
theorem PotOk.latX {w : Wd} {H H' : Hp} (h : PotOk w H) (k : Lat w.pa H H') : LatX w.pot.p H H' := fun a o np nt e => ⟨o, k a o (fun z => by
  rcases z with z | ⟨q, m, rfl⟩
  · exact np z
  · obtain ⟨ps, e2, _⟩ := h.tab q m
    rw [e] at e2
    cases e2
    exact nt ps rfl) e, .inl rfl⟩
theorem PotOk.lat {w : Wd} {H H' : Hp} (h : PotOk w H) (k : Lat w.pa H H') : w.pot.ok H' := w.pot.st _ _ (h.latX k) h.ok
structure Step (w : Wd) (H H' : Hp) : Prop where
  lat : Lat w.pa H H'
  pot : PotOk w H → PotOk w H'
/-- what stays but for one object, no pot and no table -/
def Pot0 (w : Wd) (H : Hp) : Prop := (∀ p, w.pot.p = some p → ∃ a b : Int, H p = some (.lst [.int a, .int b]) ∧ 0 ≤ a ∧ 0 ≤ b ∧ b < 2147483648) ∧ LamX.Tabs w.cl.T H
theorem PotOk.p0 {w : Wd} {H : Hp} (h : PotOk w H) : Pot0 w H := ⟨h.pot, h.tab⟩
theorem Pot0.keep {w : Wd} {H H' : Hp} (h : Pot0 w H) (k : ∀ a o, H a = some o → H' a = some o) : Pot0 w H' := ⟨fun p hp => let ⟨a, b, z, r⟩ := h.1 p hp; ⟨a, b, k _ _ z, r⟩, h.2.ext k⟩
theorem Pot0.but {w : Wd} {H H' : Hp} (h : Pot0 w H) (p : Addr) (n : ¬ w.pa p) (nt : ∀ (c : Addr) (q : Str), H p ≠ some (LamX.CodeO c q)) (k : ∀ a o, a ≠ p → H a = some o → H' a = some o) : Pot0 w H' := by
  refine ⟨fun q hq => ?_, fun q hq => ?_⟩
  · obtain ⟨a, b, z, r⟩ := h.1 q hq
    exact ⟨a, b, k _ _ (fun e => n (.inl (e ▸ hq))) z, r⟩
  · obtain ⟨ps, h1, h2, h3⟩ := h.2 q hq
    refine ⟨ps, k _ _ (fun e => n (.inr ⟨q, hq, e⟩)) h1, h2, fun pos cv hc => ?_⟩
    obtain ⟨c, e1, e2⟩ := h3 pos cv hc
    exact ⟨c, e1, k _ _ (fun e => nt c q.2 (e ▸ e2)) e2⟩
/-- the pot is written -/
theorem Pot0.pot {w : Wd} {H H' : Hp} (h : Pot0 w H) {p : Addr} (ep : w.pot.p = some p) {xs : List V} {a b : Int} (e : H p = some (.lst xs)) (h0 : 0 ≤ a) (h1 : 0 ≤ b) (h2 : b < 2147483648) (new : H' p = some (.lst [.int a, .int b])) (k : ∀ z o, z ≠ p → H z = some o → H' z = some o) : Pot0 w H' := by
  refine ⟨fun r hr => ?_, fun q hq => ?_⟩
  · have : r = p := Option.some.inj (hr.symm.trans ep)
    subst this
    exact ⟨a, b, new, h0, h1, h2⟩
  · obtain ⟨ps, e1, e2, e3⟩ := h.2 q hq
    refine ⟨ps, k _ _ (fun z => by rw [z, e] at e1; cases e1) e1, e2, fun pos cv hc => ?_⟩
    obtain ⟨c, f1, f2⟩ := e3 pos cv hc
    exact ⟨c, f1, k _ _ (fun z => by rw [z, e] at f2; unfold LamX.CodeO at f2; cases f2) f2⟩
theorem Step.of {w : Wd} {H H' : Hp} (l : Lat w.pa H H') (h : PotOk w H → Pot0 w H') : Step w H H' := ⟨l, fun z => ⟨(h z).1, (h z).2, z.lat l⟩⟩
theorem Step.refl {w : Wd} {H : Hp} : Step w H H := ⟨fun _ _ _ h => h, fun h => h⟩
theorem Lat.trans {M : Av} {H H1 H2 : Hp} (a : Lat M H H1) (b : Lat M H1 H2) : Lat M H H2 := fun x o n h => b x o n (a x o n h)
theorem Lat.mono {M N : Av} {H H1 : Hp} (k : ∀ a, M a → N a) (a : Lat M H H1) : Lat N H H1 := fun x o n h => a x o (fun z => n (k x z)) h
theorem Step.trans {w : Wd} {H H1 H2 : Hp} (a : Step w H H1) (b : Step w H1 H2) : Step w H H2 := ⟨a.lat.trans b.lat, fun h => b.pot (a.pot h)⟩
theorem Step.new {w : Wd} {H : Hp} {p : Addr} {o : HO} (h : H p = none) : Step w H (upd H p o) := by
  have k : ∀ a u, H a = some u → upd H p o a = some u := fun a u e => by rw [upd_ne (ne_of_none e h)]; exact e
  exact ⟨fun a u _ e => k a u e, fun P => P.keep k⟩
/-- a list that a heap bears, out of M's reach -/
def Ls (M : Av) (H : Hp) (a : Addr) (vs : List V) : Prop := ¬ M a ∧ H a = some (.lst vs)
/-- the script: a list that none changes -/
def Ss (w : Wd) (M : Av) (H : Hp) (a : Addr) (vs : List V) : Prop := (¬ M a ∧ Rd H a (.lst vs)) ∨ ∀ J, SqL w.K J a vs
def Ts (w : Wd) (M : Av) (H : Hp) (a : Addr) (vs : List V) : Prop := (¬ M a ∧ Rd H a (.tup vs)) ∨ ∀ J, SqT w.K J a vs
theorem Ls.sq {w : Wd} {M : Av} {H : Hp} {a : Addr} {vs : List V} (h : Ls M H a vs) : SqL w.K H a vs := .inl (.inl h.2)
theorem Ss.sq {w : Wd} {M : Av} {H : Hp} {a : Addr} {vs : List V} (h : Ss w M H a vs) : SqL w.K H a vs := h.elim (fun h => .inl h.2) fun h => h H
theorem Ts.sq {w : Wd} {M : Av} {H : Hp} {a : Addr} {vs : List V} (h : Ts w M H a vs) : SqT w.K H a vs := h.elim (fun h => .inl h.2) fun h => h H
theorem Rd.lat {M : Av} {H H' : Hp} {a : Addr} {u : HO} (k : Lat M H H') (n : ¬ M a) (h : Rd H a u) : Rd H' a u := h.elim (fun h => .inl (k _ _ n h)) fun ⟨o, h⟩ => .inr ⟨o, k _ _ n h⟩
theorem Ls.lat {M : Av} {H H' : Hp} {a : Addr} {vs : List V} (k : Lat M H H') (h : Ls M H a vs) : Ls M H' a vs := ⟨h.1, k _ _ h.1 h.2⟩
theorem Ss.lat {w : Wd} {M : Av} {H H' : Hp} {a : Addr} {vs : List V} (k : Lat M H H') (h : Ss w M H a vs) : Ss w M H' a vs := h.elim (fun h => .inl ⟨h.1, Rd.lat k h.1 h.2⟩) .inr
theorem Ts.lat {w : Wd} {M : Av} {H H' : Hp} {a : Addr} {vs : List V} (k : Lat M H H') (h : Ts w M H a vs) : Ts w M H' a vs := h.elim (fun h => .inl ⟨h.1, Rd.lat k h.1 h.2⟩) .inr
theorem Ls.weak {M N : Av} {H : Hp} {a : Addr} {vs : List V} (k : ∀ a, N a → M a) (h : Ls M H a vs) : Ls N H a vs := ⟨fun z => h.1 (k _ z), h.2⟩
theorem Ss.weak {w : Wd} {M N : Av} {H : Hp} {a : Addr} {vs : List V} (k : ∀ a, N a → M a) (h : Ss w M H a vs) : Ss w N H a vs := h.elim (fun h => .inl ⟨fun z => h.1 (k _ z), h.2⟩) .inr
theorem Ts.weak {w : Wd} {M N : Av} {H : Hp} {a : Addr} {vs : List V} (k : ∀ a, N a → M a) (h : Ts w M H a vs) : Ts w N H a vs := h.elim (fun h => .inl ⟨fun z => h.1 (k _ z), h.2⟩) .inr
def Av.or (M : Av) (p : Addr) : Av := fun a => M a ∨ a = p
theorem Rd.ne {H : Hp} {a p : Addr} {u : HO} (h : Rd H a u) (n : H p = none) : a ≠ p := h.elim (fun h => ne_of_none h n) fun ⟨o, h⟩ => ne_of_none h n
theorem Ls.more {M : Av} {H : Hp} {a p : Addr} {vs : List V} (n : H p = none) (h : Ls M H a vs) : Ls (M.or p) H a vs := ⟨fun z => z.elim h.1 (ne_of_none h.2 n), h.2⟩
theorem Ss.more {w : Wd} {M : Av} {H : Hp} {a p : Addr} {vs : List V} (n : H p = none) (h : Ss w M H a vs) : Ss w (M.or p) H a vs := h.elim (fun h => .inl ⟨fun z => z.elim h.1 (Rd.ne h.2 n), h.2⟩) .inr
theorem Ts.more {w : Wd} {M : Av} {H : Hp} {a p : Addr} {vs : List V} (n : H p = none) (h : Ts w M H a vs) : Ts w (M.or p) H a vs := h.elim (fun h => .inl ⟨fun z => z.elim h.1 (Rd.ne h.2 n), h.2⟩) .inr

mutual
inductive Den (w : Wd) (M : Av) (H : Hp) : V → D → Prop
  | non : Den w M H .non .non
  | bl (b : Bool) : Den w M H (.bl b) (.bl b)
  | int (i : Int) : Den w M H (.int i) (.int i)
  | str (x : Str) : Den w M H (.str x) (.str x)
  | lst {a : Addr} {vs : List V} {ds : List D} : Ls M H a vs → Dens w M H vs ds → Den w M H (.ref a) (.lst ds)
  | tup {a : Addr} {vs : List V} {ds : List D} : Ts w M H a vs → Dens w M H vs ds → Den w M H (.ref a) (.tup ds)
  | ins {a dx : Addr} {c : Str} {ns : List Str} {vs : List V} {ds : List D} : ¬ M a → H a = some (.ins (w.cl c) dx (ns.zip vs)) → (ns.length = ds.length ∧ ns ≠ []) → Dens w M H vs ds → InsT w.K (w.cl c) → Den w M H (.ref a) (.ins c ns ds)
  | pot {p : Addr} : w.pot.p = some p → Den w M H (.ref p) .pot
  | rep (p : PyData) : Den w M H (.str p.shown) (.rep p)
  | cls (x : Str) : Den w M H (.ref (w.cl x)) (.cls x)
  | ty (n : String) : Den w M H (.ty n) (.ty n)
  | scr {a : Addr} {ns : List Int} : Ss w M H a (ns.map V.int) → Den w M H (.ref a) (.scr ns)
  | dic {a : Addr} {kvs : List (Key × Int)} : ¬ M a → Rd H a (.dK (kvs.map fun q => (q.1, .int q.2))) → Den w M H (.ref a) (.dic kvs)
  | fn {a : Addr} {c : Str} {ns : List Str} {ds : List D} : (a, D.fn c ns ds) ∈ w.pot.fns → Den w M H (.ref a) (.fn c ns ds)
inductive Dens (w : Wd) (M : Av) (H : Hp) : List V → List D → Prop
  | nil : Dens w M H [] []
  | cons {v : V} {vs : List V} {d : D} {ds : List D} : Den w M H v d → Dens w M H vs ds → Dens w M H (v :: vs) (d :: ds)
end
section
variable {w : Wd} {M N : Av} {H H' : Hp}
mutual
theorem Den.lat (k : Lat M H H') : ∀ (d : D) (v : V), Den w M H v d → Den w M H' v d
  | .non, _, h => by cases h; exact .non
  | .bl b, _, h => by cases h; exact .bl b
  | .int i, _, h => by cases h; exact .int i
  | .str x, _, h => by cases h; exact .str x
  | .pot, _, h => by cases h with | pot e => exact .pot e
  | .rep p, _, h => by cases h; exact .rep p
  | .cls p, _, h => by cases h; exact .cls p
  | .ty p, _, h => by cases h; exact .ty p
  | .scr p, _, h => by cases h with | scr e => exact .scr (e.lat k)
  | .dic p, _, h => by cases h with | dic n e => exact .dic n (Rd.lat k n e)
  | .fn c ns ds, _, h => by cases h with | fn e => exact .fn e
  | .lst ds, _, h => by cases h with | lst s r => exact .lst (s.lat k) (Dens.lat k ds _ r)
  | .tup ds, _, h => by cases h with | tup s r => exact .tup (s.lat k) (Dens.lat k ds _ r)
  | .ins c ns ds, _, h => by cases h with | ins n e l r it => exact .ins n (k _ _ n e) l (Dens.lat k ds _ r) it
theorem Dens.lat (k : Lat M H H') : ∀ (ds : List D) (vs : List V), Dens w M H vs ds → Dens w M H' vs ds
  | [], _, h => by cases h; exact .nil
  | d :: ds, _, h => by cases h with | cons a b => exact .cons (Den.lat k d _ a) (Dens.lat k ds _ b)
end
mutual
theorem Den.weak (k : ∀ a, N a → M a) : ∀ (d : D) (v : V), Den w M H v d → Den w N H v d
  | .non, _, h => by cases h; exact .non
  | .bl b, _, h => by cases h; exact .bl b
  | .int i, _, h => by cases h; exact .int i
  | .str x, _, h => by cases h; exact .str x
  | .pot, _, h => by cases h with | pot e => exact .pot e
  | .rep p, _, h => by cases h; exact .rep p
  | .cls p, _, h => by cases h; exact .cls p
  | .ty p, _, h => by cases h; exact .ty p
  | .scr p, _, h => by cases h with | scr e => exact .scr (e.weak k)
  | .dic p, _, h => by cases h with | dic n e => exact .dic (fun z => n (k _ z)) e
  | .fn c ns ds, _, h => by cases h with | fn e => exact .fn e
  | .lst ds, _, h => by cases h with | lst s r => exact .lst (s.weak k) (Dens.weak k ds _ r)
  | .tup ds, _, h => by cases h with | tup s r => exact .tup (s.weak k) (Dens.weak k ds _ r)
  | .ins c ns ds, _, h => by cases h with | ins n e l r it => exact .ins (fun z => n (k _ z)) e l (Dens.weak k ds _ r) it
theorem Dens.weak (k : ∀ a, N a → M a) : ∀ (ds : List D) (vs : List V), Dens w M H vs ds → Dens w N H vs ds
  | [], _, h => by cases h; exact .nil
  | d :: ds, _, h => by cases h with | cons a b => exact .cons (Den.weak k d _ a) (Dens.weak k ds _ b)
end
mutual
theorem Den.more {p : Addr} (n : H p = none) : ∀ (d : D) (v : V), Den w M H v d → Den w (M.or p) H v d
  | .non, _, h => by cases h; exact .non
  | .bl b, _, h => by cases h; exact .bl b
  | .int i, _, h => by cases h; exact .int i
  | .str x, _, h => by cases h; exact .str x
  | .pot, _, h => by cases h with | pot e => exact .pot e
  | .rep p, _, h => by cases h; exact .rep p
  | .cls p, _, h => by cases h; exact .cls p
  | .ty p, _, h => by cases h; exact .ty p
  | .scr p, _, h => by cases h with | scr e => exact .scr (e.more n)
  | .dic p, _, h => by cases h with | dic m e => exact .dic (fun z => z.elim m (e.elim (fun e => ne_of_none e n) fun ⟨_, e⟩ => ne_of_none e n)) e
  | .fn c ns ds, _, h => by cases h with | fn e => exact .fn e
  | .lst ds, _, h => by cases h with | lst s r => exact .lst (s.more n) (Dens.more n ds _ r)
  | .tup ds, _, h => by cases h with | tup s r => exact .tup (s.more n) (Dens.more n ds _ r)
  | .ins c ns ds, _, h => by cases h with | ins m e l r it => exact .ins (fun z => z.elim m (ne_of_none e n)) e l (Dens.more n ds _ r) it
theorem Dens.more {p : Addr} (n : H p = none) : ∀ (ds : List D) (vs : List V), Dens w M H vs ds → Dens w (M.or p) H vs ds
  | [], _, h => by cases h; exact .nil
  | d :: ds, _, h => by cases h with | cons a b => exact .cons (Den.more n d _ a) (Dens.more n ds _ b)
end
/-! nothing said of the heap -/
def Sh.triv (s : Sh) : Sh := ⟨s.p, s.fns, fun _ => True, fun _ _ _ h => h⟩
def Wd.triv (w : Wd) : Wd := ⟨w.K, w.cl, w.pot.triv⟩
mutual
theorem Den.triv : ∀ (d : D) (v : V), Den w M H v d → Den w.triv M H v d
  | .non, _, h => by cases h; exact .non
  | .bl b, _, h => by cases h; exact .bl b
  | .int i, _, h => by cases h; exact .int i
  | .str x, _, h => by cases h; exact .str x
  | .pot, _, h => by cases h with | pot e => exact .pot e
  | .rep p, _, h => by cases h; exact .rep p
  | .cls p, _, h => by cases h; exact .cls (w := w.triv) p
  | .ty p, _, h => by cases h; exact .ty p
  | .scr p, _, h => by cases h with | scr e => exact .scr e
  | .dic p, _, h => by cases h with | dic n e => exact .dic n e
  | .fn c ns ds, _, h => by cases h with | fn e => exact .fn e
  | .lst ds, _, h => by cases h with | lst s r => exact .lst s (Dens.triv ds _ r)
  | .tup ds, _, h => by cases h with | tup s r => exact .tup s (Dens.triv ds _ r)
  | .ins c ns ds, _, h => by cases h with | ins n e l r it => exact .ins (w := w.triv) n e l (Dens.triv ds _ r) it
theorem Dens.triv : ∀ (ds : List D) (vs : List V), Dens w M H vs ds → Dens w.triv M H vs ds
  | [], _, h => by cases h; exact .nil
  | d :: ds, _, h => by cases h with | cons a b => exact .cons (Den.triv d _ a) (Dens.triv ds _ b)
end
/-! data in which no list stands -/
mutual
def D.noL : D → Bool
  | .lst _ => false
  | .scr _ => false
  | .tup ds => D.noLs ds
  | .ins _ _ ds => D.noLs ds
  | .non | .bl _ | .int _ | .str _ | .pot | .rep _ | .cls _ | .ty _ | .dic _ | .fn _ _ _ => true
def D.noLs : List D → Bool
  | [] => true
  | d :: ds => d.noL && D.noLs ds
end
/-- M's objects are lists, or instances that have nothing yet -/
def LB (H : Hp) (a : Addr) : Prop := (∃ xs, H a = some (.lst xs)) ∨ (∃ C dx, H a = some (.ins C dx [])) ∨ (∃ f, H a = some (.ext f)) ∨ ∃ ps, H a = some (.tbl ps)
theorem LB.keep {H H' : Hp} {a : Addr} (k : ∀ o, H a = some o → H' a = some o) (h : LB H a) : LB H' a := h.elim (fun ⟨xs, e⟩ => .inl ⟨xs, k _ e⟩) fun h => .inr (h.elim (fun ⟨C, dx, e⟩ => .inl ⟨C, dx, k _ e⟩) fun h => .inr (h.imp (fun ⟨f, e⟩ => ⟨f, k _ e⟩) fun ⟨f, e⟩ => ⟨f, k _ e⟩))
theorem LB.ne {H : Hp} {a : Addr} (h : LB H a) (n : H a = none) : False := by
  rcases h with ⟨xs, e⟩ | ⟨C, dx, e⟩ | ⟨f, e⟩ | ⟨f, e⟩ <;> (rw [n] at e; cases e)
theorem PotOk.lb {w : Wd} {H : Hp} (h : PotOk w H) {a : Addr} (c : w.pa a) : LB H a := by
  obtain ⟨o, e, ⟨x, y, rfl⟩ | ⟨ps, rfl⟩⟩ := h.ex c
  · exact .inl ⟨_, e⟩
  · exact .inr (.inr (.inr ⟨_, e⟩))
def AllL (M : Av) (H : Hp) : Prop := ∀ a, M a → LB H a
theorem Ts.up {a : Addr} {vs : List V} (k : AllL N H) (h : Ts w M H a vs) : Ts w N H a vs := h.elim (fun h => .inl ⟨fun z => by
  rcases k a z with ⟨xs, e⟩ | ⟨C, dx, e⟩ | ⟨f, e⟩ | ⟨f, e⟩ <;> (rcases h.2 with q | ⟨o, q⟩ <;> (rw [e] at q; cases q)), h.2⟩) .inr
mutual
theorem Den.up (k : AllL N H) : ∀ (d : D) (v : V), d.noL = true → Den w M H v d → Den w N H v d
  | .non, _, _, h => by cases h; exact .non
  | .bl b, _, _, h => by cases h; exact .bl b
  | .int i, _, _, h => by cases h; exact .int i
  | .str x, _, _, h => by cases h; exact .str x
  | .pot, _, _, h => by cases h with | pot e => exact .pot e
  | .rep p, _, _, h => by cases h; exact .rep p
  | .cls p, _, _, h => by cases h; exact .cls p
  | .ty p, _, _, h => by cases h; exact .ty p
  | .lst ds, _, z, _ => by
    unfold D.noL at z
    cases z
  | .scr ds, _, z, _ => by
    unfold D.noL at z
    cases z
  | .fn c ns ds, _, _, h => by cases h with | fn e => exact .fn e
  | .dic ds, _, z, h => by
    cases h with
    | dic n e =>
      refine .dic (fun q => ?_) e
      rcases e with e | ⟨o, e⟩ <;> rcases k _ q with ⟨xs, e'⟩ | ⟨C, dx, e'⟩ | ⟨f, e'⟩ | ⟨f, e'⟩ <;> (rw [e] at e'; cases e')
  | .tup ds, _, z, h => by
    unfold D.noL at z
    cases h with | tup s r => exact .tup (s.up k) (Dens.up k ds _ z r)
  | .ins c ns ds, _, z, h => by
    unfold D.noL at z
    cases h with
    | ins n e l r it =>
      refine .ins (fun q => ?_) e l (Dens.up k ds _ z r) it
      rcases k _ q with ⟨xs, e'⟩ | ⟨C, dx, e'⟩ | ⟨f, e'⟩ | ⟨f, e'⟩
      · rw [e] at e'; cases e'
      rotate_left
      · rw [e] at e'; cases e'
      · rw [e] at e'; cases e'
      · rw [e] at e'
        injection e' with e'
        injection e' with _ _ e'
        cases ns with
        | nil => exact l.2 rfl
        | cons n1 ns1 =>
          cases ds with
          | nil => exact absurd l.1 (by simp)
          | cons d1 ds1 => cases r with | cons ra rb => cases e'
theorem Dens.up (k : AllL N H) : ∀ (ds : List D) (vs : List V), D.noLs ds = true → Dens w M H vs ds → Dens w N H vs ds
  | [], _, _, h => by cases h; exact .nil
  | d :: ds, _, z, h => by
    unfold D.noLs at z
    obtain ⟨z1, z2⟩ := Bool.and_eq_true_iff.mp z
    cases h with | cons a b => exact .cons (Den.up k d _ z1 a) (Dens.up k ds _ z2 b)
end
theorem Dens.length : ∀ {ds : List D} {vs : List V}, Dens w M H vs ds → vs.length = ds.length
  | [], _, h => by cases h; rfl
  | d :: ds, _, h => by cases h with | cons a b => exact congrArg (· + 1) b.length
theorem Dens.get : ∀ {ds : List D} {vs : List V} {i : Nat} {d : D}, Dens w M H vs ds → ds[i]? = some d → ∃ v, vs[i]? = some v ∧ Den w M H v d
  | [], _, _, _, _, e => by simp at e
  | d :: ds, _, 0, _, h, e => by
    cases h with
    | cons a b => simp at e; subst e; exact ⟨_, rfl, a⟩
  | d :: ds, _, i + 1, _, h, e => by
    cases h with
    | cons a b =>
      obtain ⟨v, e1, q⟩ := Dens.get (i := i) b (by simpa using e)
      exact ⟨v, by simpa using e1, q⟩
theorem Dens.at : ∀ {ds : List D} {vs : List V} {i : Nat} {v : V}, Dens w M H vs ds → vs[i]? = some v → ∃ d, ds[i]? = some d ∧ Den w M H v d
  | [], _, _, _, h, e => by cases h; simp at e
  | d :: ds, _, 0, _, h, e => by
    cases h with
    | cons a b => simp at e; subst e; exact ⟨_, rfl, a⟩
  | d :: ds, _, i + 1, _, h, e => by
    cases h with
    | cons a b =>
      obtain ⟨d, e1, q⟩ := Dens.at (i := i) b (by simpa using e)
      exact ⟨d, by simpa using e1, q⟩
theorem Dens.append : ∀ {ds es : List D} {vs us : List V}, Dens w M H vs ds → Dens w M H us es → Dens w M H (vs ++ us) (ds ++ es)
  | [], _, _, _, h, q => by cases h; exact q
  | d :: ds, _, _, _, h, q => by cases h with | cons a b => exact .cons a (b.append q)
theorem Dens.take : ∀ {ds : List D} {vs : List V} (n : Nat), Dens w M H vs ds → Dens w M H (vs.take n) (ds.take n)
  | _, _, 0, _ => by simp only [List.take_zero]; exact .nil
  | [], _, n + 1, h => by cases h; exact .nil
  | d :: ds, _, n + 1, h => by cases h with | cons a b => exact .cons a (b.take n)
theorem Dens.drop : ∀ {ds : List D} {vs : List V} (n : Nat), Dens w M H vs ds → Dens w M H (vs.drop n) (ds.drop n)
  | _, _, 0, h => h
  | [], _, n + 1, h => by cases h; exact .nil
  | d :: ds, _, n + 1, h => by cases h with | cons a b => exact b.drop n
theorem Dens.set : ∀ {ds : List D} {vs : List V} (n : Nat) {v : V} {d : D}, Den w M H v d → Dens w M H vs ds → Dens w M H (vs.set n v) (ds.set n d)
  | [], _, _, _, _, _, h => by cases h; exact .nil
  | _ :: ds, _, 0, _, _, q, h => by cases h with | cons a b => exact .cons q b
  | _ :: ds, _, n + 1, _, _, q, h => by cases h with | cons a b => exact .cons a (b.set n q)
theorem Dens.eraseIdx : ∀ {ds : List D} {vs : List V} (n : Nat), Dens w M H vs ds → Dens w M H (vs.eraseIdx n) (ds.eraseIdx n)
  | [], _, _, h => by cases h; exact .nil
  | _ :: ds, _, 0, h => by cases h with | cons a b => exact b
  | _ :: ds, _, n + 1, h => by cases h with | cons a b => exact .cons a (b.eraseIdx n)
theorem Dens.ints : ∀ {is : List Int} {vs : List V}, Dens w M H vs (is.map D.int) → vs = is.map V.int
  | [], _, h => by cases h; rfl
  | i :: is, _, h => by
    cases h with
    | cons a b => cases a; rw [Dens.ints b]; rfl
theorem Dens.ofInts : ∀ (is : List Int), Dens w M H (is.map V.int) (is.map D.int)
  | [] => .nil
  | i :: is => .cons (.int i) (Dens.ofInts is)
theorem Dens.bls : ∀ {bs : List Bool} {vs : List V}, Dens w M H vs (bs.map D.bl) → vs = bs.map V.bl
  | [], _, h => by cases h; rfl
  | i :: is, _, h => by
    cases h with
    | cons a b => cases a; rw [Dens.bls b]; rfl
end
/-- a value that may be a list of the def's own, its items out of reach -/
def DenT (w : Wd) (M : Av) (H : Hp) (v : V) (d : D) : Prop := Den w M H v d ∨ ∃ a vs ds, v = .ref a ∧ d = .lst ds ∧ ¬ w.pa a ∧ H a = some (.lst vs) ∧ Dens w M H vs ds
def DenB (w : Wd) (M : Av) (H : Hp) (b : Bool) (v : V) (d : D) : Prop := match b with
  | true => Den w M H v d
  | false => DenT w M H v d
section
variable {w : Wd} {M N : Av} {H H' : Hp} {b : Bool} {v : V} {d : D}
theorem DenB.t (h : DenB w M H b v d) : DenT w M H v d := by
  cases b with
  | true => exact .inl h
  | false => exact h
theorem DenT.step (hp : ∀ a, w.pa a → M a) (k : Step w H H') (h : DenT w M H v d) : DenT w M H' v d := by
  rcases h with h | ⟨a, vs, ds, rfl, rfl, n, e, r⟩
  · exact .inl (Den.lat (k.lat.mono hp) _ _ h)
  · exact .inr ⟨a, vs, ds, rfl, rfl, n, k.lat _ _ n e, Dens.lat (k.lat.mono hp) _ _ r⟩
theorem DenB.step (hp : ∀ a, w.pa a → M a) (k : Step w H H') (h : DenB w M H b v d) : DenB w M H' b v d := by
  cases b with
  | true => exact Den.lat (k.lat.mono hp) _ _ h
  | false => exact DenT.step hp k h
/-- below M a value that may be the def's own list is any other -/
theorem DenT.low (hp : ∀ a, w.pa a → M a) (h : DenT w M H v d) : Den w w.pa H v d := by
  rcases h with h | ⟨a, vs, ds, rfl, rfl, n, e, r⟩
  · exact Den.weak hp _ _ h
  · exact .lst ⟨n, e⟩ (Dens.weak hp _ _ r)
theorem DenT.list {ds : List D} (h : DenT w M H v (.lst ds)) : ∃ a vs, v = .ref a ∧ H a = some (.lst vs) ∧ Dens w M H vs ds := by
  rcases h with h | ⟨a, vs, es, rfl, z, n, e, r⟩
  · cases h with | lst s r => exact ⟨_, _, rfl, s.2, r⟩
  · cases z; exact ⟨_, _, rfl, e, r⟩
theorem DenT.script {ns : List Int} (h : DenT w M H v (.scr ns)) : ∃ a, v = .ref a ∧ SqL w.K H a (ns.map V.int) := by
  rcases h with h | ⟨a, vs, es, rfl, z, n, e, r⟩
  · cases h with | scr s => exact ⟨_, rfl, s.sq⟩
  · cases z
theorem DenT.tuple {ds : List D} (h : DenT w M H v (.tup ds)) : ∃ a vs, v = .ref a ∧ Ts w M H a vs ∧ Dens w M H vs ds := by
  rcases h with h | ⟨a, vs, es, rfl, z, n, e, r⟩
  · cases h with | tup s r => exact ⟨_, _, rfl, s, r⟩
  · cases z
theorem DenT.int {i : Int} (h : DenT w M H v (.int i)) : v = .int i := by
  rcases h with h | ⟨a, vs, es, rfl, z, _⟩
  · cases h; rfl
  · cases z
theorem DenT.bl {i : Bool} (h : DenT w M H v (.bl i)) : v = .bl i := by
  rcases h with h | ⟨a, vs, es, rfl, z, _⟩
  · cases h; rfl
  · cases z
theorem DenT.non (h : DenT w M H v .non) : v = .non := by
  rcases h with h | ⟨a, vs, es, rfl, z, _⟩
  · cases h; rfl
  · cases z
theorem DenT.str {i : Str} (h : DenT w M H v (.str i)) : v = .str i := by
  rcases h with h | ⟨a, vs, es, rfl, z, _⟩
  · cases h; rfl
  · cases z
theorem DenT.ty {i : String} (h : DenT w M H v (.ty i)) : v = .ty i := by
  rcases h with h | ⟨a, vs, es, rfl, z, _⟩
  · cases h; rfl
  · cases z
end

/-! ### the state of a def beside its names' data -/
/-- O: the names whose lists are the def's own; M: what may change -/
structure PotA (w : Wd) (A : Av) (H0 : Hp) : Prop where
  pa : ∀ a, w.pa a → A a
  po : PotOk w H0
instance instCoeFunPotA {w : Wd} {A : Av} {H0 : Hp} : CoeFun (PotA w A H0) (fun _ => ∀ a, w.pa a → A a) := ⟨PotA.pa⟩
structure Rel (w : Wd) (O : List Nat) (A : Av) (H0 : Hp) (M : Av) (σ : L2.St) (H : Hp) (ρ : Env) : Prop where
  len : ρ.length = σ.length
  step : Step w H0 H
  pot : PotA w A H0
  av : ∀ a, A a → M a
  new : ∀ a, M a → A a ∨ H0 a = none
  isL : AllL M H
  sh : ∀ i d, ρ[i]? = some (some d) → i ∉ O → ∃ v, σ[i]? = some (some v) ∧ Den w M H v d
  ow : ∀ i d, ρ[i]? = some (some d) → i ∈ O → (d = .non ∧ σ[i]? = some (some .non)) ∨ ∃ p vs ds, d = .lst ds ∧ σ[i]? = some (some (.ref p)) ∧ M p ∧ ¬ A p ∧ H p = some (.lst vs) ∧ Dens w M H vs ds
  sep : ∀ i j d e p, ρ[i]? = some (some d) → ρ[j]? = some (some e) → i ∈ O → j ∈ O → σ[i]? = some (some (.ref p)) → σ[j]? = some (some (.ref p)) → i = j
section
variable {w : Wd} {O : List Nat} {A : Av} {H0 : Hp} {M : Av} {σ : L2.St} {H H' : Hp} {ρ : Env}
theorem Rel.pm (r : Rel w O A H0 M σ H ρ) : ∀ a, w.pa a → M a := fun a z => r.av a (r.pot a z)
theorem lst_ne {xs : List V} {c : Addr} {q : Str} : HO.lst xs ≠ LamX.CodeO c q := fun z => by
  unfold LamX.CodeO at z
  cases z
theorem Rel.potOk (r : Rel w O A H0 M σ H ρ) : PotOk w H := r.step.pot r.pot.po
theorem Rel.go (r : Rel w O A H0 M σ H ρ) (k : Step w H H') : Rel w O A H0 M σ H' ρ := by
  have kl : Lat M H H' := k.lat.mono r.pm
  refine ⟨r.len, r.step.trans k, r.pot, r.av, r.new, fun a z => ?_, fun i d e n => ?_, fun i d e n => ?_, r.sep⟩
  · by_cases q : w.pa a
    · exact (k.pot r.potOk).lb q
    · exact LB.keep (fun o e => k.lat _ _ q e) (r.isL a z)
  · obtain ⟨v, e1, h⟩ := r.sh i d e n
    exact ⟨v, e1, Den.lat kl _ _ h⟩
  · rcases r.ow i d e n with z | ⟨p, vs, ds, e1, e2, m, np, e3, h⟩
    · exact .inl z
    exact .inr ⟨p, vs, ds, e1, e2, m, np, k.lat _ _ (fun z => np (r.pot _ z)) e3, Dens.lat kl _ _ h⟩
theorem Rel.owl (r : Rel w O A H0 M σ H ρ) (i : Nat) (d : List D) (e : ρ[i]? = some (some (.lst d))) (n : i ∈ O) : ∃ p vs ds, D.lst d = .lst ds ∧ σ[i]? = some (some (.ref p)) ∧ M p ∧ ¬ A p ∧ H p = some (.lst vs) ∧ Dens w M H vs ds := (r.ow i _ e n).elim (fun z => nomatch z.1) id
theorem Rel.owr (r : Rel w O A H0 M σ H ρ) {i : Nat} {d : D} {p : Addr} (e : ρ[i]? = some (some d)) (n : i ∈ O) (q : σ[i]? = some (some (.ref p))) : ∃ p' vs ds, d = .lst ds ∧ σ[i]? = some (some (.ref p')) ∧ M p' ∧ ¬ A p' ∧ H p' = some (.lst vs) ∧ Dens w M H vs ds := (r.ow i _ e n).elim (fun z => by rw [q] at z; cases z.2) id
theorem Rel.fresh (r : Rel w O A H0 M σ H ρ) {p : Addr} (n : H p = none) : ¬ M p := fun z => by
  exact LB.ne (r.isL p z) n
theorem Rel.free0 (r : Rel w O A H0 M σ H ρ) {p : Addr} (n : H p = none) : H0 p = none := by
  cases q : H0 p with
  | none => rfl
  | some o =>
    by_cases z : w.pa p
    · exact (r.potOk.no z n).elim
    · rw [r.step.lat p o z q] at n
      cases n
end

/-! ### expressions -/
section
variable {m : Type → Type} [Md m]
/-- the reading t does what f tells -/
def Sim (m : Type → Type) [Md m] (w : Wd) (O : List Nat) (b : Bool) (t : TE) (f : Env → m D) : Prop := ∀ (A : Av) (H0 : Hp) (M : Av) (σ : L2.St) (H : Hp) (ρ : Env) (Q : VK), Rel w O A H0 M σ H ρ →
  Md.wp (f ρ) (fun d => ∀ v H', Step w H H' → DenB w M H' b v d → Q v H') → t σ H Q
/-- a test -/
def Tst (m : Type → Type) [Md m] (w : Wd) (O : List Nat) (t : TT) (f : Env → m Bool) : Prop := ∀ (A : Av) (H0 : Hp) (M : Av) (σ : L2.St) (H : Hp) (ρ : Env) (Q : Bool → Hp → Prop), Rel w O A H0 M σ H ρ →
  Md.wp (f ρ) (fun c => ∀ H', Step w H H' → Q c H') → t σ H Q
def DensB (w : Wd) (M : Av) (H : Hp) (b : Bool) : List V → List D → Prop
  | [], [] => True
  | v :: vs, d :: ds => DenB w M H b v d ∧ DensB w M H b vs ds
  | _, _ => False
def Args (m : Type → Type) [Md m] (w : Wd) (O : List Nat) (b : Bool) (t : TA) (f : Env → m (List D)) : Prop := ∀ (A : Av) (H0 : Hp) (M : Av) (σ : L2.St) (H : Hp) (ρ : Env) (Q : List V → Hp → Prop), Rel w O A H0 M σ H ρ →
  Md.wp (f ρ) (fun ds => ∀ vs H', Step w H H' → DensB w M H' b vs ds → Q vs H') → t σ H Q
/-- a new list -/
def SimL (m : Type → Type) [Md m] (w : Wd) (O : List Nat) (t : TE) (f : Env → m (List D)) : Prop := ∀ (A : Av) (H0 : Hp) (M : Av) (σ : L2.St) (H : Hp) (ρ : Env) (Q : VK), Rel w O A H0 M σ H ρ →
  Md.wp (f ρ) (fun ds => ∀ p vs H', H p = none → Step w H H' → H' p = some (.lst vs) → Dens w (M.or p) H' vs ds → Q (.ref p) H') → t σ H Q
variable {w : Wd} {O : List Nat} {b b1 b2 : Bool} {t ta tb tc : TE} {f fa fb fc : Env → m D}

theorem DensB.step {M : Av} {H H' : Hp} (hp : ∀ a, w.pa a → M a) (k : Step w H H') : ∀ {vs : List V} {ds : List D}, DensB w M H b vs ds → DensB w M H' b vs ds
  | [], [], _ => trivial
  | _ :: _, _ :: _, h => ⟨h.1.step hp k, DensB.step hp k h.2⟩
theorem DensB.safe {M : Av} {H : Hp} : ∀ {vs : List V} {ds : List D}, DensB w M H true vs ds → Dens w M H vs ds
  | [], [], _ => .nil
  | _ :: _, _ :: _, h => .cons h.1 (DensB.safe h.2)
theorem DensB.low {M : Av} {H : Hp} (hp : ∀ a, w.pa a → M a) : ∀ {vs : List V} {ds : List D}, DensB w M H b vs ds → Dens w w.pa H vs ds
  | [], [], _ => .nil
  | _ :: _, _ :: _, h => .cons (h.1.t.low hp) (DensB.low hp h.2)

theorem sim_up (h : Sim m w O true t f) : Sim m w O false t f := fun A H0 M σ H ρ Q r q => h A H0 M σ H ρ Q r (Md.wp_mono (fun d z v H' k e => z v H' k (.inl e)) q)
/-- what may be the def's own, where no list stands in it -/
def pNoL (f : Env → m D) : Env → m D := fun ρ => Md.bind (f ρ) fun d => Md.lift (match d.noL with
  | true => some d
  | false => none)
def gG (ρ : Env) (i : Nat) : Option D := match ρ[i]? with
  | some (some d) => some d
  | _ => none
theorem gG_eq {ρ : Env} {i : Nat} {d : D} (h : gG ρ i = some d) : ρ[i]? = some (some d) := by
  unfold gG at h
  split at h
  · rename_i d' e
    cases h
    exact e
  · cases h
def pVar (i : Nat) : Env → m D := fun ρ => Md.lift (gG ρ i)
theorem sim_var (i : Nat) (hi : i ∉ O := by decide) : Sim m w O true (tVar i) (pVar i) := fun A H0 M σ H ρ Q r q => by
  obtain ⟨d, e, q⟩ := Md.wp_lift q
  obtain ⟨v, e1, h⟩ := r.sh i d (gG_eq e) hi
  exact ⟨v, e1, q v H .refl h⟩
theorem sim_own (i : Nat) (hi : i ∈ O := by decide) : Sim m w O false (tVar i) (pVar i) := fun A H0 M σ H ρ Q r q => by
  obtain ⟨d, e, q⟩ := Md.wp_lift q
  rcases r.ow i d (gG_eq e) hi with ⟨rfl, e2⟩ | ⟨p, vs, ds, rfl, e2, mp, np, e3, h⟩
  · exact ⟨_, e2, q _ H .refl (.inl .non)⟩
  exact ⟨_, e2, q _ H .refl (.inr ⟨p, vs, ds, rfl, rfl, fun z => np (r.pot _ z), e3, h⟩)⟩
def pC (d : D) : Env → m D := fun _ => Md.ret d
theorem sim_int (i : Int) : Sim m w O true (tC (.int i)) (pC (.int i)) := fun A H0 M σ H ρ Q r q => Md.wp_ret q _ H .refl (.int i)
theorem sim_bl (i : Bool) : Sim m w O true (tC (.bl i)) (pC (.bl i)) := fun A H0 M σ H ρ Q r q => Md.wp_ret q _ H .refl (.bl i)
theorem sim_str (i : Str) : Sim m w O true (tC (.str i)) (pC (.str i)) := fun A H0 M σ H ρ Q r q => Md.wp_ret q _ H .refl (.str i)
theorem sim_non : Sim m w O true (tC .non) (pC .non) := fun A H0 M σ H ρ Q r q => Md.wp_ret q _ H .refl .non
/-- two data, then what is told of both -/
def p2 {α : Type} (g : D → D → Option α) (fa fb : Env → m D) : Env → m α := fun ρ => Md.bind (fa ρ) fun x => Md.bind (fb ρ) fun y => Md.lift (g x y)
def p1 {α : Type} (g : D → Option α) (fa : Env → m D) : Env → m α := fun ρ => Md.bind (fa ρ) fun x => Md.lift (g x)
def OpSim (w : Wd) (r : R2) (g : D → D → Option D) : Prop := ∀ (M : Av) (H : Hp) (x y d : D) (v u : V) (Q : VK), (∀ a, w.pa a → M a) → (∀ a, M a → H a ≠ none) → DenT w M H v x → DenT w M H u y → g x y = some d → (∀ z H', Step w H H' → Den w M H' z d → Q z H') → r v u H Q
theorem Rel.dom {H0 : Hp} {A M : Av} {σ : L2.St} {H : Hp} {ρ : Env} (r : Rel w O A H0 M σ H ρ) : ∀ a, M a → H a ≠ none := fun a z e => r.fresh e z
theorem sim_op {r : R2} {g : D → D → Option D} (hr : OpSim w r g) (ha : Sim m w O b1 ta fa) (hb : Sim m w O b2 tb fb) : Sim m w O true (tOp r ta tb) (p2 g fa fb) := fun A H0 M σ H ρ Q R q => by
  refine ha A H0 M σ H ρ _ R (Md.wp_mono (fun x q1 v H1 k1 d1 => ?_) (Md.wp_bind q))
  refine hb A H0 M σ H1 ρ _ (R.go k1) (Md.wp_mono (fun y q2 u H2 k2 d2 => ?_) (Md.wp_bind q1))
  obtain ⟨d, e, q3⟩ := Md.wp_lift q2
  exact hr M H2 x y d v u Q R.pm ((R.go k1).go k2).dom (d1.t.step R.pm k2) d2.t e fun z H3 k3 dz => q3 z H3 ((k1.trans k2).trans k3) dz
def UnSim (w : Wd) (r : V → Hp → VK → Prop) (g : D → Option D) : Prop := ∀ (M : Av) (H : Hp) (x d : D) (v : V) (Q : VK), (∀ a, w.pa a → M a) → (∀ a, M a → H a ≠ none) → DenT w M H v x → g x = some d → (∀ z H', Step w H H' → Den w M H' z d → Q z H') → r v H Q
theorem sim_un {r : V → Hp → VK → Prop} {g : D → Option D} (hr : UnSim w r g) (ha : Sim m w O b1 ta fa) : Sim m w O true (tUn r ta) (p1 g fa) := fun A H0 M σ H ρ Q R q => by
  refine ha A H0 M σ H ρ _ R (Md.wp_mono (fun x q1 v H1 k1 d1 => ?_) (Md.wp_bind q))
  obtain ⟨d, e, q3⟩ := Md.wp_lift q1
  exact hr M H1 x d v Q R.pm (R.go k1).dom d1.t e fun z H3 k3 dz => q3 z H3 (k1.trans k3) dz
/-! ### tests -/
def dBl : D → Option Bool
  | .bl b => some b
  | _ => none
theorem dBl_eq {d : D} {c : Bool} (h : dBl d = some c) : d = .bl c := by
  unfold dBl at h
  split at h
  · cases h; rfl
  · cases h
theorem tst_B (h : Sim m w O b t f) : Tst m w O (tB t) (p1 dBl f) := fun A H0 M σ H ρ Q R q => by
  refine h A H0 M σ H ρ _ R (Md.wp_mono (fun x q1 v H1 k1 d1 => ?_) (Md.wp_bind q))
  obtain ⟨c, e, q3⟩ := Md.wp_lift q1
  rw [dBl_eq e] at d1
  exact ⟨c, d1.t.bl, q3 H1 k1⟩
theorem tst_test (h : Sim m w O b t f) : Tst m w O (tTest t) (p1 dBl f) := fun A H0 M σ H ρ Q R q => by
  refine h A H0 M σ H ρ _ R (Md.wp_mono (fun x q1 v H1 k1 d1 => ?_) (Md.wp_bind q))
  obtain ⟨c, e, q3⟩ := Md.wp_lift q1
  rw [dBl_eq e] at d1
  exact ⟨c, d1.t.bl, q3 H1 k1⟩
variable {tt tu : TT} {ft fu : Env → m Bool}
def bAnd (ft fu : Env → m Bool) : Env → m Bool := fun ρ => Md.bind (ft ρ) fun c => match c with
  | true => fu ρ
  | false => Md.ret false
def bOr (ft fu : Env → m Bool) : Env → m Bool := fun ρ => Md.bind (ft ρ) fun c => match c with
  | true => Md.ret true
  | false => fu ρ
def bNot (ft : Env → m Bool) : Env → m Bool := fun ρ => Md.bind (ft ρ) fun c => Md.ret (!c)
theorem tst_or (h1 : Tst m w O tt ft) (h2 : Tst m w O tu fu) : Tst m w O (tOr tt tu) (bOr ft fu) := fun A H0 M σ H ρ Q R q => by
  refine h1 A H0 M σ H ρ _ R (Md.wp_mono (fun c q1 H1 k1 => ?_) (Md.wp_bind q))
  cases c with
  | true =>
    show Q true H1
    exact Md.wp_ret q1 H1 k1
  | false =>
    show tu σ H1 Q
    exact h2 A H0 M σ H1 ρ _ (R.go k1) (Md.wp_mono (fun c q2 H2 k2 => q2 H2 (k1.trans k2)) q1)
theorem tst_not (h1 : Tst m w O tt ft) : Tst m w O (tNot tt) (bNot ft) := fun A H0 M σ H ρ Q R q => by
  refine h1 A H0 M σ H ρ _ R (Md.wp_mono (fun c q1 H1 k1 => ?_) (Md.wp_bind q))
  have q2 := Md.wp_ret q1
  exact q2 H1 k1
/-- a if t else b -/
def pIf (ft : Env → m Bool) (fa fb : Env → m D) : Env → m D := fun ρ => Md.bind (ft ρ) fun c => match c with
  | true => fa ρ
  | false => fb ρ
theorem sim_if (h1 : Tst m w O tt ft) (ha : Sim m w O b ta fa) (hb : Sim m w O b tb fb) : Sim m w O b (tIf tt ta tb) (pIf ft fa fb) := fun A H0 M σ H ρ Q R q => by
  refine h1 A H0 M σ H ρ _ R (Md.wp_mono (fun c q1 H1 k1 => ?_) (Md.wp_bind q))
  cases c with
  | true => exact ha A H0 M σ H1 ρ _ (R.go k1) (Md.wp_mono (fun c q2 v H2 k2 => q2 v H2 (k1.trans k2)) q1)
  | false => exact hb A H0 M σ H1 ρ _ (R.go k1) (Md.wp_mono (fun c q2 v H2 k2 => q2 v H2 (k1.trans k2)) q1)
/-- and, or, not as values of True, False -/
def pAndV (fa fb : Env → m D) : Env → m D := fun ρ => Md.bind (fa ρ) fun x => Md.bind (Md.lift (dBl x)) fun c => match c with
  | true => fb ρ
  | false => Md.ret (.bl false)
def pOrV (fa fb : Env → m D) : Env → m D := fun ρ => Md.bind (fa ρ) fun x => Md.bind (Md.lift (dBl x)) fun c => match c with
  | true => Md.ret (.bl true)
  | false => fb ρ
def dNot : D → Option D
  | .bl b => some (.bl (!b))
  | _ => none
theorem DenB.ofD {M : Av} {H : Hp} {v : V} {d : D} (h : Den w M H v d) : DenB w M H b v d := by
  cases b with
  | true => exact h
  | false => exact .inl h
theorem sim_andV (ha : Sim m w O b1 ta fa) (hb : Sim m w O b tb fb) : Sim m w O b (tAndV ta tb) (pAndV fa fb) := fun A H0 M σ H ρ Q R q => by
  refine ha A H0 M σ H ρ _ R (Md.wp_mono (fun x q1 v H1 k1 d1 => ?_) (Md.wp_bind q))
  obtain ⟨c, e, q2⟩ := Md.wp_lift (Md.wp_bind q1)
  rw [dBl_eq e] at d1
  refine ⟨c, d1.t.bl, ?_⟩
  cases c with
  | true => exact hb A H0 M σ H1 ρ _ (R.go k1) (Md.wp_mono (fun c q3 v H2 k2 => q3 v H2 (k1.trans k2)) q2)
  | false => exact Md.wp_ret q2 _ H1 k1 (DenB.ofD (.bl false))
theorem sim_notV (ha : Sim m w O b1 ta fa) : Sim m w O true (tNotV ta) (p1 dNot fa) := fun A H0 M σ H ρ Q R q => by
  refine ha A H0 M σ H ρ _ R (Md.wp_mono (fun x q1 v H1 k1 d1 => ?_) (Md.wp_bind q))
  obtain ⟨d, e, q2⟩ := Md.wp_lift q1
  cases x with
  | bl c => cases e; exact ⟨c, d1.t.bl, q2 _ H1 k1 (.bl _)⟩
  | _ => cases e
/-! ### arguments, displays -/
variable {tr : TA} {fr : Env → m (List D)}
def aNil : Env → m (List D) := fun _ => Md.ret []
def aCons (fa : Env → m D) (fr : Env → m (List D)) : Env → m (List D) := fun ρ => Md.bind (fa ρ) fun x => Md.bind (fr ρ) fun xs => Md.ret (x :: xs)
theorem args_nil : Args m w O b tNil aNil := fun A H0 M σ H ρ Q R q => Md.wp_ret q [] H .refl trivial
theorem args_cons (ha : Sim m w O b ta fa) (hr : Args m w O b tr fr) : Args m w O b (tCons ta tr) (aCons fa fr) := fun A H0 M σ H ρ Q R q => by
  refine ha A H0 M σ H ρ _ R (Md.wp_mono (fun x q1 v H1 k1 d1 => ?_) (Md.wp_bind q))
  refine hr A H0 M σ H1 ρ _ (R.go k1) (Md.wp_mono (fun xs q2 vs H2 k2 ds => ?_) (Md.wp_bind q1))
  exact Md.wp_ret q2 _ H2 (k1.trans k2) ⟨d1.step R.pm k2, ds⟩
def lenOk (n : Nat) : Bool := Nat.ble n 1000000
theorem lenOk_le {n : Nat} (h : lenOk n = true) : n ≤ sizeLine := Nat.le_trans (Nat.le_of_ble_eq_true h) (by rw [sizeLine_eq]; decide)
theorem lenOk_lt {n : Nat} (h : lenOk n = true) : n < sizeLine := Nat.lt_of_le_of_lt (Nat.le_of_ble_eq_true h) (by rw [sizeLine_eq]; decide)
def okL (ds : List D) : Option (List D) := match lenOk ds.length with
  | true => some ds
  | false => none
theorem okL_eq {ds es : List D} (h : okL ds = some es) : es = ds ∧ lenOk ds.length = true := by
  unfold okL at h
  split at h
  · rename_i e; cases h; exact ⟨rfl, e⟩
  · cases h
def pLst (fr : Env → m (List D)) : Env → m (List D) := fun ρ => Md.bind (fr ρ) fun ds => Md.lift (okL ds)
def pOf (fr : Env → m (List D)) : Env → m D := fun ρ => Md.bind (fr ρ) fun ds => Md.ret (.lst ds)
def okT (ds : List D) : Option D := match lenOk ds.length with
  | true => some (.tup ds)
  | false => none
def pTup (fr : Env → m (List D)) : Env → m D := fun ρ => Md.bind (fr ρ) fun ds => Md.lift (okT ds)
theorem DensB.length {M : Av} {H : Hp} : ∀ {vs : List V} {ds : List D}, DensB w M H b vs ds → vs.length = ds.length
  | [], [], _ => rfl
  | _ :: _, _ :: _, h => congrArg (· + 1) (DensB.length h.2)
theorem simL_lst (hr : Args m w O true tr fr) : SimL m w O (tLst tr) (pLst fr) := fun A H0 M σ H ρ Q R q => by
  refine hr A H0 M σ H ρ _ R (Md.wp_mono (fun ds q1 vs H1 k1 h => ?_) (Md.wp_bind q))
  obtain ⟨es, e, q2⟩ := Md.wp_lift q1
  obtain ⟨rfl, hl⟩ := okL_eq e
  refine ⟨by rw [h.length]; exact lenOk_le hl, fun p n => ?_⟩
  refine q2 p vs _ ?_ (k1.trans (Step.new n)) upd_same ?_
  · exact (R.go k1).step |> fun _ => by
      cases z : H p with
      | none => rfl
      | some o =>
        by_cases c : w.pa p
        · exact ((R.go k1).potOk.no c n).elim
        · rw [k1.lat p o c z] at n; cases n
  · refine Dens.lat (M := M.or p) ?_ _ _ (Dens.more n _ _ h.safe)
    intro a o na ea
    rw [upd_ne (fun z => na (.inr z))]
    exact ea
theorem fresh_back {H H' : Hp} (k : Step w H H') (po : PotOk w H) {p : Addr} (n : H' p = none) : H p = none := by
  cases z : H p with
  | none => rfl
  | some o =>
    by_cases c : w.pa p
    · exact ((k.pot po).no c n).elim
    · rw [k.lat p o c z] at n; cases n
theorem sim_new {t : TE} {fr : Env → m (List D)} (h : SimL m w O t fr) : Sim m w O true t (pOf fr) := fun A H0 M σ H ρ Q R q => by
  refine h A H0 M σ H ρ _ R (Md.wp_mono (fun ds q1 p vs H1 n k1 e1 h1 => ?_) (Md.wp_bind q))
  exact Md.wp_ret q1 _ H1 k1 (.lst ⟨R.fresh n, e1⟩ (Dens.weak (fun a z => .inl z) _ _ h1))
theorem lat_upd {M : Av} {H : Hp} {p : Addr} {o : HO} (n : H p = none) : Lat M H (upd H p o) := fun a u _ e => by
  rw [upd_ne (ne_of_none e n)]
  exact e
theorem sim_tup (hr : Args m w O true tr fr) : Sim m w O true (tTup tr) (pTup fr) := fun A H0 M σ H ρ Q R q => by
  refine hr A H0 M σ H ρ _ R (Md.wp_mono (fun ds q1 vs H1 k1 h => ?_) (Md.wp_bind q))
  obtain ⟨es, e, q2⟩ := Md.wp_lift q1
  unfold okT at e
  cases hl : lenOk ds.length with
  | false => rw [hl] at e; cases e
  | true =>
    rw [hl] at e
    cases e
    refine ⟨by rw [h.length]; exact lenOk_le hl, fun p n => ?_⟩
    exact q2 _ _ (k1.trans (Step.new n)) (.tup (.inl ⟨(R.go k1).fresh n, .inl upd_same⟩) (Dens.lat (lat_upd n) _ _ h.safe))
end
end Pw
set_option Elab.async false
set_option linter.all false
set_option maxRecDepth 100000
set_option maxHeartbeats 1000000
/-! Pw2: operators, subscripts, built-ins by data. -/
namespace Pw
open PySem PySem.Spec PyProof.Rows L2
section
variable {w : Wd} {X : Cx}
/-! ### new lists by two operands -/
def OpSimL (w : Wd) (r : R2) (g : D → D → Option (List D)) : Prop := ∀ (M : Av) (H : Hp) (x y : D) (ds : List D) (v u : V) (Q : VK), (∀ a, w.pa a → M a) → (∀ a, M a → H a ≠ none) → DenT w M H v x → DenT w M H u y → g x y = some ds →
  (∀ p vs H', H p = none → Step w H H' → H' p = some (.lst vs) → Dens w (M.or p) H' vs ds → Q (.ref p) H') → r v u H Q
theorem new_at {M : Av} {H : Hp} {p : Addr} {vs : List V} {ds : List D} (n : H p = none) (h : Dens w M H vs ds) : Dens w (M.or p) (upd H p (.lst vs)) vs ds :=
  Dens.lat (M := M.or p) (fun a o na ea => by rw [upd_ne (fun z => na (.inr z))]; exact ea) _ _ (Dens.more n _ _ h)
theorem new_val {M : Av} {H H' : Hp} {p : Addr} {vs : List V} {ds : List D} (hd : ∀ a, M a → H a ≠ none) (n : H p = none) (e : H' p = some (.lst vs)) (h : Dens w (M.or p) H' vs ds) : Den w M H' (.ref p) (.lst ds) :=
  .lst ⟨fun z => hd p z n, e⟩ (Dens.weak (fun a z => .inl z) _ _ h)
section
variable {m : Type → Type} [Md m] {O : List Nat} {b b1 b2 : Bool} {ta tb : TE} {fa fb : Env → m D}
theorem simL_op {r : R2} {g : D → D → Option (List D)} (hr : OpSimL w r g) (ha : Sim m w O b1 ta fa) (hb : Sim m w O b2 tb fb) : SimL m w O (tOp r ta tb) (p2 g fa fb) := fun A H0 M σ H ρ Q R q => by
  refine ha A H0 M σ H ρ _ R (Md.wp_mono (fun x q1 v H1 k1 d1 => ?_) (Md.wp_bind q))
  refine hb A H0 M σ H1 ρ _ (R.go k1) (Md.wp_mono (fun y q2 u H2 k2 d2 => ?_) (Md.wp_bind q1))
  obtain ⟨d, e, q3⟩ := Md.wp_lift q2
  exact hr M H2 x y d v u Q R.pm ((R.go k1).go k2).dom (d1.t.step R.pm k2) d2.t e fun p vs H3 n k3 e3 h3 => q3 p vs H3 (fresh_back (k1.trans k2) R.potOk n) ((k1.trans k2).trans k3) e3 h3
end
/-- as a value among values -/
theorem OpSimL.val {r : R2} {g : D → D → Option (List D)} (hr : OpSimL w r g) {M : Av} {H : Hp} {x y : D} {ds : List D} {v u : V} {Q : VK} (hp : ∀ a, w.pa a → M a) (hd : ∀ a, M a → H a ≠ none) (dx : DenT w M H v x) (dy : DenT w M H u y) (e : g x y = some ds)
    (q : ∀ z H', Step w H H' → Den w M H' z (.lst ds) → Q z H') : r v u H Q := hr M H x y ds v u Q hp hd dx dy e fun p vs H3 n k3 e3 h3 => q _ H3 k3 (new_val hd n e3 h3)

/-! ### + -/
def dCat : D → D → Option (List D)
  | .lst xs, .lst ys => match lenOk (xs.length + ys.length) with
    | true => some (xs ++ ys)
    | false => none
  | _, _ => none
theorem os_cat : OpSimL w rCat dCat := fun M H x y ds v u Q hp hd dx dy e q => by
  unfold dCat at e
  split at e
  · rename_i xs ys
    split at e
    · rename_i hl
      cases e
      obtain ⟨a, vs, rfl, ea, ha⟩ := dx.list
      obtain ⟨c, us, rfl, ec, hc⟩ := dy.list
      refine ⟨a, c, vs, us, rfl, rfl, ea, ec, by rw [ha.length, hc.length]; exact lenOk_le hl, fun p n => ?_⟩
      exact q p _ _ n (Step.new n) upd_same (new_at n (ha.append hc))
    · cases e
  · cases e
def dAdd : D → D → Option D
  | .int i, .int j => some (.int (i + j))
  | .lst xs, .lst ys => (dCat (.lst xs) (.lst ys)).map .lst
  | .tup xs, .tup ys => match lenOk (xs.length + ys.length) with
    | true => some (.tup (xs ++ ys))
    | false => none
  | .str x, .str y => match lenOk (x.length + y.length) with
    | true => some (.str (x ++ y))
    | false => none
  | _, _ => none
abbrev rAddI : R2 := rI0 fun i j => .int (i + j)
abbrev rAddZ : R2 := fun x y H Q => ∃ i j, x = .str i ∧ y = .str j ∧ i.length + j.length ≤ sizeLine ∧ Q (.str (i ++ j)) H
def rAddU (K : PySem.W.Frag) : R2 := fun x y H Q => rAddI x y H Q ∨ (fun x y H Q => rCat x y H Q ∨ (fun x y H Q => rCatA K x y H Q ∨ rAddZ x y H Q) x y H Q) x y H Q
theorem op_addU : OpR X (binaryOp .Add) (rAddU X.K) := op_add.or (op_cat.or (op_catA.or op_add_str))
theorem Dens.nil_iff {M : Av} {H : Hp} {vs : List V} {ds : List D} (h : Dens w M H vs ds) : vs = [] ↔ ds = [] := by
  cases h with
  | nil => simp
  | cons _ _ => simp
theorem os_add : OpSim w (rAddU w.K) dAdd := fun M H x y d v u Q hp hd dx dy e q => by
  unfold dAdd at e
  split at e
  · cases e
    cases dx.int; cases dy.int
    exact .inl ⟨_, _, rfl, rfl, q _ H .refl (.int _)⟩
  · rename_i xs ys
    cases z : dCat (.lst xs) (.lst ys) with
    | none => rw [z] at e; cases e
    | some ds =>
      rw [z] at e
      cases e
      exact .inr (.inl (os_cat.val hp hd dx dy z q))
  · rename_i xs ys
    split at e
    · rename_i hl
      cases e
      obtain ⟨a, vs, rfl, ea, ha⟩ := dx.tuple
      obtain ⟨c, us, rfl, ec, hc⟩ := dy.tuple
      refine .inr (.inr (.inl ⟨a, c, vs, us, rfl, rfl, ea.sq, ec.sq, by rw [ha.length, hc.length]; exact lenOk_le hl, fun z => ?_, fun z z2 => ?_, fun z z2 p n => ?_⟩))
      · cases (ha.nil_iff.mp z)
        exact q _ H .refl (.tup ec hc)
      · cases (hc.nil_iff.mp z2)
        rw [List.append_nil] at q
        exact q _ H .refl (.tup ea ha)
      · refine q _ _ (Step.new n) (.tup (.inl ⟨fun z => hd p z n, .inl upd_same⟩) (Dens.lat (lat_upd n) _ _ (ha.append hc)))
    · cases e
  · rename_i x y
    split at e
    · rename_i hl
      cases e
      cases dx.str; cases dy.str
      exact .inr (.inr (.inr ⟨_, _, rfl, rfl, lenOk_le hl, q _ H .refl (.str _)⟩))
    · cases e
  · cases e

/-! ### ints -/
def dI2 (g : Int → Int → Option Int) : D → D → Option D
  | .int i, .int j => (g i j).map .int
  | _, _ => none
theorem os_int {C : Int → Int → Prop} {h : Int → Int → Int} {g : Int → Int → Option Int} (k : ∀ i j z, g i j = some z → C i j ∧ z = h i j) : OpSim w (rI C fun i j => .int (h i j)) (dI2 g) := fun M H x y d v u Q hp hd dx dy e q => by
  unfold dI2 at e
  split at e
  · rename_i i j
    cases z : g i j with
    | none => rw [z] at e; cases e
    | some c =>
      rw [z] at e
      cases e
      cases dx.int; cases dy.int
      obtain ⟨hc, rfl⟩ := k _ _ _ z
      exact ⟨_, _, rfl, rfl, hc, q _ H .refl (.int _)⟩
  · cases e
theorem os_int0 {h : Int → Int → Int} : OpSim w (rI0 fun i j => .int (h i j)) (dI2 fun i j => some (h i j)) := fun M H x y d v u Q hp hd dx dy e q => by
  unfold dI2 at e
  split at e
  · cases e
    cases dx.int; cases dy.int
    exact ⟨_, _, rfl, rfl, q _ H .refl (.int _)⟩
  · cases e
def dSub : D → D → Option D := dI2 fun i j => some (i - j)
theorem os_sub : OpSim w (rI0 fun i j => .int (i - j)) dSub := os_int0
/-- a product: of ints, a list times an int -/
def gMul (i j : Int) : Option Int := match Nat.ble (i.natAbs.log2 + j.natAbs.log2) 900000 with
  | true => some (i * j)
  | false => none
theorem os_mulI : OpSim w (rI CMulW fun i j => .int (i * j)) (dI2 gMul) := os_int fun i j z e => by
  unfold gMul at e
  split at e
  · rename_i h
    cases e
    exact ⟨Nat.lt_of_le_of_lt (Nat.le_of_ble_eq_true h) (by decide), rfl⟩
  · cases e
def repN (n : Nat) (xs : List D) : List D := (List.replicate n xs).flatten
def dRep : D → D → Option (List D)
  | .lst xs, .int k => match decide (-1000000 ≤ k ∧ k ≤ 1000000) && lenOk (xs.length * k.toNat) with
    | true => some (repN k.toNat xs)
    | false => none
  | _, _ => none
theorem Dens.rep {M : Av} {H : Hp} {vs : List V} {ds : List D} (h : Dens w M H vs ds) : ∀ n : Nat, Dens w M H (List.replicate n vs).flatten (repN n ds)
  | 0 => .nil
  | n + 1 => by
    unfold repN
    rw [List.replicate_succ, List.replicate_succ, List.flatten_cons, List.flatten_cons]
    exact h.append (h.rep n)
theorem os_rep : OpSimL w rRep dRep := fun M H x y ds v u Q hp hd dx dy e q => by
  unfold dRep at e
  split at e
  · rename_i xs k
    split at e
    · rename_i hl
      cases e
      obtain ⟨hk, hl⟩ := Bool.and_eq_true_iff.mp hl
      have hk := of_decide_eq_true hk
      obtain ⟨a, vs, rfl, ea, ha⟩ := dx.list
      cases dy.int
      refine ⟨a, k, vs, rfl, rfl, ea, by omega, by omega, by rw [ha.length]; exact lenOk_le hl, fun p n => ?_⟩
      exact q p _ _ n (Step.new n) upd_same (new_at n (ha.rep _))
    · cases e
  · cases e
def dMul : D → D → Option D
  | .int i, .int j => (gMul i j).map .int
  | .lst xs, .int k => (dRep (.lst xs) (.int k)).map .lst
  | _, _ => none
def rMulU : R2 := fun x y H Q => rI CMulW (fun i j => .int (i * j)) x y H Q ∨ rRep x y H Q
theorem op_mulU : OpR X (binaryOp .Mult) rMulU := op_mulW.or op_rep
theorem os_mul : OpSim w rMulU dMul := fun M H x y d v u Q hp hd dx dy e q => by
  unfold dMul at e
  split at e
  · rename_i i j
    exact .inl (os_mulI M H _ _ d v u Q hp hd dx dy (show dI2 gMul (.int i) (.int j) = some d from e) q)
  · rename_i xs k
    cases z : dRep (.lst xs) (.int k) with
    | none => rw [z] at e; cases e
    | some ds =>
      rw [z] at e
      cases e
      exact .inr (os_rep.val hp hd dx dy z q)
  · cases e
def gDiv (i j : Int) : Option Int := match decide (0 < j) && Nat.ble j.natAbs.log2 8000 with
  | true => some (i / j)
  | false => none
theorem os_div : OpSim w (rI CDivW fun i j => .int (i / j)) (dI2 gDiv) := os_int fun i j z e => by
  unfold gDiv at e
  split at e
  · rename_i h
    cases e
    obtain ⟨h1, h2⟩ := Bool.and_eq_true_iff.mp h
    exact ⟨⟨of_decide_eq_true h1, Nat.lt_of_le_of_lt (Nat.le_of_ble_eq_true h2) (by decide)⟩, rfl⟩
  · cases e
def gMod (i j : Int) : Option Int := match decide (0 < j) with
  | true => some (i % j)
  | false => none
theorem os_mod : OpSim w (rI (fun _ j => 0 < j) fun i j => .int (i % j)) (dI2 gMod) := os_int fun i j z e => by
  unfold gMod at e
  split at e
  · rename_i h
    cases e
    exact ⟨of_decide_eq_true h, rfl⟩
  · cases e
def okPow (i j : Int) : Bool := decide (0 ≤ j ∧ j ≤ 10000) && Nat.blt i.natAbs 18446744073709551616
theorem okPow_c {i j : Int} (h : okPow i j = true) : CPow i j := by
  obtain ⟨h1, h2⟩ := Bool.and_eq_true_iff.mp h
  have h1 := of_decide_eq_true h1
  refine ⟨h1.1, by omega, ?_⟩
  have h3 : i.natAbs < 18446744073709551616 := Nat.le_of_ble_eq_true h2
  exact h3
def gPow (i j : Int) : Option Int := match okPow i j with
  | true => some (i ^ j.toNat)
  | false => none
theorem os_pow : OpSim w (rI CPow fun i j => .int (i ^ j.toNat)) (dI2 gPow) := os_int fun i j z e => by
  unfold gPow at e
  split at e
  · rename_i h
    cases e
    exact ⟨okPow_c h, rfl⟩
  · cases e
def gShl (i j : Int) : Option Int := match okPow i j with
  | true => some (i * 2 ^ j.toNat)
  | false => none
def gShr (i j : Int) : Option Int := match decide (0 ≤ j ∧ j ≤ 1000) with
  | true => some (i / 2 ^ j.toNat)
  | false => none
/-- bits of ints that are not negative -/
def gBit (f : Nat → Nat → Nat) (i j : Int) : Option Int := match decide (0 ≤ i) && decide (0 ≤ j) with
  | true => some ((f i.toNat j.toNat : Nat) : Int)
  | false => none
def dB2 (g : Int → Int → Bool) : D → D → Option D
  | .int i, .int j => some (.bl (g i j))
  | _, _ => none
theorem os_cmp {g : Int → Int → Bool} : OpSim w (rI0 fun i j => .bl (g i j)) (dB2 g) := fun M H x y d v u Q hp hd dx dy e q => by
  unfold dB2 at e
  split at e
  · cases e
    cases dx.int; cases dy.int
    exact ⟨_, _, rfl, rfl, q _ H .refl (.bl _)⟩
  · cases e
def dNeg : D → Option D
  | .int i => some (.int (-i))
  | _ => none
theorem us_neg : UnSim w (rU fun i => .int (-i)) dNeg := fun M H x d v Q hp hd dx e q => by
  unfold dNeg at e
  split at e
  · cases e
    cases dx.int
    exact ⟨_, rfl, q _ H .refl (.int _)⟩
  · cases e
def dLt : D → D → Option D := dB2 fun i j => decide (i < j)
def dLe : D → D → Option D := dB2 fun i j => decide (i ≤ j)
def dGt : D → D → Option D := dB2 fun i j => decide (j < i)
def dGe : D → D → Option D := dB2 fun i j => decide (j ≤ i)
theorem os_lt : OpSim w (rI0 fun i j => .bl (decide (i < j))) dLt := os_cmp
theorem os_le : OpSim w (rI0 fun i j => .bl (decide (i ≤ j))) dLe := os_cmp
theorem os_ge : OpSim w (rI0 fun i j => .bl (decide (j ≤ i))) dGe := os_cmp
/-! ### ==, is None -/
mutual
def D.py : D → Option PyData
  | .non => some .none
  | .bl b => some (.bool b)
  | .int i => some (.int i)
  | .lst ds => (D.pys ds).map .list
  | .tup ds => (D.pys ds).map .tuple
  | .str x => some (.str x)
  | .scr _ => none
  | .dic _ => none
  | .fn _ _ _ => none
  | .ins _ _ _ => none
  | .pot => none
  | .rep _ => none
  | .cls _ => none
  | .ty _ => none
def D.pys : List D → Option (List PyData)
  | [] => some []
  | d :: ds => match d.py, D.pys ds with
    | some p, some ps => some (p :: ps)
    | _, _ => none
end
mutual
theorem Den.dp {M : Av} {H : Hp} : ∀ (d : D) (v : V) (p : PyData), d.py = some p → Den w M H v d → Dp w.K H v p
  | .non, _, _, e, h => by unfold D.py at e; cases e; cases h; exact .non
  | .bl b, _, _, e, h => by unfold D.py at e; cases e; cases h; exact .bl b
  | .int i, _, _, e, h => by unfold D.py at e; cases e; cases h; exact .int i
  | .str i, _, _, e, h => by unfold D.py at e; cases e; cases h; exact .str i
  | .lst ds, _, _, e, h => by
    unfold D.py at e
    cases z : D.pys ds with
    | none => rw [z] at e; cases e
    | some ps =>
      rw [z] at e
      cases e
      cases h with | lst s r => exact .lst s.sq (Dens.dp ds _ ps z r)
  | .tup ds, _, _, e, h => by
    unfold D.py at e
    cases z : D.pys ds with
    | none => rw [z] at e; cases e
    | some ps =>
      rw [z] at e
      cases e
      cases h with | tup s r => exact .tup s.sq (Dens.dp ds _ ps z r)
  | .scr _, _, _, e, _ => by unfold D.py at e; cases e
  | .dic _, _, _, e, _ => by unfold D.py at e; cases e
  | .fn _ _ _, _, _, e, _ => by unfold D.py at e; cases e
  | .ins _ _ _, _, _, e, _ => by unfold D.py at e; cases e
  | .pot, _, _, e, _ => by unfold D.py at e; cases e
  | .rep _, _, _, e, _ => by unfold D.py at e; cases e
  | .cls _, _, _, e, _ => by unfold D.py at e; cases e
  | .ty _, _, _, e, _ => by unfold D.py at e; cases e
theorem Dens.dp {M : Av} {H : Hp} : ∀ (ds : List D) (vs : List V) (ps : List PyData), D.pys ds = some ps → Dens w M H vs ds → DpAll w.K H vs ps
  | [], _, _, e, h => by unfold D.pys at e; cases e; cases h; exact .nil
  | d :: ds, _, _, e, h => by
    unfold D.pys at e
    cases z1 : d.py with
    | none => rw [z1] at e; cases e
    | some p =>
      cases z2 : D.pys ds with
      | none => rw [z1, z2] at e; cases e
      | some ps =>
        rw [z1, z2] at e
        cases e
        cases h with | cons a b => exact .cons (Den.dp d _ p z1 a) (Dens.dp ds _ ps z2 b)
end
theorem DenT.dp {M : Av} {H : Hp} {d : D} {v : V} {p : PyData} (hp : ∀ a, w.pa a → M a) (e : d.py = some p) (h : DenT w M H v d) : Dp w.K H v p := Den.dp d v p e (h.low hp)
/-! like data, part by part (for texts of data) -/
mutual
def pySame : PyData → PyData → Bool
  | .none, .none => true
  | .bool a, .bool b => a == b
  | .int a, .int b => decide (a = b)
  | .str a, .str b => decide (a = b)
  | .list xs, .list ys => pySameAll xs ys
  | .tuple xs, .tuple ys => pySameAll xs ys
  | _, _ => false
def pySameAll : List PyData → List PyData → Bool
  | [], [] => true
  | x :: xs, y :: ys => pySame x y && pySameAll xs ys
  | _, _ => false
end
mutual
theorem pySame_eq : ∀ (x y : PyData), pySame x y = true → x = y
  | .none, .none, _ => rfl
  | .bool a, .bool b, h => by
    unfold pySame at h
    rw [eq_of_beq h]
  | .int a, .int b, h => by
    unfold pySame at h
    rw [of_decide_eq_true h]
  | .str a, .str b, h => by
    unfold pySame at h
    rw [of_decide_eq_true h]
  | .list xs, .list ys, h => by
    unfold pySame at h
    rw [pySameAll_eq xs ys h]
  | .tuple xs, .tuple ys, h => by
    unfold pySame at h
    rw [pySameAll_eq xs ys h]
  | .none, .bool _, h | .none, .int _, h | .none, .str _, h | .none, .list _, h | .none, .tuple _, h | .none, .dict _, h => by unfold pySame at h; cases h
  | .bool _, .none, h | .bool _, .int _, h | .bool _, .str _, h | .bool _, .list _, h | .bool _, .tuple _, h | .bool _, .dict _, h => by unfold pySame at h; cases h
  | .int _, .none, h | .int _, .bool _, h | .int _, .str _, h | .int _, .list _, h | .int _, .tuple _, h | .int _, .dict _, h => by unfold pySame at h; cases h
  | .str _, .none, h | .str _, .bool _, h | .str _, .int _, h | .str _, .list _, h | .str _, .tuple _, h | .str _, .dict _, h => by unfold pySame at h; cases h
  | .list _, .none, h | .list _, .bool _, h | .list _, .int _, h | .list _, .str _, h | .list _, .tuple _, h | .list _, .dict _, h => by unfold pySame at h; cases h
  | .tuple _, .none, h | .tuple _, .bool _, h | .tuple _, .int _, h | .tuple _, .str _, h | .tuple _, .list _, h | .tuple _, .dict _, h => by unfold pySame at h; cases h
  | .dict _, .none, h | .dict _, .bool _, h | .dict _, .int _, h | .dict _, .str _, h | .dict _, .list _, h | .dict _, .tuple _, h | .dict _, .dict _, h => by unfold pySame at h; cases h
theorem pySameAll_eq : ∀ (xs ys : List PyData), pySameAll xs ys = true → xs = ys
  | [], [], _ => rfl
  | x :: xs, y :: ys, h => by
    unfold pySameAll at h
    obtain ⟨h1, h2⟩ := Bool.and_eq_true_iff.mp h
    rw [pySame_eq x y h1, pySameAll_eq xs ys h2]
  | [], _ :: _, h | _ :: _, [], h => by unfold pySameAll at h; cases h
end
/-- == : of ints at once, of data by eqv, of two texts of data where the data are alike -/
def eqB : D → D → Option Bool
  | .int i, .int j => some (decide (i = j))
  | .rep p, .rep q => match pySame p q with
    | true => some true
    | false => none
  | x, y => match x.py, y.py with
    | some p, some q => match SeqAt.shaped p && SeqAt.shaped q with
      | true => some (PyData.eqv p q)
      | false => none
    | _, _ => none
def dEq (x y : D) : Option D := (eqB x y).map .bl
def dNe (x y : D) : Option D := (eqB x y).map fun c => .bl (!c)
theorem DenT.rep {M : Av} {H : Hp} {v : V} {p : PyData} (h : DenT w M H v (.rep p)) : v = .str p.shown := by
  rcases h with h | ⟨a, vs, es, rfl, z, _⟩
  · cases h; rfl
  · cases z
theorem eqB_cases {x y : D} {c : Bool} (e : eqB x y = some c) : (∃ i j, x = .int i ∧ y = .int j ∧ c = decide (i = j)) ∨ (∃ p, x = .rep p ∧ y = .rep p ∧ c = true) ∨
    ∃ p q, x.py = some p ∧ y.py = some q ∧ SeqAt.shaped p = true ∧ SeqAt.shaped q = true ∧ c = PyData.eqv p q := by
  unfold eqB at e
  split at e
  · cases e; exact .inl ⟨_, _, rfl, rfl, rfl⟩
  · split at e
    · rename_i h
      cases e
      cases pySame_eq _ _ h
      exact .inr (.inl ⟨_, rfl, rfl, rfl⟩)
    · cases e
  · split at e
    · rename_i p q e1 e2
      split at e
      · rename_i h
        cases e
        obtain ⟨h1, h2⟩ := Bool.and_eq_true_iff.mp h
        exact .inr (.inr ⟨p, q, e1, e2, h1, h2, rfl⟩)
      · cases e
    · cases e
def rEqU (K : PySem.W.Frag) : R2 := fun x y H Q => rEq x y H Q ∨ rEqD K x y H Q
def rNeU (K : PySem.W.Frag) : R2 := fun x y H Q => rNe x y H Q ∨ rNeD K x y H Q
theorem op_eqU (hu : X.A.units + 64 < cLine) : OpR X (compareOp .Eq) (rEqU X.K) := op_eq.or (op_eqD hu)
theorem op_neU (hu : X.A.units + 64 < cLine) : OpR X (compareOp .NotEq) (rNeU X.K) := op_ne.or (op_neD hu)
theorem dec_vint {i j : Int} : decide (V.int i = V.int j) = decide (i = j) := by
  by_cases h : i = j
  · subst h; rw [decide_eq_true rfl, decide_eq_true rfl]
  · rw [decide_eq_false h, decide_eq_false fun z => h (V.int.inj z)]
theorem os_eq : OpSim w (rEqU w.K) dEq := fun M H x y d v u Q hp hd dx dy e q => by
  unfold dEq at e
  cases z : eqB x y with
  | none => rw [z] at e; cases e
  | some c =>
    rw [z] at e
    cases e
    rcases eqB_cases z with ⟨i, j, rfl, rfl, rfl⟩ | ⟨p, rfl, rfl, rfl⟩ | ⟨p, p2, e1, e2, s1, s2, rfl⟩
    · cases dx.int; cases dy.int
      refine .inl ⟨rfl, ?_⟩
      rw [dec_vint]
      exact q _ H .refl (.bl _)
    · cases dx.rep; cases dy.rep
      refine .inl ⟨rfl, ?_⟩
      rw [decide_eq_true rfl]
      exact q _ H .refl (.bl _)
    · exact .inr ⟨p, p2, dx.dp hp e1, dy.dp hp e2, s1, s2, q _ H .refl (.bl _)⟩
theorem os_ne : OpSim w (rNeU w.K) dNe := fun M H x y d v u Q hp hd dx dy e q => by
  unfold dNe at e
  cases z : eqB x y with
  | none => rw [z] at e; cases e
  | some c =>
    rw [z] at e
    cases e
    rcases eqB_cases z with ⟨i, j, rfl, rfl, rfl⟩ | ⟨p, rfl, rfl, rfl⟩ | ⟨p, p2, e1, e2, s1, s2, rfl⟩
    · cases dx.int; cases dy.int
      refine .inl ⟨rfl, ?_⟩
      rw [dec_vint]
      exact q _ H .refl (.bl _)
    · cases dx.rep; cases dy.rep
      refine .inl ⟨rfl, ?_⟩
      rw [decide_eq_true rfl]
      exact q _ H .refl (.bl _)
    · exact .inr ⟨p, p2, dx.dp hp e1, dy.dp hp e2, s1, s2, q _ H .refl (.bl _)⟩
/-- x is None -/
def D.isNon : D → Bool
  | .non => true
  | _ => false
theorem DenT.isNon {M : Av} {H : Hp} {v : V} {d : D} (h : DenT w M H v d) : decide (v = .non) = d.isNon := by
  rcases h with h | ⟨a, vs, es, rfl, rfl, _⟩
  · cases h <;> rfl
  · rfl
def dIs : D → D → Option D
  | x, .non => some (.bl x.isNon)
  | _, _ => none
def dIsNot : D → D → Option D
  | x, .non => some (.bl (!x.isNon))
  | _, _ => none
theorem os_is : OpSim w (fun x y H Q => y = .non ∧ Q (.bl (decide (x = .non))) H) dIs := fun M H x y d v u Q hp hd dx dy e q => by
  unfold dIs at e
  split at e
  · cases e
    cases dy.non
    refine ⟨rfl, ?_⟩
    rw [dx.isNon]
    exact q _ H .refl (.bl _)
  · cases e
theorem os_isNot : OpSim w (fun x y H Q => y = .non ∧ Q (.bl (!decide (x = .non))) H) dIsNot := fun M H x y d v u Q hp hd dx dy e q => by
  unfold dIsNot at e
  split at e
  · cases e
    cases dy.non
    refine ⟨rfl, ?_⟩
    rw [dx.isNon]
    exact q _ H .refl (.bl _)
  · cases e
/-! ### x in xs: flat things -/
def D.flat : D → Option V
  | .non => some .non
  | .bl b => some (.bl b)
  | .int i => some (.int i)
  | .str x => some (.str x)
  | _ => none
def flats : List D → Option (List V)
  | [] => some []
  | d :: ds => match d.flat, flats ds with
    | some v, some vs => some (v :: vs)
    | _, _ => none
def D.items : D → Option (List D)
  | .lst ds => some ds
  | .tup ds => some ds
  | _ => none
def inB (x y : D) : Option Bool := match x.flat, y.items with
  | some v, some ds => (flats ds).map (inV v)
  | _, _ => none
def dIn (x y : D) : Option D := (inB x y).map .bl
def dNotIn (x y : D) : Option D := (inB x y).map fun c => .bl (!c)
end
end Pw
set_option Elab.async false
set_option linter.all false
set_option maxRecDepth 100000
set_option maxHeartbeats 1000000
/-! Pw3: statements. -/
namespace Pw
open PySem PySem.Spec PyProof.Rows L2
/-- what a statement ends in -/
inductive Rs where
  | nx (ρ : Env)
  | rt (d : D)
  | bk (ρ : Env)
  | ct (ρ : Env)
/-- how a heap and what may change go on -/
structure Evo (M : Av) (H : Hp) (M' : Av) (H' : Hp) : Prop where
  lat : Lat M H H'
  new : ∀ a, M' a → M a ∨ H a = none
theorem Evo.refl {M : Av} {H : Hp} : Evo M H M H := ⟨fun _ _ _ h => h, fun _ h => .inl h⟩
theorem Evo.trans {M M1 M2 : Av} {H H1 H2 : Hp} (a : Evo M H M1 H1) (b : Evo M1 H1 M2 H2) : Evo M H M2 H2 := by
  refine ⟨fun x o n e => ?_, fun x z => ?_⟩
  · refine b.lat x o (fun z => ?_) (a.lat x o n e)
    rcases a.new x z with q | q
    · exact n q
    · rw [e] at q; cases q
  · rcases b.new x z with q | q
    · exact a.new x q
    · cases e : H x with
      | none => exact .inr rfl
      | some o =>
        by_cases n : M x
        · exact .inl n
        · rw [a.lat x o n e] at q; cases q
theorem Evo.step {w : Wd} {M : Av} {H H' : Hp} (hp : ∀ a, w.pa a → M a) (k : Step w H H') : Evo M H M H' := ⟨k.lat.mono hp, fun _ h => .inl h⟩
mutual
theorem Den.carry {w : Wd} {M M' : Av} {H H' : Hp} (k : Evo M H M' H') : ∀ (d : D) (v : V), Den w M H v d → Den w M' H' v d
  | .non, _, h => by cases h; exact .non
  | .bl b, _, h => by cases h; exact .bl b
  | .int i, _, h => by cases h; exact .int i
  | .str x, _, h => by cases h; exact .str x
  | .pot, _, h => by cases h with | pot e => exact .pot e
  | .rep p, _, h => by cases h; exact .rep p
  | .cls p, _, h => by cases h; exact .cls p
  | .ty p, _, h => by cases h; exact .ty p
  | .scr p, _, h => by
    cases h with
    | scr e =>
      refine .scr (e.elim (fun e => .inl ⟨fun z => ?_, Rd.lat k.lat e.1 e.2⟩) .inr)
      rcases k.new _ z with q | q
      · exact e.1 q
      · rcases e.2 with r | ⟨o, r⟩ <;> (rw [q] at r; cases r)
  | .fn _ _ _, _, h => by cases h with | fn e => exact .fn e
  | .dic p, _, h => by
    cases h with
    | dic n e =>
      refine .dic (fun z => ?_) (Rd.lat k.lat n e)
      rcases k.new _ z with q | q
      · exact n q
      · rcases e with e | ⟨o, e⟩ <;> (rw [e] at q; cases q)
  | .lst ds, _, h => by
    cases h with
    | lst s r =>
      refine .lst ⟨fun z => ?_, k.lat _ _ s.1 s.2⟩ (Dens.carry k ds _ r)
      rcases k.new _ z with q | q
      · exact s.1 q
      · rw [s.2] at q; cases q
  | .tup ds, _, h => by
    cases h with
    | tup s r =>
      refine .tup (s.elim (fun s => .inl ⟨fun z => ?_, Rd.lat k.lat s.1 s.2⟩) .inr) (Dens.carry k ds _ r)
      rcases k.new _ z with q | q
      · exact s.1 q
      · rcases s.2 with r | ⟨o, r⟩ <;> (rw [q] at r; cases r)
  | .ins c ns ds, _, h => by
    cases h with
    | ins n e l r it =>
      refine .ins (fun z => ?_) (k.lat _ _ n e) l (Dens.carry k ds _ r) it
      rcases k.new _ z with q | q
      · exact n q
      · rw [e] at q; cases q
theorem Dens.carry {w : Wd} {M M' : Av} {H H' : Hp} (k : Evo M H M' H') : ∀ (ds : List D) (vs : List V), Dens w M H vs ds → Dens w M' H' vs ds
  | [], _, h => by cases h; exact .nil
  | d :: ds, _, h => by cases h with | cons a b => exact .cons (Den.carry k d _ a) (Dens.carry k ds _ b)
end
/-- what is handed back: κ: a new list; else any datum -/
def RetOk (w : Wd) (κ : Bool) (A : Av) (H0 H' : Hp) (v : V) (d : D) : Prop := match κ with
  | false => Den w A H' v d
  | true => (d = .non ∧ v = .non) ∨ ∃ p vs ds, v = .ref p ∧ d = .lst ds ∧ H0 p = none ∧ H' p = some (.lst vs) ∧ Dens w (A.or p) H' vs ds
/-- what is wanted behind a statement -/
def Post (w : Wd) (κ : Bool) (O' Ob : List Nat) (A : Av) (H0 : Hp) (M : Av) (H : Hp) (E : Ends) : Rs → Prop
  | .nx ρ => ∀ M' σ' H', Rel w O' A H0 M' σ' H' ρ → Evo M H M' H' → E.nx σ' H'
  | .rt d => ∀ v H', Step w H0 H' → RetOk w κ A H0 H' v d → E.rt v H'
  | .bk ρ => ∀ M' σ' H', Rel w Ob A H0 M' σ' H' ρ → Evo M H M' H' → E.bk σ' H'
  | .ct ρ => ∀ M' σ' H', Rel w Ob A H0 M' σ' H' ρ → Evo M H M' H' → E.ct σ' H'
theorem Post.go {w : Wd} {κ : Bool} {O' Ob : List Nat} {A : Av} {H0 : Hp} {M M1 : Av} {H H1 : Hp} {E : Ends} (k : Evo M H M1 H1) : ∀ {r : Rs}, Post w κ O' Ob A H0 M H E r → Post w κ O' Ob A H0 M1 H1 E r
  | .nx _, h => fun M' σ' H' R k2 => h M' σ' H' R (k.trans k2)
  | .rt _, h => h
  | .bk _, h => fun M' σ' H' R k2 => h M' σ' H' R (k.trans k2)
  | .ct _, h => fun M' σ' H' R k2 => h M' σ' H' R (k.trans k2)
section
variable {m : Type → Type} [Md m]
def Ssm (m : Type → Type) [Md m] (w : Wd) (κ : Bool) (Ob O O' : List Nat) (ts : TS) (fs : Env → m Rs) : Prop := ∀ (A : Av) (H0 : Hp) (M : Av) (σ : L2.St) (H : Hp) (ρ : Env) (E : Ends), Rel w O A H0 M σ H ρ →
  Md.wp (fs ρ) (Post w κ O' Ob A H0 M H E) → ts E σ H
variable {w : Wd} {κ : Bool} {Ob O O1 O2 O' : List Nat} {b : Bool} {ts us : TS} {fs gs : Env → m Rs} {te : TE} {fe : Env → m D} {tt : TT} {ft : Env → m Bool}
def sNext : Env → m Rs := fun ρ => Md.ret (.nx ρ)
def sSeq (fs gs : Env → m Rs) : Env → m Rs := fun ρ => Md.bind (fs ρ) fun r => match r with
  | .nx ρ' => gs ρ'
  | r => Md.ret r
theorem ss_next : Ssm m w κ Ob O O tNext sNext := fun A H0 M σ H ρ E R q => Md.wp_ret q M σ H R .refl
theorem ss_seq (h1 : Ssm m w κ Ob O O1 ts fs) (h2 : Ssm m w κ Ob O1 O2 us gs) : Ssm m w κ Ob O O2 (tSeq ts us) (sSeq fs gs) := fun A H0 M σ H ρ E R q => by
  refine h1 A H0 M σ H ρ { E with nx := us E } R (Md.wp_mono (fun r q1 => ?_) (Md.wp_bind q))
  cases r with
  | nx ρ' => exact fun M' σ' H' R' k => h2 A H0 M' σ' H' ρ' E R' (Md.wp_mono (fun r z => Post.go k z) q1)
  | rt d =>
    have z := Md.wp_ret (show Md.wp (Md.ret (Rs.rt d)) (Post w κ O2 Ob A H0 M H E) from q1)
    exact z
  | bk d =>
    have z := Md.wp_ret (show Md.wp (Md.ret (Rs.bk d)) (Post w κ O2 Ob A H0 M H E) from q1)
    exact z
  | ct d =>
    have z := Md.wp_ret (show Md.wp (Md.ret (Rs.ct d)) (Post w κ O2 Ob A H0 M H E) from q1)
    exact z
/-- fewer names of the def's own -/
theorem Rel.less {A : Av} {H0 : Hp} {M : Av} {σ : L2.St} {H : Hp} {ρ : Env} (r : Rel w O A H0 M σ H ρ) (i : Nat) : ∃ M', (∀ a, M' a → M a) ∧ Rel w (O.filter (· ≠ i)) A H0 M' σ H ρ := by
  by_cases hi : i ∈ O
  · cases hd : gG ρ i with
    | none =>
      refine ⟨M, fun _ h => h, r.len, r.step, r.pot, r.av, r.new, r.isL, fun j d e n => ?_, fun j d e n => ?_, fun j l d e p h1 h2 n1 n2 h3 h4 => ?_⟩
      · have nj : j ∉ O := fun z => n (List.mem_filter.mpr ⟨z, decide_eq_true fun q => by subst q; unfold gG at hd; rw [e] at hd; cases hd⟩)
        exact r.sh j d e nj
      · exact r.ow j d e (List.mem_filter.mp n).1
      · exact r.sep j l d e p h1 h2 (List.mem_filter.mp n1).1 (List.mem_filter.mp n2).1 h3 h4
    | some d0 =>
      rcases r.ow i d0 (gG_eq hd) hi with ⟨rfl, e2⟩ | ⟨p, vs, ds, rfl, e2, mp, np, e3, hr⟩
      · refine ⟨M, fun _ h => h, r.len, r.step, r.pot, r.av, r.new, r.isL, fun j d e n => ?_, fun j d e n => ?_, fun j l d e p h1 h2 n1 n2 h3 h4 => ?_⟩
        · by_cases q : j = i
          · subst q
            rw [gG_eq hd] at e
            cases e
            exact ⟨_, e2, .non⟩
          · exact r.sh j d e fun z => n (List.mem_filter.mpr ⟨z, decide_eq_true q⟩)
        · exact r.ow j d e (List.mem_filter.mp n).1
        · exact r.sep j l d e p h1 h2 (List.mem_filter.mp n1).1 (List.mem_filter.mp n2).1 h3 h4
      have sub : ∀ a, M a ∧ a ≠ p → M a := fun a z => z.1
      refine ⟨fun a => M a ∧ a ≠ p, sub, r.len, r.step, r.pot, fun a z => ⟨r.av a z, fun q => np (q ▸ z)⟩, fun a z => r.new a z.1, fun a z => r.isL a z.1, fun j d e n => ?_, fun j d e n => ?_, fun j l d e p h1 h2 n1 n2 h3 h4 => ?_⟩
      · by_cases q : j = i
        · subst q
          rw [gG_eq hd] at e
          cases e
          exact ⟨_, e2, .lst ⟨fun z => z.2 rfl, e3⟩ (Dens.weak sub _ _ hr)⟩
        · have nj : j ∉ O := fun z => n (List.mem_filter.mpr ⟨z, decide_eq_true q⟩)
          obtain ⟨v, e1, h⟩ := r.sh j d e nj
          exact ⟨v, e1, Den.weak sub _ _ h⟩
      · obtain ⟨nj, nq⟩ := List.mem_filter.mp n
        rcases r.ow j d e nj with z | ⟨p', vs', ds', z1, z2, z3, z4, z5, z6⟩
        · exact .inl z
        refine .inr ⟨p', vs', ds', z1, z2, ⟨z3, fun q => ?_⟩, z4, z5, Dens.weak sub _ _ z6⟩
        subst q
        exact of_decide_eq_true nq (r.sep j i d _ _ e (gG_eq hd) nj hi z2 e2)
      · exact r.sep j l d e p h1 h2 (List.mem_filter.mp n1).1 (List.mem_filter.mp n2).1 h3 h4
  · have ef : O.filter (· ≠ i) = O := List.filter_eq_self.mpr fun a ha => decide_eq_true fun q => hi (q ▸ ha)
    exact ⟨M, fun _ h => h, by rw [ef]; exact r⟩
def without : List Nat → List Nat → List Nat
  | O, [] => O
  | O, i :: is => without (O.filter (· ≠ i)) is
theorem Rel.lesser {A : Av} {H0 : Hp} {σ : L2.St} {H : Hp} {ρ : Env} : ∀ (is : List Nat) {O : List Nat} {M : Av}, Rel w O A H0 M σ H ρ → ∃ M', (∀ a, M' a → M a) ∧ Rel w (without O is) A H0 M' σ H ρ
  | [], _, M, r => ⟨M, fun _ h => h, r⟩
  | i :: is, _, _, r => by
    obtain ⟨M1, k1, r1⟩ := r.less i
    obtain ⟨M2, k2, r2⟩ := Rel.lesser is r1
    exact ⟨M2, fun a z => k1 a (k2 a z), r2⟩
/-- from here on the lists of the names is are no longer the def's own to change -/
theorem ss_free (is : List Nat) (h : Ssm m w κ Ob O1 O2 ts fs) (e : without O is = O1 := by rfl) : Ssm m w κ Ob O O2 ts fs := fun A H0 M σ H ρ E R q => by
  obtain ⟨M', k, r⟩ := R.lesser is
  rw [e] at r
  exact h A H0 M' σ H ρ E r (Md.wp_mono (fun r z => Post.go ⟨fun a o n e => e, fun a z => .inl (k a z)⟩ z) q)
def sDrop (fe : Env → m D) : Env → m Rs := fun ρ => Md.bind (fe ρ) fun _ => Md.ret (.nx ρ)
theorem ss_drop (h : Sim m w O b te fe) : Ssm m w κ Ob O O (tDrop te) (sDrop fe) := fun A H0 M σ H ρ E R q => by
  refine h A H0 M σ H ρ _ R (Md.wp_mono (fun x q1 v H1 k1 d1 => ?_) (Md.wp_bind q))
  exact Md.wp_ret q1 M σ H1 (R.go k1) (.step R.pm k1)
def sIf (ft : Env → m Bool) (fs gs : Env → m Rs) : Env → m Rs := fun ρ => Md.bind (ft ρ) fun c => match c with
  | true => fs ρ
  | false => gs ρ
theorem ss_if (h : Tst m w O tt ft) (h1 : Ssm m w κ Ob O O' ts fs) (h2 : Ssm m w κ Ob O O' us gs) : Ssm m w κ Ob O O' (tIfS tt ts us) (sIf ft fs gs) := fun A H0 M σ H ρ E R q => by
  refine h A H0 M σ H ρ _ R (Md.wp_mono (fun c q1 H1 k1 => ?_) (Md.wp_bind q))
  cases c with
  | true => exact h1 A H0 M σ H1 ρ E (R.go k1) (Md.wp_mono (fun r z => Post.go (.step R.pm k1) z) q1)
  | false => exact h2 A H0 M σ H1 ρ E (R.go k1) (Md.wp_mono (fun r z => Post.go (.step R.pm k1) z) q1)
def sNone : Env → m Rs := fun _ => Md.lift none
theorem ss_never : Ssm m w κ Ob O O' tNever sNone := fun A H0 M σ H ρ E R q => by
  obtain ⟨a, e, _⟩ := Md.wp_lift q
  cases e
/-! ### return -/
def sRet (fe : Env → m D) : Env → m Rs := fun ρ => Md.bind (fe ρ) fun d => Md.ret (.rt d)
theorem ss_ret (h : Sim m w O true te fe) : Ssm m w false Ob O O' (tRet te) (sRet fe) := fun A H0 M σ H ρ E R q => by
  refine h A H0 M σ H ρ _ R (Md.wp_mono (fun x q1 v H1 k1 d1 => ?_) (Md.wp_bind q))
  exact Md.wp_ret q1 v H1 (R.step.trans k1) (Den.weak R.av _ _ d1)
def sRetL (fr : Env → m (List D)) : Env → m Rs := fun ρ => Md.bind (fr ρ) fun ds => Md.ret (.rt (.lst ds))
theorem ss_retL {fr : Env → m (List D)} (h : SimL m w O te fr) : Ssm m w true Ob O O' (tRet te) (sRetL fr) := fun A H0 M σ H ρ E R q => by
  refine h A H0 M σ H ρ _ R (Md.wp_mono (fun ds q1 p vs H1 n k1 e1 h1 => ?_) (Md.wp_bind q))
  exact Md.wp_ret q1 _ H1 (R.step.trans k1) (.inr ⟨p, vs, ds, rfl, rfl, R.free0 n, e1, Dens.weak (fun a z => z.imp (R.av a) fun z => z) _ _ h1⟩)
/-- the list of a name of the def's own -/
theorem ss_retOwn (i : Nat) (hi : i ∈ O := by decide) : Ssm m w true Ob O O' (tRet (tVar i)) (sRet (pVar i)) := fun A H0 M σ H ρ E R q => by
  obtain ⟨d, e, q⟩ := Md.wp_lift (Md.wp_bind q)
  rcases R.ow i d (gG_eq e) hi with ⟨rfl, e2⟩ | ⟨p, vs, ds, rfl, e2, mp, np, e3, h⟩
  · exact ⟨_, e2, Md.wp_ret q _ H R.step (.inl ⟨rfl, rfl⟩)⟩
  refine ⟨_, e2, Md.wp_ret q _ H R.step (.inr ⟨p, vs, ds, rfl, rfl, ?_, e3, ?_⟩)⟩
  · exact (R.new p mp).elim (fun z => (np z).elim) fun z => z
  · exact Dens.weak (fun a z => z.elim (R.av a) fun z => z ▸ mp) _ _ h
def sRetN : Env → m Rs := fun _ => Md.ret (.rt .non)
def sBk : Env → m Rs := fun ρ => Md.ret (.bk ρ)
def sCt : Env → m Rs := fun ρ => Md.ret (.ct ρ)
/-! ### names stored -/
theorem get_set_ne {α : Type} {l : List (Option α)} {i j : Nat} {x : Option α} {d : α} (h : (l.set i x)[j]? = some (some d)) (n : j ≠ i) : l[j]? = some (some d) := by
  rwa [List.getElem?_set_ne (Ne.symm n)] at h
theorem get_set_self {α : Type} {l : List (Option α)} {i : Nat} {x : Option α} {d : α} (h : (l.set i x)[i]? = some (some d)) : x = some d ∧ i < l.length := by
  have hi : i < l.length := by
    have := (List.getElem?_eq_some_iff.mp h).1
    rwa [List.length_set] at this
  rw [List.getElem?_set_self hi] at h
  exact ⟨Option.some.inj h, hi⟩
theorem Rel.set {A : Av} {H0 : Hp} {M : Av} {σ : L2.St} {H : Hp} {ρ : Env} (r : Rel w O A H0 M σ H ρ) (i : Nat) (hi : i ∉ O) {v : V} {d : D} (h : Den w M H v d) : Rel w O A H0 M (σ.set i (some v)) H (ρ.set i (some d)) := by
  refine ⟨by rw [List.length_set, List.length_set, r.len], r.step, r.pot, r.av, r.new, r.isL, fun j d' e n => ?_, fun j d' e n => ?_, fun j l d1 d2 p h1 h2 n1 n2 h3 h4 => ?_⟩
  · by_cases q : j = i
    · subst q
      obtain ⟨e1, hl⟩ := get_set_self e
      cases e1
      exact ⟨v, by rw [List.getElem?_set_self (by rw [← r.len]; exact hl)], h⟩
    · obtain ⟨v', e1, h'⟩ := r.sh j d' (get_set_ne e q) n
      exact ⟨v', by rw [List.getElem?_set_ne (Ne.symm q)]; exact e1, h'⟩
  · have q : j ≠ i := fun q => hi (q ▸ n)
    rw [List.getElem?_set_ne (Ne.symm q)]
    exact r.ow j d' (get_set_ne e q) n
  · have q1 : j ≠ i := fun q => hi (q ▸ n1)
    have q2 : l ≠ i := fun q => hi (q ▸ n2)
    rw [List.getElem?_set_ne (Ne.symm q1)] at h1 h3
    rw [List.getElem?_set_ne (Ne.symm q2)] at h2 h4
    exact r.sep j l d1 d2 p h1 h2 n1 n2 h3 h4
/-- a new list of the def's own may change -/
theorem Rel.add {A : Av} {H0 : Hp} {M : Av} {σ : L2.St} {H H1 : Hp} {ρ : Env} {p : Addr} {vs : List V} (r : Rel w O A H0 M σ H ρ) (n : H p = none) (k : Step w H H1) (e : H1 p = some (.lst vs)) : Rel w O A H0 (M.or p) σ H1 ρ := by
  have r1 := r.go k
  have np : ¬ M p := r.fresh n
  have cr : ∀ (d : D) (v : V), Den w M H v d → Den w (M.or p) H1 v d := fun d v h => Den.lat (M := M.or p) (fun a o na ea => k.lat a o (fun z => na (.inl (r.pm a z))) ea) _ _ (Den.more n _ _ h)
  have crs : ∀ (ds : List D) (vs : List V), Dens w M H vs ds → Dens w (M.or p) H1 vs ds := fun d v h => Dens.lat (M := M.or p) (fun a o na ea => k.lat a o (fun z => na (.inl (r.pm a z))) ea) _ _ (Dens.more n _ _ h)
  refine ⟨r.len, r1.step, r.pot, fun a z => .inl (r.av a z), fun a z => ?_, fun a z => ?_, fun i d e1 ni => ?_, fun i d e1 ni => ?_, r.sep⟩
  · rcases z with z | rfl
    · exact r.new a z
    · exact .inr (r.free0 n)
  · rcases z with z | rfl
    · exact r1.isL a z
    · exact .inl ⟨_, e⟩
  · obtain ⟨v, e2, h⟩ := r.sh i d e1 ni
    exact ⟨v, e2, cr _ _ h⟩
  · rcases r.ow i d e1 ni with z | ⟨q, us, ds, z1, z2, z3, z4, z5, z6⟩
    · exact .inl z
    exact .inr ⟨q, us, ds, z1, z2, .inl z3, z4, k.lat _ _ (fun z => z4 (r.pot _ z)) z5, crs _ _ z6⟩
theorem Rel.setOwn {A : Av} {H0 : Hp} {M : Av} {σ : L2.St} {H : Hp} {ρ : Env} (r : Rel w O A H0 M σ H ρ) (i : Nat) (hi : i ∈ O) {p : Addr} {vs : List V} {ds : List D} (mp : M p) (np : ¬ A p) (e : H p = some (.lst vs)) (h : Dens w M H vs ds)
    (hn : ∀ j d, j ∈ O → j ≠ i → ρ[j]? = some (some d) → σ[j]? = some (some (.ref p)) → False) : Rel w O A H0 M (σ.set i (some (.ref p))) H (ρ.set i (some (.lst ds))) := by
  refine ⟨by rw [List.length_set, List.length_set, r.len], r.step, r.pot, r.av, r.new, r.isL, fun j d' e' n => ?_, fun j d' e' n => ?_, fun j l d1 d2 q h1 h2 n1 n2 h3 h4 => ?_⟩
  · have q : j ≠ i := fun q => n (q ▸ hi)
    obtain ⟨v', e1, h'⟩ := r.sh j d' (get_set_ne e' q) n
    exact ⟨v', by rw [List.getElem?_set_ne (Ne.symm q)]; exact e1, h'⟩
  · by_cases q : j = i
    · subst q
      obtain ⟨e1, hl⟩ := get_set_self e'
      cases e1
      exact .inr ⟨p, vs, ds, rfl, by rw [List.getElem?_set_self (by rw [← r.len]; exact hl)], mp, np, e, h⟩
    · rw [List.getElem?_set_ne (Ne.symm q)]
      exact r.ow j d' (get_set_ne e' q) n
  · by_cases qj : j = i
    · by_cases ql : l = i
      · rw [qj, ql]
      · subst qj
        rw [List.getElem?_set_ne (Ne.symm ql)] at h2 h4
        have hl : j < σ.length := by rw [← r.len]; exact (get_set_self h1).2
        rw [List.getElem?_set_self hl] at h3
        cases h3
        exact (hn l d2 n2 ql h2 h4).elim
    · by_cases ql : l = i
      · subst ql
        rw [List.getElem?_set_ne (Ne.symm qj)] at h1 h3
        have hl : l < σ.length := by rw [← r.len]; exact (get_set_self h2).2
        rw [List.getElem?_set_self hl] at h4
        cases h4
        exact (hn j d1 n1 qj h1 h3).elim
      · rw [List.getElem?_set_ne (Ne.symm qj)] at h1 h3
        rw [List.getElem?_set_ne (Ne.symm ql)] at h2 h4
        exact r.sep j l d1 d2 q h1 h2 n1 n2 h3 h4
theorem Rel.setNon {A : Av} {H0 : Hp} {M : Av} {σ : L2.St} {H : Hp} {ρ : Env} (r : Rel w O A H0 M σ H ρ) (i : Nat) (hi : i ∈ O) : Rel w O A H0 M (σ.set i (some .non)) H (ρ.set i (some .non)) := by
  refine ⟨by rw [List.length_set, List.length_set, r.len], r.step, r.pot, r.av, r.new, r.isL, fun j d' e' n => ?_, fun j d' e' n => ?_, fun j l d1 d2 q h1 h2 n1 n2 h3 h4 => ?_⟩
  · have q : j ≠ i := fun q => n (q ▸ hi)
    obtain ⟨v', e1, h'⟩ := r.sh j d' (get_set_ne e' q) n
    exact ⟨v', by rw [List.getElem?_set_ne (Ne.symm q)]; exact e1, h'⟩
  · by_cases q : j = i
    · subst q
      obtain ⟨e1, hl⟩ := get_set_self e'
      cases e1
      exact .inl ⟨rfl, by rw [List.getElem?_set_self (by rw [← r.len]; exact hl)]⟩
    · rw [List.getElem?_set_ne (Ne.symm q)]
      exact r.ow j d' (get_set_ne e' q) n
  · by_cases qj : j = i
    · subst qj
      have hl : j < σ.length := by rw [← r.len]; exact (get_set_self h1).2
      rw [List.getElem?_set_self hl] at h3
      cases h3
    · by_cases ql : l = i
      · subst ql
        have hl : l < σ.length := by rw [← r.len]; exact (get_set_self h2).2
        rw [List.getElem?_set_self hl] at h4
        cases h4
      · rw [List.getElem?_set_ne (Ne.symm qj)] at h1 h3
        rw [List.getElem?_set_ne (Ne.symm ql)] at h2 h4
        exact r.sep j l d1 d2 q h1 h2 n1 n2 h3 h4
def sSet (i : Nat) (fe : Env → m D) : Env → m Rs := fun ρ => Md.bind (fe ρ) fun d => Md.ret (.nx (ρ.set i (some d)))
def sSetL (i : Nat) (fr : Env → m (List D)) : Env → m Rs := fun ρ => Md.bind (fr ρ) fun ds => Md.ret (.nx (ρ.set i (some (.lst ds))))
theorem ss_set (i : Nat) (h : Sim m w O true te fe) (hi : i ∉ O := by decide) : Ssm m w κ Ob O O (tAsg te (gName i)) (sSet i fe) := fun A H0 M σ H ρ E R q => by
  refine h A H0 M σ H ρ _ R (Md.wp_mono (fun x q1 v H1 k1 d1 => ?_) (Md.wp_bind q))
  exact Md.wp_ret q1 M _ H1 ((R.go k1).set i hi d1) (.step R.pm k1)
theorem Evo.add {M : Av} {H H1 : Hp} {p : Addr} (hp : ∀ a, w.pa a → M a) (n : H p = none) (k : Step w H H1) : Evo M H (M.or p) H1 := ⟨k.lat.mono hp, fun a z => Or.elim z .inl fun e => .inr (by rw [e]; exact n)⟩
theorem ss_setL (i : Nat) {fr : Env → m (List D)} (h : SimL m w O te fr) (hi : i ∈ O := by decide) : Ssm m w κ Ob O O (tAsg te (gName i)) (sSetL i fr) := fun A H0 M σ H ρ E R q => by
  refine h A H0 M σ H ρ _ R (Md.wp_mono (fun ds q1 p vs H1 n k1 e1 h1 => ?_) (Md.wp_bind q))
  have np : ¬ M p := R.fresh n
  refine Md.wp_ret q1 (M.or p) _ H1 ((R.add n k1 e1).setOwn i hi (.inr rfl) (fun z => np (R.av _ z)) e1 h1 fun j d nj qj e2 e3 => ?_) (.add R.pm n k1)
  obtain ⟨p', vs', ds', z1, z2, z3, _⟩ := R.owr e2 nj e3
  rw [e3] at z2
  cases z2
  exact np z3
/-! ### several names at once -/
def DensK (w : Wd) (Mf : Av) (Hf : Hp) : Av → List Bool → List V → List D → Prop
  | _, [], [], [] => True
  | M, false :: ks, v :: vs, d :: ds => Den w Mf Hf v d ∧ DensK w Mf Hf M ks vs ds
  | M, true :: ks, v :: vs, d :: ds => (v = .non ∧ d = .non ∧ DensK w Mf Hf M ks vs ds) ∨ ∃ p us es, v = .ref p ∧ d = .lst es ∧ ¬ M p ∧ Mf p ∧ Hf p = some (.lst us) ∧ Dens w Mf Hf us es ∧ DensK w Mf Hf (M.or p) ks vs ds
  | _, _, _, _ => False
/-- arguments, some of them new lists -/
def ArgK (m : Type → Type) [Md m] (w : Wd) (O : List Nat) (ks : List Bool) (t : TA) (f : Env → m (List D)) : Prop := ∀ (A : Av) (H0 : Hp) (M : Av) (σ : L2.St) (H : Hp) (ρ : Env) (Q : List V → Hp → Prop), Rel w O A H0 M σ H ρ →
  Md.wp (f ρ) (fun ds => ∀ vs M' H', Rel w O A H0 M' σ H' ρ → Evo M H M' H' → (∀ a, M a → M' a) → Step w H H' → DensK w M' H' M ks vs ds → Q vs H') → t σ H Q
theorem ak_nil : ArgK m w O [] tNil aNil := fun A H0 M σ H ρ Q R q => Md.wp_ret q [] M H R .refl (fun _ z => z) .refl trivial
variable {ta : TE} {fa : Env → m D} {tr : TA} {fr : Env → m (List D)} {ks : List Bool}
theorem ak_sh (ha : Sim m w O true ta fa) (hr : ArgK m w O ks tr fr) : ArgK m w O (false :: ks) (tCons ta tr) (aCons fa fr) := fun A H0 M σ H ρ Q R q => by
  refine ha A H0 M σ H ρ _ R (Md.wp_mono (fun x q1 v H1 k1 d1 => ?_) (Md.wp_bind q))
  refine hr A H0 M σ H1 ρ _ (R.go k1) (Md.wp_mono (fun xs q2 vs M2 H2 R2 k2 l2 s2 ds => ?_) (Md.wp_bind q1))
  exact Md.wp_ret q2 (v :: vs) M2 H2 R2 ((Evo.step R.pm k1).trans k2) l2 (k1.trans s2) ⟨Den.carry k2 _ _ d1, ds⟩
def aConsL (fa fr : Env → m (List D)) : Env → m (List D) := fun ρ => Md.bind (fa ρ) fun x => Md.bind (fr ρ) fun xs => Md.ret (.lst x :: xs)
theorem ak_ow {fl : Env → m (List D)} (ha : SimL m w O ta fl) (hr : ArgK m w O ks tr fr) : ArgK m w O (true :: ks) (tCons ta tr) (aConsL fl fr) := fun A H0 M σ H ρ Q R q => by
  refine ha A H0 M σ H ρ _ R (Md.wp_mono (fun x q1 p us H1 n k1 e1 d1 => ?_) (Md.wp_bind q))
  have R1 := R.add n k1 e1
  refine hr A H0 (M.or p) σ H1 ρ _ R1 (Md.wp_mono (fun xs q2 vs M2 H2 R2 k2 l2 s2 ds => ?_) (Md.wp_bind q1))
  have np : ¬ M p := R.fresh n
  refine Md.wp_ret q2 (.ref p :: vs) M2 H2 R2 ((Evo.add R.pm n k1).trans k2) (fun a z => l2 a (.inl z)) (k1.trans s2) (.inr ⟨p, us, x, rfl, rfl, np, l2 p (.inr rfl), ?_, Dens.carry k2 _ _ d1, ds⟩)
  exact s2.lat p _ (fun z => np (R.pm _ z)) e1
theorem DensK.step {Mf : Av} {Hf Hg : Hp} (hp : ∀ a, w.pa a → Mf a) (hu : ∀ a, w.pa a → Mf a) (k : Step w Hf Hg) : ∀ {M : Av} {ks : List Bool} {vs : List V} {ds : List D}, (∀ a, w.pa a → M a) → DensK w Mf Hf M ks vs ds → DensK w Mf Hg M ks vs ds
  | _, [], [], [], _, _ => trivial
  | M, false :: ks, v :: vs, d :: ds, z, h => ⟨Den.lat (k.lat.mono hp) _ _ h.1, DensK.step hp hu k z h.2⟩
  | M, true :: ks, v :: vs, d :: ds, z, h => by
    rcases h with ⟨e1, e2, h2⟩ | ⟨p, us, es, e1, e2, n, mp, e3, h1, h2⟩
    · exact .inl ⟨e1, e2, DensK.step hp hu k z h2⟩
    · exact .inr ⟨p, us, es, e1, e2, n, mp, k.lat _ _ (fun q => n (z _ q)) e3, Dens.lat (k.lat.mono hp) _ _ h1, DensK.step hp hu k (fun a q => .inl (z a q)) h2⟩
def setMany {α : Type} : List (Option α) → List Nat → List α → List (Option α)
  | l, i :: is, x :: xs => setMany (l.set i (some x)) is xs
  | l, _, _ => l
def kinds (O : List Nat) (is : List Nat) : List Bool := is.map fun i => decide (i ∈ O)
theorem DensK.length {Mf : Av} {Hf : Hp} : ∀ {M : Av} {ks : List Bool} {vs : List V} {ds : List D}, DensK w Mf Hf M ks vs ds → vs.length = ks.length ∧ ds.length = ks.length
  | _, [], [], [], _ => ⟨rfl, rfl⟩
  | M, false :: ks, v :: vs, d :: ds, h => ⟨congrArg (· + 1) (DensK.length h.2).1, congrArg (· + 1) (DensK.length h.2).2⟩
  | M, true :: ks, v :: vs, d :: ds, h => by
    rcases h with ⟨e1, e2, h2⟩ | ⟨p, us, es, e1, e2, n, mp, e3, h1, h2⟩
    · exact ⟨congrArg (· + 1) (DensK.length h2).1, congrArg (· + 1) (DensK.length h2).2⟩
    · exact ⟨congrArg (· + 1) (DensK.length h2).1, congrArg (· + 1) (DensK.length h2).2⟩
theorem Rel.many {A : Av} {H0 : Hp} {Mf : Av} {Hf : Hp} : ∀ (is : List Nat) {M : Av} {vs : List V} {ds : List D} {σ : L2.St} {ρ : Env}, Rel w O A H0 Mf σ Hf ρ → (∀ a, A a → M a) → (∀ j d p, j ∈ O → ρ[j]? = some (some d) → σ[j]? = some (some (.ref p)) → M p) →
    DensK w Mf Hf M (kinds O is) vs ds → Rel w O A H0 Mf (setMany σ is vs) Hf (setMany ρ is ds)
  | [], _, [], [], _, _, r, _, _, _ => r
  | i :: is, M, v :: vs, d :: ds, σ, ρ, r, ha, hu, h => by
    unfold setMany
    by_cases hi : i ∈ O
    · have ek : kinds O (i :: is) = true :: kinds O is := by
        unfold kinds
        rw [List.map_cons, decide_eq_true hi]
      rw [ek] at h
      rcases h with ⟨rfl, rfl, h2⟩ | ⟨p, us, es, rfl, rfl, n, mp, e3, h1, h2⟩
      · refine Rel.many is (r.setNon i hi) ha (fun j d' p' nj e4 e5 => ?_) h2
        by_cases q : j = i
        · subst q
          obtain ⟨e6, hl⟩ := get_set_self e4
          rw [List.getElem?_set_self (by rw [← r.len]; exact hl)] at e5
          cases e5
        · rw [List.getElem?_set_ne (Ne.symm q)] at e4 e5
          exact hu j d' p' nj e4 e5
      · refine Rel.many is (r.setOwn i hi mp (fun z => n (ha _ z)) e3 h1 fun j d' nj qj e4 e5 => n (hu j d' p nj e4 e5)) (fun a z => .inl (ha a z)) (fun j d' p' nj e4 e5 => ?_) h2
        by_cases q : j = i
        · subst q
          obtain ⟨e6, hl⟩ := get_set_self e4
          rw [List.getElem?_set_self (by rw [← r.len]; exact hl)] at e5
          cases e5
          exact .inr rfl
        · rw [List.getElem?_set_ne (Ne.symm q)] at e4 e5
          exact .inl (hu j d' p' nj e4 e5)
    · have ek : kinds O (i :: is) = false :: kinds O is := by
        unfold kinds
        rw [List.map_cons, decide_eq_false hi]
      rw [ek] at h
      refine Rel.many is (r.set i hi h.1) ha (fun j d' p' nj e4 e5 => ?_) h.2
      have q : j ≠ i := fun q => hi (q ▸ nj)
      rw [List.getElem?_set_ne (Ne.symm q)] at e4 e5
      exact hu j d' p' nj e4 e5
  | [], _, [], _ :: _, _, _, r, _, _, h => h.elim
  | [], _, _ :: _, [], _, _, r, _, _, h => h.elim
  | [], _, _ :: _, _ :: _, _, _, r, _, _, h => h.elim
  | i :: is, M, [], [], _, _, _, _, _, h => by have := (DensK.length h).1; cases this
  | i :: is, M, [], _ :: _, _, _, _, _, _, h => by have := (DensK.length h).1; cases this
  | i :: is, M, _ :: _, [], _, _, _, _, _, h => by have := (DensK.length h).2; cases this
def sMany (is : List Nat) (fr : Env → m (List D)) : Env → m Rs := fun ρ => Md.bind (fr ρ) fun ds => Md.ret (.nx (setMany ρ is ds))
theorem Rel.used {A : Av} {H0 : Hp} {M : Av} {σ : L2.St} {H : Hp} {ρ : Env} (r : Rel w O A H0 M σ H ρ) : ∀ j d p, j ∈ O → ρ[j]? = some (some d) → σ[j]? = some (some (.ref p)) → M p := fun j d p nj e4 e5 => by
  obtain ⟨p', vs', ds', z1, z2, z3, _⟩ := r.owr e4 nj e5
  rw [e5] at z2
  cases z2
  exact z3
theorem ss_par {i j : Nat} (h : ArgK m w O (kinds O [i, j]) tr fr) : Ssm m w κ Ob O O (tPar i j tr) (sMany [i, j] fr) := fun A H0 M σ H ρ E R q => by
  refine h A H0 M σ H ρ _ R (Md.wp_mono (fun ds q1 vs M2 H2 R2 k2 l2 s2 hd => ?_) (Md.wp_bind q))
  have hl := (DensK.length hd).1
  match vs, hl with
  | [v, u], _ => exact ⟨v, u, rfl, Md.wp_ret q1 M2 _ H2 (Rel.many [i, j] R2 R.av R.used hd) k2⟩
/-- names of a written target -/
def gNames : List Nat → TGs
  | [] => gNil
  | i :: is => gCons (gName i) (gNames is)
theorem gNames_go : ∀ (is : List Nat) (vs : List V) (σ : L2.St) (H : Hp) (Q : L2.St → Hp → Prop), vs.length = is.length → Q (setMany σ is vs) H → gNames is vs σ H Q
  | [], [], σ, H, Q, _, q => ⟨rfl, q⟩
  | i :: is, v :: vs, σ, H, Q, e, q => ⟨v, vs, rfl, gNames_go is vs _ H Q (by simpa using e) q⟩
theorem ss_tupn {is : List Nat} (h : ArgK m w O (kinds O is) tr fr) (hz : lenOk is.length = true := by rfl) : Ssm m w κ Ob O O (tAsg (tTup tr) (gTup w.K is.length (gNames is))) (sMany is fr) := fun A H0 M σ H ρ E R q => by
  refine h A H0 M σ H ρ _ R (Md.wp_mono (fun ds q1 vs M2 H2 R2 k2 l2 s2 hd => ?_) (Md.wp_bind q))
  have hl : vs.length = is.length := by
    rw [(DensK.length hd).1]
    unfold kinds
    rw [List.length_map]
  refine ⟨by rw [hl]; exact lenOk_le hz, fun p n => ⟨p, vs, rfl, .of upd_same, hl, gNames_go is vs _ _ _ hl ?_⟩⟩
  have k3 : Step w H2 (upd H2 p (.tup vs)) := Step.new n
  have k4 : Evo M2 H2 M2 (upd H2 p (.tup vs)) := .step R2.pm k3
  exact Md.wp_ret q1 M2 _ _ (Rel.many is (R2.go k3) R.av R.used (DensK.step R2.pm R2.pm k3 R.pm hd)) (k2.trans k4)
/-- names from a tuple -/
def dUn (n : Nat) : D → Option (List D)
  | .tup ds => match Nat.beq ds.length n with
    | true => some ds
    | false => none
  | _ => none
def sUn (is : List Nat) (fe : Env → m D) : Env → m Rs := fun ρ => Md.bind (fe ρ) fun d => Md.bind (Md.lift (dUn is.length d)) fun ds => Md.ret (.nx (setMany ρ is ds))
theorem DensK.sh {Mf : Av} {Hf : Hp} {M : Av} : ∀ {vs : List V} {ds : List D} {ks : List Bool}, (∀ k ∈ ks, k = false) → ks.length = ds.length → Dens w Mf Hf vs ds → DensK w Mf Hf M ks vs ds
  | _, [], [], _, _, h => by cases h; exact trivial
  | _, d :: ds, k :: ks, z, e, h => by
    cases h with
    | cons a b =>
      have : k = false := z k List.mem_cons_self
      subst this
      exact ⟨a, DensK.sh (fun k hk => z k (List.mem_cons_of_mem _ hk)) (by simpa using e) b⟩
  | _, [], _ :: _, _, e, _ => by cases e
  | _, _ :: _, [], _, e, _ => by cases e
theorem kinds_sh {is : List Nat} (h : ∀ i ∈ is, i ∉ O) : ∀ k ∈ kinds O is, k = false := fun k hk => by
  obtain ⟨i, hi, e⟩ := List.mem_map.mp hk
  rw [← e]
  exact decide_eq_false (h i hi)
theorem dUn_eq {n : Nat} {d : D} {ds : List D} (h : dUn n d = some ds) : d = .tup ds ∧ ds.length = n := by
  unfold dUn at h
  split at h
  · split at h
    · rename_i e
      cases h
      exact ⟨rfl, Nat.eq_of_beq_eq_true e⟩
    · cases h
  · cases h
/-- a target of a for, a comprehension: the names js are stored -/
def TgSim (w : Wd) (O : List Nat) (js : List Nat) (g : TG) (tg : Env → D → Option Env) : Prop := ∀ (A : Av) (H0 : Hp) (M : Av) (σ : L2.St) (H : Hp) (ρ ρ' : Env) (v : V) (d : D) (Q : L2.St → Hp → Prop), Rel w O A H0 M σ H ρ → Den w M H v d → tg ρ d = some ρ' →
  (∀ σ', Rel w O A H0 M σ' H ρ' → σ'.length = σ.length → (∀ i, i ∉ js → σ'[i]? = σ[i]?) → Q σ' H) → g v σ H Q
def tgName (i : Nat) : Env → D → Option Env := fun ρ d => some (ρ.set i (some d))
def tgTup (is : List Nat) : Env → D → Option Env := fun ρ d => (dUn is.length d).map fun ds => setMany ρ is ds
theorem tg_name (i : Nat) (hi : i ∉ O := by decide) : TgSim w O [i] (gName i) (tgName i) := fun A H0 M σ H ρ ρ' v d Q R h e q => by
  cases e
  exact q _ (R.set i hi h) (by rw [List.length_set]) fun j hj => by rw [List.getElem?_set_ne (fun z => hj (by rw [← z]; exact List.mem_singleton.mpr rfl))]
theorem setMany_length {α : Type} : ∀ (is : List Nat) (l : List (Option α)) (xs : List α), (setMany l is xs).length = l.length
  | [], _, _ => by unfold setMany; rfl
  | _ :: _, _, [] => by unfold setMany; rfl
  | i :: is, l, x :: xs => by unfold setMany; rw [setMany_length is, List.length_set]
theorem setMany_out {α : Type} : ∀ (is : List Nat) (l : List (Option α)) (xs : List α) (j : Nat), j ∉ is → (setMany l is xs)[j]? = l[j]?
  | [], _, _, _, _ => by unfold setMany; rfl
  | _ :: _, _, [], _, _ => by unfold setMany; rfl
  | i :: is, l, x :: xs, j, h => by
    unfold setMany
    rw [setMany_out is _ _ j fun z => h (List.mem_cons_of_mem _ z), List.getElem?_set_ne (show i ≠ j from fun z => h (by rw [z]; exact List.mem_cons_self))]
theorem tg_tup (is : List Nat) (hi : ∀ i ∈ is, i ∉ O := by decide) : TgSim w O is (gTup w.K is.length (gNames is)) (tgTup is) := fun A H0 M σ H ρ ρ' v d Q R h e q => by
  unfold tgTup at e
  cases z : dUn is.length d with
  | none => rw [z] at e; cases e
  | some ds =>
    rw [z] at e
    cases e
    obtain ⟨rfl, hl⟩ := dUn_eq z
    obtain ⟨a, vs, rfl, ea, ha⟩ := DenT.tuple (.inl h)
    have hv : vs.length = is.length := by rw [ha.length, hl]
    refine ⟨a, vs, rfl, ea.sq, hv, gNames_go is vs _ _ _ hv (q _ ?_ (setMany_length _ _ _) fun j hj => setMany_out _ _ _ j hj)⟩
    exact Rel.many is R R.av R.used (DensK.sh (kinds_sh hi) (by unfold kinds; rw [List.length_map, hl]) ha)
end
end Pw
set_option Elab.async false
set_option linter.all false
set_option maxRecDepth 100000
set_option maxHeartbeats 1000000
/-! Pw4: what is walked; for, while, list comprehensions. -/
namespace Pw
open PySem PySem.Spec PyProof.Rows L2
/-- the turns of J give the data xs, from M, H on -/
def ItOk (w : Wd) (M1 : Av) (H1 : Hp) (J : It) (xs : List D) : Prop := ∀ (M : Av) (H : Hp), Evo M1 H1 M H → (∀ a, M a → H a ≠ none) →
  (∀ i d, xs[i]? = some d → J.go i H ∧ ∀ x H', J.yld i H x H' → Step w H H' ∧ Den w M H' x d) ∧ J.stop xs.length H
section
variable {m : Type → Type} [Md m] {w : Wd} {O : List Nat} {b b1 b2 : Bool}
def SimI (m : Type → Type) [Md m] (w : Wd) (O : List Nat) (wi : TI) (f : Env → m (List D)) : Prop := ∀ (A : Av) (H0 : Hp) (M : Av) (σ : L2.St) (H : Hp) (ρ : Env) (R : It → Hp → Prop), Rel w O A H0 M σ H ρ →
  Md.wp (f ρ) (fun xs => ∀ J H', Step w H H' → ItOk w M H' J xs → R J H') → wi σ H R
variable {te ta : TE} {fe fa : Env → m D} {tr : TA} {fr : Env → m (List D)}
theorem itok_list {M : Av} {H : Hp} {a : Addr} {vs : List V} {ds : List D} (h : Ls M H a vs) (r : Dens w M H vs ds) : ItOk w M H (Itl w.K a) ds := fun M2 H2 k hd => by
  have e2 : H2 a = some (.lst vs) := k.lat _ _ h.1 h.2
  have r2 := Dens.carry k _ _ r
  refine ⟨fun i d e => ?_, ⟨vs, .of e2, by rw [r.length]; exact Nat.le_refl _⟩⟩
  obtain ⟨v, e3, hv⟩ := r2.get e
  refine ⟨⟨vs, v, .of e2, e3⟩, fun x H' y => ?_⟩
  obtain ⟨rfl, y⟩ := y
  have e4 := y vs (.of e2)
  rw [e3] at e4
  cases e4
  exact ⟨.refl, hv⟩
theorem itok_tup {M : Av} {H : Hp} {a : Addr} {vs : List V} {ds : List D} (h : Ts w M H a vs) (r : Dens w M H vs ds) : ItOk w M H (Itt w.K a) ds := fun M2 H2 k hd => by
  have e2 : SqT w.K H2 a vs := (Ts.lat k.lat h).sq
  have r2 := Dens.carry k _ _ r
  refine ⟨fun i d e => ?_, ⟨vs, e2, by rw [r.length]; exact Nat.le_refl _⟩⟩
  obtain ⟨v, e3, hv⟩ := r2.get e
  refine ⟨⟨vs, v, e2, e3⟩, fun x H' y => ?_⟩
  obtain ⟨rfl, y⟩ := y
  have e4 := y vs e2
  rw [e3] at e4
  cases e4
  exact ⟨.refl, hv⟩
def dLs : D → Option (List D)
  | .lst ds => some ds
  | _ => none
def dTs : D → Option (List D)
  | .tup ds => some ds
  | _ => none
/-- a list or a tuple -/
def iSeq (K : PySem.W.Frag) (te : TE) : TI := fun σ H R => te σ H fun x H1 => ∃ a, x = .ref a ∧ (((∃ xs, SqL K H1 a xs) ∧ R (Itl K a) H1) ∨ ((∃ xs, SqT K H1 a xs) ∧ R (Itt K a) H1))
theorem pi_seq {X : Cx} {tg e : Expr} {te : TE} (he : PE X e te) : PI X tg e (iSeq X.K te) := by
  refine ⟨fun pins s σ H R I h => thn (he.run pins s σ H _ I h) ?_⟩
  rintro v s1 ⟨x, H1, I1, r1, a, rfl, q⟩
  cases r1
  rcases q with ⟨⟨xs, hx⟩, q⟩ | ⟨⟨xs, hx⟩, q⟩
  · obtain ⟨its, _, pl, _⟩ := I1.list hx
    refine wpAny_pyIter_list pl.isList ⟨_, [s1.heap.objs.size], _, _, H1, rfl, I1.kept (t' := s1.toks) fun _ _ z => Heap.get?_push_of_some _ z, turn_list a _, ⟨_, Heap.get?_push_size _ rfl, rfl, rfl⟩, fun b hb => ?_, q⟩
    cases List.mem_singleton.mp hb
    exact I1.fpOk (Nat.le_refl _) (I1.hok.fresh (Nat.le_refl _))
  · obtain ⟨its, _, pl, _⟩ := I1.tuple hx
    refine wpAny_pyIter_tuple (items := its.toArray) pl ⟨_, [s1.heap.objs.size], _, _, H1, rfl, I1.kept (t' := s1.toks) fun _ _ z => Heap.get?_push_of_some _ z, turn_tuple a _, ⟨_, Heap.get?_push_size _ rfl, rfl, rfl⟩, fun b hb => ?_, q⟩
    cases List.mem_singleton.mp hb
    exact I1.fpOk (Nat.le_refl _) (I1.hok.fresh (Nat.le_refl _))
theorem si_seq (h : Sim m w O true te fe) : SimI m w O (iSeq w.K te) (p1 D.items fe) := fun A H0 M σ H ρ R r q => by
  refine h A H0 M σ H ρ _ r (Md.wp_mono (fun x q1 v H1 k1 d1 => ?_) (Md.wp_bind q))
  obtain ⟨xs, e, q2⟩ := Md.wp_lift q1
  cases x with
  | lst ds =>
    cases e
    cases d1 with
    | lst s hd => exact ⟨_, rfl, .inl ⟨⟨_, s.sq (w := w)⟩, q2 _ H1 k1 (itok_list s hd)⟩⟩
  | tup ds =>
    cases e
    cases d1 with
    | tup s hd => exact ⟨_, rfl, .inr ⟨⟨_, s.sq⟩, q2 _ H1 k1 (itok_tup s hd)⟩⟩
  | _ => cases e
/-! ranges -/
def upTo (lo : Int) : Nat → List D
  | 0 => []
  | n + 1 => .int lo :: upTo (lo + 1) n
theorem upTo_length : ∀ (n : Nat) (lo : Int), (upTo lo n).length = n
  | 0, _ => rfl
  | n + 1, lo => congrArg (· + 1) (upTo_length n (lo + 1))
theorem upTo_get : ∀ (n : Nat) (lo : Int) (i : Nat) (d : D), (upTo lo n)[i]? = some d → i < n ∧ d = .int (lo + i)
  | 0, _, _, _, h => by simp [upTo] at h
  | n + 1, lo, 0, d, h => by
    have : D.int lo = d := by simpa [upTo] using h
    rw [← this]
    exact ⟨Nat.succ_pos _, by simp⟩
  | n + 1, lo, i + 1, d, h => by
    have h' : (upTo (lo + 1) n)[i]? = some d := by simpa [upTo] using h
    obtain ⟨h1, h2⟩ := upTo_get n (lo + 1) i d h'
    refine ⟨by omega, ?_⟩
    rw [h2]
    congr 1
    omega
theorem itok_range {M : Av} {H : Hp} (lo : Int) (n : Nat) : ItOk w M H (Itr lo n) (upTo lo n) := fun M2 H2 k hd => by
  refine ⟨fun i d e => ?_, by rw [upTo_length]; exact Nat.le_refl n⟩
  obtain ⟨h1, rfl⟩ := upTo_get n lo i d e
  exact ⟨h1, fun x H' y => by obtain ⟨rfl, rfl⟩ := y; exact ⟨.refl, .int _⟩⟩
def dRg1 : List D → Option (List D)
  | [.int j] => match decide (-1000000 ≤ j ∧ j ≤ 20000000) with
    | true => some (upTo 0 j.toNat)
    | false => none
  | _ => none
def dRg2 : List D → Option (List D)
  | [.int i, .int j] => match decide (-1000000 ≤ i ∧ i ≤ 20000000) && decide (-1000000 ≤ j ∧ j ≤ 20000000) with
    | true => some (upTo i (j - i).toNat)
    | false => none
  | _ => none
def pA {α : Type} (g : List D → Option α) (fr : Env → m (List D)) : Env → m α := fun ρ => Md.bind (fr ρ) fun xs => Md.lift (g xs)
theorem si_rg1 (h : Args m w O true tr fr) : SimI m w O (iRng1 tr) (pA dRg1 fr) := fun A H0 M σ H ρ R r q => by
  refine h A H0 M σ H ρ _ r (Md.wp_mono (fun x q1 vs H1 k1 d1 => ?_) (Md.wp_bind q))
  obtain ⟨xs, e, q2⟩ := Md.wp_lift q1
  unfold dRg1 at e
  split at e
  · rename_i j
    split at e
    · rename_i hj
      cases e
      have hj := of_decide_eq_true hj
      have dd := d1.safe
      cases dd with
      | cons a c =>
        cases a; cases c
        exact ⟨j, rfl, by omega, by omega, q2 _ H1 k1 (itok_range 0 _)⟩
    · cases e
  · cases e
/-! enumerate, zip of lists -/
def numbered (i : Nat) : List D → List D
  | [] => []
  | d :: ds => .tup [.int (i : Nat), d] :: numbered (i + 1) ds
theorem numbered_length : ∀ (ds : List D) (i : Nat), (numbered i ds).length = ds.length
  | [], _ => rfl
  | d :: ds, i => congrArg (· + 1) (numbered_length ds (i + 1))
theorem numbered_get : ∀ (ds : List D) (n i : Nat) (d : D), (numbered n ds)[i]? = some d → ∃ e, ds[i]? = some e ∧ d = .tup [.int ((n + i : Nat) : Int), e]
  | [], _, _, _, h => by simp [numbered] at h
  | e :: ds, n, 0, d, h => by
    have : D.tup [.int (n : Nat), e] = d := by simpa [numbered] using h
    exact ⟨e, rfl, this.symm⟩
  | e :: ds, n, i + 1, d, h => by
    have h' : (numbered (n + 1) ds)[i]? = some d := by simpa [numbered] using h
    obtain ⟨e', h1, h2⟩ := numbered_get ds (n + 1) i d h'
    exact ⟨e', by simpa using h1, by rw [h2, Nat.add_assoc, Nat.add_comm 1 i]⟩
def pairs : List D → List D → List D
  | x :: xs, y :: ys => .tup [x, y] :: pairs xs ys
  | _, _ => []
theorem pairs_length : ∀ (xs ys : List D), (pairs xs ys).length = min xs.length ys.length
  | x :: xs, y :: ys => by
    unfold pairs
    rw [List.length_cons, pairs_length xs ys, List.length_cons, List.length_cons]
    omega
  | [], ys => by
    unfold pairs
    simp
  | _ :: _, [] => by
    unfold pairs
    simp
theorem pairs_get : ∀ (xs ys : List D) (i : Nat) (d : D), (pairs xs ys)[i]? = some d → ∃ x y, xs[i]? = some x ∧ ys[i]? = some y ∧ d = .tup [x, y]
  | x :: xs, y :: ys, 0, d, h => by
    have : D.tup [x, y] = d := by simpa [pairs] using h
    exact ⟨x, y, rfl, rfl, this.symm⟩
  | x :: xs, y :: ys, i + 1, d, h => by
    have h' : (pairs xs ys)[i]? = some d := by simpa [pairs] using h
    obtain ⟨x', y', h1, h2, h3⟩ := pairs_get xs ys i d h'
    exact ⟨x', y', by simpa using h1, by simpa using h2, h3⟩
  | [], ys, i, d, h => by simp [pairs] at h
  | _ :: _, [], i, d, h => by simp [pairs] at h
/-! ### for -/
variable {κ : Bool} {Ob : List Nat} {wi : TI} {fi : Env → m (List D)} {js : List Nat} {g : TG} {tg : Env → D → Option Env} {tb : TS} {fb : Env → m Rs} {tt : TT} {ft : Env → m Bool}
def loopF (tg : Env → D → Option Env) (fb : Env → m Rs) : List D → Env → m Rs
  | [], ρ => Md.ret (.nx ρ)
  | d :: ds, ρ => Md.bind (Md.lift (tg ρ d)) fun ρ1 => Md.bind (fb ρ1) fun r => match r with
    | .nx ρ2 => loopF tg fb ds ρ2
    | .ct ρ2 => loopF tg fb ds ρ2
    | .bk ρ2 => Md.ret (.nx ρ2)
    | .rt d => Md.ret (.rt d)
def sFor (fi : Env → m (List D)) (tg : Env → D → Option Env) (fb : Env → m Rs) : Env → m Rs := fun ρ => Md.bind (fi ρ) fun xs => loopF tg fb xs ρ
theorem ss_for (hi : SimI m w O wi fi) (hg : TgSim w O js g tg) (hb : Ssm m w κ O O O tb fb) : Ssm m w κ Ob O O (tFor wi g tb) (sFor fi tg fb) := fun A H0 M σ H ρ E R q => by
  refine hi A H0 M σ H ρ _ R (Md.wp_mono (fun xs q1 J H1 k1 it => ?_) (Md.wp_bind q))
  refine ⟨fun i n σ' H' => ∃ M' ρ' rest, n = rest.length ∧ xs.drop i = rest ∧ i ≤ xs.length ∧ Rel w O A H0 M' σ' H' ρ' ∧ Evo M H1 M' H' ∧ Md.wp (loopF tg fb rest ρ') (Post w κ O Ob A H0 M H E), ⟨xs.length, M, ρ, xs, rfl, List.drop_zero, Nat.zero_le _, R.go k1, .refl, q1⟩, ?_⟩
  rintro i n σ' H' ⟨M', ρ', rest, rfl, hd, hle, R', k', q'⟩
  obtain ⟨turns, stop⟩ := it M' H' k' R'.dom
  cases rest with
  | nil =>
    have hl : i = xs.length := by
      have := congrArg List.length hd
      rw [List.length_drop] at this
      simp only [List.length_nil] at this
      omega
    subst hl
    exact .inl ⟨stop, Md.wp_ret q' M' σ' H' R' ((Evo.step R.pm k1).trans k')⟩
  | cons d rest =>
    have hx : xs[i]? = some d := by
      have : (xs.drop i)[0]? = some d := by rw [hd]; rfl
      rwa [List.getElem?_drop, Nat.add_zero] at this
    have hd2 : xs.drop (i + 1) = rest := by
      rw [← List.tail_drop, hd, List.tail_cons]
    have hl2 : i + 1 ≤ xs.length := (List.getElem?_eq_some_iff.mp hx).1
    obtain ⟨go, yld⟩ := turns i d hx
    refine .inr ⟨go, fun σ2 H2 => ∃ M2 ρ2, Rel w O A H0 M2 σ2 H2 ρ2 ∧ Evo M H1 M2 H2 ∧ Md.wp (loopF tg fb rest ρ2) (Post w κ O Ob A H0 M H E), fun σ2 H2 ⟨M2, ρ2, R2, k2, q2⟩ => ⟨rest.length, by simp, M2, ρ2, rest, rfl, hd2, hl2, R2, k2, q2⟩, fun x H2 y => ?_⟩
    obtain ⟨s2, dx⟩ := yld x H2 y
    obtain ⟨ρ1, e1, q3⟩ := Md.wp_lift (Md.wp_bind q')
    refine hg A H0 M' σ' H2 ρ' ρ1 x d _ (R'.go s2) dx e1 fun σ3 R3 _ _ => ?_
    have k3 : Evo M H1 M' H2 := k'.trans (.step R'.pm s2)
    refine hb A H0 M' σ3 H2 ρ1 _ R3 (Md.wp_mono (fun r q4 => ?_) (Md.wp_bind q3))
    cases r with
    | nx ρ4 => exact fun M4 σ4 H4 R4 k4 => ⟨M4, ρ4, R4, k3.trans k4, q4⟩
    | ct ρ4 => exact fun M4 σ4 H4 R4 k4 => ⟨M4, ρ4, R4, k3.trans k4, q4⟩
    | bk ρ4 => exact fun M4 σ4 H4 R4 k4 => Md.wp_ret (a := Rs.nx ρ4) q4 M4 σ4 H4 R4 ((Evo.step R.pm k1).trans (k3.trans k4))
    | rt d4 =>
      have z := Md.wp_ret (a := Rs.rt d4) q4
      exact z
/-! ### while -/
def loopW (ft : Env → m Bool) (fb : Env → m Rs) : Nat → Env → m Rs
  | 0, _ => Md.lift none
  | n + 1, ρ => Md.bind (ft ρ) fun c => match c with
    | false => Md.ret (.nx ρ)
    | true => Md.bind (fb ρ) fun r => match r with
      | .nx ρ2 => loopW ft fb n ρ2
      | .ct ρ2 => loopW ft fb n ρ2
      | .bk ρ2 => Md.ret (.nx ρ2)
      | .rt d => Md.ret (.rt d)
def sWhile (fuel : Env → Nat) (ft : Env → m Bool) (fb : Env → m Rs) : Env → m Rs := fun ρ => loopW ft fb (fuel ρ) ρ
/-! ### list comprehensions -/
def wipeD (ρ : Env) : List Nat → Env
  | [] => ρ
  | v :: vs => (wipeD ρ vs).set v none
def lcF (tg : Env → D → Option Env) (ft : Env → m Bool) (fe : Env → m D) (ρ : Env) : List D → m (List D)
  | [] => Md.ret []
  | d :: ds => Md.bind (Md.lift (tg ρ d)) fun ρ1 => Md.bind (ft ρ1) fun c => match c with
    | true => Md.bind (fe ρ1) fun y => Md.bind (lcF tg ft fe ρ ds) fun ys => Md.ret (y :: ys)
    | false => lcF tg ft fe ρ ds
def pLc (fi : Env → m (List D)) (tg : Env → D → Option Env) (ft : Env → m Bool) (fe : Env → m D) (vs : List Nat) : Env → m (List D) := fun ρ => Md.bind (fi ρ) fun xs => Md.bind (Md.lift (okL xs)) fun _ => lcF tg ft fe (wipeD ρ vs) xs
theorem Rel.unset {A : Av} {H0 : Hp} {M : Av} {σ : L2.St} {H : Hp} {ρ : Env} (r : Rel w O A H0 M σ H ρ) (i : Nat) : Rel w O A H0 M (σ.set i none) H (ρ.set i none) := by
  have up : ∀ j d, (ρ.set i none)[j]? = some (some d) → j ≠ i ∧ ρ[j]? = some (some d) := fun j d e => by
    by_cases q : j = i
    · subst q
      obtain ⟨z, _⟩ := get_set_self e
      cases z
    · exact ⟨q, get_set_ne e q⟩
  refine ⟨by rw [List.length_set, List.length_set, r.len], r.step, r.pot, r.av, r.new, r.isL, fun j d e n => ?_, fun j d e n => ?_, fun j l d1 d2 p h1 h2 n1 n2 h3 h4 => ?_⟩
  · obtain ⟨q, e1⟩ := up j d e
    obtain ⟨v, e2, h⟩ := r.sh j d e1 n
    exact ⟨v, by rw [List.getElem?_set_ne (Ne.symm q)]; exact e2, h⟩
  · obtain ⟨q, e1⟩ := up j d e
    rw [List.getElem?_set_ne (Ne.symm q)]
    exact r.ow j d e1 n
  · obtain ⟨q1, e1⟩ := up j d1 h1
    obtain ⟨q2, e2⟩ := up l d2 h2
    rw [List.getElem?_set_ne (Ne.symm q1)] at h3
    rw [List.getElem?_set_ne (Ne.symm q2)] at h4
    exact r.sep j l d1 d2 p e1 e2 n1 n2 h3 h4
theorem Rel.wipe {A : Av} {H0 : Hp} {M : Av} {σ : L2.St} {H : Hp} {ρ : Env} (r : Rel w O A H0 M σ H ρ) : ∀ vs : List Nat, Rel w O A H0 M (L2.wipe σ vs) H (wipeD ρ vs)
  | [] => r
  | v :: vs => by
    unfold L2.wipe wipeD
    exact (r.wipe vs).unset v
theorem wipe_at (σ : L2.St) : ∀ (vs : List Nat) (i : Nat), (L2.wipe σ vs)[i]? = if i ∈ vs then σ[i]?.map (fun _ => none) else σ[i]?
  | [], i => by
    unfold L2.wipe
    simp
  | v :: vs, i => by
    unfold L2.wipe
    rw [List.getElem?_set]
    by_cases q : v = i
    · subst q
      rw [if_pos rfl, if_pos List.mem_cons_self, wipe_length]
      by_cases h : v < σ.length
      · rw [if_pos h, List.getElem?_eq_getElem h]
        rfl
      · rw [if_neg h, List.getElem?_eq_none (by omega)]
        rfl
    · rw [if_neg q, wipe_at σ vs i]
      by_cases h : i ∈ vs
      · rw [if_pos h, if_pos (List.mem_cons_of_mem _ h)]
      · rw [if_neg h, if_neg (fun z => (List.mem_cons.mp z).elim (fun z => q z.symm) h)]
theorem wipe_back {σ σ2 : L2.St} {js vs : List Nat} (hl : σ2.length = (L2.wipe σ vs).length) (k : ∀ i, i ∉ js → σ2[i]? = (L2.wipe σ vs)[i]?) (hs : ∀ j ∈ js, j ∈ vs) : L2.wipe σ2 vs = L2.wipe σ vs := by
  refine List.ext_getElem? fun i => ?_
  rw [wipe_at σ2 vs i]
  by_cases h : i ∈ vs
  · rw [if_pos h, wipe_at σ vs i, if_pos h]
    rw [wipe_length] at hl
    by_cases h2 : i < σ.length
    · rw [List.getElem?_eq_getElem h2, List.getElem?_eq_getElem (by omega)]
      rfl
    · rw [List.getElem?_eq_none (by omega), List.getElem?_eq_none (by omega)]
  · rw [if_neg h]
    exact k i fun z => h (hs i z)
theorem simL_lc {vs : List Nat} (hi : SimI m w O wi fi) (hg : TgSim w O js g tg) (ht : Tst m w O tt ft) (he : Sim m w O true te fe) (hs : ∀ j ∈ js, j ∈ vs := by decide) : SimL m w O (tLc wi g tt te vs) (pLc fi tg ft fe vs) := fun A H0 M σ H ρ Q R q => by
  refine hi A H0 M σ H ρ _ R (Md.wp_mono (fun xs q1 J H1 k1 it => ?_) (Md.wp_bind q))
  obtain ⟨xs', e, q2⟩ := Md.wp_lift (Md.wp_bind q1)
  obtain ⟨rfl, hz⟩ := okL_eq e
  refine fun p np => ?_
  have R1 : Rel w O A H0 M σ H1 ρ := R.go k1
  have ka : Step w H1 (upd H1 p (.lst [])) := Step.new np
  have R2 : Rel w O A H0 (M.or p) σ (upd H1 p (.lst [])) ρ := R1.add np ka upd_same
  have nMp : ¬ M p := R1.fresh np
  have npp : ¬ w.pa p := fun z => nMp (R.pm p z)
  refine ⟨fun i n H' => ∃ rest acc accD, n = rest.length ∧ xs'.drop i = rest ∧ i ≤ xs'.length ∧ acc.length ≤ i ∧ Step w H1 (upd H' p (.lst acc)) ∧ Rel w O A H0 (M.or p) σ H' ρ ∧ H' p = some (.lst acc) ∧ Dens w (M.or p) H' acc accD ∧ Evo M H1 (M.or p) H' ∧
    Md.wp (lcF tg ft fe (wipeD ρ vs) rest) (fun ys => ∀ p us H', H p = none → Step w H H' → H' p = some (.lst us) → Dens w (M.or p) H' us (accD ++ ys) → Q (.ref p) H'),
    ⟨xs'.length, xs', [], [], rfl, List.drop_zero, Nat.zero_le _, Nat.zero_le _, ?_, R2, upd_same, .nil, .add R1.pm np ka, Md.wp_mono (fun ys z => by simpa using z) q2⟩, ?_⟩
  · rw [upd_upd]
    exact ka
  · rintro i n H' ⟨rest, acc, accD, rfl, hd, hle, hacc, st, R', ep, dacc, k', q'⟩
    obtain ⟨turns, stop⟩ := it (M.or p) H' k' R'.dom
    have eH : upd H' p (.lst acc) = H' := by
      funext b
      unfold upd
      by_cases z : b = p
      · rw [if_pos z, z, ep]
      · rw [if_neg z]
    cases rest with
    | nil =>
      have hl : i = xs'.length := by
        have := congrArg List.length hd
        rw [List.length_drop] at this
        simp only [List.length_nil] at this
        omega
      subst hl
      refine .inl ⟨stop, ?_⟩
      rw [eH] at st
      have z := Md.wp_ret q'
      exact z p acc H' (fresh_back k1 R.potOk np) (k1.trans st) ep (by simpa using dacc)
    | cons d rest =>
      have hx : xs'[i]? = some d := by
        have : (xs'.drop i)[0]? = some d := by rw [hd]; rfl
        rwa [List.getElem?_drop, Nat.add_zero] at this
      have hd2 : xs'.drop (i + 1) = rest := by
        rw [← List.tail_drop, hd, List.tail_cons]
      have hl2 : i + 1 ≤ xs'.length := (List.getElem?_eq_some_iff.mp hx).1
      obtain ⟨go, yld⟩ := turns i d hx
      refine .inr ⟨go, fun H2 => ∃ acc accD, acc.length ≤ i + 1 ∧ Step w H1 (upd H2 p (.lst acc)) ∧ Rel w O A H0 (M.or p) σ H2 ρ ∧ H2 p = some (.lst acc) ∧ Dens w (M.or p) H2 acc accD ∧ Evo M H1 (M.or p) H2 ∧
        Md.wp (lcF tg ft fe (wipeD ρ vs) rest) (fun ys => ∀ p us H', H p = none → Step w H H' → H' p = some (.lst us) → Dens w (M.or p) H' us (accD ++ ys) → Q (.ref p) H'),
        fun H2 ⟨acc, accD, a1, a2, a3, a4, a5, a6, a7⟩ => ⟨rest.length, by simp, rest, acc, accD, rfl, hd2, hl2, a1, a2, a3, a4, a5, a6, a7⟩, fun x H2 y => ?_⟩
      obtain ⟨s2, dx⟩ := yld x H2 y
      obtain ⟨ρ1, e1, q3⟩ := Md.wp_lift (Md.wp_bind q')
      have RW : Rel w O A H0 (M.or p) (L2.wipe σ vs) H2 (wipeD ρ vs) := (R'.go s2).wipe vs
      refine hg A H0 (M.or p) (L2.wipe σ vs) H2 (wipeD ρ vs) ρ1 x d _ RW dx e1 fun σ3 R3 hl3 h3 => ?_
      refine ⟨wipe_back hl3 h3 hs, ?_⟩
      have stp : ∀ {H3 : Hp}, Step w H' H3 → ∀ acc2, Step w H1 (upd H3 p (.lst acc2)) := fun {H3} s3 acc2 => by
        rw [eH] at st
        refine Step.of (fun a o na ea => ?_) (fun po => ?_)
        · have hne : a ≠ p := ne_of_none ea np
          rw [upd_ne hne]
          exact s3.lat a o na (st.lat a o na ea)
        · exact ((st.trans s3).pot po).p0.but p npp (fun c q z => lst_ne (Option.some.inj ((s3.lat _ _ npp ep).symm.trans z))) fun a u ne e => by rw [upd_ne ne]; exact e
      refine ht A H0 (M.or p) σ3 H2 ρ1 _ R3 (Md.wp_mono (fun c q4 H3 k3 => ?_) (Md.wp_bind q3))
      cases c with
      | false =>
        have e3 : H3 p = some (.lst acc) := k3.lat _ _ npp (s2.lat _ _ npp ep)
        exact ⟨acc, accD, by omega, stp (s2.trans k3) acc, (R'.go s2).go k3, e3, Dens.lat ((s2.trans k3).lat.mono R'.pm) _ _ dacc, k'.trans (.step R'.pm (s2.trans k3)), q4⟩
      | true =>
        refine he A H0 (M.or p) σ3 H3 ρ1 _ (R3.go k3) (Md.wp_mono (fun y q5 v H4 k4 dy => ?_) (Md.wp_bind q4))
        have s4 : Step w H' H4 := (s2.trans k3).trans k4
        have e4 : H4 p = some (.lst acc) := s4.lat _ _ npp ep
        have hw : ∀ a u, ¬ (M.or p) a → H4 a = some u → upd H4 p (.lst (acc ++ [v])) a = some u := fun a u na ea => by
          rw [upd_ne (fun z => na (.inr z))]
          exact ea
        have R4 := R'.go s4
        refine ⟨acc, e4, lenOk_lt hz |> fun z => by omega, acc ++ [v], accD ++ [y], by rw [List.length_append, List.length_singleton]; omega, ?_, ?_, upd_same, ?_, ?_, ?_⟩
        · rw [upd_upd]
          exact stp s4 _
        · refine ⟨R4.len, ?_, R4.pot, R4.av, R4.new, fun a z => ?_, fun j d' e' n' => ?_, fun j d' e' n' => ?_, R4.sep⟩
          · exact R1.step.trans (stp s4 _)
          · by_cases q : a = p
            · subst q
              exact .inl ⟨_, upd_same⟩
            · exact LB.keep (fun o ez => by rw [upd_ne q]; exact ez) (R4.isL a z)
          · obtain ⟨v', e5, h'⟩ := R4.sh j d' e' n'
            exact ⟨v', e5, Den.lat hw _ _ h'⟩
          · rcases R.ow j d' e' n' with z | ⟨p', us', ds', z1, z2, z3, z4, z5, z6⟩
            · exact .inl z
            obtain ⟨p2, us2, ds2, y1, y2, y3, y4, y5, y6⟩ := R4.owr e' n' z2
            rw [z2] at y2
            cases y2
            have hne : p' ≠ p := fun z => nMp (z ▸ z3)
            exact .inr ⟨p', us2, ds2, y1, z2, y3, y4, by rw [upd_ne hne]; exact y5, Dens.lat hw _ _ y6⟩
        · exact Dens.lat hw _ _ ((Dens.lat (s4.lat.mono R'.pm) _ _ dacc).append (.cons dy .nil))
        · have k5 := k'.trans (Evo.step R'.pm s4)
          refine ⟨fun a o na ea => ?_, k5.new⟩
          rw [upd_ne (ne_of_none ea np)]
          exact k5.lat a o na ea
        · refine Md.wp_mono (fun ys q6 p1 us H5 n1 k5 e5 d5 => ?_) (Md.wp_bind q5)
          have z := Md.wp_ret q6
          exact z p1 us H5 n1 k5 e5 (by simpa using d5)
theorem tst_yes : Tst m w O tYes (fun _ => Md.ret true) := fun A H0 M σ H ρ Q R q => Md.wp_ret q H .refl
end
end Pw
set_option Elab.async false
set_option linter.all false
set_option maxRecDepth 100000
set_option maxHeartbeats 1000000
/-! Pw5: subscripts, slices, built-in functions by data, stores into lists of the def's own. -/
namespace Pw
open PySem PySem.Spec PyProof.Rows L2
section
variable {m : Type → Type} [Md m] {w : Wd} {O : List Nat} {b b1 b2 : Bool} {te ta tb : TE} {fe fa fb : Env → m D} {tr : TA} {fr : Env → m (List D)}
/-! ### xs[i] -/
def dIx : D → D → Option D
  | .lst ds, .int i => atI ds i
  | .tup ds, .int i => atI ds i
  | .scr ns, .int i => (atI ns i).map .int
  | _, _ => none
theorem atI_den {M : Av} {H : Hp} {vs : List V} {ds : List D} {i : Int} {d : D} (h : Dens w M H vs ds) (e : atI ds i = some d) : ∃ v, atI vs i = some v ∧ Den w M H v d := by
  unfold atI at e ⊢
  rw [h.length]
  cases z : ixN ds.length i with
  | none => rw [z] at e; cases e
  | some j =>
    rw [z] at e
    exact h.get (show ds[j]? = some d from e)
theorem os_ix : OpSim w (rIx w.K) dIx := fun M H x y d v u Q hp hd dx dy e q => by
  unfold dIx at e
  split at e
  · rename_i ds i
    obtain ⟨a, vs, rfl, ea, ha⟩ := dx.list
    cases dy.int
    obtain ⟨z, e2, h⟩ := atI_den ha e
    exact .inl ⟨a, vs, i, z, rfl, rfl, .of ea, e2, q _ H .refl h⟩
  · rename_i ds i
    obtain ⟨a, vs, rfl, ea, ha⟩ := dx.tuple
    cases dy.int
    obtain ⟨z, e2, h⟩ := atI_den ha e
    exact .inr (.inl ⟨a, vs, i, z, rfl, rfl, ea.sq, e2, q _ H .refl h⟩)
  · rename_i ns i
    obtain ⟨a, rfl, ea⟩ := dx.script
    cases dy.int
    cases z : atI ns i with
    | none => rw [z] at e; cases e
    | some c =>
      rw [z] at e
      cases e
      refine .inl ⟨a, _, i, .int c, rfl, rfl, ea, ?_, q _ H .refl (.int _)⟩
      unfold atI at z ⊢
      rw [List.length_map]
      cases z2 : ixN ns.length i with
      | none => rw [z2] at z; cases z
      | some j =>
        rw [z2] at z
        have z3 : ns[j]? = some c := z
        show (ns.map V.int)[j]? = some (.int c)
        rw [List.getElem?_map, z3]
        rfl
  · cases e
/-! ### slices -/
def dInt : D → Option (Option Int)
  | .int i => some (some i)
  | _ => none
def PrtSim (m : Type → Type) [Md m] (w : Wd) (O : List Nat) (t : TO) (f : Env → m (Option Int)) : Prop := ∀ (A : Av) (H0 : Hp) (M : Av) (σ : L2.St) (H : Hp) (ρ : Env) (Q : Option Int → Hp → Prop), Rel w O A H0 M σ H ρ →
  Md.wp (f ρ) (fun o => ∀ H', Step w H H' → Q o H') → t σ H Q
theorem prt_none : PrtSim m w O tNoPart (fun _ => Md.ret none) := fun A H0 M σ H ρ Q R q => Md.wp_ret q H .refl
theorem prt_some (h : Sim m w O b te fe) : PrtSim m w O (tPart te) (p1 dInt fe) := fun A H0 M σ H ρ Q R q => by
  refine h A H0 M σ H ρ _ R (Md.wp_mono (fun x q1 v H1 k1 d1 => ?_) (Md.wp_bind q))
  obtain ⟨o, e, q2⟩ := Md.wp_lift q1
  cases x with
  | int i =>
    cases e
    exact ⟨i, d1.t.int, q2 H1 k1⟩
  | _ => cases e
def cutD (xs : List D) (lo hi : Option Int) : List D := (xs.drop (HT.sIx xs.length 0 lo)).take (HT.sIx xs.length xs.length hi - HT.sIx xs.length 0 lo)
theorem Dens.cut {M : Av} {H : Hp} {vs : List V} {ds : List D} (h : Dens w M H vs ds) (lo hi : Option Int) : Dens w M H (cutV vs lo hi) (cutD ds lo hi) := by
  unfold cutV cutD
  rw [h.length]
  exact (h.drop _).take _
def pSl {α : Type} (g : D → Option Int → Option Int → Option α) (fe : Env → m D) (fl fh : Env → m (Option Int)) : Env → m α := fun ρ => Md.bind (fe ρ) fun x => Md.bind (fl ρ) fun lo => Md.bind (fh ρ) fun hi => Md.lift (g x lo hi)
def dSlL : D → Option Int → Option Int → Option (List D)
  | .lst ds, lo, hi => some (cutD ds lo hi)
  | .scr ns, lo, hi => some (cutD (ns.map .int) lo hi)
  | _, _, _ => none
variable {tl th : TO} {fl fh : Env → m (Option Int)}
/-- a slice of a list or a tuple, as a value -/
def rSlU (K : PySem.W.Frag) : V → Option Int → Option Int → Hp → VK → Prop := fun x lo hi H Q => rSlL K x lo hi H Q ∨ rSlA K x lo hi H Q
theorem sl_U {X : Cx} : SlR X (rSlU X.K) := sl_list.or sl_tupA
def dSlU : D → Option Int → Option Int → Option D
  | .lst ds, lo, hi => some (.lst (cutD ds lo hi))
  | .scr ns, lo, hi => some (.lst (cutD (ns.map .int) lo hi))
  | .tup ds, lo, hi => some (.tup (cutD ds lo hi))
  | _, _, _ => none
theorem cutD_all {ds : List D} {lo hi : Option Int} (h : HT.sIx ds.length 0 lo = 0 ∧ HT.sIx ds.length ds.length hi = ds.length) : cutD ds lo hi = ds := by
  unfold cutD
  rw [h.1, h.2, List.drop_zero, Nat.sub_zero, List.take_length]
theorem sim_slU (h : Sim m w O b te fe) (hl : PrtSim m w O tl fl) (hh : PrtSim m w O th fh) : Sim m w O true (tSl (rSlU w.K) te tl th) (pSl dSlU fe fl fh) := fun A H0 M σ H ρ Q R q => by
  refine h A H0 M σ H ρ _ R (Md.wp_mono (fun x q1 v H1 k1 d1 => ?_) (Md.wp_bind q))
  refine hl A H0 M σ H1 ρ _ (R.go k1) (Md.wp_mono (fun lo q2 H2 k2 => ?_) (Md.wp_bind q1))
  refine hh A H0 M σ H2 ρ _ ((R.go k1).go k2) (Md.wp_mono (fun hi q3 H3 k3 => ?_) (Md.wp_bind q2))
  obtain ⟨d, e, q4⟩ := Md.wp_lift q3
  have d3 := DenT.step R.pm (k2.trans k3) d1.t
  have k13 := (k1.trans k2).trans k3
  have R3 := R.go k13
  cases x with
  | lst xs =>
    cases e
    obtain ⟨a, vs, rfl, ea, ha⟩ := d3.list
    exact .inl ⟨a, vs, rfl, .of ea, fun p n => q4 _ _ (k13.trans (Step.new n)) (.lst ⟨R3.fresh n, upd_same⟩ (Dens.lat (lat_upd n) _ _ (ha.cut lo hi)))⟩
  | scr ns =>
    cases e
    obtain ⟨a, rfl, ea⟩ := d3.script
    exact .inl ⟨a, _, rfl, ea, fun p n => q4 _ _ (k13.trans (Step.new n)) (.lst ⟨R3.fresh n, upd_same⟩ ((Dens.ofInts ns).cut lo hi))⟩
  | tup xs =>
    cases e
    obtain ⟨a, vs, rfl, ea, ha⟩ := d3.tuple
    refine .inr ⟨a, vs, rfl, ea.sq, fun z => ?_, fun z p n => ?_⟩
    · rw [ha.length] at z
      rw [cutD_all z] at q4
      exact q4 _ _ k13 (.tup ea ha)
    · exact q4 _ _ (k13.trans (Step.new n)) (.tup (.inl ⟨R3.fresh n, .inl upd_same⟩) (Dens.lat (lat_upd n) _ _ (ha.cut lo hi)))
  | _ => cases e
/-! ### built-in functions -/
def ClSim (w : Wd) (r : List V → Hp → VK → Prop) (g : List D → Option D) : Prop := ∀ (M : Av) (H : Hp) (ds : List D) (d : D) (vs : List V) (Q : VK), (∀ a, w.pa a → M a) → (∀ a, M a → H a ≠ none) → DensB w M H false vs ds → g ds = some d → (∀ z H', Step w H H' → Den w M H' z d → Q z H') → r vs H Q
def ClSimL (w : Wd) (r : List V → Hp → VK → Prop) (g : List D → Option (List D)) : Prop := ∀ (M : Av) (H : Hp) (ds es : List D) (vs : List V) (Q : VK), (∀ a, w.pa a → M a) → (∀ a, M a → H a ≠ none) → DensB w M H false vs ds → g ds = some es →
  (∀ p us H', H p = none → Step w H H' → H' p = some (.lst us) → Dens w (M.or p) H' us es → Q (.ref p) H') → r vs H Q
theorem DensB.any {M : Av} {H : Hp} : ∀ {vs : List V} {ds : List D}, DensB w M H b vs ds → DensB w M H false vs ds
  | [], [], _ => trivial
  | _ :: _, _ :: _, h => ⟨h.1.t, DensB.any h.2⟩
theorem sim_cb {r : List V → Hp → VK → Prop} {g : List D → Option D} (hr : ClSim w r g) (h : Args m w O b tr fr) : Sim m w O true (tCB r tr) (pA g fr) := fun A H0 M σ H ρ Q R q => by
  refine h A H0 M σ H ρ _ R (Md.wp_mono (fun ds q1 vs H1 k1 d1 => ?_) (Md.wp_bind q))
  obtain ⟨d, e, q2⟩ := Md.wp_lift q1
  exact hr M H1 ds d vs Q R.pm (R.go k1).dom d1.any e fun z H2 k2 dz => q2 z H2 (k1.trans k2) dz
theorem simL_cb {r : List V → Hp → VK → Prop} {g : List D → Option (List D)} (hr : ClSimL w r g) (h : Args m w O b tr fr) : SimL m w O (tCB r tr) (pA g fr) := fun A H0 M σ H ρ Q R q => by
  refine h A H0 M σ H ρ _ R (Md.wp_mono (fun ds q1 vs H1 k1 d1 => ?_) (Md.wp_bind q))
  obtain ⟨d, e, q2⟩ := Md.wp_lift q1
  exact hr M H1 ds d vs Q R.pm (R.go k1).dom d1.any e fun p us H2 n k2 e2 dz => q2 p us H2 (fresh_back k1 R.potOk n) (k1.trans k2) e2 dz
theorem one_arg {M : Av} {H : Hp} {vs : List V} {d : D} (h : DensB w M H false vs [d]) : ∃ v, vs = [v] ∧ DenT w M H v d := by
  match vs, h with
  | [v], h => exact ⟨v, rfl, h.1⟩
theorem two_arg {M : Av} {H : Hp} {vs : List V} {d e : D} (h : DensB w M H false vs [d, e]) : ∃ v u, vs = [v, u] ∧ DenT w M H v d ∧ DenT w M H u e := by
  match vs, h with
  | [v, u], h => exact ⟨v, u, rfl, h.1, h.2.1⟩
def rLenU (K : PySem.W.Frag) : List V → Hp → VK → Prop := fun xs H Q => (∃ p ys, xs = [.ref p] ∧ (SqL K H p ys ∨ SqT K H p ys) ∧ Q (.int ys.length) H) ∨ ∃ z, xs = [.str z] ∧ z.length ≤ sizeLine ∧ Q (.int z.length) H
theorem call_lenU {X : Cx} : CallR X (.builtin "len") (rLenU X.K) := call_len_seq.or call_len_str
def dLen : List D → Option D
  | [.lst ds] => some (.int (ds.length : Nat))
  | [.tup ds] => some (.int (ds.length : Nat))
  | [.scr ns] => some (.int (ns.length : Nat))
  | [.str x] => match lenOk x.length with
    | true => some (.int (x.length : Nat))
    | false => none
  | _ => none
theorem cs_len : ClSim w (rLenU w.K) dLen := fun M H ds d vs Q hp hd h e q => by
  unfold dLen at e
  split at e
  · cases e
    obtain ⟨v, rfl, dv⟩ := one_arg h
    obtain ⟨a, us, rfl, ea, ha⟩ := dv.list
    refine .inl ⟨a, us, rfl, .inl (.of ea), ?_⟩
    rw [ha.length]
    exact q _ H .refl (.int _)
  · cases e
    obtain ⟨v, rfl, dv⟩ := one_arg h
    obtain ⟨a, us, rfl, ea, ha⟩ := dv.tuple
    refine .inl ⟨a, us, rfl, .inr ea.sq, ?_⟩
    rw [ha.length]
    exact q _ H .refl (.int _)
  · cases e
    obtain ⟨v, rfl, dv⟩ := one_arg h
    obtain ⟨a, rfl, ea⟩ := dv.script
    refine .inl ⟨a, _, rfl, .inl ea, ?_⟩
    rw [List.length_map]
    exact q _ H .refl (.int _)
  · split at e
    · rename_i hl
      cases e
      obtain ⟨v, rfl, dv⟩ := one_arg h
      cases dv.str
      exact .inr ⟨_, rfl, lenOk_le hl, q _ H .refl (.int _)⟩
    · cases e
  · cases e
def intsOf : List D → Option (List Int)
  | [] => some []
  | .int i :: ds => (intsOf ds).map (i :: ·)
  | _ :: _ => none
theorem intsOf_eq : ∀ {ds : List D} {is : List Int}, intsOf ds = some is → ds = is.map D.int
  | [], _, e => by cases e; rfl
  | .int i :: ds, is, e => by
    unfold intsOf at e
    cases z : intsOf ds with
    | none => rw [z] at e; cases e
    | some js =>
      rw [z] at e
      cases e
      rw [intsOf_eq z]
      rfl
  | .non :: _, _, e | .bl _ :: _, _, e | .str _ :: _, _, e | .lst _ :: _, _, e | .tup _ :: _, _, e | .ins _ _ _ :: _, _, e | .pot :: _, _, e | .rep _ :: _, _, e | .cls _ :: _, _, e | .ty _ :: _, _, e | .scr _ :: _, _, e | .dic _ :: _, _, e | .fn _ _ _ :: _, _, e => by unfold intsOf at e; cases e
def dInts : D → Option (List Int)
  | .lst ds => intsOf ds
  | _ => none
theorem dInts_sq {M : Av} {H : Hp} {v : V} {d : D} {is : List Int} (e : dInts d = some is) (h : DenT w M H v d) : ∃ a, v = .ref a ∧ SqL w.K H a (is.map V.int) := by
  unfold dInts at e
  split at e
  · obtain ⟨a, us, rfl, ea, ha⟩ := h.list
    rw [intsOf_eq e] at ha
    rw [ha.ints] at ea
    exact ⟨a, rfl, .of ea⟩
  · cases e
def sumI : List Int → Int
  | [] => 0
  | i :: is => i + sumI is
theorem sumI_eq : ∀ is : List Int, sumI is = is.sum
  | [] => rfl
  | i :: is => by
    unfold sumI
    rw [List.sum_cons, sumI_eq is]
def dSum : List D → Option D
  | [x] => (dInts x).map fun is => .int (sumI is)
  | _ => none
theorem cs_sum : ClSim w (rSum w.K) dSum := fun M H ds d vs Q hp hd h e q => by
  unfold dSum at e
  split at e
  · rename_i x
    cases z : dInts x with
    | none => rw [z] at e; cases e
    | some is =>
      rw [z] at e
      cases e
      obtain ⟨v, rfl, dv⟩ := one_arg h
      obtain ⟨a, rfl, ea⟩ := dInts_sq z dv
      refine ⟨a, is, rfl, ea, ?_⟩
      rw [← sumI_eq]
      exact q _ H .refl (.int _)
  · cases e
def d2I (g : Int → Int → Int) : List D → Option D
  | [.int i, .int j] => some (.int (g i j))
  | _ => none
theorem cs_2I {g : Int → Int → Int} : ClSim w (fun xs H Q => ∃ i j, xs = [.int i, .int j] ∧ Q (.int (g i j)) H) (d2I g) := fun M H ds d vs Q hp hd h e q => by
  unfold d2I at e
  split at e
  · cases e
    obtain ⟨v, u, rfl, dv, du⟩ := two_arg h
    cases dv.int; cases du.int
    exact ⟨_, _, rfl, q _ H .refl (.int _)⟩
  · cases e
def gMax (i j : Int) : Int := if j > i then j else i
def gMin (i j : Int) : Int := if j < i then j else i
def gAbs (i : Int) : Int := if i < 0 then -i else i
def dMax2 : List D → Option D := d2I gMax
def dMin2 : List D → Option D := d2I gMin
theorem cs_max2 : ClSim w (fun xs H Q => ∃ i j, xs = [.int i, .int j] ∧ Q (.int (if j > i then j else i)) H) dMax2 := cs_2I (g := gMax)
def dAbs : List D → Option D
  | [.int i] => some (.int (gAbs i))
  | _ => none
theorem cs_abs : ClSim w (fun xs H Q => ∃ i, xs = [.int i] ∧ Q (.int (if i < 0 then -i else i)) H) dAbs := fun M H ds d vs Q hp hd h e q => by
  unfold dAbs at e
  split at e
  · cases e
    obtain ⟨v, rfl, dv⟩ := one_arg h
    cases dv.int
    exact ⟨_, rfl, q _ H .refl (.int (gAbs _))⟩
  · cases e
def dIntC : List D → Option D
  | [.int i] => some (.int i)
  | [.bl c] => some (.int (if c then 1 else 0))
  | _ => none
/-- the greatest, the least -/
def foldMax : Int → List Int → Int
  | a, [] => a
  | a, i :: is => foldMax (if i > a then i else a) is
def foldMin : Int → List Int → Int
  | a, [] => a
  | a, i :: is => foldMin (if i < a then i else a) is
theorem foldMin_mem : ∀ (is : List Int) (a : Int), (foldMin a is = a ∨ foldMin a is ∈ is) ∧ foldMin a is ≤ a ∧ ∀ y ∈ is, foldMin a is ≤ y
  | [], a => ⟨.inl rfl, Int.le_refl _, fun _ h => nomatch h⟩
  | i :: is, a => by
    unfold foldMin
    obtain ⟨h1, h2, h3⟩ := foldMin_mem is (if i < a then i else a)
    refine ⟨?_, ?_, fun y hy => ?_⟩
    · rcases h1 with h1 | h1
      · by_cases c : i < a
        · rw [if_pos c] at h1 ⊢
          exact .inr (by rw [h1]; exact List.mem_cons_self)
        · rw [if_neg c] at h1 ⊢
          exact .inl h1
      · exact .inr (List.mem_cons_of_mem _ h1)
    · refine Int.le_trans h2 ?_
      split <;> omega
    · rcases List.mem_cons.mp hy with rfl | hy
      · refine Int.le_trans h2 ?_
        split <;> omega
      · exact h3 y hy
def dMaxL : List D → Option D
  | [x] => match dInts x with
    | some (i :: is) => some (.int (foldMax i is))
    | _ => none
  | _ => none
def dMinL : List D → Option D
  | [x] => match dInts x with
    | some (i :: is) => some (.int (foldMin i is))
    | _ => none
  | _ => none
def blsOf : List D → Option (List Bool)
  | [] => some []
  | .bl i :: ds => (blsOf ds).map (i :: ·)
  | _ :: _ => none
theorem blsOf_eq : ∀ {ds : List D} {is : List Bool}, blsOf ds = some is → ds = is.map D.bl
  | [], _, e => by cases e; rfl
  | .bl i :: ds, is, e => by
    unfold blsOf at e
    cases z : blsOf ds with
    | none => rw [z] at e; cases e
    | some js =>
      rw [z] at e
      cases e
      rw [blsOf_eq z]
      rfl
  | .non :: _, _, e | .int _ :: _, _, e | .str _ :: _, _, e | .lst _ :: _, _, e | .tup _ :: _, _, e | .ins _ _ _ :: _, _, e | .pot :: _, _, e | .rep _ :: _, _, e | .cls _ :: _, _, e | .ty _ :: _, _, e | .scr _ :: _, _, e | .dic _ :: _, _, e | .fn _ _ _ :: _, _, e => by unfold blsOf at e; cases e
def allB : List Bool → Bool
  | [] => true
  | c :: cs => c && allB cs
def anyB : List Bool → Bool
  | [] => false
  | c :: cs => c || anyB cs
theorem allB_eq : ∀ cs : List Bool, cs.all id = allB cs
  | [] => rfl
  | c :: cs => by
    unfold allB
    rw [List.all_cons, allB_eq cs]
    rfl
theorem anyB_eq : ∀ cs : List Bool, cs.any id = anyB cs
  | [] => rfl
  | c :: cs => by
    unfold anyB
    rw [List.any_cons, anyB_eq cs]
    rfl
def dAll : List D → Option D
  | [.lst ds] => (blsOf ds).map fun cs => .bl (allB cs)
  | _ => none
def dAny : List D → Option D
  | [.lst ds] => (blsOf ds).map fun cs => .bl (anyB cs)
  | _ => none
theorem cs_all : ClSim w (rAll w.K) dAll := fun M H ds d vs Q hp hd h e q => by
  unfold dAll at e
  split at e
  · rename_i xs
    cases z : blsOf xs with
    | none => rw [z] at e; cases e
    | some is =>
      rw [z] at e
      cases e
      obtain ⟨v, rfl, dv⟩ := one_arg h
      obtain ⟨a, us, rfl, ea, ha⟩ := dv.list
      rw [blsOf_eq z] at ha
      rw [ha.bls] at ea
      refine ⟨a, is, rfl, .of ea, ?_⟩
      rw [allB_eq]
      exact q _ H .refl (.bl _)
  · cases e
theorem cs_any : ClSim w (rAny w.K) dAny := fun M H ds d vs Q hp hd h e q => by
  unfold dAny at e
  split at e
  · rename_i xs
    cases z : blsOf xs with
    | none => rw [z] at e; cases e
    | some is =>
      rw [z] at e
      cases e
      obtain ⟨v, rfl, dv⟩ := one_arg h
      obtain ⟨a, us, rfl, ea, ha⟩ := dv.list
      rw [blsOf_eq z] at ha
      rw [ha.bls] at ea
      refine ⟨a, is, rfl, .of ea, ?_⟩
      rw [anyB_eq]
      exact q _ H .refl (.bl _)
  · cases e
/-- list(x), tuple(x) -/
def dListOf : List D → Option (List D)
  | [.lst ds] => some ds
  | [.tup ds] => some ds
  | [.scr ns] => some (ns.map .int)
  | _ => none
theorem cs_listOf : ClSimL w (fun xs H Q => ∃ p ys, xs = [.ref p] ∧ (SqL w.K H p ys ∨ SqT w.K H p ys) ∧ ∀ l, H l = none → Q (.ref l) (upd H l (.lst ys))) dListOf := fun M H ds es vs Q hp hd h e q => by
  unfold dListOf at e
  split at e
  · cases e
    obtain ⟨v, rfl, dv⟩ := one_arg h
    obtain ⟨a, us, rfl, ea, ha⟩ := dv.list
    exact ⟨a, us, rfl, .inl (.of ea), fun l n => q l us _ n (Step.new n) upd_same (new_at n ha)⟩
  · cases e
    obtain ⟨v, rfl, dv⟩ := one_arg h
    obtain ⟨a, us, rfl, ea, ha⟩ := dv.tuple
    exact ⟨a, us, rfl, .inr ea.sq, fun l n => q l us _ n (Step.new n) upd_same (new_at n ha)⟩
  · cases e
    obtain ⟨v, rfl, dv⟩ := one_arg h
    obtain ⟨a, rfl, ea⟩ := dv.script
    exact ⟨a, _, rfl, .inl ea, fun l n => q l _ _ n (Step.new n) upd_same (new_at n (Dens.ofInts _))⟩
  · cases e
def dTupleOf : List D → Option D
  | [.lst ds] => some (.tup ds)
  | [.tup ds] => some (.tup ds)
  | [.scr ns] => some (.tup (ns.map .int))
  | _ => none
/-! ### sorted, of ints -/
def insI (x : Int) : List Int → List Int
  | [] => [x]
  | y :: ys => if x ≤ y then x :: y :: ys else y :: insI x ys
def sortI : List Int → List Int
  | [] => []
  | x :: xs => insI x (sortI xs)
def dSorted : List D → Option (List D)
  | [x] => (dInts x).map fun is => (sortI is).map .int
  | _ => none
def dSortedR : List D → Option (List D)
  | [x] => (dInts x).map fun is => (sortI is).reverse.map .int
  | _ => none
/-! ### stores into lists of the def's own -/
variable {κ : Bool} {Ob : List Nat}
theorem Rel.put {A : Av} {H0 : Hp} {M : Av} {σ : L2.St} {H : Hp} {ρ : Env} (r : Rel w O A H0 M σ H ρ) {i : Nat} (hi : i ∈ O) {p : Addr} {d0 : D} (e0 : ρ[i]? = some (some d0)) (es : σ[i]? = some (some (.ref p))) (mp : M p) (np : ¬ A p) {vs us : List V} {ds : List D} (ep : H p = some (.lst vs))
    (h : Dens w M H us ds) : Rel w O A H0 M σ (upd H p (.lst us)) (ρ.set i (some (.lst ds))) ∧ Evo M H M (upd H p (.lst us)) := by
  have hw : ∀ a u, ¬ M a → H a = some u → upd H p (.lst us) a = some u := fun a u na ea => by
    rw [upd_ne (show a ≠ p from fun z => na (by rw [z]; exact mp))]
    exact ea
  have n0 : H0 p = none := (r.new p mp).elim (fun z => (np z).elim) fun z => z
  have st : Step w H0 (upd H p (.lst us)) := by
    refine Step.of (fun a o na ea => ?_) (fun po => ?_)
    · rw [upd_ne (ne_of_none ea n0)]
      exact r.step.lat a o na ea
    · exact r.potOk.p0.but p (fun z => np (r.pot p z)) (fun c q z => lst_ne (Option.some.inj (ep.symm.trans z))) fun a u ne e => by rw [upd_ne ne]; exact e
  have hl : i < ρ.length := (List.getElem?_eq_some_iff.mp e0).1
  refine ⟨⟨by rw [List.length_set, r.len], st, r.pot, r.av, r.new, fun a za => ?_, fun j d e n => ?_, fun j d e n => ?_, fun j l d1 d2 q h1 h2 n1 n2 h3 h4 => ?_⟩, hw, fun a z => .inl z⟩
  · by_cases q : a = p
    · subst q
      exact .inl ⟨_, upd_same⟩
    · exact LB.keep (fun o ez => by rw [upd_ne q]; exact ez) (r.isL a za)
  · have q : j ≠ i := fun q => n (q ▸ hi)
    obtain ⟨v', e5, h'⟩ := r.sh j d (get_set_ne e q) n
    exact ⟨v', e5, Den.lat hw _ _ h'⟩
  · by_cases q : j = i
    · subst q
      rw [List.getElem?_set_self hl] at e
      cases e
      exact .inr ⟨p, us, ds, rfl, es, mp, np, upd_same, Dens.lat hw _ _ h⟩
    · have e1 := get_set_ne e q
      rcases r.ow j d e1 n with z | ⟨p', us', ds', z1, z2, z3, z4, z5, z6⟩
      · exact .inl z
      have hne : p' ≠ p := fun z => by
        subst z
        exact q (r.sep j i d d0 _ e1 e0 n hi z2 es)
      exact .inr ⟨p', us', ds', z1, z2, z3, z4, by rw [upd_ne hne]; exact z5, Dens.lat hw _ _ z6⟩
  · have up : ∀ j d, (ρ.set i (some (.lst ds)))[j]? = some (some d) → ∃ d', ρ[j]? = some (some d') := fun j d e => by
      by_cases q : j = i
      · subst q; exact ⟨d0, e0⟩
      · exact ⟨d, get_set_ne e q⟩
    obtain ⟨c1, y1⟩ := up j d1 h1
    obtain ⟨c2, y2⟩ := up l d2 h2
    exact r.sep j l c1 c2 q y1 y2 n1 n2 h3 h4
def gLs (ρ : Env) (i : Nat) : Option (List D) := match ρ[i]? with
  | some (some (.lst ds)) => some ds
  | _ => none
theorem gLs_eq {ρ : Env} {i : Nat} {ds : List D} (h : gLs ρ i = some ds) : ρ[i]? = some (some (.lst ds)) := by
  unfold gLs at h
  split at h
  · rename_i e
    cases h
    exact e
  · cases h
/-- xs.append(e) -/
def sApp (i : Nat) (fe : Env → m D) : Env → m Rs := fun ρ => Md.bind (Md.lift (gLs ρ i)) fun ds => Md.bind (fe ρ) fun d => Md.bind (Md.lift (okL (ds ++ [d]))) fun es => Md.ret (.nx (ρ.set i (some (.lst es))))
theorem ss_app (i : Nat) (h : Sim m w O true te fe) (hi : i ∈ O := by decide) : Ssm m w κ Ob O O (tDrop (tBM w.K "list" rAppend (tVar i) (tCons te tNil))) (sApp i fe) := fun A H0 M σ H ρ E R q => by
  obtain ⟨ds, hg, q0⟩ := Md.wp_lift (Md.wp_bind q)
  obtain ⟨p, vs, ds', z1, z2, mp, np, ep, hd⟩ := R.owl i _ (gLs_eq hg) hi
  cases z1
  refine ⟨_, z2, .inl ⟨rfl, _, .of ep⟩, ?_⟩
  refine h A H0 M σ H ρ _ R (Md.wp_mono (fun x q1 v H1 k1 d1 => ?_) (Md.wp_bind q0))
  obtain ⟨es, e3, q3⟩ := Md.wp_lift (Md.wp_bind q1)
  obtain ⟨rfl, hz⟩ := okL_eq e3
  have R1 := R.go k1
  have ep1 : H1 p = some (.lst vs) := k1.lat _ _ (fun z => np (R.pot _ z)) ep
  have hd1 := Dens.lat (k1.lat.mono R.pm) _ _ hd
  refine ⟨p, vs, v, rfl, rfl, ep1, ?_, ?_⟩
  · have := lenOk_lt hz
    rw [List.length_append, List.length_singleton] at this
    rw [hd.length]
    omega
  · obtain ⟨R2, k2⟩ := R1.put hi (gLs_eq hg) z2 mp np ep1 (hd1.append (.cons d1 .nil))
    exact Md.wp_ret q3 M σ _ R2 ((Evo.step R.pm k1).trans k2)
/-- xs[i] = e -/
def sPut (i : Nat) (fx fe : Env → m D) : Env → m Rs := fun ρ => Md.bind (Md.lift (gLs ρ i)) fun ds => Md.bind (fe ρ) fun d => Md.bind (fx ρ) fun x => Md.bind (Md.lift (match x with
  | .int k => (ixN ds.length k).map fun j => ds.set j d
  | _ => none)) fun es => Md.ret (.nx (ρ.set i (some (.lst es))))
theorem ss_put (i : Nat) (hx : Sim m w O b ta fa) (h : Sim m w O true te fe) (hi : i ∈ O := by decide) : Ssm m w κ Ob O O (tAsg te (gSub (tVar i) ta rSetL)) (sPut i fa fe) := fun A H0 M σ H ρ E R q => by
  obtain ⟨ds, hg, q0⟩ := Md.wp_lift (Md.wp_bind q)
  obtain ⟨p, vs, ds', z1, z2, mp, np, ep, hd⟩ := R.owl i _ (gLs_eq hg) hi
  cases z1
  refine h A H0 M σ H ρ _ R (Md.wp_mono (fun d q1 v H1 k1 d1 => ?_) (Md.wp_bind q0))
  refine ⟨_, z2, ?_⟩
  refine hx A H0 M σ H1 ρ _ (R.go k1) (Md.wp_mono (fun x q2 u H2 k2 d2 => ?_) (Md.wp_bind q1))
  obtain ⟨es, e3, q3⟩ := Md.wp_lift (Md.wp_bind q2)
  cases x with
  | int k =>
    cases z : ixN ds.length k with
    | none => simp [z] at e3
    | some j =>
      simp [z] at e3
      subst e3
      have R2 := (R.go k1).go k2
      have k12 := k1.trans k2
      have ep1 : H2 p = some (.lst vs) := k12.lat _ _ (fun z => np (R.pot _ z)) ep
      have hd1 := Dens.lat (k12.lat.mono R.pm) _ _ hd
      refine ⟨p, vs, k, j, rfl, d2.t.int, ep1, by rw [hd.length]; exact z, ?_⟩
      obtain ⟨R3, k3⟩ := R2.put hi (gLs_eq hg) z2 mp np ep1 (hd1.set j (Den.lat (k2.lat.mono R.pm) _ _ d1))
      exact Md.wp_ret q3 M σ _ R3 ((Evo.step R.pm k12).trans k3)
  | _ => cases e3
/-- xs.append(ys.pop(e)) -/
def popAt (ds : List D) (x : D) : Option (D × List D) := match x with
  | .int k => match ixN ds.length k with
    | some j => (ds[j]?).map fun d => (d, ds.eraseIdx j)
    | none => none
  | _ => none
def sAppPop (i j : Nat) (fx : Env → m D) : Env → m Rs := fun ρ => Md.bind (Md.lift (gLs ρ i)) fun ds => Md.bind (Md.lift (gLs ρ j)) fun es => Md.bind (fx ρ) fun x => Md.bind (Md.lift (okL es)) fun _ => Md.bind (Md.lift (popAt es x)) fun de => Md.bind (Md.lift (okL (ds ++ [de.1]))) fun ds2 =>
  Md.ret (.nx ((ρ.set j (some (.lst de.2))).set i (some (.lst ds2))))
/-- x = ys.pop(e) -/
def sSetPop (i j : Nat) (fx : Env → m D) : Env → m Rs := fun ρ => Md.bind (Md.lift (gLs ρ j)) fun es => Md.bind (fx ρ) fun x => Md.bind (Md.lift (okL es)) fun _ => Md.bind (Md.lift (popAt es x)) fun de =>
  Md.ret (.nx ((ρ.set j (some (.lst de.2))).set i (some de.1)))
end
end Pw
set_option Elab.async false
set_option linter.all false
set_option maxRecDepth 100000
set_option maxHeartbeats 1000000
/-! Pw6: defs: their promises, their calls. -/
namespace Pw
open PySem PySem.Spec PyProof.Rows L2
/-- a def's promise, told where no guard stands -/
structure FnG (P : Program) (w : World) (K : PySem.W.Frag) (mg : Str → Option Value) (base : Heap) (CX : CXT) (k : Nat) (f : Addr) (fd : FuncData) (ps : List Str) (sp : Sp) : Prop where
  many : ∀ vs H Q E, sp vs H Q E → vs.length = ps.length
  does : ∀ (B : Around) (out : List PySem.Env) (z : Shared) (H : Hp) (args : PySem.Args) (us : List Value) (vs : List V) (Q : VK) (E : XK), B.guards = some [] → Room k B → Env0 P w K mg base B out z H → BindsTo z fd args (ps.zip us) → Vals vs us → sp vs H Q E →
    codeAny (model P w) B (.call (.ref f) args) (CR CX out P w H z Q E) z
section
variable {P : Program} {w : World} {K : PySem.W.Frag} {mg : Str → Option Value} {base : Heap} {CX : CXT} {k : Nat} {f : Addr} {fd : FuncData} {ps N : List Str} {sp : Sp}
theorem FnG.less {sp' : Sp} (F : FnG P w K mg base CX k f fd ps sp) (h : ∀ vs H Q E, sp' vs H Q E → sp vs H Q E) : FnG P w K mg base CX k f fd ps sp' :=
  ⟨fun vs H Q E q => F.many _ _ _ _ (h vs H Q E q), fun B out z H args us vs Q E hg hr e0 hb r q => F.does B out z H args us vs Q E hg hr e0 hb r (h vs H Q E q)⟩
theorem fng_of {x qual : Str} {params : Arguments} {body : List Stmt} {scope : Scope} {dvs : List V} {kws : List (Str × V)} (F : FunD K x qual params body scope dvs kws f fd) (S : FnScope N ps scope) (many : ∀ vs H Q E, sp vs H Q E → vs.length = ps.length)
    (hbody : ∀ (cdv : Value) (B : Around) (out : List PySem.Env) (z : Shared) (H : Hp) (vs : List V) (Q : VK) (E : XK), B.guards = some [] → Room k (B.deeper (envOfC qual scope z.heap.objs.size f cdv)) → sp vs H Q E →
      ∃ t, PSs (cxOf CX P w K mg base N qual scope f cdv B out z H E) body t ∧ t { nx := fun _ H' => Q .non H', rt := Q } (start N vs) H) : FnG P w K mg base CX (k + 1) f fd ps sp := by
  obtain ⟨oc, od, dV, kV, doc, pm, an, cdv, ct, osl, rfl, lk, hcd, _, _⟩ := F.ex
  refine ⟨many, fun B out z H args us vs Q E hg hr e0 hb r hsp => ?_⟩
  have KX : K.In z.heap := e0.mod.kin.keeps fun a o e => (e0.bs a o e).1
  have nl : z.heap.NoLimit := e0.mod.nolimit.keeps fun a o e => (e0.bs a o e).1
  refine codeAny_call_function hr.depth (KX _ _ lk) rfl S.co S.gen rfl (PySem.W.codeRec_of KX hcd) (hb _ _ _ _ ?_)
  refine wpAny_newFunctionEnv_cells S.kind (fun y hy => ?_) fun env he z1 x => ?_
  · rcases S.par y.1 (List.of_mem_zip (show (y.1, y.2) ∈ ps.zip us from hy)).1 with q | q
    · exact .inl q
    · exact .inr ⟨q, PySem.W.cellsFrom_some _ _ _ (.inl q)⟩
  subst he
  refine ⟨nl.keeps x.toInCall.keep, codeAny_func ?_⟩
  obtain ⟨t, ht, hq⟩ := hbody cdv B out z H vs Q E hg (hr.deeper _) hsp
  refine wpAny_mono (ht.run [] z1 (start N vs) H _ (inv_start S hr.hd e0 (many _ _ _ _ hsp) r x) hq) (fun fl z' hz => ?_) fun _ _ hz => hz
  cases fl with
  | ret u => exact let ⟨v, _, H', J, rv, q⟩ := hz; ⟨v, H', J.os, J.bare, J.base, J.hok, rv, q⟩
  | next => exact let ⟨_, H', J, q⟩ := hz; ⟨V.non, H', J.os, J.bare, J.base, J.hok, rfl, q⟩
  | brk => exact let ⟨_, _, _, q⟩ := hz; q.elim
  | cont => exact let ⟨_, _, _, q⟩ := hz; q.elim
end
/-! ### arguments by names -/
def pick {α : Type} (π : List Nat) (l : List α) : List α := π.filterMap fun i => l[i]?
theorem pick_vals {vs : List V} {us : List Value} (r : Vals vs us) : ∀ π : List Nat, Vals (pick π vs) (pick π us)
  | [] => .nil
  | i :: π => by
    have ih := pick_vals r π
    unfold pick at ih ⊢
    rw [List.filterMap_cons, List.filterMap_cons]
    cases e : vs[i]? with
    | none =>
      have e2 : us[i]? = none := by
        rw [List.getElem?_eq_none_iff] at e ⊢
        rw [← r.length]
        exact e
      rw [e2]
      exact ih
    | some v =>
      obtain ⟨u, e2, rv⟩ := r.get e
      rw [e2]
      exact .cons rv ih
def tBoth (n l : Nat) (π : List Nat) (t tk : TA) : TA := fun σ H Q => t σ H fun vs H1 => tk σ H1 fun zs H2 => vs.length = n ∧ zs.length = l ∧ Q (pick π (vs ++ zs)) H2
def tKws (l : Nat) (π : List Nat) (tk : TA) : TA := fun σ H Q => tk σ H fun zs H2 => zs.length = l ∧ Q (pick π zs) H2
def tGo (sp : Sp) (t : TA) : TE := fun σ H Q => t σ H fun vs H1 => sp vs H1 Q E0
/-- a def of the module, its promise -/
structure Fun (P : Program) (w : World) (K : PySem.W.Frag) (mg : Str → Option Value) (base : Heap) (k : Nat) (x : Str) (st : Stmt) (ps : List Str) (sp : Sp) : Prop where
  ex : ∃ (y : Str) (f : Addr) (fd : FuncData), FunD K y y (defArgs st) (defBody st) (defScope st) [] [] f fd ∧ FnG P w K mg base CX0 k f fd ps sp ∧ mg x = some (.ref f)
section
variable {X : Cx} {k : Nat} {f : Addr} {fd : FuncData} {ps ks : List Str} {sp : Sp} {x : Str} {st : Stmt} {p pos : Pos} {e : Expr} {es : List Expr} {kws : List Keyword} {t tk : TA} {π : List Nat}
theorem go_fn {pins : List (Addr × Obj)} {σ : L2.St} {H : Hp} {z : Shared} {Q : VK} {us : List Value} {vs : List V} (F : FnG X.prog X.w X.K X.mg X.base CX0 k f fd ps sp) (hr : Room k X.A) (hg : X.A.guards = some []) {args : PySem.Args} (hb : BindsTo z fd args (ps.zip us))
    (I : Inv X pins σ H z) (r : Vals vs us) (h : sp vs H Q E0) : codeAny (model X.prog X.w) X.A (.call (.ref f) args) (fun r z' => match r with
      | .ok (.ret u) => EP X pins σ Q u z'
      | .ok _ => False
      | .error _ => False) z := by
  refine codeAny_mono (F.does X.A X.stack z H args us vs Q E0 hg hr I.env0 hb r h) fun r z' hq => ?_
  match r, hq with
  | .error e, hq => exact hq
  | .ok (.ret u), hq => exact I.after hq
  | .ok .next, hq => exact hq
  | .ok .brk, hq => exact hq
  | .ok .cont, hq => exact hq
/-- f(e, ..) -/
theorem pe_go (F : Fun X.prog X.w X.K X.mg X.base k x st ps sp) (hr : Room k X.A) (hg : X.A.guards = some []) (gl : Gl X x) (ha : PA X (e :: es) t)
    (hb : ∀ (y : Str) (kV doc pm : Value) (an : Option Addr) (cdv ct : Value) (us : List Value), us.length = ps.length → bindArgs (PySem.W.fnOf y y (defArgs st) (defBody st) (defScope st) .none kV doc pm an cdv ct) ⟨us, []⟩ = pure (ps.zip us))
    (hdb : (x == ("__debug__" : Str)) = false := by decide) (he : starEach (e :: es) X.env = (false, eval e X.env) :: starEach es X.env := by rfl) (hpl : (backTo pos (starEach es X.env)).any (·.1) = false := by rfl) :
    PE X (.Call (.Name x p) (e :: es) [] pos) (tGo sp t) := by
  obtain ⟨y, f, fd, D, F, hm⟩ := F.ex
  refine ⟨fun pins z σ H Q I h => wpAny_Call_Name_kw (ld_glob I gl hm (PySem.W.callWith_K (h₀ := X.base) I.ok.mod.kin D.kp (thn (ha.run pos pins z σ H _ I h) fun us z1 q1 => ?_) he hpl) hdb)⟩
  obtain ⟨vs, H1, I1, r, q⟩ := q1
  refine ⟨I1.kIn, wpAny_call (codeAny_mono (go_fn F hr hg (D.bindsA (hb y) z1 us (r.length ▸ F.many _ _ _ _ q)) I1 r q) fun r z' h => ?_)⟩
  match r, h with
  | .ok (.ret u), h => exact h
end
end Pw
set_option Elab.async false
set_option linter.all false
set_option maxRecDepth 100000
set_option maxHeartbeats 1000000
/-! Pw7: defs told by what they compute. -/
namespace Pw
open PySem PySem.Spec PyProof.Rows L2
/-- n ends up in m -/
class Up (n m : Type → Type) [Md n] [Md m] where
  up : {α : Type} → n α → m α
  ok : ∀ {α : Type} {x : n α} {Q : α → Prop}, Md.wp (up x) Q → Md.wp x Q
instance instUpOO : Up Option Option := ⟨fun x => x, fun h => h⟩
instance instUpOG : Up Option G := ⟨fun x => Md.lift x, fun h => h⟩
instance instUpGG : Up G G := ⟨fun x => x, fun h => h⟩
section
variable {n m : Type → Type} [Md n] [Md m] [Up n m]
/-- the promise of a def of j parameters that computes spec -/
def SpD (K : PySem.W.Frag) (cl : Cl) (m : Type → Type) [Md m] (κ : Bool) (j : Nat) (spec : List D → m D) : Sp := fun vs H Q _ => vs.length = j ∧ ∃ (pot : Sh) (M : Av) (ds : List D), Dens ⟨K, cl, pot⟩ M H vs ds ∧ (∀ a, Wd.pa ⟨K, cl, pot⟩ a → M a) ∧ AllL M H ∧ PotOk ⟨K, cl, pot⟩ H ∧
  Md.wp (spec ds) fun d => ∀ v H', Step ⟨K, cl, pot⟩ H H' → RetOk ⟨K, cl, pot⟩ κ M H H' v d → Q v H'
def startD (n : Nat) (ds : List D) : Env := ds.map some ++ List.replicate (n - ds.length) none
def runD (κ : Bool) (n : Nat) (fs : Env → m Rs) : List D → m D := fun ds => Md.bind (fs (startD n ds)) fun r => match r with
  | .rt d => Md.ret d
  | .nx _ => match κ with
    | true => Md.lift none
    | false => Md.ret .non
  | _ => Md.lift none
theorem startD_get {n i : Nat} {ds : List D} {d : D} (h : (startD n ds)[i]? = some (some d)) : ds[i]? = some d := by
  unfold startD at h
  by_cases hi : i < ds.length
  · rw [List.getElem?_append_left (by simpa using hi), List.getElem?_map] at h
    cases e : ds[i]? with
    | none => rw [e] at h; cases h
    | some a => rw [e] at h; cases h; rfl
  · rw [List.getElem?_append_right (by simpa using hi), List.getElem?_replicate] at h
    split at h <;> cases h
theorem start_get {N : List Str} {i : Nat} {vs : List V} {v : V} (h : vs[i]? = some v) : (L2.start N vs)[i]? = some (some v) := by
  unfold L2.start
  have hi : i < vs.length := (List.getElem?_eq_some_iff.mp h).1
  rw [List.getElem?_append_left (by simpa using hi), List.getElem?_map, h]
  rfl
theorem Rel.start {w : Wd} {O : List Nat} {M : Av} {H : Hp} {N : List Str} {vs : List V} {ds : List D} (h : Dens w M H vs ds) (hp : ∀ a, w.pa a → M a) (hl : AllL M H) (po : PotOk w H) (hO : ∀ i ∈ O, ds.length ≤ i) : Rel w O M H M (L2.start N vs) H (startD N.length ds) := by
  have no : ∀ i d, (startD N.length ds)[i]? = some (some d) → i ∉ O := fun i d e z => by
    have e2 := (List.getElem?_eq_some_iff.mp (startD_get e)).1
    have := hO i z
    omega
  refine ⟨?_, .refl, ⟨hp, po⟩, fun _ z => z, fun _ z => .inl z, hl, fun i d e _ => ?_, fun i d e z => (no i d e z).elim, fun i _ d _ _ e _ z => (no i d e z).elim⟩
  · unfold startD L2.start
    simp only [List.length_append, List.length_map, List.length_replicate, h.length]
  · obtain ⟨v, e1, hv⟩ := h.get (startD_get e)
    exact ⟨v, start_get e1, hv⟩
/-- THE RULE of a def -/
theorem fng_def {P : Program} {w : World} {K : PySem.W.Frag} {cl : Cl} {mg : Str → Option Value} {base : Heap} {k : Nat} {x : Str} {st : Stmt} {ps N : List Str} {f : Addr} {fd : FuncData} {κ : Bool} {O O' : List Nat} {t : TS} {fs : Env → m Rs}
    (F : FunD K x x (defArgs st) (defBody st) (defScope st) [] [] f fd) (S : FnScope N ps (defScope st))
    (hb : ∀ (cdv : Value) (B : Around) (out : List PySem.Env) (z : Shared) (H : Hp) (E : XK), B.guards = some [] → Room k (B.deeper (envOfC x (defScope st) z.heap.objs.size f cdv)) → PSs (cxOf CX0 P w K mg base N x (defScope st) f cdv B out z H E).nox (defBody st) t)
    (hs : ∀ pot, Ssm m ⟨K, cl, pot⟩ κ [] O O' t fs) (hO : ∀ i ∈ O, ps.length ≤ i := by decide) : FnG P w K mg base CX0 (k + 1) f fd ps (SpD K cl m κ ps.length (runD κ N.length fs)) := by
  refine fng_of F S (fun vs H Q E h => h.1) (fun cdv B out z H vs Q E hg hr h => ⟨t, (hb cdv B out z H E hg hr).nox, ?_⟩)
  obtain ⟨hl, pot, M, ds, hd, hp, ha, po, q⟩ := h
  refine hs pot M H M (L2.start N vs) H (startD N.length ds) _ (Rel.start hd hp ha po fun i hi => by rw [← hd.length, hl]; exact hO i hi) ?_
  refine Md.wp_mono (fun r q1 => ?_) (Md.wp_bind q)
  cases r with
  | rt d =>
    have z := Md.wp_ret (show Md.wp (Md.ret d) _ from q1)
    exact z
  | nx ρ =>
    intro M' σ' H' R _
    cases κ with
    | true => exact let ⟨_, e, _⟩ := Md.wp_lift q1; nomatch e
    | false =>
      have z := Md.wp_ret (show Md.wp (Md.ret D.non) _ from q1)
      exact z .non H' R.step .non
  | bk ρ => exact let ⟨_, e, _⟩ := Md.wp_lift q1; nomatch e
  | ct ρ => exact let ⟨_, e, _⟩ := Md.wp_lift q1; nomatch e
/-- where a def stands -/
def DefAt (K : PySem.W.Frag) (mg : Str → Option Value) (x y : Str) (st : Stmt) : Prop := ∃ f fd, FunD K y y (defArgs st) (defBody st) (defScope st) [] [] f fd ∧ mg x = some (.ref f)
/-! ### calls -/
variable {w : Wd} {O : List Nat} {b : Bool} {t tk : TA} {fr fk : Env → m (List D)} {spec : List D → n D} {j : Nat}
def pGo (spec : List D → n D) (fr : Env → m (List D)) : Env → m D := fun ρ => Md.bind (fr ρ) fun ds => Up.up (spec ds)
def dList : D → Option (List D)
  | .lst ds => some ds
  | _ => none
def pGoL (spec : List D → n D) (fr : Env → m (List D)) : Env → m (List D) := fun ρ => Md.bind (fr ρ) fun ds => Md.bind (Up.up (spec ds)) fun d => Md.lift (dList d)
def ArN (m : Type → Type) [Md m] (w : Wd) (O : List Nat) (b : Bool) (j : Nat) (t : TA) (f : Env → m (List D)) : Prop := ∀ (A : Av) (H0 : Hp) (M : Av) (σ : L2.St) (H : Hp) (ρ : Env) (Q : List V → Hp → Prop), Rel w O A H0 M σ H ρ →
  Md.wp (f ρ) (fun ds => ∀ vs H', Step w H H' → vs.length = j → DensB w M H' b vs ds → Q vs H') → t σ H Q
theorem an_nil : ArN m w O b 0 tNil aNil := fun A H0 M σ H ρ Q R q => Md.wp_ret q [] H .refl rfl trivial
theorem an_cons {ta : TE} {fa : Env → m D} {tr : TA} {fr : Env → m (List D)} (ha : Sim m w O b ta fa) (hr : ArN m w O b j tr fr) : ArN m w O b (j + 1) (tCons ta tr) (aCons fa fr) := fun A H0 M σ H ρ Q R q => by
  refine ha A H0 M σ H ρ _ R (Md.wp_mono (fun x q1 v H1 k1 d1 => ?_) (Md.wp_bind q))
  refine hr A H0 M σ H1 ρ _ (R.go k1) (Md.wp_mono (fun xs q2 vs H2 k2 l2 ds => ?_) (Md.wp_bind q1))
  exact Md.wp_ret q2 (v :: vs) H2 (k1.trans k2) (congrArg Nat.succ l2) ⟨d1.step R.pm k2, ds⟩
theorem DensB.get {M : Av} {H : Hp} : ∀ {vs : List V} {ds : List D} (i : Nat), DensB w M H b vs ds → (vs[i]? = none ∧ ds[i]? = none) ∨ ∃ v d, vs[i]? = some v ∧ ds[i]? = some d ∧ DenB w M H b v d
  | [], [], i, _ => .inl ⟨rfl, rfl⟩
  | v :: vs, d :: ds, 0, h => .inr ⟨v, d, rfl, rfl, h.1⟩
  | v :: vs, d :: ds, i + 1, h => by
    rw [List.getElem?_cons_succ, List.getElem?_cons_succ]
    exact DensB.get i h.2
  | [], _ :: _, _, h => h.elim
  | _ :: _, [], _, h => h.elim
theorem DensB.pick {M : Av} {H : Hp} {vs : List V} {ds : List D} (h : DensB w M H b vs ds) : ∀ π : List Nat, DensB w M H b (pick π vs) (pick π ds)
  | [] => trivial
  | i :: π => by
    have ih := DensB.pick h π
    unfold Pw.pick at ih ⊢
    rw [List.filterMap_cons, List.filterMap_cons]
    rcases h.get i with ⟨e1, e2⟩ | ⟨v, d, e1, e2, r⟩
    · rw [e1, e2]
      exact ih
    · rw [e1, e2]
      exact ⟨r, ih⟩
def aBoth (π : List Nat) (f g : Env → m (List D)) : Env → m (List D) := fun ρ => Md.bind (f ρ) fun ds => Md.bind (g ρ) fun es => Md.ret (pick π (ds ++ es))
def aKws (π : List Nat) (g : Env → m (List D)) : Env → m (List D) := fun ρ => Md.bind (g ρ) fun es => Md.ret (pick π es)
theorem pick_length {α : Type} {l : List α} : ∀ {π : List Nat}, (π.all fun i => decide (i < l.length)) = true → (pick π l).length = π.length
  | [], _ => rfl
  | i :: π, h => by
    rw [List.all_cons] at h
    obtain ⟨h1, h2⟩ := Bool.and_eq_true_iff.mp h
    have ih := pick_length (π := π) h2
    unfold pick at ih ⊢
    rw [List.filterMap_cons, List.getElem?_eq_getElem (of_decide_eq_true h1)]
    exact congrArg Nat.succ ih
theorem an_kws {n2 : Nat} (π : List Nat) (h2 : ArN m w O b n2 tk fk) (hπ : (π.all fun i => decide (i < n2)) = true := by rfl) : ArN m w O b π.length (tKws n2 π tk) (aKws π fk) := fun A H0 M σ H ρ Q R q => by
  refine h2 A H0 M σ H ρ _ R (Md.wp_mono (fun ys q2 us H2 k2 l2 d2 => ?_) (Md.wp_bind q))
  refine ⟨l2, Md.wp_ret q2 _ H2 k2 (pick_length ?_) (DensB.pick d2 π)⟩
  rw [l2]
  exact hπ
/-- a call, the arguments any data -/
theorem sim_go (ha : ArN m w O true j t fr) : Sim m w O true (tGo (SpD w.K w.cl n false j spec) t) (pGo spec fr) := fun A H0 M σ H ρ Q R q => by
  refine ha A H0 M σ H ρ _ R (Md.wp_mono (fun ds q1 vs H1 k1 l1 d1 => ?_) (Md.wp_bind q))
  exact ⟨l1, w.pot, M, ds, d1.safe, R.pm, (R.go k1).isL, (R.go k1).potOk, Md.wp_mono (fun d z v H' k r => z v H' (k1.trans k) r) (Up.ok q1)⟩
/-- .. of a def that hands back a new list -/
theorem simL_go (ha : ArN m w O true j t fr) : SimL m w O (tGo (SpD w.K w.cl n true j spec) t) (pGoL spec fr) := fun A H0 M σ H ρ Q R q => by
  refine ha A H0 M σ H ρ _ R (Md.wp_mono (fun ds q1 vs H1 k1 l1 d1 => ?_) (Md.wp_bind q))
  refine ⟨l1, w.pot, M, ds, d1.safe, R.pm, (R.go k1).isL, (R.go k1).potOk, Up.ok (Md.wp_mono (fun d z v H' k r => ?_) (Md.wp_bind q1))⟩
  rcases r with ⟨rfl, rfl⟩ | ⟨p, us, es, rfl, rfl, e1, e2, e3⟩
  · obtain ⟨es', e4, z⟩ := Md.wp_lift z
    cases e4
  obtain ⟨es', e4, z⟩ := Md.wp_lift z
  cases e4
  exact z p us H' (fresh_back k1 R.potOk e1) (k1.trans k) e2 e3
theorem sim_goN (ha : ArN m w O true j t fr) : Sim m w O true (tGo (SpD w.K w.cl n true j spec) t) (pOf (pGoL spec fr)) := sim_new (simL_go ha)
/-! the arguments may be the def's own lists: what comes back holds none -/
def dFlat (d : D) : Option D := match d.noL with
  | true => some d
  | false => none
def dFlatL : D → Option (List D)
  | .lst ds => match D.noLs ds with
    | true => some ds
    | false => none
  | _ => none
def pGoW (spec : List D → n D) (fr : Env → m (List D)) : Env → m D := fun ρ => Md.bind (fr ρ) fun ds => Md.bind (Up.up (spec ds)) fun d => Md.lift (dFlat d)
def pGoWL (spec : List D → n D) (fr : Env → m (List D)) : Env → m (List D) := fun ρ => Md.bind (fr ρ) fun ds => Md.bind (Up.up (spec ds)) fun d => Md.lift (dFlatL d)
theorem AllL.pa {A M : Av} {H0 H : Hp} {σ : L2.St} {ρ : Env} (R : Rel w O A H0 M σ H ρ) : AllL w.pa H := fun a z => R.isL a (R.pm a z)
end
end Pw
set_option Elab.async false
set_option linter.all false
set_option maxRecDepth 100000
set_option maxHeartbeats 1000000
/-! Pw8: short names of readings; chains, divmod, repr, isinstance, written tuples. -/
namespace Pw
open PySem PySem.Spec PyProof.Rows L2
abbrev rSubI : R2 := rI0 fun i j => .int (i - j)
abbrev rDivI : R2 := rI CDivW fun i j => .int (i / j)
abbrev rModI : R2 := rI (fun _ j => 0 < j) fun i j => .int (i % j)
abbrev rPowI : R2 := rI CPow fun i j => .int (i ^ j.toNat)
abbrev rShlI : R2 := rI CPow fun i j => .int (i * 2 ^ j.toNat)
abbrev rShrI : R2 := rI (fun _ j => 0 ≤ j) fun i j => .int (i / 2 ^ j.toNat)
abbrev rAndI : R2 := rI0 fun i j => .int (Builtin.bitAnd i j)
abbrev rOrI : R2 := rI0 fun i j => .int (Builtin.bitOr i j)
abbrev rXorI : R2 := rI0 fun i j => .int (Builtin.bitXor i j)
abbrev rLtI : R2 := rI0 fun i j => .bl (decide (i < j))
abbrev rLeI : R2 := rI0 fun i j => .bl (decide (i ≤ j))
abbrev rGtI : R2 := rI0 fun i j => .bl (decide (j < i))
abbrev rGeI : R2 := rI0 fun i j => .bl (decide (j ≤ i))
abbrev rNegI : V → Hp → VK → Prop := rU fun i => .int (-i)
abbrev rIsN : R2 := fun x y H Q => y = .non ∧ Q (.bl (decide (x = .non))) H
abbrev rNotN : R2 := fun x y H Q => y = .non ∧ Q (.bl (!decide (x = .non))) H
abbrev rMax2 : List V → Hp → VK → Prop := fun xs H Q => ∃ i j, xs = [.int i, .int j] ∧ Q (.int (if j > i then j else i)) H
abbrev rMin2 : List V → Hp → VK → Prop := fun xs H Q => ∃ i j, xs = [.int i, .int j] ∧ Q (.int (if j < i then j else i)) H
abbrev rAbsI : List V → Hp → VK → Prop := fun xs H Q => ∃ i, xs = [.int i] ∧ Q (.int (if i < 0 then -i else i)) H
abbrev rIntC : List V → Hp → VK → Prop := fun xs H Q => (∃ i, xs = [.int i] ∧ Q (.int i) H) ∨ ∃ k, xs = [.bl k] ∧ Q (.int (if k then 1 else 0)) H
abbrev rListOf (K : PySem.W.Frag) : List V → Hp → VK → Prop := fun xs H Q => ∃ p ys, xs = [.ref p] ∧ (SqL K H p ys ∨ SqT K H p ys) ∧ ∀ l, H l = none → Q (.ref l) (upd H l (.lst ys))
abbrev rTupleOf (K : PySem.W.Frag) : List V → Hp → VK → Prop := fun xs H Q => ∃ p ys, xs = [.ref p] ∧ ((SqL K H p ys ∧ ∀ l, H l = none → Q (.ref l) (upd H l (.tup ys))) ∨ (SqT K H p ys ∧ Q (.ref p) H))
def rDivmod : List V → Hp → VK → Prop := fun xs H Q => ∃ i j, xs = [.int i, .int j] ∧ CDiv i j ∧ ∀ p, H p = none → Q (.ref p) (upd H p (.tup [.int (i / j), .int (i % j)]))
section
variable {m : Type → Type} [Md m] {w : Wd} {O : List Nat} {b b1 b2 b3 : Bool} {te ta tb tc : TE} {fe fa fb fc : Env → m D} {tr : TA} {fr : Env → m (List D)}
/-! ### a < b < c -/
def p3c (g h : D → D → Option D) (fa fb fc : Env → m D) : Env → m D := fun ρ => Md.bind (fa ρ) fun x => Md.bind (fb ρ) fun y => Md.bind (Md.lift (g x y)) fun z => Md.bind (Md.lift (dBl z)) fun k => match k with
  | true => Md.bind (fc ρ) fun u => Md.lift (h y u)
  | false => Md.ret (.bl false)
theorem sim_chain {r r' : R2} {g h : D → D → Option D} (hr : OpSim w r g) (hr' : OpSim w r' h) (ha : Sim m w O b1 ta fa) (hb : Sim m w O b2 tb fb) (hc : Sim m w O b3 tc fc) : Sim m w O true (tChain r r' ta tb tc) (p3c g h fa fb fc) := fun A H0 M σ H ρ Q R q => by
  refine ha A H0 M σ H ρ _ R (Md.wp_mono (fun x q1 v H1 k1 d1 => ?_) (Md.wp_bind q))
  refine hb A H0 M σ H1 ρ _ (R.go k1) (Md.wp_mono (fun y q2 u H2 k2 d2 => ?_) (Md.wp_bind q1))
  obtain ⟨z, e, q3⟩ := Md.wp_lift (Md.wp_bind q2)
  obtain ⟨k, ek, q4⟩ := Md.wp_lift (Md.wp_bind q3)
  have R2 := (R.go k1).go k2
  refine hr M H2 x y z v u _ R.pm R2.dom (d1.t.step R.pm k2) d2.t e fun zv H3 k3 dz => ?_
  rw [dBl_eq ek] at dz
  cases dz
  refine ⟨k, rfl, ?_⟩
  cases k with
  | false =>
    rw [if_neg Bool.false_ne_true]
    exact Md.wp_ret q4 _ H3 ((k1.trans k2).trans k3) (.bl false)
  | true =>
    rw [if_pos rfl]
    refine hc A H0 M σ H3 ρ _ (R2.go k3) (Md.wp_mono (fun c q5 vc H4 k4 d4 => ?_) (Md.wp_bind q4))
    obtain ⟨d, e', q6⟩ := Md.wp_lift q5
    exact hr' M H4 y c d u vc Q R.pm ((R2.go k3).go k4).dom (d2.t.step R.pm (k3.trans k4)) d4.t e' fun z5 H5 k5 d5 => q6 z5 H5 ((((k1.trans k2).trans k3).trans k4).trans k5) d5
/-! ### is of truths -/
def dIsB : D → D → Option D
  | .bl a, .bl b => some (.bl (a == b))
  | _, _ => none
def dNotB : D → D → Option D
  | .bl a, .bl b => some (.bl (!(a == b)))
  | _, _ => none
/-! ### divmod -/
def dDivmod : List D → Option D
  | [.int i, .int j] => match decide (0 < j ∧ j < 1073741824) with
    | true => some (.tup [.int (i / j), .int (i % j)])
    | false => none
  | _ => none
/-! ### repr of lists and tuples of data -/
def repOk (p : PyData) : Bool := p.showable && (!p.hasDict && (decide (p.depth ≤ 60) && (p.leavesShort 700 && decide (p.bulk ≤ 20000))))
theorem repOk_of {p : PyData} (h : repOk p = true) : p.showable = true ∧ p.hasDict = false ∧ p.depth ≤ 60 ∧ p.shown.length ≤ sizeLine := by
  unfold repOk at h
  obtain ⟨h1, h⟩ := Bool.and_eq_true_iff.mp h
  obtain ⟨h2, h⟩ := Bool.and_eq_true_iff.mp h
  obtain ⟨h3, h⟩ := Bool.and_eq_true_iff.mp h
  obtain ⟨h4, h5⟩ := Bool.and_eq_true_iff.mp h
  refine ⟨h1, by simpa using h2, of_decide_eq_true h3, ?_⟩
  have := PyData.shown_le_bulk 700 (by decide) p h4
  have h6 := of_decide_eq_true h5
  rw [sizeLine_eq]
  omega
def rRepr (K : PySem.W.Frag) : List V → Hp → VK → Prop := fun xs H Q => (xs = [.non] ∧ Q (.str PyData.none.shown) H) ∨ ∃ (a : Addr) (p : PyData), xs = [.ref a] ∧ Dp K H (.ref a) p ∧ repOk p = true ∧ Q (.str p.shown) H
theorem call_repr {X : Cx} (hg : X.A.guards = some []) (hu : X.A.units + 64 < cLine) : CallR X (.builtin "repr") (rRepr X.K) := by
  intro pins s σ H xs us Q I r h
  rcases h with ⟨rfl, q⟩ | ⟨a, p, rfl, hp, ok, q⟩
  · cases r with
    | cons rx rr =>
      cases rr
      cases (show _ = Value.none from rx)
      exact PySem.P.repr_of_none ⟨.str PyData.none.shown, H, I.kept (t' := s.toks + 1) fun _ _ e => e, ⟨s.toks, by unfold PyData.shown; rfl⟩, q⟩
  obtain ⟨h1, h2, h3, h4⟩ := repOk_of ok
  cases r with
  | cons rx rr =>
    cases rr
    cases (show _ = Value.ref a from rx)
    obtain ⟨as, rd⟩ := Dp.reads I p _ _ hp rx
    refine repr_of_reads' rd h1 (PyData.noDict_hsm h2) hg (by omega) (fun _ _ e => e) (fun h' u tk hk => ?_) h4
    exact ⟨.str p.shown, H, I.kept (t' := tk) hk, ⟨u, rfl⟩, q⟩
def D.isSeq : D → Bool
  | .lst _ | .tup _ => true
  | _ => false
def D.isRep : D → Bool
  | .lst _ | .tup _ | .non => true
  | _ => false
def dRepr : List D → Option D
  | [x] => match x.isRep, x.py with
    | true, some p => match repOk p with
      | true => some (.rep p)
      | false => none
    | _, _ => none
  | _ => none
theorem cs_repr : ClSim w (rRepr w.K) dRepr := fun M H ds d vs Q hp hd h e q => by
  unfold dRepr at e
  split at e
  · rename_i x
    split at e
    · rename_i p e1 e2
      split at e
      · rename_i ok
        cases e
        obtain ⟨v, rfl, dv⟩ := one_arg h
        have hdp := dv.dp hp e2
        have ha : (x = .non ∧ v = .non) ∨ ∃ a, v = .ref a := by
          cases x with
          | non => exact .inl ⟨rfl, dv.non⟩
          | lst ds => obtain ⟨a, us, rfl, _⟩ := dv.list; exact .inr ⟨a, rfl⟩
          | tup ds => obtain ⟨a, us, rfl, _⟩ := dv.tuple; exact .inr ⟨a, rfl⟩
          | _ => cases e1
        rcases ha with ⟨rfl, rfl⟩ | ⟨a, rfl⟩
        · unfold D.py at e2
          cases e2
          exact .inl ⟨rfl, q _ H .refl (.rep .none)⟩
        · exact .inr ⟨a, p, rfl, hdp, ok, q _ H .refl (.rep p)⟩
      · cases e
    · cases e
  · cases e
/-! ### isinstance of built-in types -/
def D.tyName : D → Option String
  | .non => some "NoneType"
  | .bl _ => some "bool"
  | .int _ => some "int"
  | .str _ => some "str"
  | .lst _ => some "list"
  | .tup _ => some "tuple"
  | .dic _ => some "dict"
  | _ => none
theorem DenT.tyx {M : Av} {H : Hp} {d : D} {v : V} {n : String} (h : DenT w M H v d) (e : d.tyName = some n) (hs : ∀ a vs, (∀ J, SqT w.K J a vs) → ∃ o, w.K.lookup a = some o ∧ o.cls = .type "tuple") : TyX w.K H v (.type n) := by
  cases d with
  | non => cases e; cases h.non; exact .base .non
  | bl c => cases e; cases h.bl; exact .base (.bl c)
  | int i => cases e; cases h.int; exact .base (.int i)
  | str x => cases e; cases h.str; exact .base (.str x)
  | lst ds => cases e; obtain ⟨a, us, rfl, ea, _⟩ := h.list; exact .base (.lst ea)
  | dic kvs =>
    cases e
    rcases h with h | ⟨_, _, _, _, z, _⟩
    · cases h with
      | dic n ea =>
        rcases ea with ea | ⟨o, ea⟩
        · exact .base (.dK ea)
        · exact .fDict ea
    · cases z
  | tup ds =>
    cases e
    obtain ⟨a, us, rfl, ea, _⟩ := h.tuple
    rcases ea with ⟨_, ea | ⟨o, ea⟩⟩ | ea
    · exact .base (.tup ea)
    · exact .fTuple ea
    · obtain ⟨o, h1, h2⟩ := hs a us ea
      exact .kTuple h1 h2
  | _ => cases e
theorem sqt_k {K : PySem.W.Frag} {a : Addr} {vs : List V} (h : ∀ J, SqT K J a vs) : ∃ o, K.lookup a = some o ∧ o.cls = .type "tuple" := by
  rcases h (fun _ => none) with (h | ⟨o, h⟩) | ⟨o, its, n, h1, h2, _⟩
  · cases h
  · cases h
  · exact ⟨o, h1, h2⟩
/-- whether a value of the built-in type a is one of b -/
def tySub (a b : String) : Bool := (a == b) || (a == "bool" && b == "int")
def tyIn (a b : String) : Option Bool := match kitB a b with
  | some r => some r
  | none => none
theorem kitB_sub : ∀ a ∈ ["NoneType", "bool", "int", "str", "list", "tuple", "dict"], ∀ b ∈ ["int", "bool", "str", "list", "tuple", "dict"], kitB a b = some (tySub a b) := by decide +kernel
def dIsi (c : String) (d : D) : Option D := match d with
  | .ins _ _ _ => some (.bl false)
  | d => d.tyName.map fun n => .bl (tySub n c)
theorem DenT.insE {w : Wd} {M : Av} {H : Hp} {v : V} {c : Str} {ns : List Str} {ds : List D} (h : DenT w M H v (.ins c ns ds)) : InsT w.K (w.cl c) ∧ ∃ C, C = w.cl c ∧ TyX w.K H v (.ref C) := by
  rcases h with h | ⟨_, _, _, _, z, _⟩
  · cases h with
    | ins n ea l r it => exact ⟨it, _, rfl, .base (.ins ea it.ic.cl it.ic.ha it.ic.hn it.ic.htk it.ic.hm)⟩
  · cases z
theorem D.tyName_in {d : D} {n : String} (e : d.tyName = some n) : n ∈ ["NoneType", "bool", "int", "str", "list", "tuple", "dict"] := by
  unfold D.tyName at e
  split at e <;> cases e <;> decide
theorem kit_of_name {K : PySem.W.Frag} {d : D} {n c : String} (e : d.tyName = some n) (hc : c ∈ ["int", "bool", "str", "list", "tuple", "dict"]) : PySem.W.kitOne K (.type n) (.type c) = some (tySub n c) :=
  kit_ty (kitB_sub n (D.tyName_in e) c hc)
theorem sim_isi (c : String) {t : TE} {f : Env → m D} (h : Sim m w O b t f) (hc : c ∈ ["int", "bool", "str", "list", "tuple", "dict"] := by decide) : Sim m w O true (tCB (rIsi w.K) (tCons t (tCons (tC (.ty c)) tNil))) (p1 (dIsi c) f) := fun A H0 M σ H ρ Q R q => by
  refine h A H0 M σ H ρ _ R (Md.wp_mono (fun x q1 v H1 k1 d1 => ?_) (Md.wp_bind q))
  obtain ⟨d, e, q2⟩ := Md.wp_lift q1
  unfold dIsi at e
  split at e
  · cases e
    obtain ⟨it, C, eC, ty⟩ := d1.t.insE
    rw [← eC] at it
    exact ⟨v, .ty c, .ref C, .type c, false, rfl, .ty c, ty, it.ty c hc, q2 _ H1 k1 (.bl _)⟩
  · cases z : x.tyName with
    | none => rw [z] at e; cases e
    | some n =>
      rw [z] at e
      cases e
      exact ⟨v, .ty c, .type n, .type c, _, rfl, .ty c, d1.t.tyx z fun a vs => sqt_k, kit_of_name z hc, q2 _ H1 k1 (.bl _)⟩
def dIsi2 (c c' : String) (d : D) : Option D := match d with
  | .ins _ _ _ => some (.bl false)
  | d => d.tyName.map fun n => .bl (tySub n c || tySub n c')
theorem sim_isi2 (c c' : String) {t : TE} {f : Env → m D} (h : Sim m w O b t f) (hc : c ∈ ["int", "bool", "str", "list", "tuple", "dict"] := by decide) (hc' : c' ∈ ["int", "bool", "str", "list", "tuple", "dict"] := by decide) :
    Sim m w O true (tCB (rIsiT w.K) (tCons t (tCons (tTup (tCons (tC (.ty c)) (tCons (tC (.ty c')) tNil))) tNil))) (p1 (dIsi2 c c') f) := fun A H0 M σ H ρ Q R q => by
  refine h A H0 M σ H ρ _ R (Md.wp_mono (fun x q1 v H1 k1 d1 => ?_) (Md.wp_bind q))
  obtain ⟨d, e, q2⟩ := Md.wp_lift q1
  unfold dIsi2 at e
  split at e
  · cases e
    refine ⟨by rw [sizeLine_eq]; show 2 ≤ 16777216; decide, fun p np => ?_⟩
    have k2 : Step w H1 (upd H1 p (.tup [.ty c, .ty c'])) := Step.new np
    obtain ⟨it, C, eC, ty⟩ := (d1.t.step R.pm k2).insE
    rw [← eC] at it
    refine ⟨v, p, [.ty c, .ty c'], .ref C, [.type c, .type c'], false, rfl, upd_same, .cons (.ty c) (.cons (.ty c') .nil), ty, ?_, q2 _ _ (k1.trans k2) (.bl _)⟩
    exact kitAny_cons (it.ty c hc) (fun _ => kitAny_cons (it.ty c' hc') (fun _ => rfl) (fun z => nomatch z)) (fun z => nomatch z)
  · cases z : x.tyName with
    | none => rw [z] at e; cases e
    | some n =>
      rw [z] at e
      cases e
      refine ⟨by rw [sizeLine_eq]; show 2 ≤ 16777216; decide, fun p np => ?_⟩
      have k2 : Step w H1 (upd H1 p (.tup [.ty c, .ty c'])) := Step.new np
      refine ⟨v, p, [.ty c, .ty c'], .type n, [.type c, .type c'], tySub n c || tySub n c', rfl, upd_same, .cons (.ty c) (.cons (.ty c') .nil), ((d1.t.step R.pm k2).tyx z fun a vs => sqt_k), ?_, q2 _ _ (k1.trans k2) (.bl _)⟩
      refine kitAny_cons (kit_of_name z hc) (fun e1 => ?_) (fun e1 => by rw [e1]; rfl)
      rw [e1, Bool.false_or]
      exact kitAny_cons (kit_of_name z hc') (fun e2 => by rw [e2]; rfl) (fun e2 => e2)
/-! ### written ints, texts, tuples -/
theorem gc_of {mg : Str → Option Value} {x : Str} {i : Int} (h : ∃ t, mg x = some (.int i t)) : ∃ u, mg x = some u ∧ RelV (.int i) u := let ⟨t, e⟩ := h; ⟨_, e, t, rfl⟩
theorem pe_gc {X : Cx} {x : Str} {v : V} {pos : Pos} (hg : Gl X x) (h : ∃ u, X.mg x = some u ∧ RelV v u) (hd : (x == ("__debug__" : Str)) = false := by decide) : PE X (.Name x pos) (tC v) := let ⟨_, e, r⟩ := h; pe_glob hg e r hd
/-- the module's name x is the tuple of these ints -/
structure GTup (K : PySem.W.Frag) (mg : Str → Option Value) (x : Str) (is : List Int) : Prop where
  mg : mg x = some (.ref (He.ga K x))
  sq : ∀ J, SqT K J (He.ga K x) (is.map V.int)
theorem pe_gtup {X : Cx} {x : Str} {is : List Int} {pos : Pos} (hg : Gl X x) (h : GTup X.K X.mg x is) (hd : (x == ("__debug__" : Str)) = false := by decide) : PE X (.Name x pos) (tC (.ref (He.ga X.K x))) := pe_glob hg h.mg rfl hd
theorem sim_gtup {mg : Str → Option Value} {x : Str} {is : List Int} (h : GTup w.K mg x is) : Sim m w O true (tC (.ref (He.ga w.K x))) (pC (.tup (is.map .int))) := fun A H0 M σ H ρ Q R q =>
  Md.wp_ret q _ H .refl (.tup (.inr h.sq) (Dens.ofInts is))
/-! ### list(range(n)) -/
def dLRg1 : D → Option (List D)
  | .int j => match decide (-1000000 ≤ j ∧ j ≤ 1000000) with
    | true => some (upTo 0 j.toNat)
    | false => none
  | _ => none
/-! ### xs.extend(e) -/
variable {κ : Bool} {Ob : List Nat}
def sExt (i : Nat) (fe : Env → m D) : Env → m Rs := fun ρ => Md.bind (Md.lift (gLs ρ i)) fun ds => Md.bind (fe ρ) fun d => Md.bind (Md.lift (dLs d)) fun xs => Md.bind (Md.lift (okL (ds ++ xs))) fun es => Md.ret (.nx (ρ.set i (some (.lst es))))
def dSortedR1 : D → Option (List D) := fun d => dSortedR [d]
def dRevL : D → Option (List D) := fun d => (dLs d).map List.reverse
end
end Pw
set_option Elab.async false
set_option linter.all false
set_option maxRecDepth 100000
set_option maxHeartbeats 1000000
/-! Pw9: the drawing def, the pot handed on, the law's end, the head's facts. -/
namespace Pw
open PySem PySem.Spec PyProof.Rows L2
/-! ### a number drawn out of the pot -/
/-- any number below the size may come -/
def S_draw : List D → G D
  | [.pot, .int n] => ⟨fun Q => 0 < n ∧ n < 1073741824 ∧ ∀ d : Int, 0 ≤ d → d < n → Q (.int d), fun P Q k ⟨a, b, c⟩ => ⟨a, b, fun d h1 h2 => k _ (c d h1 h2)⟩⟩
  | _ => Md.lift none
def tPotIx (K : PySem.W.Frag) (i : Int) : TE := tOp (rIx K) (tVar 0) (tC (.int i))
def tDrawIf (K : PySem.W.Frag) : TS := tIfS (tTest (tOp (rGtI) (tPotIx K 0) (tC (.int 0))))
  (tSeq (tAsg (tCB (rDivmod) (tCons (tPotIx K 0) (tCons (tVar 1) tNil))) (gTup K 2 (gCons (gSub (tVar 0) (tC (.int 0)) rSetL) (gCons (gName 2) gNil)))) (tRet (tVar 2))) tNext
def tDraw1 (K : PySem.W.Frag) (a c m1 m2 d : Int) : TS := tSeq (tDrawIf K)
  (tSeq (tAsg (tOp (rModI) (tCB (rIntC) (tCons (tOp (rAddU K) (tOp (rMulU) (tPotIx K 1) (tC (.int a))) (tC (.int c))) tNil)) (tC (.int m1))) (gSub (tVar 0) (tC (.int 1)) rSetL))
  (tRet (tOp (rModI) (tCB (rIntC) (tCons (tOp (rDivI) (tOp (rModI) (tCB (rIntC) (tCons (tOp (rMulU) (tPotIx K 1) (tPotIx K 1)) tNil)) (tC (.int m2))) (tC (.int d))) tNil)) (tVar 1))))
def tDraw2 (K : PySem.W.Frag) (a c m1 m2 d : Int) : TS := tSeq (tDrawIf K)
  (tSeq (tAsg (tOp (rModI) (tOp (rAddU K) (tOp (rMulU) (tPotIx K 1) (tC (.int a))) (tC (.int c))) (tC (.int m1))) (gSub (tVar 0) (tC (.int 1)) rSetL))
  (tRet (tOp (rModI) (tOp (rDivI) (tOp (rModI) (tOp (rMulU) (tPotIx K 1) (tPotIx K 1)) (tC (.int m2))) (tC (.int d))) (tVar 1))))
structure DrawOk (a c m1 m2 d : Int) : Prop where
  a : 0 ≤ a ∧ a < 2147483648
  c : 0 ≤ c ∧ c < 2147483648
  m1 : 0 < m1 ∧ m1 ≤ 2147483648
  m2 : 0 < m2 ∧ m2 ≤ 2147483648
  d : 0 < d ∧ d < 2147483648
theorem natAbs_log2 {i : Int} (h0 : 0 ≤ i) (h1 : i < 4294967296) : i.natAbs.log2 < 32 := by
  by_cases z : i.natAbs = 0
  · rw [z]; decide
  · exact (Nat.log2_lt z).mpr (by omega)
theorem cmulW_small {i j : Int} (h0 : 0 ≤ i) (h1 : i < 4294967296) (h2 : 0 ≤ j) (h3 : j < 4294967296) : CMulW i j := by
  have := natAbs_log2 h0 h1
  have := natAbs_log2 h2 h3
  exact Nat.lt_of_le_of_lt (show i.natAbs.log2 + j.natAbs.log2 ≤ 64 by omega) (by decide)
theorem cdivW_small {i j : Int} (h2 : 0 < j) (h3 : j < 4294967296) : CDivW i j := by
  refine ⟨h2, ?_⟩
  have := natAbs_log2 (i := j) (by omega) h3
  exact Nat.lt_of_lt_of_le this (by decide)
/-- what both ways come to -/
theorem draw_core {K : PySem.W.Frag} {n u v : Int} {p : Addr} {H : Hp} {Q : VK} {E : Ends} {σ : L2.St} {t : TS} (e0 : σ[0]? = some (some (.ref p))) (e1 : σ[1]? = some (some (.int n))) (hl : 2 < σ.length) (hp : H p = some (.lst [.int u, .int v]))
    (hn : 0 < n) (hn2 : n < 1073741824) (hu : 0 ≤ u) (hv : 0 ≤ v) (hv2 : v < 2147483648) (h1 : ∀ x a b : Int, 0 ≤ x → x < n → 0 ≤ a → 0 ≤ b → b < 2147483648 → E.rt (.int x) (upd H p (.lst [.int a, .int b]))) (h1' : ∀ x a b : Int, 0 ≤ x → x < n → 0 ≤ a → 0 ≤ b → b < 2147483648 → ∀ T vs, H T = none → E.rt (.int x) (upd (upd H T (.tup vs)) p (.lst [.int a, .int b]))) (h2 : t E σ H) : tSeq (tDrawIf K) t E σ H := by
  have ix : ∀ (i : Int) (z : Int), atI [V.int u, V.int v] i = some (.int z) → ∀ Q2 : VK, Q2 (.int z) H → tPotIx K i σ H Q2 := fun i z e Q2 q2 => ⟨_, e0, .inl ⟨p, _, i, .int z, rfl, rfl, .of hp, e, q2⟩⟩
  show tDrawIf K { E with nx := t E } σ H
  refine ix 0 u rfl _ ⟨_, _, rfl, rfl, _, rfl, ?_⟩
  by_cases c : 0 < u
  · rw [decide_eq_true c]
    refine iteT (ix 0 u rfl _ ⟨_, e1, ⟨u, n, rfl, ⟨hn, hn2⟩, fun T nT => ?_⟩⟩)
    have hTp : p ≠ T := ne_of_none hp nT
    refine ⟨T, _, rfl, .of upd_same, rfl, _, _, rfl, ?_⟩
    refine ⟨_, e0, p, _, 0, 0, rfl, rfl, by rw [upd_ne hTp]; exact hp, rfl, _, _, rfl, rfl, ?_⟩
    refine ⟨.int (u % n), by rw [List.getElem?_set_self (by omega)], ?_⟩
    exact h1' _ _ _ (Int.emod_nonneg _ (by omega)) (Int.emod_lt_of_pos _ hn) (Int.ediv_nonneg hu (by omega)) hv hv2 T _ nT
  · rw [decide_eq_false c]
    exact iteF h2
theorem draw1_go {K : PySem.W.Frag} {a c m1 m2 d : Int} (ok : DrawOk a c m1 m2 d) {n u v : Int} {p : Addr} {H : Hp} {E : Ends} {σ : L2.St} (e0 : σ[0]? = some (some (.ref p))) (e1 : σ[1]? = some (some (.int n))) (hl : 2 < σ.length) (hp : H p = some (.lst [.int u, .int v]))
    (hn : 0 < n) (hn2 : n < 1073741824) (hu : 0 ≤ u) (hv : 0 ≤ v) (hv2 : v < 2147483648) (h1 : ∀ x a b : Int, 0 ≤ x → x < n → 0 ≤ a → 0 ≤ b → b < 2147483648 → E.rt (.int x) (upd H p (.lst [.int a, .int b]))) (h1' : ∀ x a b : Int, 0 ≤ x → x < n → 0 ≤ a → 0 ≤ b → b < 2147483648 → ∀ T vs, H T = none → E.rt (.int x) (upd (upd H T (.tup vs)) p (.lst [.int a, .int b]))) : tDraw1 K a c m1 m2 d E σ H := by
  refine draw_core (Q := E.rt) e0 e1 hl hp hn hn2 hu hv hv2 h1 h1' ?_
  obtain ⟨⟨a0, a1⟩, ⟨c0, c1⟩, ⟨p0, p1⟩, ⟨q0, q1⟩, ⟨d0, d1⟩⟩ := ok
  have ix : ∀ (u v i z : Int) (H : Hp), H p = some (.lst [.int u, .int v]) → atI [V.int u, V.int v] i = some (.int z) → ∀ Q2 : VK, Q2 (.int z) H → tPotIx K i σ H Q2 := fun u v i z H hp e Q2 q2 => ⟨_, e0, .inl ⟨p, _, i, .int z, rfl, rfl, .of hp, e, q2⟩⟩
  refine ix u v 1 v H hp rfl _ (Or.inl ⟨_, _, rfl, rfl, cmulW_small hv (by omega) a0 (by omega), ?_⟩)
  refine .inl ⟨_, _, rfl, rfl, .inl ⟨_, rfl, _, _, rfl, rfl, p0, ?_⟩⟩
  refine ⟨_, e0, p, _, 1, 1, rfl, rfl, hp, rfl, ?_⟩
  show tPotIx K 1 σ (upd H p (.lst [.int u, .int ((v * a + c) % m1)])) _
  have b0 := Int.emod_nonneg (v * a + c) (show m1 ≠ 0 by omega)
  have b1 := Int.emod_lt_of_pos (v * a + c) p0
  generalize (v * a + c) % m1 = y at *
  refine ix u y 1 y _ upd_same rfl _ ?_
  refine ix u y 1 y _ upd_same rfl _ ?_
  refine Or.inl ⟨_, _, rfl, rfl, cmulW_small b0 (by omega) b0 (by omega), .inl ⟨_, rfl, _, _, rfl, rfl, q0, _, _, rfl, rfl, cdivW_small d0 (by omega), .inl ⟨_, rfl, _, e1, _, _, rfl, rfl, hn, ?_⟩⟩⟩
  exact h1 _ _ _ (Int.emod_nonneg _ (by omega)) (Int.emod_lt_of_pos _ hn) hu b0 (by omega)
theorem draw2_go {K : PySem.W.Frag} {a c m1 m2 d : Int} (ok : DrawOk a c m1 m2 d) {n u v : Int} {p : Addr} {H : Hp} {E : Ends} {σ : L2.St} (e0 : σ[0]? = some (some (.ref p))) (e1 : σ[1]? = some (some (.int n))) (hl : 2 < σ.length) (hp : H p = some (.lst [.int u, .int v]))
    (hn : 0 < n) (hn2 : n < 1073741824) (hu : 0 ≤ u) (hv : 0 ≤ v) (hv2 : v < 2147483648) (h1 : ∀ x a b : Int, 0 ≤ x → x < n → 0 ≤ a → 0 ≤ b → b < 2147483648 → E.rt (.int x) (upd H p (.lst [.int a, .int b]))) (h1' : ∀ x a b : Int, 0 ≤ x → x < n → 0 ≤ a → 0 ≤ b → b < 2147483648 → ∀ T vs, H T = none → E.rt (.int x) (upd (upd H T (.tup vs)) p (.lst [.int a, .int b]))) : tDraw2 K a c m1 m2 d E σ H := by
  refine draw_core (Q := E.rt) e0 e1 hl hp hn hn2 hu hv hv2 h1 h1' ?_
  obtain ⟨⟨a0, a1⟩, ⟨c0, c1⟩, ⟨p0, p1⟩, ⟨q0, q1⟩, ⟨d0, d1⟩⟩ := ok
  have ix : ∀ (u v i z : Int) (H : Hp), H p = some (.lst [.int u, .int v]) → atI [V.int u, V.int v] i = some (.int z) → ∀ Q2 : VK, Q2 (.int z) H → tPotIx K i σ H Q2 := fun u v i z H hp e Q2 q2 => ⟨_, e0, .inl ⟨p, _, i, .int z, rfl, rfl, .of hp, e, q2⟩⟩
  refine ix u v 1 v H hp rfl _ (Or.inl ⟨_, _, rfl, rfl, cmulW_small hv (by omega) a0 (by omega), ?_⟩)
  refine .inl ⟨_, _, rfl, rfl, _, _, rfl, rfl, p0, ?_⟩
  refine ⟨_, e0, p, _, 1, 1, rfl, rfl, hp, rfl, ?_⟩
  show tPotIx K 1 σ (upd H p (.lst [.int u, .int ((v * a + c) % m1)])) _
  have b0 := Int.emod_nonneg (v * a + c) (show m1 ≠ 0 by omega)
  have b1 := Int.emod_lt_of_pos (v * a + c) p0
  generalize (v * a + c) % m1 = y at *
  refine ix u y 1 y _ upd_same rfl _ ?_
  refine ix u y 1 y _ upd_same rfl _ ?_
  refine Or.inl ⟨_, _, rfl, rfl, cmulW_small b0 (by omega) b0 (by omega), _, _, rfl, rfl, q0, _, _, rfl, rfl, cdivW_small d0 (by omega), _, e1, _, _, rfl, rfl, hn, ?_⟩
  exact h1 _ _ _ (Int.emod_nonneg _ (by omega)) (Int.emod_lt_of_pos _ hn) hu b0 (by omega)
/-- THE RULE of the drawing def: t is one of both -/
theorem fun_draw {P : Program} {w : World} {K : PySem.W.Frag} {cl : Cl} {mg : Str → Option Value} {base : Heap} {k : Nat} {x : Str} {st : Stmt} {ps N : List Str} {f : Addr} {fd : FuncData} {a c m1 m2 d : Int} {t : TS}
    (F : FunD K x x (defArgs st) (defBody st) (defScope st) [] [] f fd) (S : FnScope N ps (defScope st)) (ht : t = tDraw1 K a c m1 m2 d ∨ t = tDraw2 K a c m1 m2 d) (ok : DrawOk a c m1 m2 d) (hps : ps.length = 2) (hN : N.length = 3)
    (hb : ∀ (cdv : Value) (B : Around) (out : List PySem.Env) (z : Shared) (H : Hp) (E : XK), B.guards = some [] → Room k (B.deeper (envOfC x (defScope st) z.heap.objs.size f cdv)) → PSs (cxOf CX0 P w K mg base N x (defScope st) f cdv B out z H E).nox (defBody st) t) :
    FnG P w K mg base CX0 (k + 1) f fd ps (SpD K cl G false 2 S_draw) := by
  refine fng_of F S (fun vs H Q E h => by rw [hps]; exact h.1) (fun cdv B out z H vs Q E hg hr h => ⟨t, (hb cdv B out z H E hg hr).nox, ?_⟩)
  obtain ⟨hl, pot, M, ds, hd, hp, ha, po, q⟩ := h
  have hds : ∃ n, ds = [.pot, .int n] := by
    match ds, q with
    | [.pot, .int n], _ => exact ⟨n, rfl⟩
    | [], _ => exact absurd (hd.length.symm.trans hl) (by simp)
    | [_], _ => exact absurd (hd.length.symm.trans hl) (by simp)
    | _ :: _ :: _ :: _, _ => exact absurd (hd.length.symm.trans hl) (by simp)
    | [.pot, .non], q | [.pot, .bl _], q | [.pot, .str _], q | [.pot, .lst _], q | [.pot, .tup _], q | [.pot, .ins _ _ _], q | [.pot, .pot], q | [.pot, .rep _], q | [.pot, .cls _], q | [.pot, .ty _], q | [.pot, .scr _], q | [.pot, .dic _], q | [.pot, .fn _ _ _], q => exact let ⟨_, e, _⟩ := q; nomatch e
    | [.non, _], q | [.bl _, _], q | [.int _, _], q | [.str _, _], q | [.lst _, _], q | [.tup _, _], q | [.ins _ _ _, _], q | [.rep _, _], q | [.cls _, _], q | [.ty _, _], q | [.scr _, _], q | [.dic _, _], q | [.fn _ _ _, _], q => exact let ⟨_, e, _⟩ := q; nomatch e
  obtain ⟨n, rfl⟩ := hds
  obtain ⟨hn, hn2, q⟩ := q
  cases hd with
  | cons hd1 hd =>
    cases hd with
    | cons hd2 hd =>
      cases hd
      cases hd2
      cases hd1 with
      | @pot p ep =>
        obtain ⟨u, v, e, hu, hv, hv2⟩ := po.pot p ep
        have hpN : p ∈ [p] := List.mem_singleton.mpr rfl
        have st : ∀ (H' : Hp) (a b : Int), 0 ≤ a → 0 ≤ b → b < 2147483648 → (∀ z, z ≠ p → ∀ o, H z = some o → H' z = some o) → Step ⟨K, cl, pot⟩ H (upd H' p (.lst [.int a, .int b])) := fun H' a b h0 h1 h2 k => by
          refine Step.of (fun z o nz ez => ?_) (fun po => po.p0.pot ep e h0 h1 h2 upd_same fun z o ne ez => by rw [upd_ne ne]; exact k z ne o ez)
          have : z ≠ p := fun e => nz (by rw [e]; exact .inl ep)
          rw [upd_ne this]
          exact k z this o ez
        have go : ∀ E : Ends, (∀ v H', Step ⟨K, cl, pot⟩ H H' → ∀ x, v = .int x → 0 ≤ x → x < n → E.rt v H') → t E (L2.start N [.ref p, .int n]) H := fun E hE => by
          have hlen : 2 < (L2.start N [V.ref p, V.int n]).length := by
            unfold L2.start
            simp only [List.length_append, List.length_map, List.length_replicate, List.length_cons, List.length_nil]
            omega
          have h1 : ∀ x a b : Int, 0 ≤ x → x < n → 0 ≤ a → 0 ≤ b → b < 2147483648 → E.rt (.int x) (upd H p (.lst [.int a, .int b])) := fun x a b x0 x1 a0 b0 b1 => hE _ _ (st H a b a0 b0 b1 fun _ _ _ h => h) x rfl x0 x1
          have h1' : ∀ x a b : Int, 0 ≤ x → x < n → 0 ≤ a → 0 ≤ b → b < 2147483648 → ∀ T vs, H T = none → E.rt (.int x) (upd (upd H T (.tup vs)) p (.lst [.int a, .int b])) := fun x a b x0 x1 a0 b0 b1 T vs nT => hE _ _ (st _ a b a0 b0 b1 fun z _ o h => by rw [upd_ne (ne_of_none h nT)]; exact h) x rfl x0 x1
          rcases ht with rfl | rfl
          · exact draw1_go ok rfl rfl hlen e hn hn2 hu hv hv2 h1 h1'
          · exact draw2_go ok rfl rfl hlen e hn hn2 hu hv hv2 h1 h1'
        exact go _ fun v H' s x ev x0 x1 => by
          subst ev
          exact q x x0 x1 _ H' s (.int x)
/-! ### a new pot handed on -/
section
variable {m n : Type → Type} [Md m] [Md n] [Up n m] {w : Wd} {O : List Nat} {te : TE} {fl : Env → m (List D)} {spec : List D → n D}
def isPot : List D → Option Unit
  | [.int a, .int b] => match decide (0 ≤ a ∧ 0 ≤ b ∧ b < 2147483648) with
    | true => some ()
    | false => none
  | _ => none
def pGoPot (spec : List D → n D) (fl : Env → m (List D)) : Env → m D := fun ρ => Md.bind (fl ρ) fun ds => Md.bind (Md.lift (isPot ds)) fun _ => Md.bind (Up.up (spec [.pot])) fun d => Md.bind (Md.lift (dBl d)) fun c => Md.ret (.bl c)
theorem sim_goPot (h : SimL m w O te fl) : Sim m w O true (tGo (SpD w.K w.cl n false 1 spec) (tCons te tNil)) (pGoPot spec fl) := fun A H0 M σ H ρ Q R q => by
  refine h A H0 M σ H ρ _ R (Md.wp_mono (fun ds q1 p vs H1 n1 k1 e1 d1 => ?_) (Md.wp_bind q))
  obtain ⟨_, eq, q2⟩ := Md.wp_lift (Md.wp_bind q1)
  unfold isPot at eq
  split at eq
  · rename_i a b
    split at eq
    · rename_i c
      obtain ⟨a0, b0, b1⟩ := of_decide_eq_true c
      have ev : vs = [.int a, .int b] := by
        have := Dens.ints (is := [a, b]) d1
        simpa using this
      subst ev
      have nT : ∀ q ∈ w.cl.T, q.1 ≠ p := fun q hq z => (R.potOk.no (a := p) (.inr ⟨q, hq, z⟩) n1).elim
      have po1 : PotOk ⟨w.K, w.cl, .of (some p)⟩ H1 := by
        refine ⟨fun z hz => ?_, (R.go k1).potOk.tab, trivial⟩
        cases hz
        exact ⟨a, b, e1, a0, b0, b1⟩
      have s3 : ∀ H', Step ⟨w.K, w.cl, .of (some p)⟩ H1 H' → Step w H H' := fun H' s => by
        have np : ∀ z o, H z = some o → ¬ w.pa z → ¬ Wd.pa ⟨w.K, w.cl, .of (some p)⟩ z := fun z o ez nz q => by
          rcases q with q | q
          · exact ne_of_none ez n1 (Option.some.inj q).symm
          · exact nz (.inr q)
        refine Step.of (fun z o nz ez => s.lat z o (np z o ez nz) (k1.lat z o nz ez)) (fun po => ⟨fun r hr => ?_, (s.pot po1).tab⟩)
        obtain ⟨x, y, er, xy⟩ := po.pot r hr
        obtain ⟨x', y', er', xy'⟩ := (k1.pot po).pot r hr
        refine ⟨x', y', s.lat r _ (fun q => ?_) er', xy'⟩
        rcases q with q | ⟨q, hq, e⟩
        · exact ne_of_none er n1 (Option.some.inj q).symm
        · obtain ⟨ps, ee, _⟩ := po.tab q hq
          rw [e, er] at ee
          cases ee
      refine ⟨rfl, .of (some p), Wd.pa ⟨w.K, w.cl, .of (some p)⟩, [.pot], .cons (.pot rfl) .nil, fun _ z => z, fun z hz => po1.lb hz, po1, Up.ok (Md.wp_mono (fun d q3 v H' s r => ?_) (Md.wp_bind q2))⟩
      obtain ⟨c, ec, q4⟩ := Md.wp_lift (Md.wp_bind q3)
      rw [dBl_eq ec] at r
      have r2 : Den ⟨w.K, w.cl, .of (some p)⟩ (Wd.pa ⟨w.K, w.cl, .of (some p)⟩) H' v (.bl c) := r
      cases r2
      exact Md.wp_ret q4 _ H' (s3 H' s) (.bl c)
    · cases eq
  · cases eq
end
/-! ### the law's end -/
def hpOf (a : Addr) (ns : List Int) (o : Obj) : Hp := fun b => if b = a then some (.frz o (.lst (ns.map V.int))) else none
end Pw
set_option Elab.async false
set_option linter.all false
set_option maxRecDepth 100000
set_option maxHeartbeats 1000000
/-! Pw10: the head's facts with one more Bool; the end of a law's row. -/
namespace Pw
open PySem PySem.Spec PyProof.Rows L2
abbrev AlP : Type := He.AlD × Bool
def obsP (n : Nat) (fa : List He.Fa) (fn : List He.DefD) (ex : PySem.W.Frag → Bool) (g : Addr → Option Obj) : AlP := (He.obsD fa fn (He.frG g (He.asD g n)), ex (He.frG g (He.asD g n)))
def hookP (n : Nat) (fa : List He.Fa) (fn : List He.DefD) (ex : PySem.W.Frag → Bool) : PySem.W.Hook where
  α := AlP
  obs := fun s => obsP n fa fn ex s.heap.get?
  val := fun _ => (He.valD fn, true)
  says := fun _ h => ∃ K : PySem.W.Frag, K.In h ∧ He.SaysD fa fn K ∧ ex K = true
  of := fun _ _ e => ⟨_, He.frG_in, congrArg Prod.fst e, congrArg Prod.snd e⟩
  keeps := fun _ _ _ ⟨K, hK, c⟩ k => ⟨K, PySem.W.Frag.In.keeps hK k, c⟩
theorem gtup_of {K : PySem.W.Frag} {mg : Str → Option Value} {x : Str} {is : List Int} (h : mg x = some (.ref (He.ga K x))) (c : He.tupB K x (is.map He.Dv.int) = true) : GTup K mg x is := ⟨h, fun J => by
  have e := He.tupB_ok c J
  rw [List.map_map] at e
  exact e⟩
end Pw
set_option Elab.async false
set_option linter.all false
set_option maxRecDepth 100000
set_option maxHeartbeats 1000000
/-! Pw11: instances: fields, methods, properties, making, ==, isinstance. -/
namespace Pw
open PySem PySem.Spec PyProof.Rows L2
/-! ### a method, a property, the making, the own == -/
section
variable (P : Program) (w : World) (K : PySem.W.Frag) (mg : Str → Option Value) (base : Heap) (k : Nat) (C : Addr)
/-- where a def of a class stands -/
def MetAt (C : Addr) (m y q : Str) (st : Stmt) : Prop := ∃ f fd, FunD K y q (defArgs st) (defBody st) (defScope st) [] [] f fd ∧ Meth K C m f ∧ Cls K C
def PrpAt (C : Addr) (m y q : Str) (st : Stmt) : Prop := ∃ p f fd, FunD K y q (defArgs st) (defBody st) (defScope st) [] [] f fd ∧ PropOf K C m p f ∧ Cls K C
def MakAt (mg : Str → Option Value) (x : Str) (C : Addr) (y q : Str) (st : Stmt) : Prop := ∃ f fd, FunD K y q (defArgs st) (defBody st) (defScope st) [] [] f fd ∧ Mk K C f ∧ mg x = some (.ref C)
def EqAt (C : Addr) (y q : Str) (st : Stmt) : Prop := ∃ f fd, FunD K y q (defArgs st) (defBody st) (defScope st) [] [] f fd ∧ PySem.W.findIn K (.ref C) "__eq__" = some (some (.ref f)) ∧ PySem.W.isFn K (.ref f) = true
structure Mth (m : Str) (st : Stmt) (ps : List Str) (sp : Sp) : Prop where
  ex : ∃ (y q : Str) (f : Addr) (fd : FuncData), FunD K y q (defArgs st) (defBody st) (defScope st) [] [] f fd ∧ FnG P w K mg base CX0 k f fd ps sp ∧ Meth K C m f ∧ Cls K C
structure Prp (m : Str) (st : Stmt) (ps : List Str) (sp : Sp) : Prop where
  ex : ∃ (y q : Str) (p f : Addr) (fd : FuncData), FunD K y q (defArgs st) (defBody st) (defScope st) [] [] f fd ∧ FnG P w K mg base CX0 k f fd ps sp ∧ PropOf K C m p f ∧ Cls K C
structure Makr (x : Str) (st : Stmt) (ps : List Str) (sp : Sp) : Prop where
  ex : ∃ (y q : Str) (f : Addr) (fd : FuncData), FunD K y q (defArgs st) (defBody st) (defScope st) [] [] f fd ∧ FnG P w K mg base CX0 k f fd ps sp ∧ Mk K C f ∧ mg x = some (.ref C)
structure EqM (st : Stmt) (ps : List Str) (sp : Sp) : Prop where
  ex : ∃ (y q : Str) (f : Addr) (fd : FuncData), FunD K y q (defArgs st) (defBody st) (defScope st) [] [] f fd ∧ FnG P w K mg base CX0 k f fd ps sp ∧ PySem.W.findIn K (.ref C) "__eq__" = some (some (.ref f)) ∧ PySem.W.isFn K (.ref f) = true
end
def tMethG (C : Addr) (m : Str) (sp : Sp) (ta : TE) (t : TA) : TE := fun σ H Q => ta σ H fun x H1 => ∃ a dx fs, x = .ref a ∧ H1 a = some (.ins C dx fs) ∧ fs.lookup m = none ∧ t σ H1 fun vs H2 => sp (x :: vs) H2 Q E0
def tPropG (C : Addr) (sp : Sp) (ta : TE) : TE := fun σ H Q => ta σ H fun x H1 => ∃ a dx fs, x = .ref a ∧ H1 a = some (.ins C dx fs) ∧ sp [x] H1 Q E0
def tMakeG (C : Addr) (sp : Sp) (t : TA) : TE := fun σ H Q => t σ H fun vs H1 => ∀ x dx, H1 x = none → H1 dx = none → dx ≠ x → sp (.ref x :: vs) (upd (upd H1 dx (.own x)) x (.ins C dx [])) (fun v H2 => v = .non ∧ Q (.ref x) H2) E0
section
variable {X : Cx} {k : Nat} {C : Addr} {ps ks : List Str} {sp : Sp} {x m : Str} {st : Stmt} {p pos apos : Pos} {e o : Expr} {es : List Expr} {kws : List Keyword} {ta : TE} {t tk : TA} {π : List Nat}
abbrev BindAll (st : Stmt) (ps : List Str) : Prop := ∀ (y q : Str) (kV doc pm : Value) (an : Option Addr) (cdv ct : Value) (us : List Value), us.length = ps.length → bindArgs (PySem.W.fnOf y q (defArgs st) (defBody st) (defScope st) .none kV doc pm an cdv ct) ⟨us, []⟩ = pure (ps.zip us)
abbrev BindKw (st : Stmt) (ps ks : List Str) (π : List Nat) : Prop := ∀ (y q : Str) (kV doc pm : Value) (an : Option Addr) (cdv ct : Value) (u : Value) (ws : List Value), ws.length = ks.length → bindArgs (PySem.W.fnOf y q (defArgs st) (defBody st) (defScope st) .none kV doc pm an cdv ct) ⟨[u], ks.zip ws⟩ = pure (ps.zip (u :: pick π ws))
end
/-! ### by data -/
section
variable {m n : Type → Type} [Md m] [Md n] [Up n m] {w : Wd} {O : List Nat} {b b2 : Bool} {ta tb : TE} {fa fb : Env → m D} {t : TA} {fr : Env → m (List D)} {spec : List D → n D} {j : Nat} {C : Str}
/-- what the text's class C has -/
structure ClsOk (K : PySem.W.Frag) (cl : Cl) (C : Str) (fs : List Str) : Prop where
  cls : Cls K (cl C)
  no : ∀ f ∈ fs, NoAttr K (cl C) f
def fieldOf (f : Str) : List Str → List D → Option D
  | n :: ns, d :: ds => if n = f then some d else fieldOf f ns ds
  | _, _ => none
def dFld (C f : Str) : D → Option D
  | .ins c ns ds => if c = C then fieldOf f ns ds else none
  | _ => none
/-- an instance of C without a field of that name -/
def isIns (C m : Str) : D → Option Unit
  | .ins c ns ds => if c = C ∧ m ∉ ns then some () else none
  | _ => none
def pMeth (C mn : Str) (spec : List D → n D) (fa : Env → m D) (fr : Env → m (List D)) : Env → m D := fun ρ => Md.bind (fa ρ) fun x => Md.bind (Md.lift (isIns C mn x)) fun _ => Md.bind (fr ρ) fun ds => Up.up (spec (x :: ds))
def pMethL (C mn : Str) (spec : List D → n D) (fa : Env → m D) (fr : Env → m (List D)) : Env → m (List D) := fun ρ => Md.bind (fa ρ) fun x => Md.bind (Md.lift (isIns C mn x)) fun _ => Md.bind (fr ρ) fun ds => Md.bind (Up.up (spec (x :: ds))) fun d => Md.lift (dList d)
def isInsC (C : Str) : D → Option Unit
  | .ins c _ _ => if c = C then some () else none
  | _ => none
def pProp (C : Str) (spec : List D → n D) (fa : Env → m D) : Env → m D := fun ρ => Md.bind (fa ρ) fun x => Md.bind (Md.lift (isInsC C x)) fun _ => Up.up (spec [x])
/-! making -/
/-- what an __init__ promises: the new instance gets the fields ns, their data by spec -/
def SpInit (K : PySem.W.Frag) (cl : Cl) (m : Type → Type) [Md m] (C : Str) (ns : List Str) (j : Nat) (spec : List D → m (List D)) : Sp := fun vs H Q _ => ∃ (x dx : Addr) (us : List V) (J : Hp) (pot : Sh) (M : Av) (ds : List D),
  vs = .ref x :: us ∧ us.length = j ∧ H = upd (upd J dx (.own x)) x (.ins (cl C) dx []) ∧ J x = none ∧ J dx = none ∧ dx ≠ x ∧ Dens ⟨K, cl, pot⟩ M J us ds ∧ (∀ a, Wd.pa ⟨K, cl, pot⟩ a → M a) ∧ AllL M J ∧ PotOk ⟨K, cl, pot⟩ J ∧
  Md.wp (spec ds) fun es => ∀ H' zs, Step ⟨K, cl, pot⟩ J H' → H' x = some (.ins (cl C) dx (ns.zip zs)) → Dens ⟨K, cl, pot⟩ M H' zs es → Q .non H'
def okIns (C : Str) (ns : List Str) (es : List D) : Option D := if ns.length = es.length ∧ ns ≠ [] then some (.ins C ns es) else none
def pMake (C : Str) (ns : List Str) (spec : List D → n (List D)) (fr : Env → m (List D)) : Env → m D := fun ρ => Md.bind (fr ρ) fun ds => Md.bind (Up.up (spec ds)) fun es => Md.lift (okIns C ns es)
/-! isinstance of an own class -/
structure IsiOk (K : PySem.W.Frag) (cl : Cl) (C : Str) (cs : List Str) : Prop where
  b : ∀ t ∈ ["NoneType", "bool", "int", "str", "list", "tuple", "dict"], PySem.W.kitOne K (.type t) (.ref (cl C)) = some false
  c : ∀ c ∈ cs, C8.InsC K (cl c) ∧ PySem.W.kitOne K (.ref (cl c)) (.ref (cl C)) = some (decide (c = C))
def dIsiC (C : Str) (cs : List Str) : D → Option D
  | .ins c _ _ => if c ∈ cs then some (.bl (decide (c = C))) else none
  | d => d.tyName.map fun _ => .bl false
end
end Pw
set_option Elab.async false
set_option linter.all false
set_option maxRecDepth 100000
set_option maxHeartbeats 1000000
/-! Pw12: two kinds of __init__; == of instances. -/
namespace Pw
open PySem PySem.Spec PyProof.Rows L2
section
variable {K : PySem.W.Frag} {cl : Cl} {C f1 f2 : Str}
/-- self.f1 = a; self.f2 = b -/
def tInit2 (K : PySem.W.Frag) (f1 f2 : Str) : TS := tSeq (sFld K (tVar 0) (tVar 1) f1) (sFld K (tVar 0) (tVar 2) f2)
theorem Step.keep {w : Wd} {J H' : Hp} (k : ∀ a o, J a = some o → H' a = some o) : Step w J H' := ⟨fun a o _ e => k a o e, fun P => P.keep k⟩
/-- t = f(a, b); self.g1 = t.f1; self.g2 = t.f2 -/
def tInitOf (K : PySem.W.Frag) (sp : Sp) (f1 f2 g1 g2 : Str) : TS := tSeq (tAsg (tGo sp (tCons (tVar 1) (tCons (tVar 2) tNil))) (gName 3)) (tSeq (sFld K (tVar 0) (tFld K (tVar 3) f1) g1) (sFld K (tVar 0) (tFld K (tVar 3) f2) g2))
def specOf {m : Type → Type} [Md m] (C f1 f2 : Str) (spec : List D → m D) : List D → m (List D) := fun ds => Md.bind (spec ds) fun d => Md.lift (match d with
  | .ins c [n1, n2] [x, y] => if c = C ∧ n1 = f1 ∧ n2 = f2 then some [x, y] else none
  | _ => none)
end
end Pw
set_option Elab.async false
set_option linter.all false
set_option maxRecDepth 100000
set_option maxHeartbeats 1000000
/-! Pw13: == and != of instances with an own __eq__. -/
namespace Pw
open PySem PySem.Spec PyProof.Rows L2
def rEqI (C : Addr) (sp : Sp) : R2 := fun x y H Q => ∃ a b dx dy fs gs, x = .ref a ∧ y = .ref b ∧ H a = some (.ins C dx fs) ∧ H b = some (.ins C dy gs) ∧ sp [x, y] H (fun v H' => (∃ k, v = .bl k) ∧ Q v H') E0
def rNeI (C : Addr) (sp : Sp) : R2 := fun x y H Q => ∃ a b dx dy fs gs, x = .ref a ∧ y = .ref b ∧ H a = some (.ins C dx fs) ∧ H b = some (.ins C dy gs) ∧ sp [x, y] H (fun v H' => ∃ k, v = .bl k ∧ Q (.bl (!k)) H') E0
section
variable {X : Cx} {k : Nat} {C : Addr} {ps : List Str} {sp : Sp} {st : Stmt}
/-- != : the own == turned about (no own !=) -/
structure NeOk (K : PySem.W.Frag) (C : Addr) : Prop where
  ne : PySem.W.findIn K (.ref C) "__ne__" = some (some (.builtin "object.__ne__"))
  sub : PySem.W.subIn K (.ref C) (.type "object") = some true
section
variable {prog : Program} {w : World} {A : Around} {E : Value → Shared → Prop} {s : Shared} {K : PySem.W.Frag} {h₀ : Heap} {L x C f : Addr} {m : Str → Option Value} {ox : Obj} {od : Option Obj} {b tb : Value}
end
end
/-! by data -/
def rEqR (K : PySem.W.Frag) (C : Addr) (sp : Sp) : R2 := fun x y H Q => rEqU K x y H Q ∨ rEqI C sp x y H Q
def rNeR (K : PySem.W.Frag) (C : Addr) (sp : Sp) : R2 := fun x y H Q => rNeU K x y H Q ∨ rNeI C sp x y H Q
section
variable {X : Cx} {k : Nat} {C : Addr} {ps : List Str} {sp : Sp} {st : Stmt}
end
section
variable {m : Type → Type} [Md m] {w : Wd} {O : List Nat} {b1 b2 : Bool} {ta tb : TE} {fa fb : Env → m D} {C : Str} {spec : List D → Option D}
/-- == where two instances of C may stand -/
def dEqR (C : Str) (spec : List D → Option D) (x y : D) : Option D := match isInsC C x, isInsC C y with
  | some _, some _ => (spec [x, y]).bind fun d => (dBl d).map .bl
  | _, _ => dEq x y
def dNeR (C : Str) (spec : List D → Option D) (x y : D) : Option D := match isInsC C x, isInsC C y with
  | some _, some _ => (spec [x, y]).bind fun d => (dBl d).map fun c => .bl (!c)
  | _, _ => dNe x y
end
end Pw
set_option Elab.async false
set_option linter.all false
set_option maxRecDepth 100000
set_option maxHeartbeats 1000000
/-! Pw14: enumerate, zip and [::-1] over lists and tuples alike. -/
namespace Pw
open PySem PySem.Spec PyProof.Rows L2
/-- a list (true) or a tuple (false), as it is read -/
def SqB (b : Bool) (K : PySem.W.Frag) (H : Hp) (a : Addr) (xs : List V) : Prop := match b with
  | true => SqL K H a xs
  | false => SqT K H a xs
def SeqIt (b : Bool) (h : Heap) (it a : Addr) (i : Nat) : Prop := match b with
  | true => h.IsListIter it a i
  | false => h.IsTupleIter it a i
def HasSeq (b : Bool) (h : Heap) (a : Addr) (items : Array Value) : Prop := match b with
  | true => h.IsList a items
  | false => h.IsTuple a items
theorem SeqIt.to {b : Bool} {h h' : Heap} {it a : Addr} {i : Nat} (x : SeqIt b h it a i) (e : ∀ o, h.get? it = some o → h'.get? it = some o) : SeqIt b h' it a i := by
  cases b
  · obtain ⟨o, q, r⟩ := x
    exact ⟨o, e _ q, r⟩
  · obtain ⟨o, q, r⟩ := x
    exact ⟨o, e _ q, r⟩
theorem SeqIt.obj {b : Bool} {h : Heap} {it a : Addr} {i : Nat} (x : SeqIt b h it a i) : ∃ o, h.get? it = some o ∧ ∀ v, o.data ≠ .cell v := by
  cases b <;> obtain ⟨o, q, _, r⟩ := x <;> exact ⟨o, q, fun v z => by rw [r] at z; cases z⟩
theorem SeqIt.lt {b : Bool} {h : Heap} {it a : Addr} {i : Nat} (x : SeqIt b h it a i) : it < h.objs.size := by
  obtain ⟨o, q, _⟩ := x.obj
  exact Heap.lt_size q
theorem SeqIt.ne {b b2 : Bool} {h : Heap} {it a c : Addr} {i : Nat} {its : Array Value} (x : SeqIt b h it a i) (y : HasSeq b2 h c its) : c ≠ it := fun z => by
  subst z
  cases b <;> cases b2 <;> obtain ⟨o, q, r, _⟩ := x <;> obtain ⟨o2, q2, r2, _⟩ := y <;> rw [q] at q2 <;> cases q2 <;> rw [r] at r2 <;> revert r2 <;> decide
theorem HasSeq.fields {b : Bool} {h : Heap} {a e : Addr} {its : Array Value} {o : Obj} {fs : Array Value} (y : HasSeq b h a its) (q : h.get? e = some o) (d : o.data = .fields fs) : e ≠ a := fun z => by
  subst z
  cases b <;> obtain ⟨o2, q2, _, n, r2⟩ := y <;> rw [q] at q2 <;> cases q2 <;> rw [d] at r2 <;> cases r2
theorem HasSeq.lt {b : Bool} {h : Heap} {a : Addr} {its : Array Value} (y : HasSeq b h a its) : a < h.objs.size := by
  cases b <;> obtain ⟨o2, q2, _⟩ := y <;> exact Heap.lt_size q2
theorem HasSeq.to {b : Bool} {h h' : Heap} {a : Addr} {its : Array Value} (y : HasSeq b h a its) (e : ∀ o, h.get? a = some o → h'.get? a = some o) : HasSeq b h' a its := by
  cases b <;> obtain ⟨o, q, r⟩ := y <;> exact ⟨o, e _ q, r⟩
theorem seq_begins (b : Bool) (a : Addr) (its : Array Value) : ∃ o, Begins (.ref a) o (fun h => HasSeq b h a its) ∧ ∀ (h : Heap) (it : Addr), h.get? it = some o → SeqIt b h it a 0 := by
  cases b
  · exact ⟨_, begins_tuple a its, fun h it q => ⟨_, q, rfl, rfl⟩⟩
  · exact ⟨_, begins_list a its, fun h it q => ⟨_, q, rfl, rfl⟩⟩
theorem seq_draws {prog : Program} {w : World} {A : Around} (hh : A.handled = none) (b : Bool) (it a : Addr) (hne : a ≠ it) (its : Array Value) :
    Draws prog w A it [it, a] its.size (fun i v => its[i]? = some v) (fun i h => SeqIt b h it a i ∧ HasSeq b h a its) := by
  cases b
  · exact Draws.tuple hh it a hne its
  · exact Draws.list hh it a hne its
section
variable {X : Cx} {pins : List (Addr × Obj)} {σ : L2.St} {H : Hp} {s : Shared} {a : Addr} {xs ys : List V} {b : Bool}
theorem inv_seq (I : Inv X pins σ H s) (h : SqB b X.K H a xs) : ∃ its : List Value, Vals xs its ∧ HasSeq b s.heap a its.toArray := by
  cases b
  · obtain ⟨its, r, p, _⟩ := I.tuple h
    exact ⟨its, r, p⟩
  · obtain ⟨its, r, p, _⟩ := I.list h
    exact ⟨its, r, p.isList⟩
theorem inv_inj (I : Inv X pins σ H s) (h : SqB b X.K H a xs) (h2 : SqB b X.K H a ys) : xs = ys := by
  cases b
  · exact I.tuple_inj h h2
  · exact I.list_inj h h2
end
/-- enumerate -/
def IteB (b : Bool) (K : PySem.W.Frag) (a : Addr) : It :=
  ⟨fun i H => ∃ (xs : List V) (x : V), SqB b K H a xs ∧ xs[i]? = some x, fun i H v H' => ∃ T x, v = .ref T ∧ H T = none ∧ H' = upd H T (.tup [.int (i : Nat), x]) ∧ ∀ xs, SqB b K H a xs → xs[i]? = some x, fun i H => ∃ xs : List V, SqB b K H a xs ∧ xs.length = i⟩
theorem turn_enumB {P : Program} {w : World} {K : PySem.W.Frag} {elts : List Expr} {kk : Nat} {tpos : Pos} (b : Bool) (a e it : Addr) :
    Turn P w K (.Tuple elts kk tpos) (IteB b K a) [e, it] e (fun i h => (∃ old, IsEnum h e it ((i : Nat) : Int) old) ∧ SeqIt b h it a i ∧ e ≠ it) where
  mem := by simp
  obj := fun i h st c hc => by
    obtain ⟨⟨old, he⟩, hi, _⟩ := st
    rcases List.mem_cons.mp hc with rfl | z
    · exact ⟨_, he, fun v q => nomatch q⟩
    · rw [List.mem_singleton.mp z]
      exact hi.obj
  keep := fun i h h' st k => ⟨st.1.imp fun old he => k e (by simp) _ he, st.2.1.to fun o q => k it (by simp) o q, st.2.2⟩
  item := by
    intro X hP hw hK hc i pins s σ H E I hf st hg
    subst hP hw hK
    obtain ⟨⟨old, he⟩, hi, hne⟩ := st
    obtain ⟨xs, x, hq, hx⟩ := hg
    obtain ⟨its, rv, p⟩ := inv_seq I hq
    obtain ⟨u, hu, ru⟩ := rv.get hx
    have lt : i < its.toArray.size := by
      have := (List.getElem?_eq_some_iff.mp hu).1
      simpa using this
    have hel : e < s.heap.objs.size := Heap.lt_size he
    have hil : it < s.heap.objs.size := hi.lt
    have hea : e ≠ a := p.fields he rfl
    have D := seq_draws (prog := X.prog) (w := X.w) (A := X.A.in1) (I.ok.hd hc) b it a (hi.ne p) its.toArray
    refine wpAny_pyNext_enum_itemD D he ⟨hi, p⟩ lt hne (fun q => ?_) fun u2 h' tk hP ho st' hT hsz hk => ?_
    · rcases List.mem_cons.mp q with q | q
      · exact hne q
      · exact hea (List.mem_singleton.mp q)
    have eu : u = u2 := by
      have e3 : its[i]? = some u2 := by simpa using hP
      rw [hu] at e3
      exact Option.some.inj e3
    subst eu
    refine ⟨_, rfl, wpAny_letOwnedTupleGo_enum (s := { s with heap := h', toks := tk + 1 }) ho fun h'' he' sb => ?_⟩
    have hT2 := (sb.2 _ (Nat.ne_of_gt hel)).trans hT
    have new : ObjOk X.prog X.w (upd H s.heap.objs.size (.tup [.int (i : Nat), x])) h'' s.heap.objs.size (.tup [.int (i : Nat), x]) :=
      ⟨by show 2 ≤ sizeLine; decide, [.int i tk, u], .cons ⟨_, rfl⟩ (.cons ru .nil), ⟨_, hT2, rfl, _, rfl⟩⟩
    have I1 := I.turnedNew (t' := tk + 1) (ch := [e, it]) (fun c ob hb q => by
      have n1 : c ≠ e := fun z => hb (z ▸ List.mem_cons_self ..)
      have n2 : c ≠ it := fun z => hb (z ▸ List.mem_cons_of_mem _ (List.mem_singleton.mpr rfl))
      exact (sb.2 c n1).trans (hk c ob n1 n2 q)) hf (Nat.le_refl _) new
    refine ⟨.ref s.heap.objs.size, _, I1, rfl, ⟨_, x, rfl, I.hok.fresh (Nat.le_refl _), rfl, fun ys hy => by rw [inv_inj I hy hq]; exact hx⟩, ⟨⟨u, ?_⟩, st'.1.to fun o q => (sb.2 it (Ne.symm hne)).trans q, hne⟩, fun c hb => ?_⟩
    · rw [show ((i + 1 : Nat) : Int) = (i : Int) + 1 by omega]
      exact he'
    · have : c < s.heap.objs.size := by
        rcases List.mem_cons.mp hb with z | z
        · rw [z]; exact hel
        · rw [List.mem_singleton.mp z]; exact hil
      rw [upd_ne (Nat.ne_of_lt this)]
      exact (hf c hb).1
  done := by
    intro X hP hw hK hc i pins s σ H E I hf st hg
    subst hP hw hK
    obtain ⟨⟨old, he⟩, hi, hne⟩ := st
    obtain ⟨xs, hq, hx⟩ := hg
    obtain ⟨its, rv, p⟩ := inv_seq I hq
    obtain ⟨f0, f1, f2, f3, f4, f5⟩ := hf it (by simp)
    have D := seq_draws (prog := X.prog) (w := X.w) (A := X.A.in1) (I.ok.hd hc) b it a (hi.ne p) its.toArray
    have hl : i = its.toArray.size := by rw [List.size_toArray, ← rv.length, hx]
    rw [hl] at hi
    exact wpAny_pyNext_enum_endD D he ⟨hi, p⟩ fun h' eb => ⟨rfl, I.turned (t' := s.toks) (fun c o hb q => eb c o hb q) f0 f1 f3 f4 f5⟩
  self := fun A i s Q E st h => let ⟨⟨_, he⟩, _⟩ := st; wpAny_pyIter_enum he h
/-- enumerate of what begins by o -/
theorem meets_enum1B {v : Value} {o : Obj} {H : Heap → Prop} (B : Begins v o H) :
    Meets (Builtin.«enumerate.__new__» ⟨[.type "enumerate", v], []⟩) (fun _ R s => H s.heap ∧
      R (.ok (.ret (.ref (s.heap.push o).objs.size))) { s with heap := (s.heap.push o).push { cls := .type "enumerate", data := .fields #[.none, .bool false, .ref s.heap.objs.size, rawInt 0, .none, .none] } }) :=
  .of_wp fun prog w A R s h => by
    obtain ⟨hp, g, dd, tk, oo⟩ := s
    obtain ⟨hv, h⟩ := h
    have hsub := sub_enumerate
    have walks : ∀ {A' : Around} {E Q : Value → Shared → Prop}, Q (.ref hp.objs.size) ⟨hp.push o, g, dd, tk, oo⟩ → wpAny (model prog w) A' (pyIter v) Q E ⟨hp, g, dd, tk, oo⟩ :=
      fun q => B.iter prog w _ _ ⟨hp, g, dd, tk, oo⟩ _ hv q
    wp_walk using walks
    refine wpAny_stack_any fun stk => wpAny_pure ?_
    split
    · rename_i c _ _ _ _ _
      cases (c == Value.type "enumerate") <;> wp_walk using walks <;> exact ⟨_, rfl, h⟩
    · wp_walk using walks
      exact ⟨_, rfl, h⟩
def iEnumU (K : PySem.W.Frag) (te : TE) : TI := fun σ H R => te σ H fun v H1 => ∃ b a xs, v = .ref a ∧ SqB b K H1 a xs ∧ R (IteB b K a) H1
section
variable {X : Cx}
theorem call_enum1 {prog : Program} {w : World} {A : Around} {E : Value → Shared → Prop} {s : Shared} {b : Bool} {a : Addr} {its : Array Value} {Q : Value → Shared → Prop} (p : HasSeq b s.heap a its)
    (h : ∀ h', IsEnum h' (s.heap.objs.size + 1) s.heap.objs.size 0 .none → SeqIt b h' s.heap.objs.size a 0 → (∀ c o, s.heap.get? c = some o → h'.get? c = some o) → Q (.ref (s.heap.objs.size + 1)) { s with heap := h' }) :
    wpAny (model prog w) A (call (.type "enumerate") [.ref a]) Q E s := by
  cases b
  · obtain ⟨o, B, hb⟩ := seq_begins false a its
    refine callType_new F.called_enumerate (by decide) (F.typeCall_enumerate_1 _) (F.newCall_enumerate_1 _) (fun obj => F.args_object_init_2 obj _) F.entry_enumerate_new
      (meets_enum1B B) ⟨p, ?_⟩
    have hz : (s.heap.push o).objs.size = s.heap.objs.size + 1 := Heap.size_push ..
    show _ ∧ _
    rw [hz]
    have he := Heap.get?_push_size (s.heap.push o) (o := { cls := .type "enumerate", data := .fields #[.none, .bool false, .ref s.heap.objs.size, rawInt 0, .none, .none] }) rfl
    rw [hz] at he
    exact ⟨⟨_, he, rfl⟩, h _ he (hb _ _ (Heap.get?_push_of_some _ (Heap.get?_push_size _ B.free))) fun c o x => Heap.get?_push_of_some _ (Heap.get?_push_of_some _ x)⟩
  · exact call_enumerate_list p fun h' he hit _ hk => h h' he hit hk
theorem pi_enumU {e : Expr} {te : TE} {p pos tpos : Pos} {elts : List Expr} {kk : Nat} (hg : Gl X "enumerate") (hm : X.mg "enumerate" = none) (he : PE X e te) (hs : starEach [e] X.env = (false, eval e X.env) :: starEach [] X.env := by rfl) :
    PI X (.Tuple elts kk tpos) (.Call (.Name "enumerate" p) [e] [] pos) (iEnumU X.K te) := by
  refine ⟨fun pins s σ H R I h => ?_⟩
  refine Call_ (ld_blt I hg hm boot_enumerate (PyProof.Rows.callWith_type1 (PyProof.Rows.args_cons (thn (he.run pins s σ H _ I h) fun u s1 ⟨v, H1, I1, r1, q1⟩ => PyProof.Rows.args_nil ?_) hs) hs rfl))
  obtain ⟨b, a, xs, ev, hq, q⟩ := q1
  subst ev
  obtain rfl : u = Value.ref a := r1
  obtain ⟨its, rv, p'⟩ := inv_seq I1 hq
  refine call_enum1 p' fun h' he' hit hk => wpAny_pyIter_enum he' ?_
  have I2 : Inv X pins σ H1 { s1 with heap := h' } := I1.kept (t' := s1.toks) hk
  refine ⟨s1.heap.objs.size + 1, [s1.heap.objs.size + 1, s1.heap.objs.size], _, _, H1, rfl, I2, turn_enumB b a (s1.heap.objs.size + 1) s1.heap.objs.size, ⟨⟨.none, he'⟩, hit, Nat.succ_ne_self _⟩, fun c hb => ?_, q⟩
  have hle : s1.heap.objs.size ≤ c := by
    rcases List.mem_cons.mp hb with z | z
    · rw [z]; exact Nat.le_add_right _ _
    · rw [List.mem_singleton.mp z]; exact Nat.le_refl _
  exact I1.fpOk hle (I1.hok.fresh hle)
end
end Pw
namespace Pw
open PySem PySem.Spec PyProof.Rows L2
/-- zip of two, each a list or a tuple -/
def ItzB (b1 b2 : Bool) (K : PySem.W.Frag) (a c : Addr) : It :=
  ⟨fun i H => ∃ (xs ys : List V) (x y : V), SqB b1 K H a xs ∧ SqB b2 K H c ys ∧ xs[i]? = some x ∧ ys[i]? = some y,
    fun i H v H' => ∃ T x y, v = .ref T ∧ H T = none ∧ H' = upd H T (.tup [x, y]) ∧ (∀ xs, SqB b1 K H a xs → xs[i]? = some x) ∧ ∀ ys, SqB b2 K H c ys → ys[i]? = some y,
    fun i H => ∃ xs ys : List V, SqB b1 K H a xs ∧ SqB b2 K H c ys ∧ min xs.length ys.length = i⟩
/-- the cells of a zip lie apart -/
structure ZipA (z TI TO i1 i2 : Addr) : Prop where
  a1 : TI ≠ z
  a2 : TO ≠ z
  a3 : TI ≠ TO
  a4 : TI ≠ i1
  a5 : TI ≠ i2
  a6 : z ≠ i1
  a7 : z ≠ i2
  a8 : TO ≠ i1
  a9 : TO ≠ i2
  aa : i1 ≠ i2
theorem ZipA.sep {h : Heap} {b1 b2 : Bool} {z TI TO i1 i2 a c : Addr} {x1 x2 : Array Value} {fs : Array Value} {oz : Obj} (D : ZipA z TI TO i1 i2) (p1 : HasSeq b1 h a x1) (p2 : HasSeq b2 h c x2) (ez : h.get? z = some oz) (dz : oz.data = .fields fs)
    (n1 : a ≠ i1) (n2 : c ≠ i2) (n3 : a ≠ i2) (n4 : c ≠ i1) (n5 : TO ≠ a) (n6 : TO ≠ c) : ZipSep2 z TI TO i1 i2 [i1, a] [i2, c] where
  TIz := D.a1
  TOz := D.a2
  TITO := D.a3
  TIi1 := D.a4
  TIi2 := D.a5
  mem1 := List.mem_cons_self ..
  mem2 := List.mem_cons_self ..
  zf1 := fun q => by
    rcases List.mem_cons.mp q with q | q
    · exact D.a6 q
    · exact p1.fields ez dz (List.mem_singleton.mp q)
  zf2 := fun q => by
    rcases List.mem_cons.mp q with q | q
    · exact D.a7 q
    · exact p2.fields ez dz (List.mem_singleton.mp q)
  Tf1 := fun q => by
    rcases List.mem_cons.mp q with q | q
    · exact D.a8 q
    · exact n5 (List.mem_singleton.mp q)
  Tf2 := fun q => by
    rcases List.mem_cons.mp q with q | q
    · exact D.a9 q
    · exact n6 (List.mem_singleton.mp q)
  sep1_2 := fun q => by
    rcases List.mem_cons.mp q with q | q
    · exact D.aa q
    · exact n4 (List.mem_singleton.mp q).symm
  sep2_1 := fun q => by
    rcases List.mem_cons.mp q with q | q
    · exact D.aa q.symm
    · exact n3 (List.mem_singleton.mp q).symm
theorem turn_zipB {P : Program} {w : World} {K : PySem.W.Frag} {elts : List Expr} {kk : Nat} {tpos : Pos} {b1 b2 : Bool} {a c z TI TO i1 i2 : Addr} (D : ZipA z TI TO i1 i2) (n5 : TO ≠ a) (n6 : TO ≠ c) :
    Turn P w K (.Tuple elts kk tpos) (ItzB b1 b2 K a c) [z, TI, TO, i1, i2] z (fun i h => IsZip h z TI TO .none ∧ IsTupOf2 h TI (.ref i1) (.ref i2) ∧ (∃ x y, IsTupOf2 h TO x y) ∧ SeqIt b1 h i1 a i ∧ SeqIt b2 h i2 c i) where
  mem := by simp
  obj := fun i h st d hd => by
    obtain ⟨hz, hTI, ⟨x, y, hTO⟩, h1, h2⟩ := st
    have e' : d = z ∨ d = TI ∨ d = TO ∨ d = i1 ∨ d = i2 := by simpa using hd
    rcases e' with q | q | q | q | q <;> rw [q]
    · exact ⟨_, hz, fun v q => nomatch q⟩
    · exact ⟨_, hTI, fun v q => nomatch q⟩
    · exact ⟨_, hTO, fun v q => nomatch q⟩
    · exact h1.obj
    · exact h2.obj
  keep := fun i h h' st k => by
    obtain ⟨hz, hTI, ⟨x, y, hTO⟩, h1, h2⟩ := st
    exact ⟨k z (by simp) _ hz, k TI (by simp) _ hTI, ⟨x, y, k TO (by simp) _ hTO⟩, h1.to fun o q => k i1 (by simp) o q, h2.to fun o q => k i2 (by simp) o q⟩
  item := by
    intro X hP hw hK hc i pins s σ H E I hf st hg
    subst hP hw hK
    obtain ⟨hz, hTI, ⟨x0, y0, hTO⟩, h1, h2⟩ := st
    obtain ⟨xs, ys, x, y, hqx, hqy, hx, hy⟩ := hg
    obtain ⟨its, rv, p⟩ := inv_seq I hqx
    obtain ⟨its2, rv2, p2⟩ := inv_seq I hqy
    obtain ⟨u, hu, ru⟩ := rv.get hx
    obtain ⟨u2, hu2, ru2⟩ := rv2.get hy
    have l1 : i < its.toArray.size := by simpa using (List.getElem?_eq_some_iff.mp hu).1
    have l2 : i < its2.toArray.size := by simpa using (List.getElem?_eq_some_iff.mp hu2).1
    have hzl := Heap.lt_size hz
    have S := D.sep p p2 hz rfl (h1.ne p) (h2.ne p2) (h2.ne p) (h1.ne p2) n5 n6
    refine wpAny_pyNext_zipD2_item S (seq_draws (prog := X.prog) (w := X.w) (A := X.A.in1) (I.ok.hd hc) b1 i1 a (h1.ne p) its.toArray) (seq_draws (prog := X.prog) (w := X.w) (A := X.A.in1) (I.ok.hd hc) b2 i2 c (h2.ne p2) its2.toArray) hz hTI hTO ⟨h1, p⟩ ⟨h2, p2⟩ l1 l2
      fun w1 w2 h' tk hP1 hP2 z' TO' st1 st2 hT hsz hk => ?_
    have eu : u = w1 := by
      have e3 : its[i]? = some w1 := by simpa using hP1
      exact Option.some.inj (hu.symm.trans e3)
    have eu2 : u2 = w2 := by
      have e3 : its2[i]? = some w2 := by simpa using hP2
      exact Option.some.inj (hu2.symm.trans e3)
    subst eu eu2
    refine ⟨_, rfl, wpAny_letOwnedTupleGo_zip (s := { s with heap := h', toks := tk }) z' fun h'' z'' sb => ?_⟩
    have hT2 := (sb.2 _ (Nat.ne_of_gt hzl)).trans hT
    have new : ObjOk X.prog X.w (upd H s.heap.objs.size (.tup [x, y])) h'' s.heap.objs.size (.tup [x, y]) :=
      ⟨by show 2 ≤ sizeLine; decide, [u, u2], .cons ru (.cons ru2 .nil), ⟨_, hT2, rfl, _, rfl⟩⟩
    have I1 := I.turnedNew (t' := tk) (ch := [z, TI, TO, i1, i2]) (fun d o hb q => by
      have n1 : d ≠ z := fun q' => hb (by simp [q'])
      exact (sb.2 d n1).trans (hk d o n1 (fun q' => hb (by simp [q'])) (fun q' => hb (by simp [q'])) (fun q' => hb (by simp [q'])) q)) hf (Nat.le_refl _) new
    refine ⟨.ref s.heap.objs.size, _, I1, rfl, ⟨_, x, y, rfl, I.hok.fresh (Nat.le_refl _), rfl, fun l hl => by rw [inv_inj I hl hqx]; exact hx, fun l hl => by rw [inv_inj I hl hqy]; exact hy⟩, ⟨z'', ?_, ⟨u, u2, ?_⟩, ?_, ?_⟩, fun d hcm => ?_⟩
    · exact (sb.2 _ D.a1).trans (hk _ _ D.a1 D.a3 D.a4 D.a5 hTI)
    · exact (sb.2 _ D.a2).trans TO'
    · exact st1.1.to fun o q => (sb.2 _ (Ne.symm D.a6)).trans q
    · exact st2.1.to fun o q => (sb.2 _ (Ne.symm D.a7)).trans q
    · have hlt : d < s.heap.objs.size := by
        have e' : d = z ∨ d = TI ∨ d = TO ∨ d = i1 ∨ d = i2 := by simpa using hcm
        rcases e' with q | q | q | q | q <;> rw [q]
        · exact hzl
        · exact Heap.lt_size hTI
        · exact Heap.lt_size hTO
        · exact h1.lt
        · exact h2.lt
      rw [upd_ne (Nat.ne_of_lt hlt)]
      exact (hf d hcm).1
  done := by
    intro X hP hw hK hc i pins s σ H E I hf st hg
    subst hP hw hK
    obtain ⟨hz, hTI, ⟨x0, y0, hTO⟩, h1, h2⟩ := st
    obtain ⟨xs, ys, hqx, hqy, hend⟩ := hg
    obtain ⟨its, rv, p⟩ := inv_seq I hqx
    obtain ⟨its2, rv2, p2⟩ := inv_seq I hqy
    have l1 : its.toArray.size = xs.length := by rw [List.size_toArray, ← rv.length]
    have l2 : its2.toArray.size = ys.length := by rw [List.size_toArray, ← rv2.length]
    have S := D.sep p p2 hz rfl (h1.ne p) (h2.ne p2) (h2.ne p) (h1.ne p2) n5 n6
    exact wpAny_pyNext_zipD2_end S (seq_draws (prog := X.prog) (w := X.w) (A := X.A.in1) (I.ok.hd hc) b1 i1 a (h1.ne p) its.toArray) (seq_draws (prog := X.prog) (w := X.w) (A := X.A.in1) (I.ok.hd hc) b2 i2 c (h2.ne p2) its2.toArray) hz hTI hTO ⟨h1, p⟩ ⟨h2, p2⟩ (by omega) (by omega) (by omega)
      fun h' tk hk => ⟨rfl, I.turnedL (t' := tk) (ch := [z, TI, TO, i1, i2]) (fun d o hb q =>
        hk d o (fun q' => hb (by simp [q'])) (fun q' => hb (by simp [q'])) (fun q' => hb (by simp [q'])) (fun q' => hb (by simp [q'])) q) hf⟩
  self := fun A i s Q E st h => wpAny_pyIter_zip st.1 h
def iZipU (K : PySem.W.Frag) (te te2 : TE) : TI := fun σ H R => tCons te (tCons te2 tNil) σ H fun vs H1 => ∃ b1 b2 a c xs ys, vs = [.ref a, .ref c] ∧ SqB b1 K H1 a xs ∧ SqB b2 K H1 c ys ∧ R (ItzB b1 b2 K a c) H1
theorem pi_zipU {X : Cx} {e e2 : Expr} {te te2 : TE} {p pos tpos : Pos} {elts : List Expr} {kk : Nat} (hg : Gl X "zip") (hm : X.mg "zip" = none) (he : PE X e te) (he2 : PE X e2 te2)
    (hs1 : starEach [e, e2] X.env = (false, eval e X.env) :: starEach [e2] X.env := by rfl) (hs2 : starEach [e2] X.env = (false, eval e2 X.env) :: starEach [] X.env := by rfl) (hpl : (backTo pos (starEach [e2] X.env)).any (·.1) = false := by rfl) :
    PI X (.Tuple elts kk tpos) (.Call (.Name "zip" p) [e, e2] [] pos) (iZipU X.K te te2) := by
  refine ⟨fun pins s σ H R I h => ?_⟩
  refine Call_ (ld_blt I hg hm PyProof.Rows.boot_zip (PyProof.Rows.callWith_type1 (thn ((pa_cons he (pa_cons he2 pa_nil hs2) hs1).run pos pins s σ H _ I h) fun us s1 ⟨vs, H1, I1, r1, q1⟩ => ?_) hs1 hpl))
  obtain ⟨b1, b2, a, c, xs, ys, ex, hqx, hqy, q⟩ := q1
  subst ex
  obtain ⟨v1, v2, rfl, r1, r2⟩ : ∃ v1 v2, us = [v1, v2] ∧ RelV (.ref a) v1 ∧ RelV (.ref c) v2 := by
    cases r1 with
    | cons r rr =>
      cases rr with
      | cons r' rr =>
        cases rr
        exact ⟨_, _, rfl, r, r'⟩
  obtain rfl : v1 = Value.ref a := r1
  obtain rfl : v2 = Value.ref c := r2
  obtain ⟨its, rv, p1⟩ := inv_seq I1 hqx
  obtain ⟨its2, rv2, p2⟩ := inv_seq I1 hqy
  have la := p1.lt
  have lc := p2.lt
  obtain ⟨o1, B1, k1⟩ := seq_begins b1 a its.toArray
  obtain ⟨o2, B2, k2⟩ := seq_begins b2 c its2.toArray
  refine zip_begins2 B1 B2 p1 p2 fun h' hz hTI hTO g1 g2 hsz hk => wpAny_pyIter_zip hz ?_
  have I2 := I1.kept (t' := s1.toks) hk
  generalize hN : s1.heap.objs.size = N at *
  have D : ZipA (N + 4) (N + 2) (N + 3) N (N + 1) := by
    constructor <;> (intro z; have z : (_ : Nat) = _ := z; omega)
  refine ⟨N + 4, [N + 4, N + 2, N + 3, N, N + 1], _, _, H1, rfl, I2, turn_zipB D (Nat.ne_of_gt (Nat.lt_of_lt_of_le la (Nat.le_add_right _ _))) (Nat.ne_of_gt (Nat.lt_of_lt_of_le lc (Nat.le_add_right _ _))), ⟨hz, hTI, ⟨_, _, hTO⟩, k1 _ _ g1, k2 _ _ g2⟩, fun d hcm => ?_, q⟩
  have hle : N ≤ d := by
    have e' : d = N + 4 ∨ d = N + 2 ∨ d = N + 3 ∨ d = N ∨ d = N + 1 := by simpa using hcm
    rcases e' with z | z | z | z | z <;> rw [z]
    · exact Nat.le_add_right _ _
    · exact Nat.le_add_right _ _
    · exact Nat.le_add_right _ _
    · exact Nat.le_refl _
    · exact Nat.le_add_right _ _
  rw [← hN] at hle
  exact I1.fpOk hle (I1.hok.fresh hle)
end Pw
namespace Pw
open PySem PySem.Spec PyProof.Rows L2
section
variable {m : Type → Type} [Md m] {w : Wd} {O : List Nat} {te ta : TE} {fe fa : Env → m D}
def dSq : D → Option (List D)
  | .lst ds => some ds
  | .tup ds => some ds
  | _ => none
def dEnum (d : D) : Option (List D) := (dSq d).map (numbered 0)
def dZip (x y : D) : Option (List D) := match dSq x, dSq y with
  | some xs, some ys => some (pairs xs ys)
  | _, _ => none
/-- a list or tuple that stands for a datum, from M, H on -/
theorem seq_of {M : Av} {H : Hp} {v : V} {d : D} {ds : List D} (r : Den w M H v d) (e : dSq d = some ds) : ∃ b a vs, v = .ref a ∧ Dens w M H vs ds ∧ ∀ M2 H2, Evo M H M2 H2 → SqB b w.K H2 a vs := by
  cases d with
  | lst xs =>
    cases e
    cases r with
    | lst s hd => exact ⟨true, _, _, rfl, hd, fun M2 H2 k => .of (k.lat _ _ s.1 s.2)⟩
  | tup xs =>
    cases e
    cases r with
    | tup s hd => exact ⟨false, _, _, rfl, hd, fun M2 H2 k => (Ts.lat k.lat s).sq⟩
  | _ => cases e
theorem si_enumU (h : Sim m w O true te fe) : SimI m w O (iEnumU w.K te) (p1 dEnum fe) := fun A H0 M σ H ρ R r q => by
  refine h A H0 M σ H ρ _ r (Md.wp_mono (fun x q1 v H1 k1 d1 => ?_) (Md.wp_bind q))
  obtain ⟨xs, e, q2⟩ := Md.wp_lift q1
  cases es : dSq x with
  | none => rw [dEnum, es] at e; cases e
  | some ds =>
    rw [dEnum, es] at e
    cases e
    obtain ⟨b, a, vs, rfl, hd, hs⟩ := seq_of d1 es
    refine ⟨b, a, vs, rfl, hs M H1 .refl, q2 _ H1 k1 fun M2 H2 k dm => ?_⟩
    have r2 := Dens.carry k _ _ hd
    have s2 := hs M2 H2 k
    refine ⟨fun i d ed => ?_, ⟨vs, s2, by rw [numbered_length, r2.length]⟩⟩
    obtain ⟨d', e', rfl⟩ := numbered_get ds 0 i d ed
    obtain ⟨u, e3, hu⟩ := r2.get e'
    refine ⟨⟨vs, u, s2, e3⟩, fun x H' y => ?_⟩
    obtain ⟨T, z, rfl, nT, rfl, y⟩ := y
    have e4 := y vs s2
    rw [e3] at e4
    cases e4
    refine ⟨Step.new nT, .tup (.inl ⟨fun z => dm T z nT, .inl upd_same⟩) (.cons ?_ (.cons (Den.lat (lat_upd nT) _ _ hu) .nil))⟩
    rw [Nat.zero_add]
    exact .int _
theorem si_zipU (h : Sim m w O true te fe) (h2 : Sim m w O true ta fa) : SimI m w O (iZipU w.K te ta) (p2 dZip fe fa) := fun A H0 M σ H ρ R r q => by
  refine h A H0 M σ H ρ _ r (Md.wp_mono (fun x q1 v H1 k1 d1 => ?_) (Md.wp_bind q))
  refine h2 A H0 M σ H1 ρ _ (r.go k1) (Md.wp_mono (fun y q2 u H2 k2 d2 => ?_) (Md.wp_bind q1))
  obtain ⟨zs, e, q3⟩ := Md.wp_lift q2
  have d1' : Den w M H2 v x := Den.lat (k2.lat.mono r.pm) _ _ d1
  unfold dZip at e
  split at e
  · rename_i xs ys ex ey
    cases e
    obtain ⟨b1, a, vs, rfl, hd1, hs1⟩ := seq_of d1' ex
    obtain ⟨b2, c, us, rfl, hd2, hs2⟩ := seq_of d2 ey
    refine ⟨b1, b2, a, c, vs, us, rfl, hs1 M H2 .refl, hs2 M H2 .refl, q3 _ H2 (k1.trans k2) fun M2 H3 k dm => ?_⟩
    have r1 := Dens.carry k _ _ hd1
    have r3 := Dens.carry k _ _ hd2
    have s1 := hs1 M2 H3 k
    have s2 := hs2 M2 H3 k
    refine ⟨fun i d ed => ?_, ⟨vs, us, s1, s2, by rw [pairs_length, r1.length, r3.length]⟩⟩
    obtain ⟨x', y', ex', ey', rfl⟩ := pairs_get xs ys i d ed
    obtain ⟨p, e3, hp⟩ := r1.get ex'
    obtain ⟨o, e4, ho⟩ := r3.get ey'
    refine ⟨⟨vs, us, p, o, s1, s2, e3, e4⟩, fun x H' y => ?_⟩
    obtain ⟨T, z1, z2, rfl, nT, rfl, y1, y2⟩ := y
    have e5 := y1 vs s1
    rw [e3] at e5
    cases e5
    have e6 := y2 us s2
    rw [e4] at e6
    cases e6
    exact ⟨Step.new nT, .tup (.inl ⟨fun z => dm T z nT, .inl upd_same⟩) (.cons (Den.lat (lat_upd nT) _ _ hp) (.cons (Den.lat (lat_upd nT) _ _ ho) .nil))⟩
  · cases e
end
end Pw
set_option Elab.async false
set_option linter.all false
set_option maxRecDepth 100000
set_option maxHeartbeats 1000000
/-! Pw15: calls that are handed a list of the def's own: a list that comes back is another one, if its length is another. -/
namespace Pw
open PySem PySem.Spec PyProof.Rows L2
def apartB (n : Nat) : D → Bool
  | .lst fs => !(Nat.beq fs.length n)
  | .int _ => true
  | _ => false
def dApart (args : List D) (d : D) : Option D := match d.noL with
  | true => some d
  | false => match d with
    | .lst es => match D.noLs es && args.all (apartB es.length) with
      | true => some (.lst es)
      | false => none
    | _ => none
section
variable {m n : Type → Type} [Md m] [Md n] [Up n m] {w : Wd} {O : List Nat} {j : Nat} {t : TA} {fr : Env → m (List D)} {spec : List D → n D}
def pGoA (spec : List D → n D) (fr : Env → m (List D)) : Env → m D := fun ρ => Md.bind (fr ρ) fun ds => Md.bind (Up.up (spec ds)) fun d => Md.lift (dApart ds d)
/-- M without some values' addresses -/
def Av.sub (w : Wd) (M : Av) (vs : List V) : Av := fun a => w.pa a ∨ (M a ∧ V.ref a ∉ vs)
end
end Pw
set_option Elab.async false
set_option linter.all false
set_option maxRecDepth 100000
set_option maxHeartbeats 1000000
/-! Pw16: a call whose list is taken as a new one: it is of another length than any list handed in. -/
namespace Pw
open PySem PySem.Spec PyProof.Rows L2
def argB : D → Bool
  | .lst fs => D.noLs fs
  | d => d.noL
def dArgs (args : List D) : Option Unit := match args.all argB with
  | true => some ()
  | false => none
def freshB (n : Nat) : D → Bool
  | .lst fs => !(Nat.beq fs.length n)
  | _ => true
def dFresh (args : List D) : D → Option (List D)
  | .lst es => match D.noLs es && args.all (freshB es.length) with
    | true => some es
    | false => none
  | _ => none
section
variable {m n : Type → Type} [Md m] [Md n] [Up n m] {w : Wd} {O : List Nat} {j : Nat} {t : TA} {fr : Env → m (List D)} {spec : List D → n D}
def pGoF (spec : List D → n D) (fr : Env → m (List D)) : Env → m (List D) := fun ρ => Md.bind (fr ρ) fun ds => Md.bind (Md.lift (dArgs ds)) fun _ => Md.bind (Up.up (spec ds)) fun d => Md.lift (dFresh ds d)
/-- a list that is handed in -/
def Hit (a : Addr) (z : List (V × D)) : Prop := ∃ fs, (V.ref a, D.lst fs) ∈ z
/-- all lists that are there but those handed in -/
def Av.allBut (w : Wd) (H : Hp) (z : List (V × D)) : Av := fun a => w.pa a ∨ (LB H a ∧ ¬ Hit a z)
end
end Pw
set_option Elab.async false
set_option linter.all false
set_option maxRecDepth 100000
set_option maxHeartbeats 1000000
/-! Pw17: a call whose list, or None, goes to a name of the def's own. -/
namespace Pw
open PySem PySem.Spec PyProof.Rows L2
section
variable {m n : Type → Type} [Md m] [Md n] [Up n m] {w : Wd} {O Ob : List Nat} {κ : Bool} {j : Nat} {t : TA} {te : TE} {fr : Env → m (List D)} {fe : Env → m D} {spec : List D → n D}
/-- a new list, or None -/
def PostN (w : Wd) (M : Av) (H : Hp) (Q : VK) : D → Prop
  | .non => ∀ H', Step w H H' → Q .non H'
  | .lst ds => ∀ p vs H', H p = none → Step w H H' → H' p = some (.lst vs) → Dens w (M.or p) H' vs ds → Q (.ref p) H'
  | _ => True
def SimN (m : Type → Type) [Md m] (w : Wd) (O : List Nat) (t : TE) (f : Env → m D) : Prop := ∀ (A : Av) (H0 : Hp) (M : Av) (σ : L2.St) (H : Hp) (ρ : Env) (Q : VK), Rel w O A H0 M σ H ρ →
  Md.wp (f ρ) (PostN w M H Q) → t σ H Q
def dFreshN (args : List D) : D → Option D
  | .non => some .non
  | d => (dFresh args d).map .lst
def pGoN (spec : List D → n D) (fr : Env → m (List D)) : Env → m D := fun ρ => Md.bind (fr ρ) fun ds => Md.bind (Md.lift (dArgs ds)) fun _ => Md.bind (Up.up (spec ds)) fun d => Md.lift (dFreshN ds d)
end
end Pw
set_option Elab.async false
set_option linter.all false
set_option maxRecDepth 100000
set_option maxHeartbeats 1000000
/-! Pw18: max, min over a list or a tuple of whole numbers. -/
namespace Pw
open PySem PySem.Spec PyProof.Rows PyProof.V L2
section
variable {prog : Program} {w : World} {A : Around} {E : Value → Shared → Prop} {s : Shared} {l : Addr}
theorem iter_intTuple {xs : Array (Int × Tok)} {Q : Value → Shared → Prop} (hl : s.heap.IsTuple l (intItems xs))
    (h : ∀ s₂ : Shared, s₂ = { s with heap := s.heap.push { cls := .type "tuple_iterator", data := .fields #[.ref l, .int 0 0] } } →
      (s₂.heap.IsTupleIter s.heap.objs.size l 0 ∧ s₂.heap.IsTuple l (intItems xs)) → (∀ b ∈ [s.heap.objs.size, l], b < s₂.heap.objs.size) → l ≠ s.heap.objs.size → Q (.ref s.heap.objs.size) s₂) :
    wpAny (model prog w) A (pyIter (.ref l)) Q E s := by
  have hlt : l < s.heap.objs.size := by obtain ⟨_, e, _⟩ := hl; exact Heap.lt_size e
  refine wpAny_pyIter_tuple hl (h _ rfl ⟨⟨_, Heap.get?_push_size _ rfl, rfl, rfl⟩, hl.push _⟩ (fun b hb => ?_) (Nat.ne_of_lt hlt))
  show b < (s.heap.push _).objs.size
  rw [Heap.size_push]
  rcases List.mem_cons.mp hb with rfl | hb
  · exact Nat.lt_succ_self _
  · rcases List.mem_cons.mp hb with rfl | hb
    · exact Nat.lt_succ_of_lt hlt
    · cases hb
theorem old_keptT {h' : Heap} (hk : ∀ b o, b ∉ [s.heap.objs.size] → (s.heap.push { cls := .type "tuple_iterator", data := .fields #[.ref l, .int 0 0] }).get? b = some o → h'.get? b = some o) :
    ∀ b o, s.heap.get? b = some o → h'.get? b = some o := fun b o e => by
  refine hk b o (fun hm => ?_) (Heap.get?_push_of_some _ e)
  rcases List.mem_cons.mp hm with e1 | hm
  · exact absurd (e1 ▸ Heap.lt_size e) (Nat.lt_irrefl _)
  · cases hm
theorem min_intTuple {xs : Array (Int × Tok)} {Q : Value → Shared → Prop} (hh : A.handled = none) (hl : s.heap.IsTuple l (intItems xs)) (hne : 0 < xs.size)
    (h : ∀ v h' tk, (intItems xs)[argBest (fun i j => decide (numAt xs i < numAt xs j)) (xs.size - 1)]? = some v → (∀ b o, s.heap.get? b = some o → h'.get? b = some o) → Q v { s with heap := h', toks := tk }) :
    wpAny (model prog w) A (call (.builtin "min") [.ref l]) Q E s := by
  refine call_min_walk (iter_intTuple hl fun s₂ e st hfp hlI => ?_)
  subst e
  refine ⟨_, _, _, _, _, _, _, rfl, Walks.tuple (A := A.in1) hh _ l hlI (intItems xs), st, hfp, by simpa [intItems] using hne, CmpOf.ints_lt (numAt xs) (fun _ _ => intItems_at), fun v h' tk hP hk => ?_⟩
  exact h v h' tk (by simpa [intItems] using hP) (old_keptT hk)
variable {its : List Value} {ns : List Int} {Q : Value → Shared → Prop}
theorem min_rawT (hh : A.handled = none) (hl : s.heap.IsTuple l its.toArray) (hi : IntsAre its ns) (hne : 0 < ns.length)
    (h : ∀ h' tk M t', (∀ b o, s.heap.get? b = some o → h'.get? b = some o) → M ∈ ns → (∀ a, a ∈ ns → M ≤ a) → Q (.int M t') { s with heap := h', toks := tk }) : wpAny (model prog w) A (call (.builtin "min") [.ref l]) Q E s := by
  obtain ⟨xs, e⟩ := hi.allInts.items
  have hn : numsOf (intItems xs).toList = ns := by rw [← e]; exact hi.numsOf
  rw [nums_intItems] at hn
  subst hn
  rw [e] at hl
  have hsz : 0 < xs.size := by simpa using hne
  refine min_intTuple hh hl hsz fun v h' tk hv hk => ?_
  obtain ⟨t, rfl⟩ := intItems_at hv
  obtain ⟨h1, h2⟩ := argBest_lt (numAt xs) (xs.size - 1)
  refine h h' tk _ t hk ?_ fun a ha => ?_
  · rw [numAt_eq]; exact PySem.getD_mem (by rw [List.length_map, Array.length_toList]; omega)
  · obtain ⟨j, hj, rfl⟩ := mem_getD ha
    rw [List.length_map, Array.length_toList] at hj
    rw [← numAt_eq]; exact h2 j (by omega)
end
section
variable {X : Cx}
def rMinU (K : PySem.W.Frag) : List V → Hp → VK → Prop := fun vs H Q => ∃ (a : Addr) (ns : List Int), vs = [V.ref a] ∧ (SqL K H a (ns.map V.int) ∨ SqT K H a (ns.map V.int)) ∧ 0 < ns.length ∧ ∀ m, m ∈ ns → (∀ y, y ∈ ns → m ≤ y) → Q (.int m) H
def rMaxU (K : PySem.W.Frag) : List V → Hp → VK → Prop := fun vs H Q => ∃ (a : Addr) (ns : List Int), vs = [V.ref a] ∧ (SqL K H a (ns.map V.int) ∨ SqT K H a (ns.map V.int)) ∧ 0 < ns.length ∧ ∀ m, m ∈ ns → (∀ y, y ∈ ns → y ≤ m) → Q (.int m) H
theorem cr_minU (hc : X.calm = true) : CallR X (.builtin "min") (rMinU X.K) := by
  intro pins s σ H vs us Q I r h
  obtain ⟨a, ns, rfl, hs | hs, hne, q⟩ := h
  · obtain ⟨its, rv, hl, _⟩ := I.list hs
    rw [Vals.ref1 r]
    exact min_raw (I.ok.hd hc) hl.isList rv.ints hne fun h' tk m t' hk h1 h2 => ⟨.int _, H, I.kept hk, ⟨_, rfl⟩, q m h1 h2⟩
  · obtain ⟨its, rv, hl, _⟩ := I.tuple hs
    rw [Vals.ref1 r]
    exact min_rawT (I.ok.hd hc) hl rv.ints hne fun h' tk m t' hk h1 h2 => ⟨.int _, H, I.kept hk, ⟨_, rfl⟩, q m h1 h2⟩
end
section
variable {w : Wd}
def dIntsU : D → Option (List Int)
  | .lst ds => intsOf ds
  | .tup ds => intsOf ds
  | _ => none
theorem dIntsU_sq {M : Av} {H : Hp} {v : V} {d : D} {is : List Int} (e : dIntsU d = some is) (h : DenT w M H v d) : ∃ a, v = .ref a ∧ (SqL w.K H a (is.map V.int) ∨ SqT w.K H a (is.map V.int)) := by
  unfold dIntsU at e
  split at e
  · obtain ⟨a, us, rfl, ea, ha⟩ := h.list
    rw [intsOf_eq e] at ha
    rw [ha.ints] at ea
    exact ⟨a, rfl, .inl (.of ea)⟩
  · obtain ⟨a, us, rfl, ea, ha⟩ := h.tuple
    rw [intsOf_eq e] at ha
    rw [ha.ints] at ea
    exact ⟨a, rfl, .inr ea.sq⟩
  · cases e
def dMinU : List D → Option D
  | [x] => match dIntsU x with
    | some (i :: is) => some (.int (foldMin i is))
    | _ => none
  | _ => none
def dMaxU : List D → Option D
  | [x] => match dIntsU x with
    | some (i :: is) => some (.int (foldMax i is))
    | _ => none
  | _ => none
theorem cs_minU : ClSim w (rMinU w.K) dMinU := fun M H ds d vs Q hp hd h e q => by
  unfold dMinU at e
  split at e
  · rename_i x
    split at e
    · rename_i i is z
      cases e
      obtain ⟨v, rfl, dv⟩ := one_arg h
      obtain ⟨a, rfl, ea⟩ := dIntsU_sq z dv
      refine ⟨a, i :: is, rfl, ea, Nat.succ_pos _, fun m hm hy => ?_⟩
      obtain ⟨h1, h2, h3⟩ := foldMin_mem is i
      have e1 : m = foldMin i is := by
        refine Int.le_antisymm ?_ ?_
        · rcases h1 with h1 | h1
          · rw [h1]; exact hy i List.mem_cons_self
          · exact hy _ (List.mem_cons_of_mem _ h1)
        · rcases List.mem_cons.mp hm with rfl | hm
          · exact h2
          · exact h3 m hm
      rw [e1]
      exact q _ H .refl (.int _)
    · cases e
  · cases e
end
end Pw
set_option Elab.async false
set_option linter.all false
set_option maxRecDepth 100000
set_option maxHeartbeats 1000000
/-! Pw19: comprehensions over a list of the def's own. -/
namespace Pw
open PySem PySem.Spec PyProof.Rows L2
/-- the turns of J give the data xs, as long as but the pot changes -/
def ItOkO (w : Wd) (M1 : Av) (H1 : Hp) (J : It) (xs : List D) : Prop := ∀ (M : Av) (H : Hp), Evo M1 H1 M H → Step w H1 H → (∀ a, M a → H a ≠ none) →
  (∀ i d, xs[i]? = some d → J.go i H ∧ ∀ x H', J.yld i H x H' → Step w H H' ∧ Den w M H' x d) ∧ J.stop xs.length H
section
variable {m : Type → Type} [Md m] {w : Wd} {O : List Nat} {b b1 b2 : Bool}
def SimIO (m : Type → Type) [Md m] (w : Wd) (O : List Nat) (wi : TI) (f : Env → m (List D)) : Prop := ∀ (A : Av) (H0 : Hp) (M : Av) (σ : L2.St) (H : Hp) (ρ : Env) (R : It → Hp → Prop), Rel w O A H0 M σ H ρ →
  Md.wp (f ρ) (fun xs => ∀ J H', Step w H H' → ItOkO w M H' J xs → R J H') → wi σ H R
variable {te ta : TE} {fe fa : Env → m D} {tr : TA} {fr : Env → m (List D)}
variable {κ : Bool} {Ob : List Nat} {wi : TI} {fi : Env → m (List D)} {js : List Nat} {g : TG} {tg : Env → D → Option Env} {tb : TS} {fb : Env → m Rs} {tt : TT} {ft : Env → m Bool}
end
end Pw
set_option Elab.async false
set_option linter.all false
set_option maxRecDepth 100000
set_option maxHeartbeats 1000000
/-! Pw20: a range that goes down by 1. -/
namespace Pw
open PySem PySem.Spec PyProof.Rows L2
section
variable {m : Type → Type} [Md m] {w : Wd} {O : List Nat} {tr : TA} {fr : Env → m (List D)}
def downTo (lo : Int) : Nat → List D
  | 0 => []
  | n + 1 => .int lo :: downTo (lo - 1) n
def dRg3 : List D → Option (List D)
  | [.int i, .int j, .int c] => match decide (-1000000 ≤ i ∧ i ≤ 20000000) && (decide (-1000000 ≤ j ∧ j ≤ 20000000) && decide (c = -1)) with
    | true => some (downTo i (i - j).toNat)
    | false => none
  | _ => none
end
end Pw
set_option Elab.async false
set_option linter.all false
set_option maxRecDepth 100000
set_option maxHeartbeats 1000000
/-! Pw21: comprehensions whose names are names of own lists outside. -/
namespace Pw
open PySem PySem.Spec PyProof.Rows L2
section
variable {m : Type → Type} [Md m] {w : Wd} {O : List Nat} {b b1 b2 : Bool}
variable {te ta : TE} {fe fa : Env → m D} {tr : TA} {fr : Env → m (List D)}
variable {κ : Bool} {Ob : List Nat} {wi : TI} {fi : Env → m (List D)} {js : List Nat} {g : TG} {tg : Env → D → Option Env} {tb : TS} {fb : Env → m Rs} {tt : TT} {ft : Env → m Bool}
end
end Pw
set_option Elab.async false
set_option linter.all false
set_option maxRecDepth 100000
set_option maxHeartbeats 1000000
/-! Pw22: f-strings by data; repr of an instance with an own __repr__. -/
namespace Pw
open PySem PySem.Spec PyProof.Rows L2
/-- {x!r} of a list or tuple that stands for data -/
def tFmtD (K : PySem.W.Frag) (te : TE) : TE := fun σ H Q => te σ H fun x H1 => ∃ (a : Addr) (p : PyData), x = .ref a ∧ Dp K H1 (.ref a) p ∧ repOk p = true ∧ Q (.str p.shown) H1
section
variable (P : Program) (w : World) (K : PySem.W.Frag) (mg : Str → Option Value) (base : Heap) (k : Nat) (C : Addr)
structure RepM (st : Stmt) (ps : List Str) (sp : Sp) : Prop where
  ex : ∃ (y q : Str) (f : Addr) (fd : FuncData), FunD K y q (defArgs st) (defBody st) (defScope st) [] [] f fd ∧ FnG P w K mg base CX0 k f fd ps sp ∧ PySem.W.findIn K (.ref C) "__repr__" = some (some (.ref f)) ∧ PySem.W.isFn K (.ref f) = true
end
def rRepI (C : Addr) (sp : Sp) : List V → Hp → VK → Prop := fun xs H Q => ∃ a dx fs, xs = [.ref a] ∧ H a = some (.ins C dx fs) ∧ sp [.ref a] H (fun v H' => (∃ z, v = .str z) ∧ Q v H') E0
def rRepR (K : PySem.W.Frag) (C : Addr) (sp : Sp) : List V → Hp → VK → Prop := fun xs H Q => rRepr K xs H Q ∨ rRepI C sp xs H Q
section
variable {X : Cx} {k : Nat} {C : Addr} {ps : List Str} {sp : Sp} {st : Stmt}
end
section
variable {m : Type → Type} [Md m] {w : Wd} {O : List Nat} {b : Bool} {ta te : TE} {fa fe : Env → m D} {tr : TA} {fr : Env → m (List D)} {C : Str} {spec : List D → Option D}
/-- repr of data, of an instance of C -/
def dRepR (C : Str) (spec : List D → Option D) (x : D) : Option D := match isInsC C x with
  | some _ => (spec [x]).bind fun d => match d with
    | .str z => some (.str z)
    | _ => none
  | none => dRepr [x]
/-! f-strings -/
def dFmt : D → Option D
  | .str z => match Nat.ble z.length 100000 with
    | true => some (.str z)
    | false => none
  | .int i => match Nat.ble i.natAbs.log2 1900 with
    | true => some (.str (toString i))
    | false => none
  | _ => none
def dFmtR (x : D) : Option D := match x.isSeq, x.py with
  | true, some p => match repOk p with
    | true => some (.str p.shown)
    | false => none
  | _, _ => none
/-- texts one behind the other -/
def joinS (acc : Str) : D → Option Str
  | .str y => match Nat.ble (acc ++ y).length 100000 with
    | true => some (acc ++ y)
    | false => none
  | _ => none
def pJoin : List (Env → m D) → Str → Env → m D
  | [], acc, _ => Md.ret (.str acc)
  | f :: fs, acc, ρ => Md.bind (f ρ) fun x => Md.bind (Md.lift (joinS acc x)) fun a => pJoin fs a ρ
inductive SimJ (m : Type → Type) [Md m] (w : Wd) (O : List Nat) : List TE → List (Env → m D) → Prop where
  | nil : SimJ m w O [] []
  | cons {t : TE} {f : Env → m D} {ts : List TE} {fs : List (Env → m D)} (h : Sim m w O true t f) (r : SimJ m w O ts fs) : SimJ m w O (t :: ts) (f :: fs)
/-- a text of parts -/
def tJoin (ts : List TE) : TE := fun σ H Q => tJs ts Str.empty σ H fun out H1 => Q (.str out) H1
end
end Pw
set_option Elab.async false
set_option linter.all false
set_option maxRecDepth 100000
set_option maxHeartbeats 1000000
/-! Pw23: the head's facts about own classes: properties, isinstance, an own ==; the end of a row over them. -/
namespace Pw
open PySem PySem.Spec PyProof.Rows L2
open He (ga ma eqO eqO_ok ba dflB dflB_ok kwdB kwdB_ok)
/-- a property: its class, its name, its getter -/
structure PrpD where
  cls : Str
  nm : Str
  d : He.DefD
def pgA (K : PySem.W.Frag) (q : PrpD) : Addr := match PySem.W.recIn K (ma K (ga K q.cls) q.nm) "property" with
  | some (.ref g :: _) => g
  | _ => 0
def fnWA (K : PySem.W.Frag) (a : Addr) : He.FnW := match K.lookup a with
  | some ⟨_, _, .func fd, _⟩ => some (fd.name, fd.qualname, fd.params, fd.body, fd.scope, fd.globals, fd.closure, fd.builtins)
  | _ => none
def isRec (K : PySem.W.Frag) (p : Addr) : Bool := match PySem.W.recIn K p "property" with
  | some (.ref _ :: _) => true
  | _ => false
def fnOkA (K : PySem.W.Frag) (a : Addr) (d : He.DefD) : Bool := PySem.W.keepIn K (.ref a) && (match K.lookup a with
  | some ⟨_, _, .func fd, _⟩ => PySem.W.codeIn K fd.code d.qual && (dflB K fd.defaults (d.dvs K) && kwdB K fd.kwdefaults (d.kws K))
  | _ => false)
def PrpD.ok (K : PySem.W.Frag) (q : PrpD) : Bool :=
  eqO (PySem.W.findIn K (.ref (ga K q.cls)) q.nm) (some (some (.ref (ma K (ga K q.cls) q.nm)))) && (eqO (PySem.W.specialIn K (.ref (ma K (ga K q.cls) q.nm)) "__get__") (some (some (.builtin "property.__get__"))) &&
    (decide (PySem.W.takesIn K (.ref (ma K (ga K q.cls) q.nm)) = some true) && (isRec K (ma K (ga K q.cls) q.nm) && fnOkA K (pgA K q) q.d)))
/-- the hook -/
abbrev AlQ : Type := He.AlD × (Bool × List He.FnW)
def SaysQ (fa : List He.Fa) (fn : List He.DefD) (pr : List PrpD) (ex : PySem.W.Frag → Bool) (K : PySem.W.Frag) : Prop := He.SaysD fa fn K ∧ ((ex K && pr.all fun q => q.ok K) = true ∧ (pr.map fun q => fnWA K (pgA K q)) = pr.map fun q => q.d.val)
def obsQ (n : Nat) (fa : List He.Fa) (fn : List He.DefD) (pr : List PrpD) (ex : PySem.W.Frag → Bool) (g : Addr → Option Obj) : AlQ :=
  (He.obsD fa fn (He.frG g (He.asD g n)), (ex (He.frG g (He.asD g n)) && pr.all fun q => q.ok (He.frG g (He.asD g n)), pr.map fun q => fnWA (He.frG g (He.asD g n)) (pgA (He.frG g (He.asD g n)) q)))
theorem saysQ_of {fa : List He.Fa} {fn : List He.DefD} {pr : List PrpD} {ex : PySem.W.Frag → Bool} {n : Nat} {g : Addr → Option Obj} (e : obsQ n fa fn pr ex g = (He.valD fn, (true, pr.map fun q => q.d.val))) : SaysQ fa fn pr ex (He.frG g (He.asD g n)) := by
  unfold obsQ at e
  simp only [Prod.mk.injEq] at e
  exact ⟨e.1, e.2.1, e.2.2⟩
def hookQ (n : Nat) (fa : List He.Fa) (fn : List He.DefD) (pr : List PrpD) (ex : PySem.W.Frag → Bool) : PySem.W.Hook where
  α := AlQ
  obs := fun s => obsQ n fa fn pr ex s.heap.get?
  val := fun _ => (He.valD fn, (true, pr.map fun q => q.d.val))
  says := fun _ h => ∃ K : PySem.W.Frag, K.In h ∧ SaysQ fa fn pr ex K
  of := fun _ _ e => ⟨_, He.frG_in, saysQ_of e⟩
  keeps := fun _ _ _ ⟨K, hK, c⟩ k => ⟨K, PySem.W.Frag.In.keeps hK k, c⟩
section
variable {fa : List He.Fa} {fn : List He.DefD} {pr : List PrpD} {ex : PySem.W.Frag → Bool} {K : PySem.W.Frag}
theorem SaysQ.ex_ (c : SaysQ fa fn pr ex K) : ex K = true := (ba c.2.1).1
end
/-- what isinstance of a class wants -/
def insB (K : PySem.W.Frag) (C : Addr) : Bool := eqO (PySem.W.findIn K (.ref C) "__class__") (some (some (.builtin "object.__class__"))) && (eqO (PySem.W.specialIn K (.builtin "object.__class__") "__get__") (some (some (.builtin "getset_descriptor.__get__"))) &&
  (decide (PySem.W.takesIn K (.builtin "object.__class__") = some true) && (decide (PySem.W.mroIn K C (.type "object") = some true) && decide (PySem.W.kitOne K (.ref C) (.ref C) = some true))))
def isiB (K : PySem.W.Frag) (C : Str) (cs : List Str) : Bool := (["NoneType", "bool", "int", "str", "list", "tuple", "dict"].all fun t => decide (PySem.W.kitOne K (.type t) (.ref (ga K C)) = some false)) && cs.all fun c => insB K (ga K c) && decide (PySem.W.kitOne K (.ref (ga K c)) (.ref (ga K C)) = some (decide (c = C)))
def instB (K : PySem.W.Frag) (C : Str) : Bool := insB K (ga K C) && ["int", "bool", "str", "list", "tuple", "dict"].all fun t => decide (PySem.W.kitOne K (.ref (ga K C)) (.type t) = some false)
def nfB (K : PySem.W.Frag) (C : Str) : Bool := ["NoneType", "bool", "int", "str", "list", "tuple", "dict"].all fun t => PySem.W.notFirst K (ga K C) (.type t)
def instC (K : PySem.W.Frag) (C : Str) : Bool := instB K C && nfB K C
def neB (K : PySem.W.Frag) (C : Addr) : Bool := eqO (PySem.W.findIn K (.ref C) "__ne__") (some (some (.builtin "object.__ne__"))) && decide (PySem.W.subIn K (.ref C) (.type "object") = some true)
end Pw
set_option Elab.async false
set_option linter.all false
set_option maxRecDepth 100000
set_option maxHeartbeats 1000000
/-! Pw24: a def of a class; what the head says of classes. -/
namespace Pw
open PySem PySem.Spec PyProof.Rows L2
section
variable {m : Type → Type} [Md m]
end
/-- the j-th def of a class -/
def defIn (st : Stmt) (j : Nat) : Stmt := match st with
  | .ClassDef _ _ _ body _ _ _ _ _ _ _ => body.getD j (.Pass ⟨0, 0, 0, 0⟩)
  | _ => .Pass ⟨0, 0, 0, 0⟩
end Pw
set_option Elab.async false
set_option linter.all false
set_option maxRecDepth 100000
set_option maxHeartbeats 1000000
/-! Pw25: t[::-1] of a tuple. -/
namespace HT
open PySem PySem.Spec PyProof.Rows L2
section
variable {prog : Program} {w : World} {A : Around} {E : Value → Shared → Prop} {s : Shared}
end
end HT
namespace Pw
open PySem PySem.Spec PyProof.Rows L2
section
variable {X : Cx}
def tRevU (K : PySem.W.Frag) (te : TE) : TE := fun σ H Q => te σ H fun x H1 => ∃ a xs, x = .ref a ∧ ((SqL K H1 a xs ∧ ∀ p, H1 p = none → Q (.ref p) (upd H1 p (.lst xs.reverse))) ∨ (SqT K H1 a xs ∧ ∀ p, H1 p = none → Q (.ref p) (upd H1 p (.tup xs.reverse))))
end
section
variable {m : Type → Type} [Md m] {w : Wd} {O : List Nat} {b : Bool} {te : TE} {fe : Env → m D}
def dRevU : D → Option D
  | .lst ds => some (.lst ds.reverse)
  | .tup ds => some (.tup ds.reverse)
  | _ => none
end
end Pw
set_option Elab.async false
set_option linter.all false
set_option maxRecDepth 100000
set_option maxHeartbeats 1000000
/-! Pw26: repr of a truth, too. -/
namespace Pw
open PySem PySem.Spec PyProof.Rows L2
def rReprB : List V → Hp → VK → Prop := fun xs H Q => ∃ b : Bool, xs = [.bl b] ∧ Q (.str (PyData.bool b).shown) H
def rReprU (K : PySem.W.Frag) : List V → Hp → VK → Prop := fun xs H Q => rRepr K xs H Q ∨ rReprB xs H Q
def dReprU : List D → Option D
  | [.bl b] => some (.rep (.bool b))
  | ds => dRepr ds
end Pw
set_option Elab.async false
set_option linter.all false
set_option maxRecDepth 100000
set_option maxHeartbeats 1000000
/-! Pw27: the head's facts, over what the names reach step by step, nothing compared. -/
namespace Pw
open PySem PySem.Spec PyProof.Rows L2
def stepG (g : Addr → Option Obj) (as : List Addr) : List Addr := as.flatMap fun a => match g a with
  | some o => He.refsO o
  | none => []
def frs (g : Addr → Option Obj) : Nat → List Addr → List Addr
  | 0, as => as
  | n + 1, as => as ++ frs g n (stepG g as)
def asR (g : Addr → Option Obj) (n : Nat) : List Addr := frs g n [mainGlobals]
def obsR (n : Nat) (fa : List He.Fa) (fn : List He.DefD) (pr : List PrpD) (ex : PySem.W.Frag → Bool) (g : Addr → Option Obj) : AlQ :=
  (He.obsD fa fn (He.frG g (asR g n)), (ex (He.frG g (asR g n)) && pr.all fun q => q.ok (He.frG g (asR g n)), pr.map fun q => fnWA (He.frG g (asR g n)) (pgA (He.frG g (asR g n)) q)))
theorem saysR_of {fa : List He.Fa} {fn : List He.DefD} {pr : List PrpD} {ex : PySem.W.Frag → Bool} {n : Nat} {g : Addr → Option Obj} (e : obsR n fa fn pr ex g = (He.valD fn, (true, pr.map fun q => q.d.val))) : SaysQ fa fn pr ex (He.frG g (asR g n)) := by
  unfold obsR at e
  simp only [Prod.mk.injEq] at e
  exact ⟨e.1, e.2.1, e.2.2⟩
def hookR (n : Nat) (fa : List He.Fa) (fn : List He.DefD) (pr : List PrpD) (ex : PySem.W.Frag → Bool) : PySem.W.Hook where
  α := AlQ
  obs := fun s => obsR n fa fn pr ex s.heap.get?
  val := fun _ => (He.valD fn, (true, pr.map fun q => q.d.val))
  says := fun _ h => ∃ K : PySem.W.Frag, K.In h ∧ SaysQ fa fn pr ex K
  of := fun _ _ e => ⟨_, He.frG_in, saysR_of e⟩
  keeps := fun _ _ _ ⟨K, hK, c⟩ k => ⟨K, PySem.W.Frag.In.keeps hK k, c⟩
end Pw
set_option Elab.async false
set_option linter.all false
set_option maxRecDepth 100000
set_option maxHeartbeats 1000000
/-! Pw28: sorted of a tuple or a list of whole numbers. -/
namespace Pw
open PySem PySem.Spec PyProof.Rows L2
section
variable {prog : Program} {w : World} {A : Around} {E : Value → Shared → Prop} {s : Shared}
/-- the heap with the collected list -/
def colH (h : Heap) (vs : List Value) : Heap := (h.push (seqObj "list" #[] 0)).update h.objs.size (Obj.mapSeq (· ++ vs.toArray))
end
def rSortedX (K : PySem.W.Frag) : List V → Hp → VK → Prop := fun vs H Q => ∃ (a : Addr) (ns : List Int), vs = [V.ref a] ∧ (SqL K H a (ns.map V.int) ∨ SqT K H a (ns.map V.int)) ∧
  ∀ (ns' : List Int) (p : Addr), ns'.Perm ns → ns'.Pairwise (· ≤ ·) → H p = none → Q (.ref p) (upd H p (.lst (ns'.map V.int)))
def dSortedX : List D → Option (List D)
  | [x] => (dIntsU x).map fun is => (sortI is).map .int
  | _ => none
section
variable {w : Wd}
end
end Pw
set_option Elab.async false
set_option linter.all false
set_option maxRecDepth 100000
set_option maxHeartbeats 1000000
/-! Pw29: == and != of lists of instances with an own __eq__ that are equal item by item; in, where one is found. -/
namespace GQ2
open PySem PySem.SeqAt
open AutoSeq1 (wpAny_loadPart')
open MeetsSeq MeetsSeq2 MeetsSeq3 SeqRoads2 GQ
variable {prog : Program} {w : World} {A : Around} {R : Result → Shared → Prop}
/-- at each turn the list is read anew; at the K-th item it is found, if not earlier -/
def HitI (prog : Program) (w : World) (A : Around) (E : Value → Shared → Prop) (l : Addr) (x : Value) (K : Nat) (I : Nat → Shared → Prop) (F : Shared → Prop) : Prop :=
  ∀ i s, i ≤ K → I i s → ∃ (items : Array Value) (n : Nat), s.heap.get? l = some { cls := .type "list", data := .seq items n } ∧ K < items.size ∧
    ∀ (h1 : i < items.size), wpAny (model prog w) A.in1 (eqBool items[i] x) (fun r s' => (r = true → F s') ∧ (r = false → i < K ∧ I (i + 1) s')) E s
section
variable {E : Value → Shared → Prop} {s : Shared}
end
end GQ2
namespace Pw
open PySem PySem.Spec PyProof.Rows L2
/-- two instances of C; their own == tells True or False, and J stands behind it -/
def InsEq (C : Addr) (sp : Sp) (J : Hp → Prop) (P : Bool → Prop) (u v : V) (H : Hp) : Prop := ∃ c d dx dy fs gs, u = .ref c ∧ v = .ref d ∧ H c = some (.ins C dx fs) ∧ H d = some (.ins C dy gs) ∧ sp [u, v] H (fun r H2 => (∃ b, r = .bl b ∧ P b) ∧ J H2) E0
def PrsEq (C : Addr) (sp : Sp) (x y : V) (H : Hp) (J : Hp → Prop) : Prop := ∃ (a b : Addr) (xs ys : List V), x = .ref a ∧ y = .ref b ∧ xs.length = ys.length ∧ J H ∧ (∀ H1, J H1 → H1 a = some (.lst xs) ∧ H1 b = some (.lst ys)) ∧ ∀ (i : Nat) u v, xs[i]? = some u → ys[i]? = some v → ∀ H1, J H1 → InsEq C sp J (· = true) u v H1
def rEqLs (C : Addr) (sp : Sp) : R2 := fun x y H Q => ∃ J, PrsEq C sp x y H J ∧ ∀ H1, J H1 → Q (.bl true) H1
def rNeLs (C : Addr) (sp : Sp) : R2 := fun x y H Q => ∃ J, PrsEq C sp x y H J ∧ ∀ H1, J H1 → Q (.bl false) H1
def rInLs (C : Addr) (sp : Sp) : R2 := fun x y H Q => ∃ (J : Hp → Prop) (a : Addr) (ys : List V) (k : Nat), y = .ref a ∧ J H ∧ (∀ H1, J H1 → H1 a = some (.lst ys)) ∧ k < ys.length ∧ (∀ (i : Nat) u, i ≤ k → ys[i]? = some u → ∀ H1, J H1 → InsEq C sp J (fun b => i = k → b = true) u x H1) ∧ ∀ H1, J H1 → Q (.bl true) H1
section
variable {X : Cx} {k : Nat} {C : Addr} {ps : List Str} {sp : Sp} {st : Stmt}
end
/-! by data -/
def rEqW (K : PySem.W.Frag) (C : Addr) (sp : Sp) : R2 := fun x y H Q => rEqR K C sp x y H Q ∨ rEqLs C sp x y H Q
def rNeW (K : PySem.W.Frag) (C : Addr) (sp : Sp) : R2 := fun x y H Q => rNeR K C sp x y H Q ∨ rNeLs C sp x y H Q
def rInW (K : PySem.W.Frag) (C : Addr) (sp : Sp) : R2 := fun x y H Q => rIn K false x y H Q ∨ rInLs C sp x y H Q
section
variable {X : Cx} {k : Nat} {C : Addr} {ps : List Str} {sp : Sp} {st : Stmt}
end
section
variable {m : Type → Type} [Md m] {w : Wd} {O : List Nat} {b1 b2 : Bool} {ta tb : TE} {fa fb : Env → m D} {C : Str} {spec : List D → Option D}
def D.lst? : D → Option (List D)
  | .lst xs => some xs
  | _ => none
/-- two instances of C whose own == tells c -/
def insEq1 (C : Str) (spec : List D → Option D) (x y : D) : Option Bool := match isInsC C x, isInsC C y with
  | some _, some _ => (spec [x, y]).bind dBl
  | _, _ => none
def insEqs (C : Str) (spec : List D → Option D) : List D → List D → Bool
  | [], [] => true
  | x :: xs, y :: ys => (match insEq1 C spec x y with
    | some true => true
    | _ => false) && insEqs C spec xs ys
  | _, _ => false
/-- where the first item that is equal stands, if the own == is told of each one ahead of it -/
def insHit (C : Str) (spec : List D → Option D) (x : D) : List D → Option Nat
  | [] => none
  | y :: ys => match insEq1 C spec y x with
    | some true => some 0
    | some false => (insHit C spec x ys).map (· + 1)
    | none => none
def dEqW (C : Str) (spec : List D → Option D) (x y : D) : Option D := match x.lst?, y.lst? with
  | some xs, some ys => match insEqs C spec xs ys with
    | true => some (.bl true)
    | false => dEqR C spec x y
  | _, _ => dEqR C spec x y
def dNeW (C : Str) (spec : List D → Option D) (x y : D) : Option D := match x.lst?, y.lst? with
  | some xs, some ys => match insEqs C spec xs ys with
    | true => some (.bl false)
    | false => dNeR C spec x y
  | _, _ => dNeR C spec x y
def dInW (C : Str) (spec : List D → Option D) (x y : D) : Option D := match y.lst? with
  | some ys => match insHit C spec x ys with
    | some _ => some (.bl true)
    | none => dIn x y
  | none => dIn x y
end
end Pw
set_option Elab.async false
set_option linter.all false
set_option maxRecDepth 100000
set_option maxHeartbeats 1000000
/-! Pw30: a def that lays a dict of lists by whole numbers, puts one more in and tells the one that is asked. -/
namespace Pw
open PySem PySem.Spec PyProof.Rows L2
def tInts (l : List Int) : TA := l.foldr (fun i r => tCons (tC (.int i)) r) tNil
def tKind (prs : List (Int × List Int)) (c : Int) (l : List Int) : TS := tSeq (tAsg (tDisp (prs.map fun q => (tC (.int q.1), tLst (tInts q.2)))) (gName 1)) (tSeq (sDPut (tVar 1) (tC (.int c)) (tLst (tInts l))) (tRet (tDGet (tVar 1) (tVar 0))))
def lookI (prs : List (Int × List Int)) (n : Int) : Option (List Int) := (prs.find? fun q => decide (q.1 = n)).map (·.2)
def S_kindOf (prs : List (Int × List Int)) : List D → Option D
  | [.int n] => (lookI prs n).map fun is => .lst (is.map .int)
  | _ => none
/-- entries whose lists lie at new places -/
inductive Laid (H0 H : Hp) : List (Int × List Int) → List (Key × V) → Prop
  | nil : Laid H0 H [] []
  | cons {q : Int × List Int} {a : Addr} {prs : List (Int × List Int)} {kvs : List (Key × V)} : H0 a = none → H a = some (.lst (q.2.map .int)) → Laid H0 H prs kvs → Laid H0 H (q :: prs) ((.inl q.1, .ref a) :: kvs)
theorem Laid.ext {H0 H H' : Hp} {prs : List (Int × List Int)} {kvs : List (Key × V)} (l : Laid H0 H prs kvs) (k : ∀ a xs, H a = some (.lst xs) → H' a = some (.lst xs)) : Laid H0 H' prs kvs := by
  induction l with
  | nil => exact .nil
  | cons h1 h2 _ ih => exact .cons h1 (k _ _ h2) ih
theorem Laid.len {H0 H : Hp} {prs : List (Int × List Int)} {kvs : List (Key × V)} (l : Laid H0 H prs kvs) : kvs.length = prs.length := by
  induction l with
  | nil => rfl
  | cons h1 h2 _ ih => exact congrArg (· + 1) ih
theorem Laid.keys {H0 H : Hp} {prs : List (Int × List Int)} {kvs : List (Key × V)} (l : Laid H0 H prs kvs) : kvs.map (·.1) = prs.map fun q => (.inl q.1 : Key) := by
  induction l with
  | nil => rfl
  | cons h1 h2 _ ih => exact congrArg _ ih
end Pw
set_option Elab.async false
set_option linter.all false
set_option maxRecDepth 100000
set_option maxHeartbeats 1000000
/-! Pw31: name = other name, an operator, a def's answer for what is popped. -/
namespace Pw
open PySem PySem.Spec PyProof.Rows L2
section
variable {m : Type → Type} [Md m] {w : Wd} {κ : Bool} {Ob O : List Nat} {b : Bool} {ta : TE} {fa : Env → m D} {r : R2} {g : D → D → Option D} {spec : List D → Option D}
def sPopGo (i a j : Nat) (g : D → D → Option D) (spec : List D → Option D) (fa : Env → m D) : Env → m Rs := fun ρ => Md.bind (Md.lift (gG ρ a)) fun x => Md.bind (Md.lift (gLs ρ j)) fun es => Md.bind (fa ρ) fun k => Md.bind (Md.lift (okL es)) fun _ => Md.bind (Md.lift (popAt es k)) fun de =>
  Md.bind (Md.lift (spec [de.1])) fun y => Md.bind (Md.lift (g x y)) fun z => Md.ret (.nx ((ρ.set j (some (.lst de.2))).set i (some z)))
end
end Pw
set_option Elab.async false
set_option linter.all false
set_option maxRecDepth 100000
set_option maxHeartbeats 1000000
/-! Pw32: a def that changes its last parameter, a list of whole numbers of its caller's, and may call itself. -/
namespace Pw
open PySem PySem.Spec PyProof.Rows L2
section
variable {m : Type → Type} [Md m]
/-- its promise: j parameters, then the list -/
def SpM (K : PySem.W.Frag) (cl : Cl) (j : Nat) (spec : List D → List Int → Option (List Int)) : Sp := fun vs H Q _ => vs.length = j + 1 ∧ ∃ (pot : Sh) (p : Addr) (fr : List V) (ds : List D) (es es' : List Int),
  vs = fr ++ [.ref p] ∧ ds.length = j ∧ Dens ⟨K, cl, pot⟩ (Av.or (Wd.pa ⟨K, cl, pot⟩) p) H fr ds ∧ H p = some (.lst (es.map V.int)) ∧ ¬ Wd.pa ⟨K, cl, pot⟩ p ∧ PotOk ⟨K, cl, pot⟩ H ∧ spec ds es = some es' ∧
    ∀ H', Lat (Av.or (Wd.pa ⟨K, cl, pot⟩) p) H H' → Pot0 ⟨K, cl, pot⟩ H' → H' p = some (.lst (es'.map V.int)) → Q .non H'
variable {w : Wd} {κ : Bool} {Ob O : List Nat} {b : Bool}
/-- the heap behind such a call -/
theorem Rel.putG {A : Av} {H0 : Hp} {M : Av} {σ : L2.St} {H H' : Hp} {ρ : Env} (r : Rel w O A H0 M σ H ρ) {i : Nat} (hi : i ∈ O) {p : Addr} {d0 : D} (e0 : ρ[i]? = some (some d0)) (es : σ[i]? = some (some (.ref p))) (mp : M p) (np : ¬ A p) {vs us : List V} {ds : List D} (ep : H p = some (.lst vs))
    (kl : Lat (Av.or w.pa p) H H') (kp : Pot0 w H') (ev : H' p = some (.lst us)) (h : ∀ G, Dens w M G us ds) : Rel w O A H0 M σ H' (ρ.set i (some (.lst ds))) ∧ Evo M H M H' := by
  have npa : ¬ w.pa p := fun z => np (r.pot p z)
  have st : Step w H (upd H' p (.lst vs)) := by
    refine Step.of (fun a o na ea => ?_) (fun _ => kp.but p npa (fun c q z => lst_ne (Option.some.inj (ev.symm.trans z))) fun a u ne e => by rw [upd_ne ne]; exact e)
    by_cases q : a = p
    · subst q
      rw [upd_same, ← ep, ea]
    · rw [upd_ne q]
      exact kl a o (fun z => z.elim na q) ea
  obtain ⟨R2, k2⟩ := (r.go st).put hi e0 es mp np upd_same (h _)
  have eu : upd (upd H' p (.lst vs)) p (.lst us) = H' := by
    funext a
    by_cases q : a = p
    · subst q
      rw [upd_same, ev]
    · rw [upd_ne q, upd_ne q]
  rw [eu] at R2 k2
  exact ⟨R2, (Evo.step r.pm st).trans k2⟩
/-- its arguments: data, then the name i of a list of one's own -/
def ArM (m : Type → Type) [Md m] (w : Wd) (O : List Nat) (i j : Nat) (t : TA) (f : Env → m (List D)) : Prop := ∀ (A : Av) (H0 : Hp) (M : Av) (σ : L2.St) (H : Hp) (ρ : Env) (Q : List V → Hp → Prop) (v : V), Rel w O A H0 M σ H ρ → σ[i]? = some (some v) →
  Md.wp (f ρ) (fun ds => ∀ fr H', Step w H H' → fr.length = j → Dens w M H' fr ds → Q (fr ++ [v]) H') → t σ H Q
def mutD (spec : List D → List Int → Option (List Int)) (xs ds : List D) : Option (List Int) := match intsOf ds with
  | some es => spec xs es
  | none => none
def sMut (i : Nat) (spec : List D → List Int → Option (List Int)) (fr : Env → m (List D)) : Env → m Rs := fun ρ => Md.bind (Md.lift (gLs ρ i)) fun ds => Md.bind (fr ρ) fun xs => Md.bind (Md.lift (mutD spec xs ds)) fun es => Md.ret (.nx (ρ.set i (some (.lst (es.map D.int)))))
/-! ### statements that leave the name k where it is -/
def PostK (w : Wd) (k : Nat) (O : List Nat) (A : Av) (H0 : Hp) (M : Av) (H : Hp) (s : L2.St) (E : Ends) : Rs → Prop
  | .nx ρ => ∀ M' σ' H', Rel w O A H0 M' σ' H' ρ → Evo M H M' H' → σ'[k]? = s[k]? → E.nx σ' H'
  | .rt _ => False
  | .bk ρ => ∀ M' σ' H', Rel w O A H0 M' σ' H' ρ → Evo M H M' H' → σ'[k]? = s[k]? → E.bk σ' H'
  | .ct ρ => ∀ M' σ' H', Rel w O A H0 M' σ' H' ρ → Evo M H M' H' → σ'[k]? = s[k]? → E.ct σ' H'
theorem PostK.go {k : Nat} {A : Av} {H0 : Hp} {M M1 : Av} {H H1 : Hp} {s s1 : L2.St} {E : Ends} (v : Evo M H M1 H1) (e : s1[k]? = s[k]?) : ∀ {r : Rs}, PostK w k O A H0 M H s E r → PostK w k O A H0 M1 H1 s1 E r
  | .nx _, h => fun M' σ' H' R k2 z => h M' σ' H' R (v.trans k2) (z.trans e)
  | .rt _, h => h
  | .bk _, h => fun M' σ' H' R k2 z => h M' σ' H' R (v.trans k2) (z.trans e)
  | .ct _, h => fun M' σ' H' R k2 z => h M' σ' H' R (v.trans k2) (z.trans e)
def SsmK (m : Type → Type) [Md m] (w : Wd) (k : Nat) (O : List Nat) (ts : TS) (fs : Env → m Rs) : Prop := ∀ (A : Av) (H0 : Hp) (M : Av) (σ : L2.St) (H : Hp) (ρ : Env) (E : Ends), Rel w O A H0 M σ H ρ →
  Md.wp (fs ρ) (PostK w k O A H0 M H σ E) → ts E σ H
variable {k : Nat} {ts us : TS} {fs gs : Env → m Rs} {te ta : TE} {fe fa : Env → m D} {tt : TT} {ft : Env → m Bool}
end
/-! ### the def -/
def runM (j n : Nat) (fs : Env → Option Rs) : List D → List Int → Option (List Int) := fun ds es => match Nat.beq ds.length j with
  | true => (match fs (startD n (ds ++ [.lst (es.map D.int)])) with
    | some (.nx ρ) => (match gLs ρ j with
      | some xs => intsOf xs
      | none => none)
    | _ => none)
  | false => none
def recM (F : (List D → List Int → Option (List Int)) → Env → Option Rs) (j n : Nat) : Nat → List D → List Int → Option (List Int)
  | 0 => fun _ _ => none
  | t + 1 => runM j n (F (recM F j n t))
section
variable {P : Program} {w : World} {K : PySem.W.Frag} {cl : Cl} {mg : Str → Option Value} {base : Heap} {k j : Nat} {x y : Str} {st : Stmt} {ps N : List Str} {f : Addr} {fd : FuncData}
end
end Pw
set_option Elab.async false
set_option linter.all false
set_option maxRecDepth 100000
set_option maxHeartbeats 1000000
/-! Pw33: a builtin that is handed a list display in which lists of the def's own stand. -/
namespace Pw
open PySem PySem.Spec PyProof.Rows L2
section
variable {m : Type → Type} [Md m] {w : Wd} {O : List Nat}
def dFlat1 (g : List D → Option D) (ds : List D) : Option D := match g [.lst ds] with
  | some d => dFlat d
  | none => none
def pCbL (g : List D → Option D) (fr : Env → m (List D)) : Env → m D := fun ρ => Md.bind (fr ρ) fun ds => Md.bind (Md.lift (okL ds)) fun ds => Md.lift (dFlat1 g ds)
end
end Pw
set_option Elab.async false
set_option linter.all false
set_option maxRecDepth 100000
set_option maxHeartbeats 1000000
/-! Pw34: the sum over a list or a tuple of whole numbers. -/
namespace Pw
open PySem PySem.Spec PyProof.Rows PyProof.V L2
section
variable {prog : Program} {w : World} {A : Around} {E : Value → Shared → Prop} {s : Shared} {l : Addr}
variable {its : List Value} {ns : List Int} {Q : Value → Shared → Prop}
end
section
variable {X : Cx}
def rSumU (K : PySem.W.Frag) : List V → Hp → VK → Prop := fun vs H Q => ∃ (a : Addr) (ns : List Int), vs = [V.ref a] ∧ (SqL K H a (ns.map V.int) ∨ SqT K H a (ns.map V.int)) ∧ Q (.int ns.sum) H
end
section
variable {w : Wd}
def dSumU : List D → Option D
  | [x] => (dIntsU x).map fun is => .int (sumI is)
  | _ => none
end
end Pw
set_option Elab.async false
set_option linter.all false
set_option maxRecDepth 100000
set_option maxHeartbeats 1000000
/-! Pw35: xs[1::2] of a list. -/
namespace Pw
open PySem PySem.Spec PyProof.Rows L2
def everyO {α : Type} : List α → List α
  | [] => []
  | [_] => []
  | _ :: y :: l => y :: everyO l
section
variable {X : Cx}
def tOddL (K : PySem.W.Frag) (te : TE) : TE := fun σ H Q => te σ H fun x H1 => ∃ a xs, x = .ref a ∧ SqL K H1 a xs ∧ ∀ p, H1 p = none → Q (.ref p) (upd H1 p (.lst (everyO xs)))
end
section
variable {m : Type → Type} [Md m] {w : Wd} {O : List Nat} {b : Bool} {te : TE} {fe : Env → m D}
def dOddL : D → Option (List D) := fun d => (dLs d).map everyO
end
end Pw
set_option Elab.async false
set_option linter.all false
set_option maxRecDepth 100000
set_option maxHeartbeats 3200000
/-! Pw36: sorted(set(xs)) of a list of whole numbers. -/
namespace Pw
open PySem PySem.Spec PyProof.Rows PyProof.V L2
section
variable {P : Program} {w : World} {A : Around} {E : Value → Shared → Prop} {s : Shared}
/-- the new set -/
abbrev nwS (w : World) : Obj := { cls := .type "set", dict := none, data := .set #[] 0 (.fresh 0 0 (!w.params.followText "set-order")) }
end
section
variable {X : Cx}
def rSetL (K : PySem.W.Frag) (w : World) : List V → Hp → VK → Prop := fun vs H Q => ∃ (a : Addr) (ns : List Int), vs = [V.ref a] ∧ SqL K H a (ns.map V.int) ∧ ns.length < 64 ∧
  ∀ (p : Addr) (c : Nat), c ≤ ns.length → H p = none → Q (.ref p) (upd H p (SetO w p (fun j => decide (j ∈ ns)) c))
end
def insS (x : Int) : List Int → List Int
  | [] => [x]
  | y :: l => if x < y then x :: y :: l else if x = y then y :: l else y :: insS x l
def setI : List Int → List Int
  | [] => []
  | x :: l => insS x (setI l)
def dSetS : D → Option (List D)
  | .lst ds => match dInts (.lst ds) with
    | some is => if is.length < 64 then some ((setI is).map .int) else none
    | none => none
  | _ => none
section
variable {m : Type → Type} [Md m] {w : Wd} {O : List Nat} {b : Bool}
end
end Pw
set_option Elab.async false
set_option linter.all false
set_option maxRecDepth 100000
set_option maxHeartbeats 1000000
/-! Pw37: sorted of a list of tuples of whole numbers, all of one length. -/
namespace Pw
open PySem PySem.Spec PyProof.Rows PyProof.V L2
def tD (l : List Int) : D := .tup (l.map D.int)
def tupsOf : List D → Option (List (List Int))
  | [] => some []
  | .tup ds :: r => (intsOf ds).bind fun a => (tupsOf r).map (a :: ·)
  | _ :: _ => none
/-- the bound of the numbers -/
def tB : Int := 2 ^ 64
def cdT (l : List Int) : Int := TS.code tB l
def insK (x : List Int) : List (List Int) → List (List Int)
  | [] => [x]
  | y :: l => if cdT x ≤ cdT y then x :: y :: l else y :: insK x l
def sortK : List (List Int) → List (List Int)
  | [] => []
  | x :: l => insK x (sortK l)
def RisK (l : List (List Int)) : Prop := l.Pairwise fun a b => cdT a ≤ cdT b
def okTups (d : Nat) (ls : List (List Int)) : Bool := Nat.ble (ls.length + 1) 64 && Nat.ble 1 d && ls.all fun l => Nat.beq l.length d && l.all fun x => decide (0 ≤ x) && decide (x < tB)
def dSortU : List D → Option (List D)
  | [.lst ds] => match tupsOf ds with
    | some (a :: ls) => match okTups a.length (a :: ls) with
      | true => some ((sortK (a :: ls)).map tD)
      | false => none
    | _ => none
  | _ => none
def rSortX (K : PySem.W.Frag) : List V → Hp → VK → Prop := fun vs H Q => ∃ (d : Nat) (B : Int), 1 ≤ d ∧ rSortU K d B vs H Q
section
variable {w : Wd} {M : Av} {H : Hp}
end
end Pw
set_option Elab.async false
set_option linter.all false
set_option maxRecDepth 100000
set_option maxHeartbeats 1000000
/-! Pw38: a list that is told, taken apart into names. -/
namespace Pw
open PySem PySem.Spec PyProof.Rows L2
def dUnL (n : Nat) : D → Option (List D)
  | .lst ds => match Nat.beq ds.length n with
    | true => some ds
    | false => none
  | _ => none
section
variable {m : Type → Type} [Md m] {w : Wd} {O : List Nat} {te : TE} {fe : Env → m D} {κ : Bool} {Ob : List Nat}
def sUnL (is : List Nat) (fe : Env → m D) : Env → m Rs := fun ρ => Md.bind (fe ρ) fun d => Md.bind (Md.lift (dUnL is.length d)) fun ds => Md.ret (.nx (setMany ρ is ds))
end
end Pw
set_option Elab.async false
set_option linter.all false
set_option maxRecDepth 100000
set_option maxHeartbeats 1000000
/-! Pw39: a call that is handed a new list and hands back a list and another datum: the list goes to a name of the def's own. -/
namespace Pw
open PySem PySem.Spec PyProof.Rows L2
def dUnO : D → Option (List D × D)
  | .tup [.lst es, y] => match D.noLs es && y.noL with
    | true => some (es, y)
    | false => none
  | _ => none
section
variable {m n : Type → Type} [Md m] [Md n] [Up n m] {w : Wd} {O : List Nat} {te : TE} {fl : Env → m (List D)} {κ : Bool} {Ob : List Nat} {spec : List D → n D}
def sUnO (i j : Nat) (spec : List D → n D) (fl : Env → m (List D)) : Env → m Rs := fun ρ => Md.bind (fl ρ) fun ds => Md.bind (Md.lift (dArgs [.lst ds])) fun _ => Md.bind (Up.up (spec [.lst ds])) fun d => Md.bind (Md.lift (dUnO d)) fun p => Md.ret (.nx ((ρ.set i (some (.lst p.1))).set j (some p.2)))
end
end Pw
set_option Elab.async false
set_option linter.all false
set_option maxRecDepth 100000
set_option maxHeartbeats 2000000
/-! Pw40: repr of a list of instances with an own __repr__ (an f-string, lists of data in it). -/
namespace Pw
open PySem PySem.Spec PyProof.Rows L2
open Builtin Builtin.List
/-- the guards that stand: each is of a list in which an instance stands -/
def GdOk (g : List Code) (H : Hp) : Prop := ∀ id v rest kw, Code.builtin id ⟨v :: rest, kw⟩ ∈ g → ∃ b vs c C dx fs, v = .ref b ∧ H b = some (.lst vs) ∧ V.ref c ∈ vs ∧ H c = some (.ins C dx fs)
theorem GdOk.nil {H : Hp} : GdOk [] H := fun _ _ _ _ h => nomatch h
/-- a def's promise where such guards stand -/
structure FnGd (P : Program) (w : World) (K : PySem.W.Frag) (mg : Str → Option Value) (base : Heap) (CX : CXT) (k : Nat) (f : Addr) (fd : FuncData) (ps : List Str) (sp : Sp) : Prop where
  many : ∀ vs H Q E, sp vs H Q E → vs.length = ps.length
  does : ∀ (B : Around) (out : List PySem.Env) (z : Shared) (H : Hp) (args : PySem.Args) (us : List Value) (vs : List V) (Q : VK) (E : XK) (g : List Code), B.guards = some g → GdOk g H → Room k B → Env0 P w K mg base B out z H → BindsTo z fd args (ps.zip us) → Vals vs us → sp vs H Q E →
    codeAny (model P w) B (.call (.ref f) args) (CR CX out P w H z Q E) z
section
variable {P : Program} {w : World} {K : PySem.W.Frag} {mg : Str → Option Value} {base : Heap} {CX : CXT} {k : Nat} {f : Addr} {fd : FuncData} {ps N : List Str} {sp : Sp}
theorem FnGd.plain (F : FnGd P w K mg base CX k f fd ps sp) : FnG P w K mg base CX k f fd ps sp := ⟨F.many, fun B out z H args us vs Q E hg => F.does B out z H args us vs Q E [] hg .nil⟩
end
/-! ### {list(..)!r} there -/
def tFmtDu (K : PySem.W.Frag) (g : List Code) (te : TE) : TE := fun σ H Q => te σ H fun x H1 => ∃ (a : Addr) (ps : List PyData), x = .ref a ∧ Dp K H1 (.ref a) (.list ps) ∧ repOk (.list ps) = true ∧ GdOk g H1 ∧ Q (.str (PyData.list ps).shown) H1
section
variable {m : Type → Type} [Md m] {w : Wd} {O : List Nat} {b : Bool} {g : List Code} {t te : TE} {f fe : Env → m D} {fl : Env → m (List D)}
/-- the reading t does what f tells, where the guards g stood as the def began -/
def SimX (g : List Code) (m : Type → Type) [Md m] (w : Wd) (O : List Nat) (b : Bool) (t : TE) (f : Env → m D) : Prop := ∀ (A : Av) (H0 : Hp) (M : Av) (σ : L2.St) (H : Hp) (ρ : Env) (Q : VK), GdOk g H0 → PotOk w H0 → Rel w O A H0 M σ H ρ →
  Md.wp (f ρ) (fun d => ∀ v H', Step w H H' → DenB w M H' b v d → Q v H') → t σ H Q
inductive SimJX (g : List Code) (m : Type → Type) [Md m] (w : Wd) (O : List Nat) : List TE → List (Env → m D) → Prop where
  | nil : SimJX g m w O [] []
  | cons {t : TE} {f : Env → m D} {ts : List TE} {fs : List (Env → m D)} (h : SimX g m w O true t f) (r : SimJX g m w O ts fs) : SimJX g m w O (t :: ts) (f :: fs)
end
/-! ### the list -/
section
variable (P : Program) (w : World) (K : PySem.W.Frag) (mg : Str → Option Value) (base : Heap) (k : Nat) (C : Addr)
structure RepX (st : Stmt) (ps : List Str) (sp : Sp) : Prop where
  ex : ∃ (y q : Str) (f : Addr) (fd : FuncData), FunD K y q (defArgs st) (defBody st) (defScope st) [] [] f fd ∧ FnGd P w K mg base CX0 k f fd ps sp ∧ PySem.W.findIn K (.ref C) "__repr__" = some (some (.ref f)) ∧ PySem.W.isFn K (.ref f) = true
end
def rItL (a P : Addr) (all : List V) (C : Addr) (sp : Sp) : List V → List Str → Hp → VK → Prop
  | [], ts, H, Q => H a = some (.lst all) ∧ H P = some (.lst (ts.map V.str)) ∧ Q (.str (listText ts)) H
  | v :: vs, ts, H, Q => H a = some (.lst all) ∧ H P = some (.lst (ts.map V.str)) ∧ ∃ b dx fs, v = .ref b ∧ H b = some (.ins C dx fs) ∧ sp [.ref b] H (fun z H' => ∃ t, z = .str t ∧ (listText (ts ++ [t])).length ≤ 100000 ∧ H' a = some (.lst all) ∧ H' P = some (.lst (ts.map V.str)) ∧ rItL a P all C sp vs (ts ++ [t]) (upd H' P (.lst ((ts ++ [t]).map V.str))) Q) E0
def rRepL (C : Addr) (sp : Sp) : List V → Hp → VK → Prop := fun xs H Q => ∃ a all, xs = [.ref a] ∧ all ≠ [] ∧ H a = some (.lst all) ∧ ∀ P, H P = none → rItL a P all C sp all [] (upd H P (.lst [])) Q
section
variable {X : Cx} {k : Nat} {C : Addr} {ps : List Str} {sp : Sp} {st : Stmt}
end
end Pw
set_option Elab.async false
set_option linter.all false
set_option maxRecDepth 100000
set_option maxHeartbeats 2000000
/-! Pw41: repr of a list of instances, by data. -/
namespace Pw
open PySem PySem.Spec PyProof.Rows L2
open Builtin Builtin.List
section
variable {X : Cx} {k : Nat} {C : Addr} {ps : List Str} {sp : Sp} {st : Stmt}
def rRepLU (K : PySem.W.Frag) (C : Addr) (sp : Sp) : List V → Hp → VK → Prop := fun xs H Q => rReprU K xs H Q ∨ rRepL C sp xs H Q
end
def reprI (C : Str) (spec : List D → Option D) : List D → List Str → Option (List Str)
  | [], acc => some acc
  | d :: ds, acc => match isInsC C d, spec [d] with
    | some _, some (.str z) => match Nat.ble (listText (acc ++ [z])).length 100000 with
      | true => reprI C spec ds (acc ++ [z])
      | false => none
    | _, _ => none
def insL (C : Str) : D → Bool
  | .lst (d :: _) => (isInsC C d).isSome
  | _ => false
def dRepL (C : Str) (spec : List D → Option D) (x : D) : Option D := match insL C x, x with
  | true, .lst ds => (reprI C spec ds []).map fun ts => .str (listText ts)
  | _, x => dReprU [x]
section
variable {m : Type → Type} [Md m] {w : Wd} {O : List Nat} {b : Bool} {ta : TE} {fa : Env → m D} {C : Str} {spec : List D → Option D}
end
end Pw
set_option Elab.async false
set_option linter.all false
set_option maxRecDepth 100000
set_option maxHeartbeats 1000000
/-! Pw42: any over a list of whole numbers; a new list that a test chooses. -/
namespace Pw
open PySem PySem.Spec PyProof.Rows L2
def rAnyI (K : PySem.W.Frag) : List V → Hp → VK → Prop := fun vs H Q => ∃ (a : Addr) (ns : List Int), vs = [V.ref a] ∧ Dp K H (.ref a) (.list (ns.map PyData.int)) ∧ Q (.bl (ns.any fun i => i != 0)) H
def rAnyU (K : PySem.W.Frag) : List V → Hp → VK → Prop := fun vs H Q => rAny K vs H Q ∨ rAnyI K vs H Q
def dAnyU : List D → Option D
  | [.lst ds] => match dAny [.lst ds] with
    | some d => some d
    | none => (intsOf ds).map fun is => .bl (is.any fun i => i != 0)
  | _ => none
section
variable {m : Type → Type} [Md m] {w : Wd} {O : List Nat} {ta tb : TE} {tt : TT} {ft : Env → m Bool} {fa fb : Env → m (List D)}
def pIfL (ft : Env → m Bool) (fa fb : Env → m (List D)) : Env → m (List D) := fun ρ => Md.bind (ft ρ) fun c => match c with
  | true => fa ρ
  | false => fb ρ
end
end Pw
set_option Elab.async false
set_option linter.all false
set_option maxRecDepth 100000
set_option maxHeartbeats 1000000
/-! Pw43: a list of the def's own goes over to another name, which is not changed. -/
namespace Pw
open PySem PySem.Spec PyProof.Rows L2
section
variable {m : Type → Type} [Md m] {w : Wd} {O : List Nat} {κ : Bool} {Ob : List Nat}
def sMove (i j : Nat) : Env → m Rs := fun ρ => Md.bind (Md.lift (gLs ρ j)) fun ds => Md.ret (.nx ((ρ.set i (some (.lst ds))).set j none))
end
end Pw
set_option Elab.async false
set_option linter.all false
set_option maxRecDepth 100000
set_option maxHeartbeats 2000000
/-! Pw44: dicts of whole numbers by whole numbers as data; repr of a value of any kind. -/
namespace Pw
open PySem PySem.Spec PyProof.Rows L2
section
variable {m : Type → Type} [Md m] {w : Wd} {O : List Nat}
theorem sim_dic0 : Sim m w O true tDNewK (pC (.dic [])) := fun A H0 M σ H ρ Q R q p n =>
  Md.wp_ret q _ _ (Step.new n) (.dic (R.fresh n) (.inl upd_same))
/-- {k: v}, both whole numbers -/
def dDic1 (k v : D) : Option D := match k, v with
  | .int i, .int j => some (.dic [(.inl i, j)])
  | .str z, .int j => some (.dic [(.inr z, j)])
  | _, _ => none
end
/-! repr of a dict -/
def keyP : Key → PyData
  | .inl i => .int i
  | .inr z => .str z
def pyDic (kvs : List (Key × Int)) : PyData := .dict (kvs.map fun q => (keyP q.1, .int q.2))
/-- as repOk, dicts let -/
def repOkD (p : PyData) : Bool := p.showable && (decide (p.depth ≤ 60) && (p.leavesShort 700 && decide (p.bulk ≤ 20000)))
def rReprDic : List V → Hp → VK → Prop := fun xs H Q => ∃ a kvs, xs = [.ref a] ∧ Rd H a (.dK (kvs.map fun q : Key × Int => (q.1, V.int q.2))) ∧ repOkD (pyDic kvs) = true ∧ Q (.str (pyDic kvs).shown) H
def rReprAt : List V → Hp → VK → Prop := fun xs H Q => (xs = [.non] ∧ Q (.str (PyData.none).shown) H) ∨ (∃ i : Int, xs = [.int i] ∧ i.natAbs.log2 < 1920 ∧ Q (.str (PyData.int i).shown) H) ∨ (∃ z : Str, xs = [.str z] ∧ (reprText z).length ≤ sizeLine ∧ Q (.str (PyData.str z).shown) H)
section
variable {X : Cx} {k : Nat} {C : Addr} {ps : List Str} {sp : Sp} {st : Stmt}
def rReprA (K : PySem.W.Frag) (C : Addr) (sp : Sp) : List V → Hp → VK → Prop := fun xs H Q => rReprAt xs H Q ∨ rReprDic xs H Q ∨ rRepI C sp xs H Q ∨ rRepLU K C sp xs H Q
end
/-- repr of a value of any kind -/
def dReprA (C : Str) (spec : List D → Option D) : D → Option D
  | .non => some (.rep .none)
  | .int i => match decide (i.natAbs.log2 < 1920) with
    | true => some (.rep (.int i))
    | false => none
  | .str z => match decide ((reprText z).length ≤ 16000000) with
    | true => some (.rep (.str z))
    | false => none
  | .dic kvs => match repOkD (pyDic kvs) with
    | true => some (.str (pyDic kvs).shown)
    | false => none
  | x => match isInsC C x with
    | some _ => (spec [x]).bind fun d => match d with
      | .str z => some (.str z)
      | _ => none
    | none => dRepL C spec x
section
variable {m : Type → Type} [Md m] {w : Wd} {O : List Nat} {b : Bool} {ta : TE} {fa : Env → m D} {C : Str} {spec : List D → Option D}
end
end Pw
set_option Elab.async false
set_option linter.all false
set_option maxRecDepth 100000
set_option maxHeartbeats 2000000
/-! Pw45: str of a whole number. -/
namespace Pw
open PySem PySem.Spec PyProof.Rows L2
def rStrI : List V → Hp → VK → Prop := fun xs H Q => ∃ i, xs = [.int i] ∧ i.natAbs.log2 < 1920 ∧ Q (.str (toString i)) H
def dStrI (ds : List D) : Option D := match ds with
  | [.int i] => match decide (i.natAbs.log2 < 1920) with
    | true => some (.str (toString i))
    | false => none
  | _ => none
end Pw
set_option Elab.async false
set_option linter.all false
set_option maxRecDepth 100000
set_option maxHeartbeats 2000000
/-! Pw46: an own == (and !=) asked of a value of any kind. -/
namespace Pw
open PySem PySem.Spec PyProof.Rows L2
/-- the left one an instance of C, the right one of a built-in type -/
def rEqV (K : PySem.W.Frag) (C : Addr) (sp : Sp) : R2 := fun x y H Q => ∃ a dx fs t, x = .ref a ∧ H a = some (.ins C dx fs) ∧ TyX K H y t ∧ PySem.W.notFirst K C t = true ∧ sp [x, y] H (fun v H' => (∃ k, v = .bl k) ∧ Q v H') E0
def rNeV (K : PySem.W.Frag) (C : Addr) (sp : Sp) : R2 := fun x y H Q => ∃ a dx fs t, x = .ref a ∧ H a = some (.ins C dx fs) ∧ TyX K H y t ∧ PySem.W.notFirst K C t = true ∧ sp [x, y] H (fun v H' => ∃ k, v = .bl k ∧ Q (.bl (!k)) H') E0
section
variable {X : Cx} {k : Nat} {C : Addr} {ps : List Str} {sp : Sp} {st : Stmt}
def rEqA (K : PySem.W.Frag) (C : Addr) (sp : Sp) : R2 := fun x y H Q => rEqR K C sp x y H Q ∨ rEqV K C sp x y H Q
def rNeA (K : PySem.W.Frag) (C : Addr) (sp : Sp) : R2 := fun x y H Q => rNeR K C sp x y H Q ∨ rNeV K C sp x y H Q
end
section
variable {m : Type → Type} [Md m] {w : Wd} {O : List Nat} {b1 b2 : Bool} {ta tb : TE} {fa fb : Env → m D} {C : Str} {spec : List D → Option D}
def dEqA (C : Str) (spec : List D → Option D) (x y : D) : Option D := match isInsC C x, y.tyName with
  | some _, some _ => (spec [x, y]).bind fun d => (dBl d).map .bl
  | _, _ => dEqR C spec x y
def dNeA (C : Str) (spec : List D → Option D) (x y : D) : Option D := match isInsC C x, y.tyName with
  | some _, some _ => (spec [x, y]).bind fun d => (dBl d).map fun c => .bl (!c)
  | _, _ => dNeR C spec x y
/-- a text of data against a written text -/
def dEqS (x y : D) : Option D := match x, y with
  | .rep p, .str z => dEq (.str p.shown) (.str z)
  | x, y => dEq x y
def dNeS (x y : D) : Option D := match x, y with
  | .rep p, .str z => dNe (.str p.shown) (.str z)
  | x, y => dNe x y
end
end Pw
set_option Elab.async false
set_option linter.all false
set_option maxRecDepth 100000
set_option maxHeartbeats 2000000
/-! Pw47: dict of a list of pairs of whole numbers. -/
namespace Pw
open PySem PySem.Spec PyProof.Rows L2
def pairD : D → Option (Int × Int)
  | .tup [.int i, .int j] => some (i, j)
  | _ => none
def pairsD : List D → Option (List (Int × Int))
  | [] => some []
  | d :: ds => match pairD d, pairsD ds with
    | some p, some ps => some (p :: ps)
    | _, _ => none
def kvV (kvs : List (Int × Int)) : List (Key × V) := kvs.map fun q => (.inl q.1, .int q.2)
def kvK (kvs : List (Int × Int)) : List (Key × Int) := kvs.map fun q => (.inl q.1, q.2)
def dDictP : List D → Option D
  | [.lst ds] => match pairsD ds with
    | some kvs => match decide ((kvs.map (·.1)).Nodup) with
      | true => some (.dic (kvK kvs))
      | false => none
    | none => none
  | _ => none
def rDictP (K : PySem.W.Frag) : List V → Hp → VK → Prop := fun xs H Q => ∃ (a : Addr) (ps : List Addr) (kvs : List (Key × V)), xs = [.ref a] ∧ SqL K H a (ps.map V.ref) ∧ Paired (fun p kv => SqT K H p [kV kv.1, kv.2]) ps kvs ∧ ∀ p, H p = none → Q (.ref p) (upd H p (.dK (mergeK [] kvs)))
end Pw
set_option Elab.async false
set_option linter.all false
set_option maxRecDepth 100000
set_option maxHeartbeats 1000000
/-! Pw48: a range with any step. -/
namespace Pw
open PySem PySem.Spec PyProof.Rows L2
section
variable {m : Type → Type} [Md m] {w : Wd} {O : List Nat} {tr : TA} {fr : Env → m (List D)}
def stepTo (lo c : Int) : Nat → List D
  | 0 => []
  | n + 1 => .int lo :: stepTo (lo + c) c n
def dRg3P : List D → Option (List D)
  | [.int i, .int j, .int c] => match decide (c ≠ 0) && (decide (c.natAbs < 1073741824) && Builtin.Range.small i j c) with
    | true => some (stepTo i c (Builtin.Range.rangeSize i j c).toNat)
    | false => none
  | _ => none
end
end Pw
set_option Elab.async false
set_option linter.all false
set_option maxRecDepth 100000
set_option maxHeartbeats 1000000
/-! Pw49: several items of own lists set at once, at written positions. -/
namespace Pw
open PySem PySem.Spec PyProof.Rows L2
section
variable {m : Type → Type} [Md m] {w : Wd} {κ : Bool} {O Ob : List Nat} {tr : TA} {fr : Env → m (List D)}
def gPuts : List (Nat × Int) → TGs
  | [] => gNil
  | p :: ps => gCons (gSub (tVar p.1) (tC (.int p.2)) L2.rSetL) (gPuts ps)
def putAll : Env → List (Nat × Int) → List D → Option Env
  | ρ, [], _ => some ρ
  | _, _ :: _, [] => none
  | ρ, p :: ps, d :: ds => match gLs ρ p.1 with
    | none => none
    | some xs => match ixN xs.length p.2 with
      | none => none
      | some j => putAll (ρ.set p.1 (some (.lst (xs.set j d)))) ps ds
def sPuts (ps : List (Nat × Int)) (fr : Env → m (List D)) : Env → m Rs := fun ρ => Md.bind (fr ρ) fun ds => Md.bind (Md.lift (putAll ρ ps ds)) fun ρ' => Md.ret (.nx ρ')
theorem DensK.all {Mf : Av} {Hf : Hp} {M : Av} : ∀ {ks : List Bool} {vs : List V} {ds : List D}, (∀ k ∈ ks, k = false) → DensK w Mf Hf M ks vs ds → Dens w Mf Hf vs ds
  | [], [], [], _, _ => .nil
  | k :: ks, [], _, _, h => by have := (DensK.length h).1; cases this
  | k :: ks, _ :: _, [], _, h => by have := (DensK.length h).2; cases this
  | [], _ :: _, _, _, h => by have := (DensK.length h).1; cases this
  | [], [], _ :: _, _, h => by have := (DensK.length h).2; cases this
  | k :: ks, v :: vs, d :: ds, z, h => by
    have : k = false := z k List.mem_cons_self
    subst this
    exact .cons h.1 (DensK.all (fun k hk => z k (List.mem_cons_of_mem _ hk)) h.2)
end
end Pw
set_option Elab.async false
set_option linter.all false
set_option maxRecDepth 100000
set_option maxHeartbeats 1000000
/-! Pw50: several items of own lists set at once, at positions that are reckoned (a[i], a[j] = a[j], a[i]). -/
namespace Pw
open PySem PySem.Spec PyProof.Rows L2
section
variable {m : Type → Type} [Md m] {w : Wd} {κ : Bool} {O Ob : List Nat} {tr : TA} {fr : Env → m (List D)} {b : Bool} {ta : TE} {fa : Env → m D}
def PutsG (m : Type → Type) [Md m] (w : Wd) (O : List Nat) (t : TGs) (f : Env → List D → m Env) (n : Nat) : Prop := ∀ (A : Av) (H0 : Hp) (M : Av) (σ : L2.St) (H : Hp) (ρ : Env) (vs : List V) (ds : List D) (Q : L2.St → Hp → Prop), Rel w O A H0 M σ H ρ → Dens w M H vs ds → vs.length = n →
  Md.wp (f ρ ds) (fun ρ' => ∀ H', Rel w O A H0 M σ H' ρ' → Evo M H M H' → Q σ H') → t vs σ H Q
def putN : Env → List D → m Env := fun ρ _ => Md.ret ρ
def putG (i : Nat) (fx : Env → m D) (f : Env → List D → m Env) : Env → List D → m Env := fun ρ ds => Md.bind (Md.lift (gLs ρ i)) fun xs => Md.bind (fx ρ) fun x => Md.bind (Md.lift (match ds, x with
  | d :: _, .int k => (ixN xs.length k).map fun j => xs.set j d
  | _, _ => none)) fun es => f (ρ.set i (some (.lst es))) ds.tail
def sPutG (fr : Env → m (List D)) (f : Env → List D → m Env) : Env → m Rs := fun ρ => Md.bind (fr ρ) fun ds => Md.bind (f ρ ds) fun ρ' => Md.ret (.nx ρ')
end
end Pw
set_option Elab.async false
set_option linter.all false
set_option maxRecDepth 100000
set_option maxHeartbeats 1000000
/-! Pw51: sorted of a list of alike data (lists of whole numbers, tuples of texts and numbers, ..). -/
namespace Pw
open PySem PySem.Spec PyProof.Rows L2
open PySem.W (dataLe alike AllAlike Sortable EachIs)
def isTup1 : PyData → Bool
  | .tuple (_ :: _) => true
  | _ => false
def noTup : PyData → Bool
  | .none => false
  | .tuple _ => false
  | _ => true
def sortOk (ps : List PyData) : Bool := (ps.all fun p => ps.all fun q => alike p q) && ((ps.all isTup1 || ps.all noTup) && ps.all fun p => decide (p.depth ≤ 60))
abbrev leVP : V × PyData → V × PyData → Bool := dataLe false Prod.snd
def rSortD (K : PySem.W.Frag) : List V → Hp → VK → Prop := fun vs H Q => ∃ (a : Addr) (xs : List V) (ps : List PyData), vs = [V.ref a] ∧ SqL K H a xs ∧ DpAll K H xs ps ∧ sortOk ps = true ∧
  ∀ p : Addr, H p = none → Q (.ref p) (upd H p (.lst (((xs.zip ps).mergeSort leVP).map Prod.fst)))
def D.pyD (d : D) : PyData := d.py.getD .none
def leD (a b : D) : Bool := dataLe false D.pyD a b
def dSortD : List D → Option (List D)
  | [.lst ds] => match D.pys ds with
    | some ps => match sortOk ps with
      | true => some (ds.mergeSort leD)
      | false => none
    | none => none
  | _ => none
section
variable {w : Wd} {M : Av} {H : Hp}
end
end Pw
set_option Elab.async false
set_option linter.all false
set_option maxRecDepth 100000
set_option maxHeartbeats 1000000
/-! Pw52: ys.pop(e) by itself; xs.index(y); ~i; a method whose list is taken as a new one; str of data. -/
namespace Pw
open PySem PySem.Spec PyProof.Rows L2
section
variable {m : Type → Type} [Md m] {w : Wd} {O : List Nat} {b b1 b2 : Bool} {ta tb te : TE} {fa fb fe : Env → m D} {κ Ob : Bool}
end
section
variable {m : Type → Type} [Md m] {w : Wd} {b b1 b2 : Bool} {ta tb : TE} {fa fb : Env → m D}
/-! ### ys.pop(e) -/
def sPopD (j : Nat) (fx : Env → m D) : Env → m Rs := fun ρ => Md.bind (Md.lift (gLs ρ j)) fun es => Md.bind (fx ρ) fun x => Md.bind (Md.lift (okL es)) fun _ => Md.bind (Md.lift (popAt es x)) fun de =>
  Md.ret (.nx (ρ.set j (some (.lst de.2))))
/-! ### xs.index(y) -/
def D.flv : D → Option V
  | .non => some .non
  | .bl b => some (.bl b)
  | .int i => some (.int i)
  | .str x => some (.str x)
  | _ => none
def flvs : List D → Option (List V)
  | [] => some []
  | d :: ds => match d.flv, flvs ds with
    | some v, some vs => some (v :: vs)
    | _, _ => none
def idxV (y : V) : List V → Option Nat
  | [] => none
  | z :: zs => if eqV z y then some 0 else (idxV y zs).map (· + 1)
def dIndex (ds : List D) (y : D) : Option D := match flvs ds, y.flv with
  | some vs, some v => (idxV v vs).map fun j => .int (j : Nat)
  | _, _ => none
def pIndex (fa fb : Env → m D) : Env → m D := fun ρ => Md.bind (fa ρ) fun x => Md.bind (Md.lift (dLs x)) fun ds => Md.bind (fb ρ) fun y => Md.lift (dIndex ds y)
/-! ### ~i -/
def dInv : D → Option D
  | .int i => some (.int (Builtin.bitNot i))
  | _ => none
/-! ### a method whose list is taken as a new one -/
section
variable {n : Type → Type} [Md n] [Up n m] {j : Nat} {t : TA} {fr : Env → m (List D)} {spec : List D → n D} {C : Str}
def pMethF (C mn : Str) (spec : List D → n D) (fa : Env → m D) (fr : Env → m (List D)) : Env → m (List D) := fun ρ => Md.bind (fa ρ) fun x => Md.bind (Md.lift (isIns C mn x)) fun _ => Md.bind (fr ρ) fun ds => Md.bind (Md.lift (dArgs (x :: ds))) fun _ => Md.bind (Up.up (spec (x :: ds))) fun d => Md.lift (dFresh (x :: ds) d)
end
end
/-! ### str of data -/
def rStrU (K : PySem.W.Frag) : List V → Hp → VK → Prop := fun xs H Q => rStrI xs H Q ∨ ∃ (a : Addr) (p : PyData), xs = [.ref a] ∧ Dp K H (.ref a) p ∧ repOk p = true ∧ Q (.str p.shown) H
def dStrU (ds : List D) : Option D := match ds with
  | [.int i] => dStrI [.int i]
  | [x] => match x.isSeq, x.py with
    | true, some p => match repOk p with
      | true => some (.str p.shown)
      | false => none
    | _, _ => none
  | _ => none
end Pw
set_option Elab.async false
set_option linter.all false
set_option maxRecDepth 100000
set_option maxHeartbeats 1000000
/-! Pw53: an instance made of lists of the def's own, if it keeps no list. -/
namespace Pw
open PySem PySem.Spec PyProof.Rows L2
section
variable {m n : Type → Type} [Md m] [Md n] [Up n m] {w : Wd} {O : List Nat} {j : Nat} {t : TA} {fr : Env → m (List D)} {C : Str}
def okInsA (C : Str) (ns : List Str) (es : List D) : Option D := match D.noLs es with
  | true => okIns C ns es
  | false => none
def pMakeA (C : Str) (ns : List Str) (spec : List D → n (List D)) (fr : Env → m (List D)) : Env → m D := fun ρ => Md.bind (fr ρ) fun ds => Md.bind (Up.up (spec ds)) fun es => Md.lift (okInsA C ns es)
end
end Pw
set_option Elab.async false
set_option linter.all false
set_option maxRecDepth 100000
set_option maxHeartbeats 1000000
/-! Pw54: == and != of lists of instances with an own __eq__, equal or not; in, found or not. -/
namespace GQ3
open PySem PySem.SeqAt
open AutoSeq1 (wpAny_loadPart')
open MeetsSeq MeetsSeq2 MeetsSeq3 SeqRoads2 GQ
variable {prog : Program} {w : World} {A : Around} {R : Result → Shared → Prop}
/-- at each turn both lists are read anew -/
def ListB (prog : Program) (w : World) (A : Around) (E : Value → Shared → Prop) (l b : Addr) (N : Nat) (I : Nat → Shared → Prop) (F : Shared → Prop) : Prop :=
  ∀ i s, I i s → ∃ (items items2 : Array Value) (n n2 : Nat), s.heap.get? l = some { cls := .type "list", data := .seq items n } ∧ s.heap.get? b = some { cls := .type "list", data := .seq items2 n2 } ∧ items.size = N ∧ items2.size = N ∧
    ∀ (h1 : i < items.size) (h2 : i < items2.size), wpAny (model prog w) A.in1 (eqBool items[i] items2[i]) (fun r s' => (r = true → I (i + 1) s') ∧ (r = false → F s')) E s
/-- lists stay lists -/
def KeepL (l b : Addr) (N : Nat) (F : Shared → Prop) : Prop := ∀ s, F s → ∃ (items items2 : Array Value) (n n2 : Nat), s.heap.get? l = some { cls := .type "list", data := .seq items n } ∧ s.heap.get? b = some { cls := .type "list", data := .seq items2 n2 } ∧ items.size = N ∧ items2.size = N

section
variable {E : Value → Shared → Prop} {s : Shared}
/-- in: at each turn the list is read anew -/
def HitB (prog : Program) (w : World) (A : Around) (E : Value → Shared → Prop) (l : Addr) (x : Value) (N : Nat) (I : Nat → Shared → Prop) (F : Shared → Prop) : Prop :=
  ∀ i s, I i s → ∃ (items : Array Value) (n : Nat), s.heap.get? l = some { cls := .type "list", data := .seq items n } ∧ items.size = N ∧
    ∀ (h1 : i < items.size), wpAny (model prog w) A.in1 (eqBool items[i] x) (fun r s' => (r = true → F s') ∧ (r = false → I (i + 1) s')) E s
end
end GQ3
set_option Elab.async false
set_option linter.all false
set_option maxRecDepth 100000
set_option maxHeartbeats 1000000
/-! Pw55: == != in, not in of lists of instances with an own ==, whatever they tell. -/
namespace Pw
open PySem PySem.Spec PyProof.Rows L2
def InsDif (K : PySem.W.Frag) (u v : V) (H : Hp) : Prop := ∃ (c d X Y dx dy : Addr) (fs gs : List (Str × V)) (i : Nat) (f g : Str) (z1 z2 : V) (p q : PyData), u = .ref c ∧ v = .ref d ∧ H c = some (.ins X dx fs) ∧ H d = some (.ins Y dy gs) ∧ fs[i]? = some (f, z1) ∧ gs[i]? = some (g, z2) ∧ Dp K H z1 p ∧ Dp K H z2 q ∧ p ≠ q
theorem dp_val {K : PySem.W.Frag} {H : Hp} {z : V} {p : PyData} (h : Dp K H z p) : ∃ u, RelV z u := by
  cases h with
  | non => exact ⟨.none, rfl⟩
  | bl b => exact ⟨.bool b, rfl⟩
  | int i => exact ⟨.int i 0, 0, rfl⟩
  | str x => exact ⟨.str x 0, 0, rfl⟩
  | @lst a xs ds _ _ => exact ⟨.ref a, rfl⟩
  | @tup a xs ds _ _ => exact ⟨.ref a, rfl⟩
section
variable {X : Cx} {k : Nat} {C : Addr} {ps : List Str} {sp : Sp} {st : Stmt}
theorem InsDif.ne {pins : List (Addr × Obj)} {σ : L2.St} {H : Hp} {s : Shared} {u v : V} (I : Inv X pins σ H s) (h : InsDif X.K u v H) : u ≠ v := by
  obtain ⟨c, d, Y, Z, dx, dy, fs, gs, i, f, g, z1, z2, p, q, rfl, rfl, hc, hd, e1, e2, h1, h2, hne⟩ := h
  intro e
  cases e
  have e3 : fs = gs := by
    have := hc.symm.trans hd
    injection this with this
    injection this
  subst e3
  rw [e1] at e2
  injection e2 with e2
  injection e2 with _ e2
  subst e2
  obtain ⟨val, rv⟩ := dp_val h1
  obtain ⟨as, r1⟩ := Dp.reads I p _ _ h1 rv
  obtain ⟨bs, r2⟩ := Dp.reads I q _ _ h2 rv
  exact hne (PySem.Reads.unique r1 _ _ r2).1
def PrsB (K : PySem.W.Frag) (C : Addr) (sp : Sp) (x y : V) (H : Hp) (J : Hp → Prop) (es : List Bool) : Prop := ∃ (a b : Addr) (xs ys : List V), x = .ref a ∧ y = .ref b ∧ xs.length = es.length ∧ ys.length = es.length ∧ J H ∧ (∀ H1, J H1 → H1 a = some (.lst xs) ∧ H1 b = some (.lst ys)) ∧
  ∀ (i : Nat) u v e, xs[i]? = some u → ys[i]? = some v → es[i]? = some e → ∀ H1, J H1 → InsEq C sp J (· = e) u v H1 ∧ (e = false → InsDif K u v H1)
def rEqLB (K : PySem.W.Frag) (C : Addr) (sp : Sp) : R2 := fun x y H Q => ∃ J es, PrsB K C sp x y H J es ∧ ∀ H1, J H1 → Q (.bl (es.all id)) H1
def rNeLB (K : PySem.W.Frag) (C : Addr) (sp : Sp) : R2 := fun x y H Q => ∃ J es, PrsB K C sp x y H J es ∧ ∀ H1, J H1 → Q (.bl (!es.all id)) H1
def rLz (c : Bool) : R2 := fun x y H Q => ∃ (a b : Addr) (xs ys : List V), x = .ref a ∧ y = .ref b ∧ H a = some (.lst xs) ∧ H b = some (.lst ys) ∧ xs.length ≠ ys.length ∧ Q (.bl c) H
def rInLB (K : PySem.W.Frag) (C : Addr) (sp : Sp) (neg : Bool) : R2 := fun x y H Q => ∃ (J : Hp → Prop) (a : Addr) (ys : List V) (es : List Bool), y = .ref a ∧ J H ∧ (∀ H1, J H1 → H1 a = some (.lst ys)) ∧ ys.length = es.length ∧
  (∀ (i : Nat) u e, ys[i]? = some u → es[i]? = some e → ∀ H1, J H1 → InsEq C sp J (· = e) u x H1 ∧ (e = false → InsDif K u x H1)) ∧ ∀ H1, J H1 → Q (.bl (neg ^^ es.any id)) H1
def rEqB (K : PySem.W.Frag) (C : Addr) (sp : Sp) : R2 := fun x y H Q => rEqR K C sp x y H Q ∨ (fun x y H Q => rEqLB K C sp x y H Q ∨ rLz false x y H Q) x y H Q
def rNeB (K : PySem.W.Frag) (C : Addr) (sp : Sp) : R2 := fun x y H Q => rNeR K C sp x y H Q ∨ (fun x y H Q => rNeLB K C sp x y H Q ∨ rLz true x y H Q) x y H Q
def rInB (K : PySem.W.Frag) (C : Addr) (sp : Sp) (neg : Bool) : R2 := fun x y H Q => rIn K neg x y H Q ∨ rInLB K C sp neg x y H Q
end
section
variable {m : Type → Type} [Md m] {w : Wd} {O : List Nat} {b1 b2 : Bool} {ta tb : TE} {fa fb : Env → m D} {C : Str} {spec : List D → Option D}
mutual
theorem pySame_selfD : ∀ (d : D) (p : PyData), d.py = some p → pySame p p = true
  | .non, _, e => by unfold D.py at e; cases e; rfl
  | .bl b, _, e => by unfold D.py at e; cases e; unfold pySame; exact beq_self_eq_true b
  | .int i, _, e => by unfold D.py at e; cases e; unfold pySame; exact decide_eq_true rfl
  | .str i, _, e => by unfold D.py at e; cases e; unfold pySame; exact decide_eq_true rfl
  | .lst ds, _, e => by
    unfold D.py at e
    cases z : D.pys ds with
    | none => rw [z] at e; cases e
    | some ps =>
      rw [z] at e
      cases e
      unfold pySame
      exact pySameAll_selfD ds ps z
  | .tup ds, _, e => by
    unfold D.py at e
    cases z : D.pys ds with
    | none => rw [z] at e; cases e
    | some ps =>
      rw [z] at e
      cases e
      unfold pySame
      exact pySameAll_selfD ds ps z
  | .scr _, _, e => by unfold D.py at e; cases e
  | .dic _, _, e => by unfold D.py at e; cases e
  | .fn _ _ _, _, e => by unfold D.py at e; cases e
  | .ins _ _ _, _, e => by unfold D.py at e; cases e
  | .pot, _, e => by unfold D.py at e; cases e
  | .rep _, _, e => by unfold D.py at e; cases e
  | .cls _, _, e => by unfold D.py at e; cases e
  | .ty _, _, e => by unfold D.py at e; cases e
theorem pySameAll_selfD : ∀ (ds : List D) (ps : List PyData), D.pys ds = some ps → pySameAll ps ps = true
  | [], _, e => by unfold D.pys at e; cases e; rfl
  | d :: ds, _, e => by
    unfold D.pys at e
    cases z1 : d.py with
    | none => rw [z1] at e; cases e
    | some p =>
      cases z2 : D.pys ds with
      | none => rw [z1, z2] at e; cases e
      | some ps =>
        rw [z1, z2] at e
        cases e
        unfold pySameAll
        rw [pySame_selfD d p z1, pySameAll_selfD ds ps z2]
        rfl
end
/-- a field in which two instances differ -/
def difAt : List D → List D → Option Nat
  | d :: ds, e :: es => match d.py, e.py with
    | some p, some q => match pySame p q with
      | true => (difAt ds es).map (· + 1)
      | false => some 0
    | _, _ => none
  | _, _ => none
def difB : D → D → Bool
  | .ins _ _ ds, .ins _ _ es => (difAt ds es).isSome
  | _, _ => false
/-- what the own == tells of two instances -/
def insEq2 (C : Str) (spec : List D → Option D) (x y : D) : Option Bool := match insEq1 C spec x y with
  | some true => some true
  | some false => match difB x y with
    | true => some false
    | false => none
  | none => none
def insEqL (C : Str) (spec : List D → Option D) : List D → List D → Option (List Bool)
  | [], [] => some []
  | x :: xs, y :: ys => match insEq2 C spec x y, insEqL C spec xs ys with
    | some e, some es => some (e :: es)
    | _, _ => none
  | _, _ => none
def insInL (C : Str) (spec : List D → Option D) (x : D) : List D → Option (List Bool)
  | [] => some []
  | y :: ys => match insEq2 C spec y x, insInL C spec x ys with
    | some e, some es => some (e :: es)
    | _, _ => none
def dEqB (C : Str) (spec : List D → Option D) (x y : D) : Option D := match x.lst?, y.lst? with
  | some xs, some ys => match Nat.beq xs.length ys.length with
    | true => match insEqL C spec xs ys with
      | some es => some (.bl (es.all id))
      | none => dEqR C spec x y
    | false => some (.bl false)
  | _, _ => dEqR C spec x y
def dNeB (C : Str) (spec : List D → Option D) (x y : D) : Option D := match x.lst?, y.lst? with
  | some xs, some ys => match Nat.beq xs.length ys.length with
    | true => match insEqL C spec xs ys with
      | some es => some (.bl (!es.all id))
      | none => dNeR C spec x y
    | false => some (.bl true)
  | _, _ => dNeR C spec x y
def dInB (C : Str) (spec : List D → Option D) (x y : D) : Option D := match y.lst? with
  | some ys => match insInL C spec x ys with
    | some es => some (.bl (es.any id))
    | none => dIn x y
  | none => dIn x y
def dNinB (C : Str) (spec : List D → Option D) (x y : D) : Option D := match y.lst? with
  | some ys => match insInL C spec x ys with
    | some es => some (.bl (!es.any id))
    | none => dNotIn x y
  | none => dNotIn x y
end
end Pw
set_option Elab.async false
set_option linter.all false
set_option maxRecDepth 100000
set_option maxHeartbeats 1000000
/-! Pw56: tuple(range(n)). -/
namespace Pw
open PySem PySem.Spec PyProof.Rows L2
section
variable {m : Type → Type} [Md m] {w : Wd} {O : List Nat} {b : Bool}
def dTRg1 (d : D) : Option D := (dLRg1 d).map .tup
/-- a if t else b, as a test -/
def tIfT (t ta tb : TT) : TT := fun σ H Q => t σ H fun c H1 => if c = true then ta σ H1 Q else tb σ H1 Q
def bIf (ft fa fb : Env → m Bool) : Env → m Bool := fun ρ => Md.bind (ft ρ) fun c => match c with
  | true => fa ρ
  | false => fb ρ
end
end Pw
set_option Elab.async false
set_option linter.all false
set_option maxRecDepth 100000
set_option maxHeartbeats 1000000
/-! Pw57: xs.append(ys), where ys is a list of the def's own that is not used again under its name. -/
namespace Pw
open PySem PySem.Spec PyProof.Rows L2
section
variable {m : Type → Type} [Md m] {w : Wd} {O : List Nat} {κ : Bool} {Ob : List Nat}
def sAppMove (i j : Nat) : Env → m Rs := fun ρ => Md.bind (Md.lift (gLs ρ i)) fun ds => Md.bind (Md.lift (gLs ρ j)) fun es => Md.bind (Md.lift (okL (ds ++ [.lst es]))) fun ds2 => Md.ret (.nx ((ρ.set j none).set i (some (.lst ds2))))
end
end Pw
set_option Elab.async false
set_option linter.all false
set_option maxRecDepth 100000
set_option maxHeartbeats 1000000
/-! Pw58: f(..).append(e), where f makes a new list that has no name. -/
namespace Pw
open PySem PySem.Spec PyProof.Rows L2
section
variable {m : Type → Type} [Md m] {w : Wd} {O : List Nat} {κ : Bool} {Ob : List Nat} {tl te : TE} {fl : Env → m (List D)} {fe : Env → m D}
def sAppNew (fl : Env → m (List D)) (fe : Env → m D) : Env → m Rs := fun ρ => Md.bind (fl ρ) fun ds => Md.bind (fe ρ) fun d => Md.bind (Md.lift (okL (ds ++ [d]))) fun _ => Md.ret (.nx ρ)
end
end Pw
set_option Elab.async false
set_option linter.all false
set_option maxRecDepth 100000
set_option maxHeartbeats 1000000
/-! Pw59: x in xs, x not in xs, over a list of data (lists of lists of numbers, ..). -/
namespace Pw
open PySem PySem.Spec PyProof.Rows L2
def rInDt (K : PySem.W.Frag) (neg : Bool) : R2 := fun x y H Q => ∃ a xs d ps, y = .ref a ∧ SqL K H a xs ∧ DpAll K H xs ps ∧ Dp K H x d ∧ SeqAt.shaped d = true ∧ ps.all SeqAt.shaped = true ∧
  Q (.bl (if neg then !(ps.any fun p => PyData.eqv p d) else ps.any fun p => PyData.eqv p d)) H
section
variable {X : Cx}
open Classical in
noncomputable def eAt (h : Heap) (d : PyData) (v : Value) : Bool := decide (∃ p as, Reads h v p as ∧ PyData.eqv p d = true)
def rInU (K : PySem.W.Frag) (neg : Bool) : R2 := fun x y H Q => rIn K neg x y H Q ∨ rInDt K neg x y H Q
end
section
variable {w : Wd}
/-- where a thing stands among data -/
def inDt (x y : D) : Option Bool := match x.py, y.lst? with
  | some d, some ys => match D.pys ys with
    | some ps => match SeqAt.shaped d && ps.all SeqAt.shaped with
      | true => some (ps.any fun p => PyData.eqv p d)
      | false => none
    | none => none
  | _, _ => none
def dInU (x y : D) : Option D := match inDt x y with
  | some c => some (.bl c)
  | none => dIn x y
def dNotInU (x y : D) : Option D := match inDt x y with
  | some c => some (.bl (!c))
  | none => dNotIn x y
end
end Pw
set_option Elab.async false
set_option linter.all false
set_option maxRecDepth 100000
set_option maxHeartbeats 1000000
/-! Pw60: x < y, of alike data. -/
namespace Pw
open PySem PySem.Spec PyProof.Rows L2
def rLtD (K : PySem.W.Frag) : R2 := fun x y H Q => ∃ d e, Dp K H x d ∧ Dp K H y e ∧ PySem.W.alike d e = true ∧ d ≠ .none ∧ min d.depth e.depth ≤ 60 ∧ Q (.bl (PySem.W.dataLt d e)) H
section
variable {X : Cx}
def rLtU (K : PySem.W.Frag) : R2 := fun x y H Q => rI0 (fun i j => .bl (decide (i < j))) x y H Q ∨ rLtD K x y H Q
end
section
variable {w : Wd}
def ltDt (x y : D) : Option Bool := match x.py, y.py with
  | some p, some q => match PySem.W.alike p q && (noTup p || isTup1 p) && decide (min p.depth q.depth ≤ 60) with
    | true => some (PySem.W.dataLt p q)
    | false => none
  | _, _ => none
def dLtU (x y : D) : Option D := match ltDt x y with
  | some c => some (.bl c)
  | none => dLt x y
end
end Pw
set_option Elab.async false
set_option linter.all false
set_option maxRecDepth 100000
set_option maxHeartbeats 1000000
/-! Pw61: xs = f(y); if c: return False; xs[0].append(None); xs.append(None): a told list and its first list are new. -/
namespace Pw
open PySem PySem.Spec PyProof.Rows L2
section
variable {m : Type → Type} [Md m] {w : Wd} {O Ob : List Nat} {A : Av} {H0 : Hp} {M : Av} {σ : L2.St} {H H1 : Hp} {ρ : Env}
/-- the names but one forgotten -/
def onlyJ (j : Nat) (ρ : Env) : Env := (List.replicate ρ.length none).set j ((ρ[j]?).getD none)
theorem only_len (j : Nat) (ρ : Env) : (onlyJ j ρ).length = ρ.length := by unfold onlyJ; rw [List.length_set, List.length_replicate]
theorem only_at {j i : Nat} {d : D} (h : (onlyJ j ρ)[i]? = some (some d)) : i = j ∧ ρ[j]? = some (some d) := by
  unfold onlyJ at h
  by_cases q : i = j
  · subst q
    refine ⟨rfl, ?_⟩
    rw [List.getElem?_set] at h
    by_cases hl : i < ρ.length
    · rw [List.length_replicate, if_pos rfl, if_pos hl] at h
      rw [List.getElem?_eq_getElem hl] at h ⊢
      exact h
    · rw [List.length_replicate, if_pos rfl, if_neg hl] at h
      cases h
  · rw [List.getElem?_set_ne (Ne.symm q), List.getElem?_replicate] at h
    split at h <;> cases h
/-- what may change, and every list there is -/
def allLs (M : Av) (H : Hp) : Av := fun a => M a ∨ ∃ xs, H a = some (.lst xs)
theorem allLs_isL (r : Rel w O A H0 M σ H ρ) : AllL (allLs M H) H := fun a z => z.elim (r.isL a) .inl
theorem Rel.only (r : Rel w O A H0 M σ H ρ) {j : Nat} (hj : j ∉ O) (hn : ∀ d, ρ[j]? = some (some d) → d.noL = true) : Rel w O (allLs M H) H (allLs M H) σ H (onlyJ j ρ) := by
  refine ⟨by rw [only_len, r.len], .refl, ⟨fun a z => .inl (r.pm a z), r.potOk⟩, fun a z => z, fun a z => .inl z, allLs_isL r, fun i d e n => ?_, fun i d e n => ?_, fun i l d e p h1 h2 n1 n2 h3 h4 => ?_⟩
  · obtain ⟨rfl, e1⟩ := only_at e
    obtain ⟨v, e2, h⟩ := r.sh i d e1 n
    exact ⟨v, e2, Den.up (allLs_isL r) d v (hn d e1) h⟩
  · obtain ⟨rfl, e1⟩ := only_at e
    exact absurd n hj
  · rw [(only_at h1).1, (only_at h2).1]
/-- a list that no name of one's own has, changed -/
theorem Rel.poke (r : Rel w O A H0 M σ H ρ) {p : Addr} {vs us : List V} (mp : M p) (np : ¬ A p) (ep : H p = some (.lst vs)) (hn : ∀ j d, ρ[j]? = some (some d) → j ∈ O → σ[j]? = some (some (.ref p)) → False) : Rel w O A H0 M σ (upd H p (.lst us)) ρ ∧ Evo M H M (upd H p (.lst us)) := by
  have hw : ∀ a u, ¬ M a → H a = some u → upd H p (.lst us) a = some u := fun a u na ea => by
    rw [upd_ne (show a ≠ p from fun z => na (by rw [z]; exact mp))]
    exact ea
  have n0 : H0 p = none := (r.new p mp).elim (fun z => (np z).elim) fun z => z
  have st : Step w H0 (upd H p (.lst us)) := by
    refine Step.of (fun a o na ea => ?_) (fun po => ?_)
    · rw [upd_ne (ne_of_none ea n0)]
      exact r.step.lat a o na ea
    · exact r.potOk.p0.but p (fun z => np (r.pot p z)) (fun c q z => lst_ne (Option.some.inj (ep.symm.trans z))) fun a u ne e => by rw [upd_ne ne]; exact e
  refine ⟨⟨r.len, st, r.pot, r.av, r.new, fun a za => ?_, fun j d e n => ?_, fun j d e n => ?_, r.sep⟩, hw, fun a z => .inl z⟩
  · by_cases q : a = p
    · subst q
      exact .inl ⟨_, upd_same⟩
    · exact LB.keep (fun o ez => by rw [upd_ne q]; exact ez) (r.isL a za)
  · obtain ⟨v', e5, h'⟩ := r.sh j d e n
    exact ⟨v', e5, Den.lat hw _ _ h'⟩
  · rcases r.ow j d e n with z | ⟨p', us', ds', z1, z2, z3, z4, z5, z6⟩
    · exact .inl z
    have hne : p' ≠ p := fun z => by
      subst z
      exact hn j d e n z2
    exact .inr ⟨p', us', ds', z1, z2, z3, z4, by rw [upd_ne hne]; exact z5, Dens.lat hw _ _ z6⟩
def nLj (ρ : Env) (i j : Nat) : Option Unit := match gG ρ j with
  | some d => match d.noL && Nat.blt i ρ.length with
    | true => some ()
    | false => none
  | none => none
def pokeOk : List D → Option Unit
  | .lst es :: ds => match lenOk (es.length + 1) && lenOk (ds.length + 2) with
    | true => some ()
    | false => none
  | _ => none
def sDeep (i j : Nat) (fl : Env → m (List D)) (fc : Env → m Bool) : Env → m Rs := fun ρ => Md.bind (Md.lift (nLj ρ i j)) fun _ => Md.bind (fl ρ) fun ds => Md.bind (fc (ρ.set i (some (.lst ds)))) fun c => match c with
  | true => Md.ret (.rt (.bl false))
  | false => Md.bind (Md.lift (pokeOk ds)) fun _ => Md.ret (.nx (ρ.set i none))
end
end Pw
set_option Elab.async false
set_option linter.all false
set_option maxRecDepth 100000
set_option maxHeartbeats 1000000
/-! Pw62: a, xs = e, f(y); if c: return False; if c2: xs[0][1].append(None); xs.append(None). -/
namespace Pw
open PySem PySem.Spec PyProof.Rows L2
section
variable {m : Type → Type} [Md m] {w : Wd} {O Ob : List Nat}
def pokeT : List D → Option Unit
  | .tup [_, .lst es] :: ds => match lenOk (es.length + 1) && lenOk (ds.length + 2) with
    | true => some ()
    | false => none
  | _ => none
def poke1 (ds : List D) : Option Unit := match lenOk (ds.length + 1) with
  | true => some ()
  | false => none
def sDeepT (i0 i j : Nat) (fe : Env → m D) (fl : Env → m (List D)) (fc fc2 : Env → m Bool) : Env → m Rs := fun ρ => Md.bind (Md.lift (nLj ρ i j)) fun _ => Md.bind (fe ρ) fun d => Md.bind (fl ρ) fun ds => Md.bind (fc ((ρ.set i0 (some d)).set i (some (.lst ds)))) fun c => match c with
  | true => Md.ret (.rt (.bl false))
  | false => Md.bind (fc2 ((ρ.set i0 (some d)).set i (some (.lst ds)))) fun c2 => match c2 with
    | true => Md.bind (Md.lift (pokeT ds)) fun _ => Md.ret (.nx ((ρ.set i0 (some d)).set i none))
    | false => Md.bind (Md.lift (poke1 ds)) fun _ => Md.ret (.nx ((ρ.set i0 (some d)).set i none))
end
end Pw
set_option Elab.async false
set_option linter.all false
set_option maxRecDepth 100000
set_option maxHeartbeats 1000000
/-! Pw63: a & ~b. -/
namespace Pw
open PySem PySem.Spec PyProof.Rows L2
def gAndT (i j : Int) : Option Int := some (Builtin.bitAnd i j)
end Pw
set_option Elab.async false
set_option linter.all false
set_option maxRecDepth 100000
set_option maxHeartbeats 1000000
/-! Pw64: sorted of a dict whose keys are tuples of whole numbers. -/
namespace PwK
open PySem PySem.W PySem.Calls PyProof.Rows PyProof.V PySem.Spec
section
variable {prog : Program} {w : World} {A : Around} {E : Value → Shared → Prop} {s : Shared} {T : String} {r d : Addr} {n : Nat} {P : Nat → Value → Prop} {OK : Heap → Prop}
end
end PwK

namespace Pw
open PySem PySem.Spec PyProof.Rows L2
open PySem.W (dataLe alike AllAlike Sortable EachIs)
def encT (z : Addr × List Int) : PyData := .tuple (z.2.map PyData.int)
abbrev leTK : Addr × List Int → Addr × List Int → Bool := dataLe false encT
def rSortT : List V → Hp → VK → Prop := fun vs H Q => ∃ (d : Addr) (kvs : List (List Key × V)) (iss : List (List Int)), vs = [V.ref d] ∧ H d = some (.dT kvs) ∧ kvs.map Prod.fst = iss.map (fun is => is.map Sum.inl) ∧ (∀ is ∈ iss, is ≠ []) ∧
  ∀ (p : Addr) (bs : List Addr), H p = none → IsKeys H kvs bs → Q (.ref p) (upd H p (.lst (((bs.zip iss).mergeSort leTK).map fun z => V.ref z.1)))
end Pw
set_option Elab.async false
set_option linter.all false
set_option maxRecDepth 100000
set_option maxHeartbeats 1000000
/-! Pw65: {k: v, ..}[e]: a dict display of constants, read at once. -/
namespace Pw
open PySem PySem.Spec PyProof.Rows L2
section
variable {m : Type → Type} [Md m] {w : Wd} {O : List Nat} {b : Bool} {te : TE} {fe : Env → m D}
def kvsV (kvs : List (Key × Int)) : List (Key × V) := kvs.map fun q => (q.1, V.int q.2)
def lookK (kvs : List (Key × Int)) (k : Key) : Option D := (kvs.find? fun q => decide (q.1 = k)).map fun q => .int q.2
def dKey : D → Option Key
  | .str z => some (.inr z)
  | .int i => some (.inl i)
  | _ => none
def pDGet (kvs : List (Key × Int)) (fe : Env → m D) : Env → m D := fun ρ => Md.bind (fe ρ) fun x => Md.lift ((dKey x).bind (lookK kvs))
theorem upd_upd {H : Hp} {p : Addr} {a c : HO} : upd (upd H p a) p c = upd H p c := by
  funext x
  by_cases q : x = p
  · subst q; rw [upd_same, upd_same]
  · rw [upd_ne q, upd_ne q, upd_ne q]
end
end Pw
set_option linter.all false
set_option maxRecDepth 100000
/-! Pw66: a text read at a place. -/
namespace Pw
open PySem PySem.Spec PyProof.Rows L2
def dIxS : D → D → Option D
  | .str z, .int i => match decide (z.length ≤ sizeLine) with
    | true => (atI z.cps.toList i).map fun c => .str { cps := #[c] }
    | false => none
  | _, _ => none
end Pw
set_option Elab.async false
set_option linter.all false
set_option maxRecDepth 100000
set_option maxHeartbeats 1000000
/-! Pw67: a dict whose keys are tuples of whole numbers, laid in two loops and told sorted. -/
namespace Pw
open PySem PySem.Spec PyProof.Rows L2
open PySem.W (dataLe alike AllAlike Sortable EachIs)
/-- the dict at d has just these keys, at these places -/
def dtF (P : Program) (wo : World) (d : Addr) (ks : List (List Key × Addr)) : Heap → Prop := fun h => (d == sysModules) = false ∧ ∃ xs : List (List Key × Addr × Value), xs.map (fun x => (x.1, x.2.1)) = ks ∧
  ∃ o es ep, h.get? d = some o ∧ o.ExactDict ∧ o.data = .dict es ep ∧ es.toList = xs.map (entryOfKey (tupleKind (mixKind P wo))) ∧ (xs.map (·.1)).Nodup
abbrev dtO (P : Program) (wo : World) (d : Addr) (ks : List (List Key × Addr)) : HO := .ext (dtF P wo d ks)
def tDNewX (P : Program) (wo : World) : TE := fun _ H Q => ∀ p, H p = none → Q (.ref p) (upd H p (dtO P wo p []))
def putKs (ks : List (List Key × Addr)) (k : List Key) (b : Addr) : List (List Key × Addr) := if (ks.any fun x => decide (x.1 = k)) = true then ks else ks ++ [(k, b)]
def sDPutX (P : Program) (wo : World) (K : PySem.W.Frag) (td ty tv : TE) : TS := fun D σ H => tv σ H fun v H1 => td σ H1 fun x H2 => ty σ H2 fun y H3 => ∃ d b ks k, x = .ref d ∧ y = .ref b ∧ H3 d = some (dtO P wo d ks) ∧ SqT K H3 b (k.map kV) ∧ (∀ q ∈ ks, SqT K H3 q.2 (q.1.map kV)) ∧ ks.length < sizeLine ∧ D.nx σ (upd H3 d (dtO P wo d (putKs ks k b)))
/-! ### sorted -/
def rSortV (P : Program) (wo : World) (K : PySem.W.Frag) : List V → Hp → VK → Prop := fun vs H Q => ∃ (d : Addr) (ks : List (List Key × Addr)) (iss : List (List Int)), vs = [V.ref d] ∧ H d = some (dtO P wo d ks) ∧ DpAll K H (ks.map fun q => V.ref q.2) (iss.map fun is => PyData.tuple (is.map PyData.int)) ∧
  sortOk (iss.map fun is => PyData.tuple (is.map PyData.int)) = true ∧ ks.length ≤ sizeLine ∧
  ∀ p : Addr, H p = none → Q (.ref p) (upd H p (.lst ((((ks.map fun q => V.ref q.2).zip (iss.map fun is => PyData.tuple (is.map PyData.int))).mergeSort leVP).map Prod.fst)))
/-! ### the state with such a dict -/
def tupI (is : List Int) : D := .tup (is.map .int)
section
variable {m : Type → Type} [Md m] {w : Wd} {O js : List Nat} {P : Program} {wo : World} {jl : Nat} {p : Addr} {κ : Bool} {Ob : List Nat}
structure RelX (w : Wd) (O : List Nat) (P : Program) (wo : World) (jl : Nat) (p : Addr) (A : Av) (H0 : Hp) (M : Av) (σ : L2.St) (H : Hp) (ρ : Env) (kss : List (List Int)) : Prop where
  r : Rel w O A H0 M σ H ρ
  mp : M p
  np : ¬ A p
  sl : σ[jl]? = some (some (.ref p))
  ks : ∃ ks : List (List Key × Addr), H p = some (dtO P wo p ks) ∧ ks.map Prod.fst = kss.map (fun is => is.map Sum.inl) ∧ Dens w M H (ks.map fun q => .ref q.2) (kss.map tupI)
variable {A : Av} {H0 : Hp} {M : Av} {σ : L2.St} {H H' : Hp} {ρ : Env} {kss : List (List Int)}
theorem RelX.go (x : RelX w O P wo jl p A H0 M σ H ρ kss) (k : Step w H H') : RelX w O P wo jl p A H0 M σ H' ρ kss := by
  obtain ⟨ks, e1, e2, e3⟩ := x.ks
  exact ⟨x.r.go k, x.mp, x.np, x.sl, ks, k.lat _ _ (fun z => x.np (x.r.pot _ z)) e1, e2, Dens.lat (k.lat.mono x.r.pm) _ _ e3⟩
/-- a statement beside such a dict -/
def SsX (m : Type → Type) [Md m] (w : Wd) (O : List Nat) (P : Program) (wo : World) (jl : Nat) (p : Addr) (ts : TS) (fs : Env → List (List Int) → m (Env × List (List Int))) : Prop :=
  ∀ (A : Av) (H0 : Hp) (M : Av) (σ : L2.St) (H : Hp) (ρ : Env) (kss : List (List Int)) (E : Ends), RelX w O P wo jl p A H0 M σ H ρ kss →
    Md.wp (fs ρ kss) (fun r => ∀ σ' H', RelX w O P wo jl p A H0 M σ' H' r.1 r.2 → Evo M H M H' → E.nx σ' H') → ts E σ H
def putD (kss : List (List Int)) : D → Option (List (List Int))
  | .tup ds => match intsOf ds with
    | some is => match lenOk (kss.length + 1) with
      | true => some (if is ∈ kss then kss else kss ++ [is])
      | false => none
    | none => none
  | _ => none
def xPut (fk : Env → m D) : Env → List (List Int) → m (Env × List (List Int)) := fun ρ kss => Md.bind (fk ρ) fun d => Md.bind (Md.lift (putD kss d)) fun k2 => Md.ret (ρ, k2)
variable {tk : TE} {fk : Env → m D} {wi : TI} {fi : Env → m (List D)} {g : TG} {tg : Env → D → Option Env} {tb : TS} {fb : Env → List (List Int) → m (Env × List (List Int))}
def loopX2 (tg : Env → D → Option Env) (fb : Env → List (List Int) → m (Env × List (List Int))) : List D → Env → List (List Int) → m (Env × List (List Int))
  | [], ρ, ks => Md.ret (ρ, ks)
  | d :: ds, ρ, ks => Md.bind (Md.lift (tg ρ d)) fun ρ1 => Md.bind (fb ρ1 ks) fun r => loopX2 tg fb ds r.1 r.2
def xFor (fi : Env → m (List D)) (tg : Env → D → Option Env) (fb : Env → List (List Int) → m (Env × List (List Int))) : Env → List (List Int) → m (Env × List (List Int)) := fun ρ ks => Md.bind (fi ρ) fun xs => loopX2 tg fb xs ρ ks
/-- later = {}; for ..: for ..: later[k] = True; xs = sorted(later) -/
def hasJ (ρ : Env) (j : Nat) : Option Unit := match Nat.blt j ρ.length with
  | true => some ()
  | false => none
def dSortX (kss : List (List Int)) : Option (List D) := match lenOk kss.length with
  | true => dSortD [.lst (kss.map tupI)]
  | false => none
def sDset (jl : Nat) (fx : Env → List (List Int) → m (Env × List (List Int))) (jf : Nat) : Env → m Rs := fun ρ => Md.bind (Md.lift (hasJ ρ jl)) fun _ => Md.bind (fx (ρ.set jl none) []) fun r => Md.bind (Md.lift (dSortX r.2)) fun ds => Md.ret (.nx (r.1.set jf (some (.lst ds))))
end
end Pw
set_option Elab.async false
set_option linter.all false
set_option maxRecDepth 100000
set_option maxHeartbeats 1000000
/-! Pw68: a def that calls itself: as often as the fuel lets it. -/
namespace Pw
open PySem PySem.Spec PyProof.Rows L2
def recR (κ : Bool) (N : Nat) (F : (List D → Option D) → Env → Option Rs) : Nat → List D → Option D
  | 0 => fun _ => none
  | t + 1 => runD κ N (F (recR κ N F t))
end Pw
set_option Elab.async false
set_option linter.all false
set_option maxRecDepth 100000
set_option maxHeartbeats 1000000
/-! Pw69: len of a dict of whole numbers. -/
namespace Pw
open PySem PySem.Spec PyProof.Rows L2
def rLenDk : List V → Hp → VK → Prop := fun xs H Q => ∃ (a : Addr) (kvs : List (Key × V)), xs = [V.ref a] ∧ Rd H a (.dK kvs) ∧ Q (.int ((kvs.length : Nat) : Int)) H
def dLenD : List D → Option D
  | [.dic kvs] => some (.int (kvs.length : Nat))
  | _ => none
end Pw
set_option Elab.async false
set_option linter.all false
set_option maxRecDepth 100000
set_option maxHeartbeats 1000000
/-! Pw70: sorted(set(xs)) of a longer list with fewer than 64 unlike numbers. -/
namespace Pw
open PySem PySem.Spec PyProof.Rows PyProof.V L2
def rSetT (K : PySem.W.Frag) (w : World) : List V → Hp → VK → Prop := fun vs H Q => ∃ (a : Addr) (ns : List Int), vs = [V.ref a] ∧ SqL K H a (ns.map V.int) ∧ ns.length < 4000 ∧
  ∀ (p : Addr), H p = none → Q (.ref p) (upd H p (SetO w p (fun j => decide (j ∈ ns)) (setI ns).length))
def dSetT : D → Option (List D)
  | .lst ds => match dInts (.lst ds) with
    | some is => if is.length < 4000 ∧ (setI is).length < 64 then some ((setI is).map .int) else none
    | none => none
  | _ => none
section
variable {m : Type → Type} [Md m] {w : Wd} {O : List Nat} {b : Bool}
end
end Pw
set_option Elab.async false
set_option linter.all false
set_option maxRecDepth 100000
set_option maxHeartbeats 1000000
/-! Pw71: what raises: the raising reading of a def, of a call; raise X(); try .. except X: without a name. -/
namespace Pw
open PySem PySem.Spec PyProof.Rows L2
/-- an error: its class and its fields -/
structure Er where
  c : Str
  fs : List (Str × D)
def ErrD (w : Wd) (M : Av) (H : Hp) (e : Er) (cls : Value) (d : Option Addr) : Prop := cls = .ref (w.cl e.c) ∧
  ((e.fs = [] ∧ d = none) ∨ ∃ a vs, d = some a ∧ ¬ M a ∧ H a = some (.xd ((e.fs.map (·.1)).zip vs)) ∧ Dens w M H vs (e.fs.map (·.2)))
theorem ErrD.weak {w : Wd} {M N : Av} {H : Hp} {e : Er} {cls : Value} {d : Option Addr} (k : ∀ a, N a → M a) (h : ErrD w M H e cls d) : ErrD w N H e cls d :=
  ⟨h.1, h.2.imp id fun ⟨a, vs, e1, n, e2, r⟩ => ⟨a, vs, e1, fun z => n (k a z), e2, Dens.weak k _ _ r⟩⟩
/-- the promise of a def that raises -/
def SpX (K : PySem.W.Frag) (cl : Cl) (j : Nat) (x : List D → Option Er) : Sp := fun vs H _ E => vs.length = j ∧ ∃ (pot : Sh) (M : Av) (ds : List D), Dens ⟨K, cl, pot⟩ M H vs ds ∧ (∀ a, Wd.pa ⟨K, cl, pot⟩ a → M a) ∧ AllL M H ∧ PotOk ⟨K, cl, pot⟩ H ∧
  ∃ e, x ds = some e ∧ ∀ cls d H', Step ⟨K, cl, pot⟩ H H' → ErrD ⟨K, cl, pot⟩ M H' e cls d → E cls d H'
/-- the raising reading of a block -/
def Xsm (w : Wd) (O : List Nat) (t : WX → TS) (fx : Env → Option Er) : Prop := ∀ (A : Av) (H0 : Hp) (M : Av) (σ : L2.St) (H : Hp) (ρ : Env) (W : WX) (E : Ends) (e : Er), Rel w O A H0 M σ H ρ → fx ρ = some e →
  (∀ cls d σ' H', Step w H0 H' → ErrD w A H' e cls d → W cls d σ' H') → t W E σ H
/-- .. of an expression -/
def Xe (w : Wd) (O : List Nat) (t : WX → TE) (fx : Env → Option Er) : Prop := ∀ (A : Av) (H0 : Hp) (M : Av) (σ : L2.St) (H : Hp) (ρ : Env) (W : WX) (Q : VK) (e : Er), Rel w O A H0 M σ H ρ → fx ρ = some e →
  (∀ cls d H', Step w H H' → ErrD w M H' e cls d → W cls d σ H') → t W σ H Q
section
variable {w : Wd} {O O1 Ob : List Nat} {κ b : Bool} {t1 : TS} {ta tb t2 : WX → TS} {fs : Env → Option Rs} {fa fb fx : Env → Option Er} {tc : TT} {fc : Env → Option Bool}
def xPre (fs : Env → Option Rs) (fx : Env → Option Er) : Env → Option Er := fun ρ => match fs ρ with
  | some (.nx ρ') => fx ρ'
  | _ => none
/-- what stands behind is not reached -/
theorem xs_fst (h1 : Xsm w O ta fa) : Xsm w O (fun W => tSeq (ta W) (t2 W)) fa := fun A H0 M σ H ρ W E e R q hw => h1 A H0 M σ H ρ W { E with nx := t2 W E } e R q hw
def xIf (fc : Env → Option Bool) (fa fb : Env → Option Er) : Env → Option Er := fun ρ => match fc ρ with
  | some true => fa ρ
  | some false => fb ρ
  | none => none
def xNo : Env → Option Er := fun _ => none
theorem xs_no : Xsm w O ta xNo := fun _ _ _ _ _ _ _ _ _ _ q _ => nomatch q
/-- raise X() -/
def tRaise0 (C : Addr) (W : WX) : TS := fun _ σ H => W (.ref C) none σ H
def xRaise0 (c : Str) : Env → Option Er := fun _ => some ⟨c, []⟩
theorem xs_raise0 (c : Str) : Xsm w O (tRaise0 (w.cl c)) (xRaise0 c) := fun A H0 M σ H ρ W E e R q hw => by
  cases q
  exact hw _ _ _ _ R.step ⟨rfl, .inl ⟨rfl, rfl⟩⟩
/-- f(..) as a statement -/
theorem xs_drop {te : WX → TE} (h : Xe w O te fx) : Xsm w O (fun W => tDrop (te W)) fx := fun A H0 M σ H ρ W E e R q hw =>
  h A H0 M σ H ρ W _ e R q fun cls d H' k r => hw _ _ _ _ (R.step.trans k) (r.weak R.av)
theorem xs_asg {te : WX → TE} {g : TG} (h : Xe w O te fx) : Xsm w O (fun W => tAsg (te W) g) fx := fun A H0 M σ H ρ W E e R q hw =>
  h A H0 M σ H ρ W _ e R q fun cls d H' k r => hw _ _ _ _ (R.step.trans k) (r.weak R.av)
def tGoX (sp : Sp) (E : L2.St → XK) (t : TA) : TE := fun σ H Q => t σ H fun vs H1 => sp vs H1 Q (E σ)
def xGo (x : List D → Option Er) (fr : Env → Option (List D)) : Env → Option Er := fun ρ => match fr ρ with
  | some ds => x ds
  | none => none
end
/-! ### try .. except X: over one call that raises -/
def tTry1 (K : PySem.W.Frag) (C : Addr) (tb : WX → TS) (ts : TS) : TS := fun D σ H => tb (wOnly K (.ref C) (fun _ _ _ => ts) (fun _ _ _ _ => False) D) D σ H
section
variable {m : Type → Type} [Md m] {w : Wd} {O O1 Ob : List Nat} {κ : Bool} {te : WX → TE} {ts : TS} {fx : Env → Option Er} {gs : Env → m Rs}
def sTryX (c : Str) (fx : Env → Option Er) (gs : Env → m Rs) : Env → m Rs := fun ρ => Md.bind (Md.lift (match fx ρ with
  | some e => if e.c = c then some () else none
  | none => none)) fun _ => gs ρ
end
/-! ### defs and their calls -/
structure FunX (P : Program) (w : World) (K : PySem.W.Frag) (mg : Str → Option Value) (base : Heap) (k : Nat) (x : Str) (st : Stmt) (ps : List Str) (sp : Sp) : Prop where
  ex : ∃ (y : Str) (f : Addr) (fd : FuncData), FunD K y y (defArgs st) (defBody st) (defScope st) [] [] f fd ∧ FnG P w K mg base (L2.CX P w) k f fd ps sp ∧ mg x = some (.ref f)
theorem fng_defX {P : Program} {w : World} {K : PySem.W.Frag} {cl : Cl} {mg : Str → Option Value} {base : Heap} {k : Nat} {x : Str} {st : Stmt} {ps N : List Str} {f : Addr} {fd : FuncData} {O : List Nat} {t : WX → TS} {fx : Env → Option Er}
    (F : FunD K x x (defArgs st) (defBody st) (defScope st) [] [] f fd) (S : FnScope N ps (defScope st))
    (hb : ∀ (cdv : Value) (B : Around) (out : List PySem.Env) (z : Shared) (H : Hp) (E : XK), B.guards = some [] → Room k (B.deeper (envOfC x (defScope st) z.heap.objs.size f cdv)) →
      PSs (cxOf (L2.CX P w) P w K mg base N x (defScope st) f cdv B out z H E) (defBody st) (t fun cls d _ H => E cls d H))
    (hs : ∀ pot, Xsm ⟨K, cl, pot⟩ O t fx) (hO : ∀ i ∈ O, ps.length ≤ i := by decide) : FnG P w K mg base (L2.CX P w) (k + 1) f fd ps (SpX K cl ps.length fun ds => fx (startD N.length ds)) := by
  refine fng_of F S (fun vs H Q E h => h.1) (fun cdv B out z H vs Q E hg hr h => ⟨t fun cls d _ H => E cls d H, hb cdv B out z H E hg hr, ?_⟩)
  obtain ⟨hl, pot, M, ds, hd, hp, ha, po, e, e1, q⟩ := h
  exact hs pot M H M (L2.start N vs) H (startD N.length ds) _ _ e (Rel.start hd hp ha po fun i hi => by rw [← hd.length, hl]; exact hO i hi) e1 fun cls d σ' H' k r => q cls d H' k r
section
variable {X : Cx} {k : Nat} {f : Addr} {fd : FuncData} {ps ks : List Str} {sp : Sp} {x : Str} {st : Stmt} {p p2 pos : Pos} {e : Expr} {es : List Expr} {kws : List Keyword} {t tk : TA} {π : List Nat} {E : L2.St → XK} {W : WX}
theorem go_fnX {pins : List (Addr × Obj)} {σ : L2.St} {H : Hp} {z : Shared} {Q : VK} {us : List Value} {vs : List V} (F : FnG X.prog X.w X.K X.mg X.base (L2.CX X.prog X.w) k f fd ps sp) (hr : Room k X.A) (hg : X.A.guards = some []) {args : PySem.Args} (hb : BindsTo z fd args (ps.zip us))
    (hx : PassesAt (L2.CX X.prog X.w) X σ (E σ)) (I : Inv X pins σ H z) (r : Vals vs us) (h : sp vs H Q (E σ)) : codeAny (model X.prog X.w) X.A (.call (.ref f) args) (fun r z' => match r with
      | .ok (.ret u) => EP X pins σ Q u z'
      | .ok _ => False
      | .error e => X.xe e z') z := by
  refine codeAny_mono (F.does X.A X.stack z H args us vs Q (E σ) hg hr I.env0 hb r h) fun r z' hq => ?_
  match r, hq with
  | .error e, hq => exact hx pins H z e z' I hq
  | .ok (.ret u), hq => exact I.after hq
  | .ok .next, hq => exact hq
  | .ok .brk, hq => exact hq
  | .ok .cont, hq => exact hq
/-- f(e, ..) that may raise -/
theorem pe_goX (F : FunX X.prog X.w X.K X.mg X.base k x st ps sp) (hr : Room k X.A) (hg : X.A.guards = some []) (tk : Takes X W) (gl : Gl X x) (ha : PA X (e :: es) t)
    (hb : ∀ (y : Str) (kV doc pm : Value) (an : Option Addr) (cdv ct : Value) (us : List Value), us.length = ps.length → bindArgs (PySem.W.fnOf y y (defArgs st) (defBody st) (defScope st) .none kV doc pm an cdv ct) ⟨us, []⟩ = pure (ps.zip us))
    (hdb : (x == ("__debug__" : Str)) = false := by decide) (he : starEach (e :: es) X.env = (false, eval e X.env) :: starEach es X.env := by rfl) (hpl : (backTo pos (starEach es X.env)).any (·.1) = false := by rfl) :
    PE X (.Call (.Name x p) (e :: es) [] pos) (tGoX sp (WE W) t) := by
  obtain ⟨y, f, fd, D, F, hm⟩ := F.ex
  refine ⟨fun pins z σ H Q I h => wpAny_Call_Name_kw (ld_glob I gl hm (PySem.W.callWith_K (h₀ := X.base) I.ok.mod.kin D.kp (thn (ha.run pos pins z σ H _ I h) fun us z1 q1 => ?_) he hpl) hdb)⟩
  obtain ⟨vs, H1, I1, r, q⟩ := q1
  refine ⟨I1.kIn, wpAny_call (codeAny_mono (go_fnX F hr hg (D.bindsA (hb y) z1 us (r.length ▸ F.many _ _ _ _ q)) (passAt tk σ) I1 r q) fun r z' h => ?_)⟩
  match r, h with
  | .ok (.ret u), h => exact h
  | .error e, h => exact h
/-- X() of a class of one's own without __init__ -/
theorem pmk_none {C : Addr} {bmB : List Value} {B newId initId : String} (F : ExcBaseFacts B newId initId bmB) (q : PySem.W.excIn X.K C bmB newId = true) (gC : X.mg x = some (.ref C)) (kC : PySem.W.keepIn X.K (.ref C) = true) (r : Raises X (.ref C)) (hg : Gl X x)
    (hdb : (x == ("__debug__" : Str)) = false := by decide) : PMk X (.Call (.Name x p) [] [] pos) (fun _ H Q => Q (.ref C) none H) := by
  intro pins s σ H Q I h
  refine wpAny_Call_Name_kw (ld_glob I hg gC (PySem.W.callWith_K0 I.kIn kC ?_) hdb)
  obtain ⟨bm, N, nm, qn, bs, hdct, sn, sub, ab, col, dd, k0, k1, k2, k3, k5, mN, hC, hN, hni, T⟩ := exc_obj I.kIn q
  refine wpAny_call_exc_subT (rest := []) F T hC hN hni (fun h' e hm => ?_) (by show 0 ≤ sizeLine; omega)
  exact mk_of I hm r h (I.hok.gone hm.new)
/-- what the head tells of an error class without __init__ -/
structure Ex0 (K : PySem.W.Frag) (mg : Str → Option Value) (x : Str) (C : Addr) : Prop where
  ex : ∃ (bmB : List Value) (B newId initId : String), ExcBaseFacts B newId initId bmB ∧ PySem.W.excIn K C bmB newId = true
  gl : mg x = some (.ref C)
  kp : PySem.W.keepIn K (.ref C) = true
  sub : PySem.W.subIn K (.ref C) (.type "BaseException") = some true
  ty : PySem.W.typeIn K (.ref C) = some (.type "type")
  me : PySem.W.exmOne K (.ref C) (.ref C) = some true
def exBms (n : String) : List Value := [.type n, .type "Exception", .type "BaseException", .type "object"]
def ex0B (K : PySem.W.Frag) (x : Str) (n : String) : Bool := PySem.W.excIn K (He.ga K x) (exBms n) (n ++ ".__new__") && (PySem.W.keepIn K (.ref (He.ga K x)) && (decide (PySem.W.subIn K (.ref (He.ga K x)) (.type "BaseException") = some true) && (decide (PySem.W.typeIn K (.ref (He.ga K x)) = some (.type "type")) && decide (PySem.W.exmOne K (.ref (He.ga K x)) (.ref (He.ga K x)) = some true))))
theorem ex0_ok {K : PySem.W.Frag} {mg : Str → Option Value} {x : Str} {n : String} (hn : n = "RuntimeError" ∨ n = "ValueError") (gl : mg x = some (.ref (He.ga K x))) (h : ex0B K x n = true) : Ex0 K mg x (He.ga K x) := by
  unfold ex0B at h
  simp only [Bool.and_eq_true, decide_eq_true_eq] at h
  obtain ⟨h1, h2, h3, h4, h5⟩ := h
  refine ⟨?_, gl, h2, h3, h4, h5⟩
  rcases hn with rfl | rfl
  · exact ⟨_, _, _, _, PySem.F.excBase_RuntimeError, h1⟩
  · exact ⟨_, _, _, _, PySem.F.excBase_ValueError, h1⟩
theorem ps_raise0 {C : Addr} (hc : X.calm = true) (T : Ex0 X.K X.mg x C) (tk : Takes X W) (hg : Gl X x) (hdb : (x == ("__debug__" : Str)) = false := by decide) : PS X (.Raise (some (.Call (.Name x p) [] [] pos)) none p2) (tRaise0 C W) := by
  obtain ⟨bmB, B, newId, initId, F, q⟩ := T.ex
  exact ps_raise hc tk (pmk_none F q T.gl T.kp (raises_own T.sub T.ty) hg hdb)
end
end Pw
set_option Elab.async false
set_option linter.all false
set_option maxRecDepth 100000
set_option maxHeartbeats 1000000
/-! Pw72: for k in d: over a dict of whole numbers; d[k]; a def that lays a dict of dicts. -/
namespace Pw
open PySem PySem.Spec PyProof.Rows L2
/-! ### a dict frozen and free again -/
structure SameD (d : Addr) (l : List (Key × V)) (H H' : Hp) : Prop where
  ne : ∀ a, a ≠ d → H' a = H a
  h1 : Rd H d (.dK l)
  h2 : Rd H' d (.dK l)
def NotD (u : HO) : Prop := (∀ l, u ≠ .dK l) ∧ ∀ o l, u ≠ .frz o (.dK l)
section
variable {d : Addr} {l : List (Key × V)} {H H' : Hp} {w : Wd} {M : Av}
theorem SameD.at (s : SameD d l H H') {a : Addr} {u : HO} (e : H a = some u) (n : NotD u) : H' a = some u := by
  have z : a ≠ d := fun z => by
    subst z
    rcases s.h1 with q | ⟨o, q⟩
    · rw [e] at q
      exact n.1 _ (Option.some.inj q)
    · rw [e] at q
      exact n.2 _ _ (Option.some.inj q)
  rw [s.ne a z]
  exact e
theorem SameD.rd (s : SameD d l H H') {a : Addr} {u : HO} (e : Rd H a u) (n : NotD u) (n2 : ∀ o, NotD (.frz o u)) : Rd H' a u := by
  rcases e with e | ⟨o, e⟩
  · exact .inl (s.at e n)
  · exact .inr ⟨o, s.at e (n2 o)⟩
theorem nd_lst {xs : List V} : NotD (.lst xs) := ⟨fun _ z => (by cases z), fun _ _ z => (by cases z)⟩
theorem nd_tup {xs : List V} : NotD (.tup xs) := ⟨fun _ z => (by cases z), fun _ _ z => (by cases z)⟩
theorem nd_ins {C dx : Addr} {fs : List (Str × V)} : NotD (.ins C dx fs) := ⟨fun _ z => (by cases z), fun _ _ z => (by cases z)⟩
theorem nd_tbl {ps : Array Value} : NotD (.tbl ps) := ⟨fun _ z => (by cases z), fun _ _ z => (by cases z)⟩
theorem nd_code {c : Addr} {q : Str} : NotD (LamX.CodeO c q) := by
  unfold LamX.CodeO
  exact ⟨fun _ z => (by cases z), fun _ _ z => (by cases z)⟩
theorem nd_flst {o : Obj} {xs : List V} : NotD (.frz o (.lst xs)) := ⟨fun _ z => (by cases z), fun _ _ z => (by cases z)⟩
theorem nd_ftup {o : Obj} {xs : List V} : NotD (.frz o (.tup xs)) := ⟨fun _ z => (by cases z), fun _ _ z => (by cases z)⟩
mutual
theorem Den.same (s : SameD d l H H') : ∀ (x : D) (v : V), Den w M H v x → Den w M H' v x
  | .non, _, h => by cases h; exact .non
  | .bl b, _, h => by cases h; exact .bl b
  | .int i, _, h => by cases h; exact .int i
  | .str x, _, h => by cases h; exact .str x
  | .pot, _, h => by cases h with | pot e => exact .pot e
  | .rep p, _, h => by cases h; exact .rep p
  | .cls p, _, h => by cases h; exact .cls p
  | .ty p, _, h => by cases h; exact .ty p
  | .scr p, _, h => by cases h with | scr e => exact .scr (e.imp (fun e => ⟨e.1, s.rd e.2 nd_lst fun _ => nd_flst⟩) id)
  | .fn _ _ _, _, h => by cases h with | fn e => exact .fn e
  | .dic p, _, h => by
    cases h with
    | @dic a _ n e =>
      refine .dic n ?_
      by_cases z : a = d
      · subst z
        have el : l = p.map fun q => (q.1, V.int q.2) := by
          rcases s.h1 with q | ⟨o, q⟩ <;> rcases e with e | ⟨o2, e⟩ <;> (rw [q] at e; cases e <;> rfl)
        rw [← el]
        exact s.h2
      · rcases e with e | ⟨o, e⟩
        · exact .inl ((s.ne a z).trans e)
        · exact .inr ⟨o, (s.ne a z).trans e⟩
  | .lst ds, _, h => by cases h with | lst t r => exact .lst ⟨t.1, s.at t.2 nd_lst⟩ (Dens.same s ds _ r)
  | .tup ds, _, h => by cases h with | tup t r => exact .tup (t.imp (fun e => ⟨e.1, s.rd e.2 nd_tup fun _ => nd_ftup⟩) id) (Dens.same s ds _ r)
  | .ins c ns ds, _, h => by cases h with | ins n e l r it => exact .ins n (s.at e nd_ins) l (Dens.same s ds _ r) it
theorem Dens.same (s : SameD d l H H') : ∀ (ds : List D) (vs : List V), Dens w M H vs ds → Dens w M H' vs ds
  | [], _, h => by cases h; exact .nil
  | x :: ds, _, h => by cases h with | cons a b => exact .cons (Den.same s x _ a) (Dens.same s ds _ b)
end
theorem SameD.latX {q : Option Addr} (s : SameD d l H H') : LatX q H H' := fun a o _ _ e => by
  by_cases z : a = d
  · subst z
    rcases s.h1 with x | ⟨b, x⟩ <;> rcases s.h2 with y | ⟨b', y⟩ <;> (rw [x] at e; cases e)
    · exact ⟨_, y, .inl rfl⟩
    · exact ⟨_, y, .inr ⟨l, .inl rfl, .inr ⟨b', rfl⟩⟩⟩
    · exact ⟨_, y, .inr ⟨l, .inr ⟨b, rfl⟩, .inl rfl⟩⟩
    · exact ⟨_, y, .inr ⟨l, .inr ⟨b, rfl⟩, .inr ⟨b', rfl⟩⟩⟩
  · exact ⟨o, (s.ne a z).trans e, .inl rfl⟩
theorem SameD.pot (s : SameD d l H H') (h : PotOk w H) : PotOk w H' := by
  refine ⟨fun p hp => let ⟨a, b, e, r⟩ := h.pot p hp; ⟨a, b, s.at e nd_lst, r⟩, fun p hp => ?_, w.pot.st _ _ s.latX h.ok⟩
  obtain ⟨ps, h1, h2, h3⟩ := h.tab p hp
  refine ⟨ps, s.at h1 nd_tbl, h2, fun pos cv hc => ?_⟩
  obtain ⟨c, e1, e2⟩ := h3 pos cv hc
  exact ⟨c, e1, s.at e2 nd_code⟩
theorem Rel.same {O : List Nat} {A : Av} {H0 H0' : Hp} {σ : L2.St} {ρ : Env} (R : Rel w O A H0 M σ H ρ) (s : SameD d l H H') (nM : ¬ M d) (k : Step w H0' H') (kp : PotOk w H0') (kn : ∀ a, M a → A a ∨ H0' a = none) : Rel w O A H0' M σ H' ρ := by
  refine ⟨R.len, k, ⟨R.pot.pa, kp⟩, R.av, kn, fun a z => LB.keep (fun o e => ?_) (R.isL a z), fun i x e n => ?_, fun i x e n => ?_, R.sep⟩
  · rw [s.ne a fun q => nM (q ▸ z)]
    exact e
  · obtain ⟨v, e1, h⟩ := R.sh i x e n
    exact ⟨v, e1, Den.same s _ _ h⟩
  · rcases R.ow i x e n with z | ⟨p, vs, ds, z1, z2, z3, z4, z5, z6⟩
    · exact .inl z
    · exact .inr ⟨p, vs, ds, z1, z2, z3, z4, s.at z5 nd_lst, Dens.same s _ _ z6⟩
end
/-! ### the loop -/
def keyD : Key → D
  | .inl i => .int i
  | .inr z => .str z
section
variable {m : Type → Type} [Md m] {w : Wd} {O Ob : List Nat} {κ b : Bool} {js : List Nat} {g : TG} {tg : Env → D → Option Env} {tb : TS} {fb : Env → m Rs}
def dicAt (ρ : Env) (i : Nat) : Option (List D) := match gG ρ i with
  | some (.dic kvs) => some (kvs.map fun q => keyD q.1)
  | _ => none
def sForDic (i : Nat) (tg : Env → D → Option Env) (fb : Env → m Rs) : Env → m Rs := fun ρ => Md.bind (Md.lift (dicAt ρ i)) fun ks => loopF tg fb ks ρ
/-- for k in d: d is frozen in between -/
def tLockOr (t : TS) : TS := fun D σ H => tLock t D σ H ∨ t D σ H
/-! ### d[k] -/
def dDicIx (x k : D) : Option D := match x with
  | .dic kvs => (dKey k).bind (lookK kvs)
  | _ => none
end
/-! ### a def that lays a dict of dicts -/
def tDk (kvs : List (Key × Int)) : TE := tDisp (kvs.map fun q => (tC (kV q.1), tC (.int q.2)))
def okDk (kvs : List (Key × Int)) : Prop := ((kvsV kvs).map (·.1)).Nodup ∧ kvs.length ≤ 15
instance (kvs : List (Key × Int)) : Decidable (okDk kvs) := by unfold okDk; exact inferInstance
def tKindD (prs : List (Int × List (Key × Int))) (c : Int) (l : List (Key × Int)) : TS := tSeq (tAsg (tDisp (prs.map fun q => (tC (.int q.1), tDk q.2))) (gName 1)) (tSeq (sDPut (tVar 1) (tC (.int c)) (tDk l)) (tRet (tDGet (tVar 1) (tVar 0))))
def lookD (prs : List (Int × List (Key × Int))) (n : Int) : Option (List (Key × Int)) := (prs.find? fun q => decide (q.1 = n)).map (·.2)
def S_dictOf (prs : List (Int × List (Key × Int))) : List D → Option D
  | [.int n] => (lookD prs n).map fun is => .dic is
  | _ => none
/-- entries whose lists lie at new places -/
inductive LaidD (H0 H : Hp) : List (Int × List (Key × Int)) → List (Key × V) → Prop
  | nil : LaidD H0 H [] []
  | cons {q : Int × List (Key × Int)} {a : Addr} {prs : List (Int × List (Key × Int))} {kvs : List (Key × V)} : H0 a = none → H a = some (.dK (kvsV q.2)) → LaidD H0 H prs kvs → LaidD H0 H (q :: prs) ((.inl q.1, .ref a) :: kvs)
theorem LaidD.ext {H0 H H' : Hp} {prs : List (Int × List (Key × Int))} {kvs : List (Key × V)} (l : LaidD H0 H prs kvs) (k : ∀ a xs, H a = some (.dK xs) → H' a = some (.dK xs)) : LaidD H0 H' prs kvs := by
  induction l with
  | nil => exact .nil
  | cons h1 h2 _ ih => exact .cons h1 (k _ _ h2) ih
theorem LaidD.len {H0 H : Hp} {prs : List (Int × List (Key × Int))} {kvs : List (Key × V)} (l : LaidD H0 H prs kvs) : kvs.length = prs.length := by
  induction l with
  | nil => rfl
  | cons h1 h2 _ ih => exact congrArg (· + 1) ih
theorem LaidD.keys {H0 H : Hp} {prs : List (Int × List (Key × Int))} {kvs : List (Key × V)} (l : LaidD H0 H prs kvs) : kvs.map (·.1) = prs.map fun q => (.inl q.1 : Key) := by
  induction l with
  | nil => rfl
  | cons h1 h2 _ ih => exact congrArg _ ih
end Pw
set_option Elab.async false
set_option linter.all false
set_option maxRecDepth 100000
set_option maxHeartbeats 1000000
/-! Pw73: constants that are tuples of tuples; 'x'.join(..). -/
namespace Pw
open PySem PySem.Spec PyProof.Rows L2
/-! ### a constant of the module: tuples of whole numbers, texts and tuples -/
def conAll (f : D → Value → Bool) : List D → List Value → Bool
  | [], [] => true
  | d :: ds, u :: us => f d u && conAll f ds us
  | _, _ => false
def conB (K : PySem.W.Frag) : Nat → D → Value → Bool
  | 0, _, _ => false
  | n + 1, d, u => match d, u with
    | .int i, .int j _ => decide (i = j)
    | .str x, .str y _ => decide (x = y)
    | .tup ds, .ref a => match K.lookup a with
      | some ⟨.type c, _, .seq its _, _⟩ => decide (c = "tuple") && (decide (its.size ≤ sizeLine) && conAll (conB K n) ds its.toList)
      | _ => false
    | _, _ => false
structure GCon (K : PySem.W.Frag) (mg : Str → Option Value) (x : Str) (d : D) : Prop where
  mg : mg x = some (.ref (He.ga K x))
  den : ∀ (w : Wd), w.K = K → ∀ M H, Den w M H (.ref (He.ga K x)) d
section
variable {m : Type → Type} [Md m] {w : Wd} {O : List Nat} {b1 : Bool} {ta tb : TE} {fa fb : Env → m D}
/-! ### 'x'.join(..) -/
def rJoin (K : PySem.W.Frag) : V → List V → Hp → VK → Prop := fun x xs H Q => ∃ a p, ∃ ys : List Str, x = .str a ∧ xs = [.ref p] ∧ (SqL K H p (ys.map V.str) ∨ SqT K H p (ys.map V.str)) ∧
    (ys.map (·.length)).sum + ys.length * a.length ≤ 16777216 ∧ Q (.str (Txt.join a ys)) H
def strsOf : List D → Option (List Str)
  | [] => some []
  | .str y :: r => (strsOf r).map (y :: ·)
  | _ => none
def asStr : D → Option Str
  | .str a => some a
  | _ => none
def dJoin (a : Str) (y : D) : Option D := match (y.items).bind strsOf with
  | some ys => match decide ((ys.map (·.length)).sum + ys.length * a.length ≤ 16777216) with
    | true => some (.str (Txt.join a ys))
    | false => none
  | none => none
def pJoinS (fa fb : Env → m D) : Env → m D := fun ρ => Md.bind (fa ρ) fun x => Md.bind (Md.lift (asStr x)) fun a => Md.bind (fb ρ) fun y => Md.lift (dJoin a y)
/-! ### a slice of a text, int of a text -/
variable {tl th : TO} {fl fh : Env → m (Option Int)}
def dSlT : D → Option Int → Option Int → Option D
  | .str z, lo, hi => match decide (z.length ≤ 1000000) with
    | true => some (.str (cutS z lo hi))
    | false => none
  | _, _, _ => none
def rIntS : List V → Hp → VK → Prop := fun xs H Q => ∃ a n, xs = [.str a] ∧ PySem.intText? a = some n ∧ a.length ≤ 640 ∧ Q (.int n) H
def dIntS : List D → Option D
  | [.str a] => match decide (a.length ≤ 640) with
    | true => (PySem.intText? a).map .int
    | false => none
  | _ => none
end
end Pw
set_option Elab.async false
set_option linter.all false
set_option maxRecDepth 100000
set_option maxHeartbeats 1000000
/-! Pw74: defs that end or raise: both rows at once; blocks with several statements that may raise. -/
namespace Pw
open PySem PySem.Spec PyProof.Rows L2
/-- both promises of a def: it ends as spec says, or it raises as x says -/
def SpE (K : PySem.W.Frag) (cl : Cl) (m : Type → Type) [Md m] (κ : Bool) (j : Nat) (spec : List D → m D) (x : List D → Option Er) : Sp := fun vs H Q E => SpD K cl m κ j spec vs H Q E ∨ SpX K cl j x vs H Q E
section
variable {P : Program} {w : World} {K : PySem.W.Frag} {mg : Str → Option Value} {base : Heap} {CX : CXT} {k : Nat} {f : Addr} {fd : FuncData} {ps : List Str} {sp sp1 sp2 : Sp}
theorem FnG.or (F1 : FnG P w K mg base CX k f fd ps sp1) (F2 : FnG P w K mg base CX k f fd ps sp2) : FnG P w K mg base CX k f fd ps (fun vs H Q E => sp1 vs H Q E ∨ sp2 vs H Q E) :=
  ⟨fun vs H Q E h => h.elim (F1.many vs H Q E) (F2.many vs H Q E), fun B out z H args us vs Q E hg hr e0 hb r h => h.elim (F1.does B out z H args us vs Q E hg hr e0 hb r) (F2.does B out z H args us vs Q E hg hr e0 hb r)⟩
/-- a def that lets none out stands where errors are let -/
theorem FnG.toX (F : FnG P w K mg base CX0 k f fd ps sp) : FnG P w K mg base (L2.CX P w) k f fd ps sp :=
  ⟨F.many, fun B out z H args us vs Q E hg hr e0 hb r h => codeAny_mono (F.does B out z H args us vs Q E hg hr e0 hb r h) fun r z' hq => match r, hq with
    | .ok (.ret _), hq => hq
    | .ok .next, hq => hq
    | .ok .brk, hq => hq
    | .ok .cont, hq => hq
    | .error _, hq => False.elim hq⟩
end
section
variable {m : Type → Type} [Md m] {w : Wd} {O O1 : List Nat} {κ : Bool} {j : Nat} {t : TA} {fr : Env → m (List D)} {spec : List D → Option D} {x : List D → Option Er} {E : L2.St → XK}
/-- a call that ends -/
theorem sim_goE [Up Option m] (ha : ArN m w O true j t fr) : Sim m w O true (tGoX (SpE w.K w.cl Option false j spec x) E t) (pGo spec fr) := fun A H0 M σ H ρ Q R q => by
  refine ha A H0 M σ H ρ _ R (Md.wp_mono (fun ds q1 vs H1 k1 l1 d1 => ?_) (Md.wp_bind q))
  exact .inl ⟨l1, w.pot, M, ds, d1.safe, R.pm, (R.go k1).isL, (R.go k1).potOk, Md.wp_mono (fun d z v H' k r => z v H' (k1.trans k) r) (Up.ok q1)⟩
/-- a call that raises -/
theorem xe_goE {fr : Env → Option (List D)} (ha : ArN Option w O true j t fr) : Xe w O (fun W => tGoX (SpE w.K w.cl Option κ j spec x) (WE W) t) (xGo x fr) := fun A H0 M σ H ρ W Q e R q hw => by
  unfold xGo at q
  split at q
  · rename_i ds e1
    refine ha A H0 M σ H ρ _ R ⟨_, e1, fun vs H1 k1 l1 d1 => ?_⟩
    exact .inr ⟨l1, w.pot, M, ds, d1.safe, R.pm, (R.go k1).isL, (R.go k1).potOk, e, q, fun cls d H' k r => hw _ _ _ (k1.trans k) r⟩
  · cases q
/-- a statement that may raise ahead of others that may -/
def xTwo (fs : Env → Option Rs) (f1 f2 : Env → Option Er) : Env → Option Er := fun ρ => match f1 ρ with
  | some e => some e
  | none => match fs ρ with
    | some (.nx ρ') => f2 ρ'
    | _ => none
/-- the raising of an argument: the first one, a later one -/
def xArg (f1 : Env → Option Er) (fa : Env → Option D) (f2 : Env → Option Er) : Env → Option Er := fun ρ => match f1 ρ with
  | some e => some e
  | none => match fa ρ with
    | some _ => f2 ρ
    | none => none
/-- arguments that raise -/
def Xa (w : Wd) (O : List Nat) (t : WX → TA) (fx : Env → Option Er) : Prop := ∀ (A : Av) (H0 : Hp) (M : Av) (σ : L2.St) (H : Hp) (ρ : Env) (W : WX) (Q : List V → Hp → Prop) (e : Er), Rel w O A H0 M σ H ρ → fx ρ = some e →
  (∀ cls d H', Step w H H' → ErrD w M H' e cls d → W cls d σ H') → t W σ H Q
theorem xa_cons {b : Bool} {ta : WX → TE} {tr : WX → TA} {fa : Env → Option D} {f1 f2 : Env → Option Er} (hn : ∀ W, Sim Option w O b (ta W) fa) (h1 : Xe w O ta f1) (h2 : Xa w O tr f2) : Xa w O (fun W => tCons (ta W) (tr W)) (xArg f1 fa f2) := fun A H0 M σ H ρ W Q e R q hw => by
  unfold xArg at q
  split at q
  · rename_i e1 q1
    cases q
    exact h1 A H0 M σ H ρ W _ e R q1 hw
  · split at q
    · rename_i d e1
      exact hn W A H0 M σ H ρ _ R ⟨_, e1, fun v H1 k1 d1 => h2 A H0 M σ H1 ρ W _ e (R.go k1) q fun cls d H' k r => hw cls d H' (k1.trans k) r⟩
    · cases q
theorem xa_nil : Xa w O (fun _ => tNil) xNo := fun _ _ _ _ _ _ _ _ _ _ q _ => nomatch q
/-- a call whose arguments raise -/
theorem xe_args {ta : WX → TA} {sp : Sp} {fx : Env → Option Er} (h : Xa w O ta fx) : Xe w O (fun W => tGoX sp (WE W) (ta W)) fx := fun A H0 M σ H ρ W Q e R q hw => h A H0 M σ H ρ W _ e R q hw
end
end Pw
set_option Elab.async false
set_option linter.all false
set_option maxRecDepth 100000
set_option maxHeartbeats 1000000
/-! Pw75: raise X(e): an error class over ValueError whose __init__ keeps its one parameter. -/
namespace Pw
open PySem PySem.Spec PyProof.Rows L2
/-- self.f = p, in an error's __init__ -/
def spI1 (K : PySem.W.Frag) (f : Str) : Sp := fun vs H Q _ => ∃ (a C : Addr) (y : V), vs = [.ref a, y] ∧ OexC K C ∧ PySem.W.findIn K (.ref C) f = some none ∧ H a = some (exo a C none) ∧ ∀ dx, H dx = none → dx ≠ a → Q .non (upd (upd H dx (exd dx [(f, y)])) a (exo a C (some dx)))
theorem fnok_init1 {P : Program} {w : World} {K : PySem.W.Frag} {mg : Str → Option Value} {base : Heap} {CX : CXT} {k : Nat} {x qual f : Str} {params : Arguments} {body : List Stmt} {scope : Scope} {fI : Addr} {fd : FuncData} {N ps : List Str}
    (F : FunD K x qual params body scope [] [] fI fd) (S : FnScope N ps scope) (h2 : ps.length = 2)
    (hb : ∀ (cdv : Value) (B : Around) (out : List PySem.Env) (z : Shared) (H : Hp) (E : XK), Room k (B.deeper (envOfC qual scope z.heap.objs.size fI cdv)) → PSs (cxOf CX P w K mg base N qual scope fI cdv B out z H E) body (tOst K f (tVar 0) (tVar 1))) :
    FnOk P w K mg base CX (k + 1) fI fd ps (spI1 K f) := by
  refine F.ok S (fun vs H Q E h => ?_) fun cdv A outer s H vs Q E hr h => ⟨_, hb cdv A outer s H E hr, ?_⟩
  · obtain ⟨a, C, y, rfl, _⟩ := h
    rw [h2]
    rfl
  · obtain ⟨a, C, y, rfl, T, hno, ea, q⟩ := h
    exact ⟨y, start_get rfl, .ref a, start_get rfl, a, C, rfl, T, hno, .inl ⟨ea, fun dx n ne => q dx n ne⟩⟩
/-- what the head tells of such a class, its __init__ walked -/
structure Ex1 (P : Program) (w : World) (K : PySem.W.Frag) (mg : Str → Option Value) (base : Heap) (k : Nat) (x f : Str) (C : Addr) : Prop where
  T : OexC K C
  no : PySem.W.findIn K (.ref C) f = some none
  gl : mg x = some (.ref C)
  ini : ∃ (fI : Addr) (fd : FuncData) (ps : List Str), PySem.W.findIn K (.ref C) "__init__" = some (some (.ref fI)) ∧ PySem.W.typeIn K (.ref fI) = some (.type "function") ∧ FnOk P w K mg base CX0 k fI fd ps (spI1 K f) ∧ Binds K fd ps []
  me : PySem.W.exmOne K (.ref C) (.ref C) = some true
/-- X(e) raised -/
def tRaise1 (K : PySem.W.Frag) (C : Addr) (f : Str) (te : TE) (W : WX) : TS := fun _ σ H => tMkO C (spI1 K f) [] (tCons te tNil) σ H fun cls d H' => W cls d σ H'
theorem ps_raise1 {X : Cx} {W : WX} {k : Nat} {x f : Str} {C : Addr} {e : Expr} {te : TE} {p pos p2 : Pos} (hc : X.calm = true) (T : Ex1 X.prog X.w X.K X.mg X.base k x f C) (hr : Room (k + 1) X.A) (tk : Takes X W) (hg : Gl X x) (he : PE X e te)
    (hdb : (x == ("__debug__" : Str)) = false := by decide) (hs : starEach [e] X.env = (false, eval e X.env) :: starEach [] X.env := by rfl) : PS X (.Raise (some (.Call (.Name x p) [e] [] pos)) none p2) (tRaise1 X.K C f te W) := by
  obtain ⟨fI, fd, ps, iC, tI, F, hb⟩ := T.ini
  exact ps_raise hc tk (pmk_oex T.T iC tI F hr hb .nil (fun _ _ _ _ _ _ _ z => False.elim z) hg T.gl (pa_cons he pa_nil (hs := hs)) hdb hs rfl)
section
variable {w : Wd} {O : List Nat} {te : TE} {fe : Env → Option D}
def xRaise1 (c f : Str) (fe : Env → Option D) : Env → Option Er := fun ρ => (fe ρ).map fun d => ⟨c, [(f, d)]⟩
theorem xs_raise1 (c f : Str) (T : OexC w.K (w.cl c)) (hno : PySem.W.findIn w.K (.ref (w.cl c)) f = some none) (h : Sim Option w O true te fe) : Xsm w O (tRaise1 w.K (w.cl c) f te) (xRaise1 c f fe) := fun A H0 M σ H ρ W E e R q hw => by
  obtain ⟨d, e1, rfl⟩ := Option.map_eq_some_iff.mp q
  refine h A H0 M σ H ρ _ R ⟨d, e1, fun v H1 k1 d1 => ⟨by simp, fun a na => ⟨a, w.cl c, v, rfl, T, hno, upd_same, fun dx n ne => ?_⟩⟩⟩
  have n1 : H1 dx = none := by rwa [upd_ne ne] at n
  refine ⟨rfl, dx, [(f, v)], upd_same, by rw [upd_ne ne]; exact upd_same, n1, ?_⟩
  have eH : upd (del (upd (upd (upd H1 a (exo a (w.cl c) none)) dx (exd dx [(f, v)])) a (exo a (w.cl c) (some dx))) a) dx (.xd [(f, v)]) = upd H1 dx (.xd [(f, v)]) := by
    funext b
    by_cases q1 : b = dx
    · rw [q1, upd_same, upd_same]
    · rw [upd_ne q1, upd_ne q1]
      by_cases q2 : b = a
      · rw [q2, del_same, na]
      · rw [del_ne q2, upd_ne q2, upd_ne q1, upd_ne q2]
  rw [eH]
  have R1 := R.go k1
  have k2 : Step w H1 (upd H1 dx (.xd [(f, v)])) := Step.new n1
  refine hw _ _ _ _ ((R.step.trans k1).trans k2) ⟨rfl, .inr ⟨dx, [v], rfl, fun z => R1.fresh n1 (R.av _ z), upd_same, ?_⟩⟩
  exact Dens.weak R.av _ _ (Dens.lat (lat_upd n1) _ _ (.cons d1 .nil))
end
/-! ### what the head shows of such a class -/
def oexO (K : PySem.W.Frag) (C : Addr) : Bool := match K.lookup C with
  | some ⟨.type "type", _, .cls cd, sl⟩ => (match cd.mro, sl.toList with
    | .ref C' :: bm, [_, _, _, _, some (.builtin n), _] => C' == C && n == "ValueError.__new__" && !cd.hasDel && cd.hasDict && PySem.HandSPX.refsVE bm
    | _, _ => false)
  | _ => false
theorem oexO_ok {K : PySem.W.Frag} {C : Addr} (q : oexO K C = true) : ∃ nm q N bs bm sn sub ab col dd k0 k1 k2 k3 k5, K.lookup C = some (excClassObj nm q C N bs bm true sn sub ab col dd k0 k1 k2 k3 k5 "ValueError.__new__") ∧ PySem.HandSPX.refsVE bm = true := by
  unfold oexO at q
  split at q
  · rename_i dd cd sl ho
    split at q
    · rename_i C' bm k0 k1 k2 k3 n k5 hm hs
      simp only [Bool.and_eq_true, beq_iff_eq, Bool.not_eq_true'] at q
      obtain ⟨⟨⟨⟨rfl, rfl⟩, hdel⟩, hdct⟩, ht⟩ := q
      obtain ⟨nm, bs, mro, ns, qn, hd, sn, sub, ab, col, del⟩ := cd
      dsimp only at hm hdel hdct
      subst hm hdel hdct
      have hsl : sl = #[k0, k1, k2, k3, some (.builtin "ValueError.__new__"), k5] := by
        obtain ⟨l⟩ := sl
        simp only at hs
        rw [hs]
      subst hsl
      exact ⟨nm, qn, ns, bs, bm, sn, sub, ab, col, dd, k0, k1, k2, k3, k5, ho, ht⟩
    · cases q
  · cases q
def oexB (K : PySem.W.Frag) (C : Addr) (f : Str) : Bool := oexO K C && (decide (PySem.W.findIn K (.ref C) "__setattr__" = some (some (.builtin "object.__setattr__"))) && (decide (PySem.W.subIn K (.ref C) (.type "BaseException") = some true) && (decide (PySem.W.typeIn K (.ref C) = some (.type "type")) && (PySem.W.keepIn K (.ref C) && (decide (PySem.W.findIn K (.ref C) f = some none) && decide (PySem.W.exmOne K (.ref C) (.ref C) = some true))))))
theorem oexB_ok {K : PySem.W.Frag} {C : Addr} {f : Str} (h : oexB K C f = true) : OexC K C ∧ PySem.W.findIn K (.ref C) f = some none ∧ PySem.W.exmOne K (.ref C) (.ref C) = some true := by
  unfold oexB at h
  simp only [Bool.and_eq_true, decide_eq_true_eq] at h
  obtain ⟨h1, h2, h3, h4, h5, h6, h7⟩ := h
  exact ⟨⟨oexO_ok h1, h2, h3, h4, h5⟩, h6, h7⟩
end Pw
set_option Elab.async false
set_option linter.all false
set_option maxRecDepth 100000
set_option maxHeartbeats 1000000
/-! Pw76: lambdas: cells that are known for the time of a call; what the call of a lambda does. -/
namespace Pw
open PySem PySem.Spec PyProof.Rows L2
/-! ### cells that are known -/
def CellX (c : Addr) (o : Obj) : HO := .ext fun h => h.get? c = some o
def trk (cs : List (Addr × Obj)) (H : Hp) : Hp := fun b => match cs.lookup b with
  | some o => some (CellX b o)
  | none => H b
def untrk (cs : List (Addr × Obj)) (H : Hp) : Hp := fun b => match cs.lookup b with
  | some _ => none
  | none => H b
section
variable {cs : List (Addr × Obj)} {H H' : Hp} {P : Program} {w : World} {h h' : Heap} {b : Addr} {o : Obj} {fs : List Addr}
theorem trk_in (e : cs.lookup b = some o) : trk cs H b = some (CellX b o) := by
  unfold trk
  rw [e]
theorem trk_out (e : cs.lookup b = none) : trk cs H b = H b := by
  unfold trk
  rw [e]
theorem untrk_in (e : cs.lookup b = some o) : untrk cs H b = none := by
  unfold untrk
  rw [e]
theorem untrk_out (e : cs.lookup b = none) : untrk cs H b = H b := by
  unfold untrk
  rw [e]
theorem cellx_ext {c : Addr} {o : Obj} {u : HO} (h : ∀ φ, u ≠ .ext φ) : CellX c o ≠ u := fun z => h _ z.symm
theorem trk_none (f : ∀ b o, cs.lookup b = some o → H b = none) {u : HO} (e : H b = some u) : cs.lookup b = none := by
  cases z : cs.lookup b with
  | none => rfl
  | some o => rw [f b o z] at e; cases e
theorem trk_old (f : ∀ b o, cs.lookup b = some o → H b = none) {u : HO} (e : H b = some u) : trk cs H b = some u := (trk_out (trk_none f e)).trans e
theorem trk_hok (ok : HOk P w H h) (f : ∀ b o, cs.lookup b = some o → H b = none ∧ h.get? b = some o) : HOk P w (trk cs H) h := fun a u e => by
  cases z : cs.lookup a with
  | some o =>
    rw [trk_in z] at e
    cases e
    exact ⟨(f a o z).2, ⟨o, (f a o z).2⟩, fun h1 h2 q k => k _ q⟩
  | none =>
    rw [trk_out z] at e
    exact (ok a u e).stay (fun _ _ _ q => q) (fun c q => trk_old (fun b o e => (f b o e).1) q) fun c xs q => trk_old (fun b o e => (f b o e).1) q
theorem known_at (ok : HOk P w H h) (e : H b = some (CellX b o)) : h.get? b = some o := by
  have z := ok b _ e
  exact z.1
theorem untrk_some {u : HO} (e : untrk cs H b = some u) : H b = some u ∧ cs.lookup b = none := by
  cases z : cs.lookup b with
  | some o => rw [untrk_in z] at e; cases e
  | none => exact ⟨by rwa [untrk_out z] at e, rfl⟩
theorem untrk_keep (f : ∀ b o, cs.lookup b = some o → H b = some (CellX b o)) {u : HO} (hu : ∀ φ, u ≠ .ext φ) (e : H b = some u) : untrk cs H b = some u := by
  cases z : cs.lookup b with
  | some o =>
    rw [f b o z] at e
    exact absurd (Option.some.inj e) (cellx_ext hu)
  | none => rw [untrk_out z]; exact e
theorem untrk_hok (ok : HOk P w H h) (f : ∀ b o, cs.lookup b = some o → H b = some (CellX b o)) : HOk P w (untrk cs H) h := fun a u e =>
  (ok a u (untrk_some e).1).stay (fun _ _ _ q => q) (fun c q => untrk_keep f (fun _ z => nomatch z) q) fun c xs q => untrk_keep f (fun _ z => nomatch z) q
/-- back in the frame whose cells they are -/
theorem un_back (f : ∀ b o, cs.lookup b = some o → H b = none) (ok : HOk P w (trk cs H) h) (ok' : HOk P w H' h') (g : ∀ b o, cs.lookup b = some o → H' b = some (CellX b o)) (u : Un fs [] (trk cs H) H' h h') : Un fs [] H (untrk cs H') h h' := by
  have same : ∀ b o, cs.lookup b = some o → ∀ q, h.get? b = some q → h'.get? b = some q := fun b o e q eq => by
    have e1 := known_at ok (trk_in (H := H) e)
    rw [eq] at e1
    cases e1
    exact known_at ok' (g b _ e)
  refine ⟨fun b q e n hb hx => ?_, fun b q e n hb hx => ?_, fun b q e n hx => ?_, fun b q e hx => u.there b q e hx, fun b xs e => ?_, fun b ob xs e => ?_, fun b ps e => ?_⟩
  · cases z : cs.lookup b with
    | some o => exact same b o z q e
    | none => exact u.keep b q e ((trk_out z).trans n) hb hx
  · cases z : cs.lookup b with
    | some o => exact ⟨q.slots, same b o z q e⟩
    | none => exact u.slot b q e ((trk_out z).trans n) hb hx
  · cases z : cs.lookup b with
    | some o => exact untrk_in z
    | none => exact (untrk_out z).trans (u.free b q e ((trk_out z).trans n) hx)
  · have z := trk_none f e
    exact (untrk_out z).trans (u.tups b xs ((trk_out z).trans e))
  · have z := trk_none f e
    exact (untrk_out z).trans (u.frzs b ob xs ((trk_out z).trans e))
  · have z := trk_none f e
    obtain ⟨more, q⟩ := u.tbls b ps ((trk_out z).trans e)
    exact ⟨more, (untrk_out z).trans q⟩
/-- a call under which the cells were let go -/
theorem un_again (g : ∀ b o, cs.lookup b = some o → H b = some (CellX b o)) (ok : HOk P w H h) (nf : ∀ b o, cs.lookup b = some o → b ∉ fs) (ok' : HOk P w H' h') (u : Un fs [] (untrk cs H) H' h h') : Un fs [] H (trk cs H') h h' ∧ HOk P w (trk cs H') h' := by
  have fr : ∀ b o, cs.lookup b = some o → H' b = none ∧ h'.get? b = some o := fun b o e => by
    have e1 := known_at ok (g b o e)
    exact ⟨u.free b o e1 (untrk_in e) (by simp), u.keep b o e1 (untrk_in e) (nf b o e) (by simp)⟩
  have out : ∀ {b}, H b = none → cs.lookup b = none := fun {b} n => by
    cases z : cs.lookup b with
    | none => rfl
    | some o => rw [g b o z] at n; cases n
  have out2 : ∀ {b v}, H b = some v → (∀ φ, v ≠ .ext φ) → cs.lookup b = none := fun {b v} n hv => by
    cases z : cs.lookup b with
    | none => rfl
    | some o =>
      rw [g b o z] at n
      exact absurd (Option.some.inj n) (cellx_ext hv)
  refine ⟨⟨fun b q e n hb hx => u.keep b q e ((untrk_out (out n)).trans n) hb hx, fun b q e n hb hx => u.slot b q e ((untrk_out (out n)).trans n) hb hx, fun b q e n hx => ?_, fun b q e hx => u.there b q e hx, fun b xs e => ?_, fun b ob xs e => ?_, fun b ps e => ?_⟩, trk_hok ok' fr⟩
  · exact (trk_out (out n)).trans (u.free b q e ((untrk_out (out n)).trans n) hx)
  · have z := out2 e (fun _ z => nomatch z)
    exact (trk_out z).trans (u.tups b xs ((untrk_out z).trans e))
  · have z := out2 e (fun _ z => nomatch z)
    exact (trk_out z).trans (u.frzs b ob xs ((untrk_out z).trans e))
  · have z := out2 e (fun _ z => nomatch z)
    obtain ⟨more, q⟩ := u.tbls b ps ((untrk_out z).trans e)
    exact ⟨more, (trk_out z).trans q⟩
theorem ub_again {B : Heap} (g : ∀ b o, cs.lookup b = some o → H b = some (CellX b o)) (ok : HOk P w H h) (nf : ∀ b o, cs.lookup b = some o → b ∉ fs) (ok' : HOk P w H' B) (u : UB fs (untrk cs H) H' h B h') : UB fs H (trk cs H') h B h' ∧ HOk P w (trk cs H') B ∧ ∀ b o, cs.lookup b = some o → B.get? b = some o := by
  have fr : ∀ b o, cs.lookup b = some o → H' b = none ∧ B.get? b = some o := fun b o e => by
    have e1 := known_at ok (g b o e)
    exact ⟨u.free b o e1 (untrk_in e), u.keep b o e1 (untrk_in e) (nf b o e)⟩
  have out : ∀ {b}, H b = none → cs.lookup b = none := fun {b} n => by
    cases z : cs.lookup b with
    | none => rfl
    | some o => rw [g b o z] at n; cases n
  have out2 : ∀ {b v}, H b = some v → (∀ φ, v ≠ .ext φ) → cs.lookup b = none := fun {b v} n hv => by
    cases z : cs.lookup b with
    | none => rfl
    | some o =>
      rw [g b o z] at n
      exact absurd (Option.some.inj n) (cellx_ext hv)
  refine ⟨⟨fun b q e n hb => u.keep b q e ((untrk_out (out n)).trans n) hb, fun b q e hb => u.slot b q e hb, fun b q e n => ?_, fun b q e hx => u.there b q e hx, fun b xs e => ?_, fun b ob xs e => ?_, fun b ps e => ?_⟩, trk_hok ok' fr, fun b o e => (fr b o e).2⟩
  · exact (trk_out (out n)).trans (u.free b q e ((untrk_out (out n)).trans n))
  · have z := out2 e (fun _ z => nomatch z)
    exact (trk_out z).trans (u.tups b xs ((untrk_out z).trans e))
  · have z := out2 e (fun _ z => nomatch z)
    exact (trk_out z).trans (u.frzs b ob xs ((untrk_out z).trans e))
  · have z := out2 e (fun _ z => nomatch z)
    obtain ⟨more, q⟩ := u.tbls b ps ((untrk_out z).trans e)
    exact ⟨more, (trk_out z).trans q⟩
end
section
variable {P : Program} {w : World} {K : PySem.W.Frag} {mg : Str → Option Value} {base : Heap} {A : Around} {out : List PySem.Env} {z : Shared} {H : Hp} {cs : List (Addr × Obj)}
theorem env0_trk (e : Env0 P w K mg base A out z H) (f : ∀ b o, cs.lookup b = some o → H b = none ∧ z.heap.get? b = some o) (nb : ∀ b o, cs.lookup b = some o → base.get? b = none) (nf : ∀ b o, cs.lookup b = some o → b ∉ L2.frs out) : Env0 P w K mg base A out z (trk cs H) := by
  have out' : ∀ {b}, (∀ o, cs.lookup b ≠ some o) → cs.lookup b = none := fun {b} n => by
    cases z : cs.lookup b with
    | none => rfl
    | some o => exact absurd z (n o)
  refine ⟨e.frames, e.mod, fun b o eb => ⟨(e.bs b o eb).1, (trk_out (out' fun q hq => ?_)).trans (e.bs b o eb).2⟩, e.bsz, e.funs, fun b hb => (trk_out (out' fun q hq => nf b q hq hb)).trans (e.frf b hb), trk_hok e.hok f, e.bare⟩
  rw [nb b q hq] at eb
  cases eb
theorem env0_untrk (e : Env0 P w K mg base A out z H) (g : ∀ b o, cs.lookup b = some o → H b = some (CellX b o)) : Env0 P w K mg base A out z (untrk cs H) := by
  have no : ∀ {b}, H b = none → untrk cs H b = none := fun {b} n => by
    cases z : cs.lookup b with
    | none => exact (untrk_out z).trans n
    | some o => exact untrk_in z
  exact ⟨e.frames, e.mod, fun b o eb => ⟨(e.bs b o eb).1, no (e.bs b o eb).2⟩, e.bsz, e.funs, fun b hb => no (e.frf b hb), untrk_hok e.hok g, e.bare⟩
theorem known_fr (e : Env0 P w K mg base A out z H) {b : Addr} {o : Obj} (g : H b = some (CellX b o)) : b ∉ L2.frs out := fun hb => by
  rw [e.frf b hb] at g
  cases g
end
end Pw
set_option Elab.async false
set_option linter.all false
set_option maxRecDepth 100000
set_option maxHeartbeats 1000000
/-! Pw77: what the call of a lambda does, told of its captured names; functions that are known to a def. -/
namespace Pw
open PySem PySem.Spec PyProof.Rows L2
/-- a lambda's words, the names that it captures -/
structure Lam where
  params : Arguments
  body : Expr
  scope : Scope
  fr : List Str
def LamO (f : Addr) (L : Lam) (q : Str) (cl : List (Str × Addr)) (c : Addr) : HO := .ext fun h => ∃ (od : Option Addr) (sl : Array (Option Value)) (pm ctv : Value), h.get? f = some (⟨.type "function", od, .func (PySem.W.kla_fn "<lambda>" q L.params L.body L.scope cl pm (.ref c) ctv), sl⟩ : Obj)
abbrev Lam.nf (L : Lam) (q : Str) (cl : List (Str × Addr)) (c : Addr) : NdefX.NF := ⟨"<lambda>", q, L.params, [], L.scope, cl, c⟩
structure LamS (L : Lam) : Prop where
  sc : NdefX.NScope L.fr [] L.fr L.scope
  bind : ∀ (q : Str) (cl : List (Str × Addr)) (pm cv ctv : Value), bindArgs (PySem.W.kla_fn "<lambda>" q L.params L.body L.scope cl pm cv ctv) ⟨[], []⟩ = pure []
/-- what is wanted behind a call that does d -/
def OcP (w : Wd) (M : Av) (H : Hp) (d : D) (Q : VK) (E : XK) : Prop := match d with
  | .fn c ns ds => (c = "" → ∀ v H', Step w H H' → Q v H') ∧ (c ≠ "" → ∀ cls dd H', Step w H H' → ErrD w M H' ⟨c, ns.zip ds⟩ cls dd → E cls dd H')
  | _ => False
def SimOc (w : Wd) (t : XK → TE) (oc : Env → Option D) : Prop := ∀ (A : Av) (H0 : Hp) (M : Av) (σ : L2.St) (H : Hp) (ρ : Env) (Q : VK) (E : XK) (d : D), Rel w [] A H0 M σ H ρ → oc ρ = some d → OcP w M H d Q E → t E σ H Q
def pOc (x : Env → Option Er) (f : Env → Option D) : Env → Option D := fun ρ => match x ρ with
  | some e => if e.c = "" then none else some (.fn e.c (e.fs.map (·.1)) (e.fs.map (·.2)))
  | none => match f ρ with
    | some _ => some (.fn "" [] [])
    | none => none
theorem zip_parts : ∀ l : List (Str × D), (l.map (·.1)).zip (l.map (·.2)) = l
  | [] => rfl
  | (a, b) :: l => congrArg ((a, b) :: ·) (zip_parts l)
theorem oc_of {w : Wd} {b : Bool} {te : WX → TE} {x : Env → Option Er} {f : Env → Option D} (hn : ∀ W, Sim Option w [] b (te W) f) (hx : Xe w [] te x) : SimOc w (fun E => te fun cls d _ H => E cls d H) (pOc x f) := fun A H0 M σ H ρ Q E d R e p => by
  unfold pOc at e
  split at e
  · rename_i er e1
    by_cases hc : er.c = ""
    · rw [if_pos hc] at e; cases e
    · rw [if_neg hc] at e
      cases e
      refine hx A H0 M σ H ρ _ Q er R e1 fun cls dd H' k r => p.2 hc cls dd H' k ?_
      rw [zip_parts]
      exact r
  · split at e
    · rename_i y e1
      cases e
      exact hn _ A H0 M σ H ρ Q R ⟨y, e1, fun v H' k _ => p.1 rfl v H' k⟩
    · cases e
/-- what is shown of a lambda -/
structure LamOk (P : Program) (w : World) (K : PySem.W.Frag) (mg : Str → Option Value) (base : Heap) (cl : Cl) (k : Nat) (L : Lam) (oc : Env → Option D) : Prop where
  s : LamS L
  ex : ∃ t : XK → TE, (∀ (q : Str) (cs : List (Str × Addr)) (c f : Addr) (A : Around) (out : List PySem.Env) (z : Shared) (H : Hp) (E : XK), A.guards = some [] → Room k (A.deeper (NdefX.envF (L.nf q cs c) f z.heap.objs.size)) →
    PE (NdefX.ncx (L2.CX P w) P w K mg base L.fr (L.nf q cs c) f A out z H E) L.body (t E)) ∧ ∀ pot, SimOc ⟨K, cl, pot⟩ t oc
section
variable {P : Program} {w : World} {K : PySem.W.Frag} {mg : Str → Option Value} {base : Heap} {cl : Cl} {k : Nat} {L : Lam} {oc : Env → Option D}
theorem lam_call (Lk : LamOk P w K mg base cl k L oc) {A : Around} {out : List PySem.Env} {z : Shared} {H : Hp} {q : Str} {cs : List (Str × Addr)} {c f : Addr} {ws : List (Option V)} {Q : VK} {E : XK} {ρ : Env} {d : D} {pot : Sh} {A' M : Av} {H0 : Hp} (hr : Room (k + 1) A) (hg : A.guards = some []) (e0 : Env0 P w K mg base A out z H)
    (hf : H f = some (LamO f L q cs c)) (hc : H c = some (LamX.CodeO c q)) (C : NdefX.CellsAt cs L.fr ws z.heap H) (R : Rel ⟨K, cl, pot⟩ [] A' H0 M (NdefX.startF L.fr [] ws) H ρ) (ho : oc ρ = some d) (p : OcP ⟨K, cl, pot⟩ M H d Q E) :
    codeAny (model P w) A (.call (.ref f) ⟨[], []⟩) (CR (L2.CX P w) out P w H z Q E) z := by
  obtain ⟨S, t, ht, hs⟩ := Lk
  have lim : z.heap.NoLimit := e0.mod.nolimit.keeps fun b o e => (e0.bs b o e).1
  have hO := e0.hok f _ hf
  obtain ⟨od, sl, pm, ctv, of⟩ := hO.1
  refine PySem.W.kla_callFunE hr.depth of rfl S.sc.co S.sc.gen rfl (NdefX.codeO_at e0.hok hc) ?_
  rw [S.bind]
  refine wpAny_pure (wpAny_newFunctionEnv S.sc.nocell (fun y hy => absurd hy (by simp)) (fun h1 hns hsb => ⟨lim.fresh _ hsb, ?_⟩) S.sc.kind)
  have kp : ∀ b o, z.heap.get? b = some o → h1.get? b = some o := fun b o e => hsb.extBut b o (Nat.ne_of_lt (Heap.lt_size e)) (Heap.get?_push_of_some _ e)
  have J : Inv (NdefX.ncx (L2.CX P w) P w K mg base L.fr (L.nf q cs c) f A out z H E) [] (NdefX.startF L.fr [] ws) H { z with heap := h1, toks := z.toks + ([] : List (Str × Value)).length } :=
    NdefX.inv_startN (us := []) S.sc hr.hd e0 rfl .nil C hns kp
  show codeAny _ _ (.expr L.body (NdefX.envF (L.nf q cs c) f z.heap.objs.size)) _ _
  refine PySem.W.kla_codeExpr (wpAny_mono ((ht q cs c f A out z H E hg (hr.deeper _)).run [] _ _ H Q J (hs pot A' H0 M _ H ρ Q E d R ho p)) (fun v z' hq => ?_) fun _ _ hq => hq)
  obtain ⟨x, H', J', rv, hq⟩ := hq
  exact ⟨x, H', J'.os, J'.bare, J'.base, J'.hok, rv, hq⟩
/-- the functions that a def knows do what is told of them -/
structure CallsOk (P : Program) (w : World) (K : PySem.W.Frag) (mg : Str → Option Value) (base : Heap) (cl : Cl) (k : Nat) (pot : Sh) : Prop where
  run : ∀ (a : Addr) (d : D), (a, d) ∈ pot.fns → ∀ (A : Around) (out : List PySem.Env) (z : Shared) (H : Hp) (Q : VK) (E : XK), A.guards = some [] → Room k A → Env0 P w K mg base A out z H → PotOk ⟨K, cl, pot⟩ H → OcP ⟨K, cl, pot⟩ (Wd.pa ⟨K, cl, pot⟩) H d Q E →
    codeAny (model P w) A (.call (.ref a) ⟨[], []⟩) (CR (L2.CX P w) out P w H z Q E) z
  fnat : ∀ (a : Addr) (d : D), (a, d) ∈ pot.fns → ∀ (h : Heap) (H : Hp), HOk P w H h → pot.ok H → PySem.W.FnAt a h
/-- call(), call a name that holds such a function -/
def tAct (w : Wd) (i : Nat) (W : WX) : TE := fun σ H Q => ∃ (a : Addr) (d : D), σ[i]? = some (some (.ref a)) ∧ (a, d) ∈ w.pot.fns ∧ PotOk w H ∧ OcP w w.pa H d Q (WE W σ)
theorem pe_act {X : Cx} {pot : Sh} {i : Nat} {a : Str} {W : WX} {p1 p2 : Pos} (C : CallsOk X.prog X.w X.K X.mg X.base cl k pot) (hr : Room k X.A) (hg : X.A.guards = some []) (tk : Takes X W) (hN : X.N[i]? = some a) (hv : Vis X.env.scope a)
    (hd : (a == ("__debug__" : Str)) = false := by decide) (hcd : (a == ("__classdict__" : Str)) = false := by decide) : PE X (.Call (.Name a p1) [] [] p2) (tAct ⟨X.K, cl, pot⟩ i W) := by
  refine ⟨fun pins z σ H Q I h => ?_⟩
  obtain ⟨f, d, hs, hm, po, hp⟩ := h
  refine wpAny_Call_Name_kw (thn ((pe_var (pos := p1) (i := i) hN hv hd hcd).run pins z σ H (fun v H1 => v = .ref f ∧ H1 = H) I ⟨.ref f, hs, rfl, rfl⟩) fun u z1 ⟨v, H1, I1, r1, q1⟩ => ?_)
  obtain ⟨rfl, rfl⟩ := q1
  obtain rfl : u = Value.ref f := r1
  refine PySem.W.callWith_F0 (C.fnat f d hm z1.heap H1 I1.hok po.ok) (wpAny_call (codeAny_mono (C.run f d hm X.A X.stack z1 H1 Q (WE W σ) hg hr I1.env0 po hp) fun r z2 hq => ?_))
  match r, hq with
  | .error e, hq => exact passAt tk σ pins H1 z1 e z2 I1 hq
  | .ok (.ret u), hq => exact I1.after hq
  | .ok .next, hq => exact hq.elim
  | .ok .brk, hq => exact hq.elim
  | .ok .cont, hq => exact hq.elim
end
end Pw
set_option Elab.async false
set_option linter.all false
set_option maxRecDepth 100000
set_option maxHeartbeats 1000000
/-! Pw78: try with several clauses `except X as n`. -/
namespace Pw
open PySem PySem.Spec PyProof.Rows L2
/-- a suite's ends: the clause's name goes -/
def Ends.gone (i : Nat) (D : Ends) : Ends := { nx := fun σ' H' => D.nx (σ'.set i none) H', rt := D.rt, bk := fun σ' H' => D.bk (σ'.set i none) H', ct := fun σ' H' => D.ct (σ'.set i none) H' }
abbrev Cla := Value × (Addr → Value → Option Addr → TS)
/-- what the clauses wish of an error: slot i is the name's -/
def wAsM (K : PySem.W.Frag) (i : Nat) (D : Ends) : List Cla → WX
  | [] => fun _ _ _ _ => False
  | q :: qs => fun cls d σ H => ∃ b, PySem.W.exmOne K cls q.1 = some b ∧ (b = true → ∀ a, H a = none → q.2 a cls d (Ends.gone i D) (σ.set i (some (.ref a))) H) ∧ (b = false → wAsM K i D qs cls d σ H)
inductive Clauses (X : Cx) (n : Str) : List ExceptHandler → List Cla → Prop
  | nil : Clauses X n [] []
  | cons {x : Str} {c : Value} {ts : Addr → Value → Option Addr → TS} {st : Stmt} {sts : List Stmt} {p1 p2 : Pos} {es : List ExceptHandler} {qs : List Cla} (named : Names X x c)
      (suite : ∀ (a : Addr) (oe : Obj) (cls : Value) (d : Option Addr) (pn : List (Addr × Obj)), Zc cls d oe → (∃ vs, oe.data = .fields vs) → PSs (X.suite a ((a, oe) :: pn)) (st :: sts) (ts a cls d)) (more : Clauses X n es qs) :
      Clauses X n (.ExceptHandler (some (.Name x p1)) (some n) (st :: sts) p2 :: es) ((c, ts) :: qs)
def tTryM (K : PySem.W.Frag) (i : Nat) (tb : WX → TS) (qs : List Cla) : TS := fun D σ H => tb (wAsM K i D qs) D σ H
section
variable {X : Cx} {n : Str} {i : Nat} {body : List Stmt} {e0 : ExceptHandler} {es : List ExceptHandler} {qs : List Cla} {pos : Pos} {tb : WX → TS}
theorem ps_tryM (hstk : X.stack = X.env :: X.outer) (hfrm : X.env.frame = some X.env.locals) (nd : X.N.Nodup) (hi : X.N[i]? = some n) (hloc : X.env.kindOf n = some .local)
    (hbody : ∀ (W : WX) (pn : List (Addr × Obj)) (xe : Value → Shared → Prop), Takes (X.tr pn xe) W → PSs (X.tr pn xe) body (tb W)) (hcl : Clauses X n (e0 :: es) qs) : PS X (.Try body (e0 :: es) [] [] pos) (tTryM X.K i tb qs) := by
  refine ⟨fun pins z σ H D I want => ?_⟩
  have okX := I.ok
  have frames : X.A.frames = some (X.env :: X.outer) := by rw [okX.frames, hstk]
  refine wpAny_Try_except (wpAny_mono ((hbody (wAsM X.K i D qs) (X.pn ++ pins) (fun er z1 => wpAny (model X.prog X.w) X.A (noteFrame er X.env) (fun _ z2 => wpAny (model X.prog X.w) X.A (setFlight er none) (fun _ z3 =>
    wpAny (model X.prog X.w) X.A (handleBy er X.env (e0 :: es)) (SP X pins D) X.xe z3) X.xe z2) X.xe z1) ?caught).run [] z σ H D (I.toTry _) want) ?through fun _ _ q => q)
  case through =>
    intro fl z1 q
    match fl, q with
    | .next, ⟨σ1, H1, J, q⟩ => exact wpAny_execs_nil ⟨σ1, H1, J.ofTry okX, q⟩
    | .brk, ⟨σ1, H1, J, q⟩ => exact ⟨σ1, H1, J.ofTry okX, q⟩
    | .cont, ⟨σ1, H1, J, q⟩ => exact ⟨σ1, H1, J.ofTry okX, q⟩
    | .ret _, ⟨v, σ1, H1, J, r, q⟩ => exact ⟨v, σ1, H1, J.ofTry okX, r, q⟩
  case caught =>
    rintro u z1 ⟨a, B, zI, pins1, σ1, H1, cls, d, rfl, J0, ground, upto, sky, fresh, same, bare, wish⟩
    have J : Inv X pins σ1 H1 zI := J0.ofTry okX
    have sky2 : Sky B (X.env :: X.outer) a (Zc cls d) X.env.locals z1.heap := by rw [← hstk]; exact sky
    show wpAny (model X.prog X.w) X.A (noteFrame (.ref a) X.env) _ _ _
    refine Sky.land Zc.steady frames hfrm sky2 fun g fly up2 => ?_
    have J3 : Inv X pins σ1 H1 { z1 with heap := g } := J.landed ground fly.1 (upto.trans up2) same bare
    obtain ⟨ob, obs, eob, zob, dob⟩ := fly.there
    have outside : a ∉ L2.frs (X.env :: X.outer) := fun hm => by
      obtain ⟨_, o2, e2, notf⟩ := fly.2.2.1.mem hm
      rw [eob] at e2
      cases e2
      exact notf _ dob
    have a1 : a ≠ X.env.locals := fun q => outside (List.mem_filterMap.mpr ⟨X.env, List.mem_cons_self, by rw [hfrm, q]⟩)
    have a2 : a ∉ X.fs := fun hm => by
      obtain ⟨en, hen, q⟩ := List.mem_filterMap.mp hm
      exact outside (List.mem_filterMap.mpr ⟨en, List.mem_cons_of_mem _ hen, q⟩)
    have S3 := J3.suite eob dob fresh a1 a2
    have walk : ∀ {es' : List ExceptHandler} {qs' : List Cla}, Clauses X n es' qs' → wAsM X.K i D qs' cls d σ1 H1 → wpAny (model X.prog X.w) X.A (handleBy (.ref a) X.env es') (SP X pins D) X.xe { z1 with heap := g } := by
      intro es' qs' hk
      induction hk with
      | nil => exact fun q => q.elim
      | @cons x c ts st sts p1 p2 es2 qs2 named suite more ih =>
        rintro ⟨b, hb, yes, no⟩
        refine wpAny_handleBy_cons (codeAny_handlers_test ?_) (by intro q; cases q)
        have ty : PySem.W.Looks (model X.prog X.w) g (typeOf (.ref a)) cls := fun A Q E s k q => wpAny_typeOf_ref (k _ _ eob) (by rw [zob.1]; exact q)
        have asks := PySem.W.exm_one (M := model X.prog X.w) J3.kIn ty hb
        have seen : ∀ {Q : Value → Shared → Prop} {E : Value → Shared → Prop}, Q c { z1 with heap := g } → wpAny (model X.prog X.w) (X.A.mark (some (.ref a))) (eval (.Name x p1) X.env) Q E { z1 with heap := g } := fun {Q E} q => by
          obtain ⟨gl, dbg, hm | ⟨hm, hv, hn⟩⟩ := named
          · exact ld_glob (X := X.suite a ((a, ob) :: (X.pn ++ pins))) S3 gl hm q dbg
          · exact ld_blt (X := X.suite a ((a, ob) :: (X.pn ++ pins))) S3 gl hm hv q hn dbg
        refine seen (asks.here ?_)
        cases b with
        | false => exact ih (no rfl)
        | true =>
          refine codeAny_handlers_suite_as (HandSPX.lands_againZ fly fun g2 fly2 up3 => ?_)
          have J4 : Inv X pins σ1 H1 { z1 with heap := g2 } := J.landed ground fly2.1 ((upto.trans up2).trans up3) same bare
          obtain ⟨ob2, obs2, eob2, zob2, dob2⟩ := fly2.there
          have S4 := J4.suite eob2 dob2 fresh a1 a2
          refine store_ok (X := X.suite a ((a, ob2) :: (X.pn ++ pins))) (v := .ref a) S4 nd hi (.inl hloc) rfl (fun z5 S5 => ?_) (.inr hloc)
          refine wpAny_mono ((suite a ob2 cls d (X.pn ++ pins) zob2 ⟨_, dob2⟩).run [] z5 _ H1 _ S5 (yes rfl a fresh)) (fun fl z6 q => ?_) (fun _ _ q => q.elim)
          have leave : ∀ {σ6 : L2.St} {H6 : Hp} {Q : Shared → Prop}, Inv (X.suite a ((a, ob2) :: (X.pn ++ pins))) [] σ6 H6 z6 → (∀ z7, Inv X pins (σ6.set i none) H6 z7 → Q z7) →
              wpAny (model X.prog X.w) X.A (do bindName X.env n .none; unbindBehindTheSuite X.env n p2) (fun _ z7 => Q z7) X.xe z6 := fun {σ6 H6 Q} S6 hq => gone_ok (S6.unsuite okX) nd hi hloc hq
          match fl, q with
          | .next, ⟨σ6, H6, S6, q⟩ => exact leave S6 fun z7 J7 => ⟨_, _, J7, q⟩
          | .brk, ⟨σ6, H6, S6, q⟩ => exact leave S6 fun z7 J7 => ⟨_, _, J7, q⟩
          | .cont, ⟨σ6, H6, S6, q⟩ => exact leave S6 fun z7 J7 => ⟨_, _, J7, q⟩
          | .ret _, ⟨v6, σ6, H6, S6, r6, q⟩ => exact leave S6 fun z7 J7 => ⟨_, _, _, J7, r6, q⟩
    exact walk hcl wish
end
end Pw
set_option Elab.async false
set_option linter.all false
set_option maxRecDepth 100000
set_option maxHeartbeats 1000000
/-! Pw79: within a clause: isinstance(e, X) where it is so; e.f; the clause's suite told by the error. -/
namespace PySem.W
open PyProof.Rows PySem.Calls
/-- isinstance says yes by the type alone -/
theorem yes_ans {K : Frag} {x t c : Value} {H : Heap → Prop} (ty : ∀ (M : Model) (h : Heap), K.In h → H h → Looks M h (typeOf x) t) (e : kitCls K t c = some true) : Answers (fun s => K.In s.heap ∧ H s.heap) x c true := by
  intro dep tk prog w A R z hz
  obtain ⟨g0, gs, dr, tt, os⟩ := z
  obtain ⟨⟨KX, p⟩, done⟩ := hz
  have tyL := ty (model prog w) g0 KX p
  obtain ⟨c1, c2, c3⟩ := kit_cls (M := model prog w) KX e
  unfold Builtin.«isinstance.nested»
  refine wpAny_bind (tyL.at ?_)
  by_cases same : (t == c) = true
  · rw [if_pos same]
    first
      | exact wpAny_bind (wpAny_rule (done tt))
      | exact wpAny_bind (wpAny_rule (wpAny_pure (done tt)))
      | ((repeat lk); exact done tt)
  · rw [if_neg same]
    refine wpAny_bind (c1.at ?_)
    rw [if_pos (by decide)]
    k_delta "plainIsInstance"
    refine wpAny_bind (wpAny_bind (c2.at ?_))
    simp only [Bool.not_true, Bool.false_eq_true, if_false]
    refine wpAny_bind ((tyL.andThen c3).at ?_)
    first
      | exact wpAny_pure (wpAny_pure (done tt))
      | (simp only [if_true]; first | exact wpAny_pure (wpAny_pure (done tt)) | exact wpAny_pure (done tt) | exact wpAny_bind (wpAny_pure (wpAny_pure (done tt))))
theorem yes_call {K : Frag} {prog : Program} {w : World} {A : Around} {E : Value → Shared → Prop} {Q : Value → Shared → Prop} {s : Shared} {a : Addr} {t c : Value} {oe : Obj} (KX : K.In s.heap) (he : s.heap.get? a = some oe) (ho : oe.cls = t) (e : kitCls K t c = some true) (h : ∀ tk, Q (.bool true) { s with toks := tk }) :
    wpAny (model prog w) A (call (.builtin "isinstance") [.ref a, c]) Q E s :=
  call_isinstance (S := fun _ R s => (K.In s.heap ∧ s.heap.get? a = some oe) ∧ ∀ tk, R (.ok (.ret (.bool true))) { s with toks := tk })
    (fun prog w A R s hs => isinstance_outer (yes_ans (H := fun h => h.get? a = some oe) (fun M h _ p A' Q' E' s' k q => wpAny_typeOf_ref (k _ _ p) (by rw [ho]; exact q)) e 0 _ prog w A R s hs) (fun z => nomatch z)) ⟨⟨KX, he⟩, h⟩
end PySem.W
namespace Pw
open PySem PySem.Spec PyProof.Rows L2
def rIsT (K : PySem.W.Frag) (cls : Value) (a : Addr) : List V → Hp → VK → Prop := fun xs H Q => ∃ (c : V) (cv : Value), xs = [.ref a, c] ∧ (∀ u, RelV c u → u = cv) ∧ PySem.W.kitCls K cls cv = some true ∧ Q (.bl true) H
theorem call_isT {X : Cx} {a : Addr} {oe : Obj} {cls : Value} {d : Option Addr} {pn : List (Addr × Obj)} (hz : Zc cls d oe) : CallR (X.suite a ((a, oe) :: pn)) (.builtin "isinstance") (rIsT X.K cls a) := by
  intro pins s σ H xs us Q I r h
  obtain ⟨c, cv, rfl, hcv, e, q⟩ := h
  cases r with
  | cons r1 r2 =>
    cases r2 with
    | cons r3 r4 =>
      cases r4
      cases r1
      have := hcv _ r3
      subst this
      obtain ⟨at_, _⟩ := I.pin (a, oe) (List.mem_append.mpr (.inl List.mem_cons_self))
      exact PySem.W.yes_call I.kIn at_ hz.1 e fun tk => ⟨.bl true, H, I.kept (t' := tk) fun _ _ z => z, rfl, q⟩
section
variable {m : Type → Type} [Md m] {w : Wd} {O : List Nat} {b b1 b2 : Bool} {a : Addr} {cls : Value} {dd : Option Addr} {i : Nat} {er : Er} {t ta tb : TE} {f fa fb : Env → m D}
/-- a reading within the clause of the error er: the name at i holds it -/
def SimE (m : Type → Type) [Md m] (w : Wd) (O : List Nat) (b : Bool) (a : Addr) (cls : Value) (dd : Option Addr) (i : Nat) (er : Er) (t : TE) (f : Env → m D) : Prop := ∀ (A : Av) (H0 : Hp) (M : Av) (σ : L2.St) (H : Hp) (ρ : Env) (Q : VK), Rel w O A H0 M σ H ρ → σ[i]? = some (some (.ref a)) → ErrD w w.pa H er cls dd →
  Md.wp (f ρ) (fun d => ∀ v H', Step w H H' → DenB w M H' b v d → Q v H') → t σ H Q
theorem ErrD.step {H H' : Hp} (h : ErrD w w.pa H er cls dd) (k : Step w H H') : ErrD w w.pa H' er cls dd :=
  ⟨h.1, h.2.imp id fun ⟨x, vs, e1, n, e2, r⟩ => ⟨x, vs, e1, n, k.lat _ _ n e2, Dens.lat k.lat _ _ r⟩⟩
theorem se_of (h : Sim m w O b t f) : SimE m w O b a cls dd i er t f := fun A H0 M σ H ρ Q R _ _ q => h A H0 M σ H ρ Q R q
theorem lookup_zip : ∀ {fs : List (Str × D)} {vs : List V} {M : Av} {H : Hp} {n : Str} {d : D}, Dens w M H vs (fs.map (·.2)) → fs.lookup n = some d → ∃ v, ((fs.map (·.1)).zip vs).lookup n = some v ∧ Den w M H v d
  | [], _, _, _, _, _, _, e => by cases e
  | (k, x) :: fs, vs, M, H, n, d, h, e => by
    cases h with
    | @cons v vs' _ _ h1 h2 =>
      rw [List.lookup_cons] at e
      show ∃ u, ((k, v) :: (fs.map (·.1)).zip vs').lookup n = some u ∧ _
      rw [List.lookup_cons]
      cases z : n == k with
      | true =>
        rw [z] at e
        cases e
        exact ⟨v, rfl, h1⟩
      | false =>
        rw [z] at e
        exact lookup_zip h2 e
/-- what stands at e.f, below all that may change -/
theorem fld_at {H : Hp} {n : Str} {d : D} (hE : ErrD w w.pa H er cls dd) (e : er.fs.lookup n = some d) : cls = .ref (w.cl er.c) ∧ ∃ (x : Addr) (fs : List (Str × V)) (v : V), dd = some x ∧ H x = some (.xd fs) ∧ fs.lookup n = some v ∧ Den w w.pa H v d := by
  obtain ⟨hc, z | ⟨x, vs, hx, nx, ex, r⟩⟩ := hE
  · rw [z.1] at e
    cases e
  · obtain ⟨v, e1, hv⟩ := lookup_zip r e
    exact ⟨hc, x, _, v, hx, ex, e1, hv⟩
def dFlatF (d : D) : Option D := match d.noL with
  | true => some d
  | false => none
def pFldE (n : Str) (er : Er) : Env → m D := fun _ => Md.lift ((er.fs.lookup n).bind dFlatF)
/-- isinstance(e, X), so -/
theorem se_isT (c : Str) (hk : PySem.W.kitCls w.K (.ref (w.cl er.c)) (.ref (w.cl c)) = some true) : SimE m w O true a cls dd i er (tCB (rIsT w.K cls a) (tCons (tVar i) (tCons (tC (.ref (w.cl c))) tNil))) (pC (.bl true)) := fun A H0 M σ H ρ Q R hs hE q => by
  refine ⟨.ref a, hs, .ref (w.cl c), .ref (w.cl c), rfl, fun u r => r, ?_, Md.wp_ret q _ H .refl (.bl true)⟩
  rw [hE.1]
  exact hk
variable {C : Str} {spec : List D → Option D} {tr : TA} {fr : Env → m (List D)}
theorem Rel.bare {H : Hp} (po : PotOk w H) : Rel w [] w.pa H w.pa [] H [] :=
  ⟨rfl, .refl, ⟨fun _ z => z, po⟩, fun _ z => z, fun _ z => .inl z, fun a z => po.lb z, (fun i d e => nomatch e), (fun i d e => nomatch e), (fun i j d e p h => nomatch h)⟩
/-- repr(e.f) -/
def pReprF (C : Str) (spec : List D → Option D) (n : Str) (er : Er) : Env → m D := fun _ => Md.lift ((er.fs.lookup n).bind fun x => (dReprA C spec x).bind dFlatF)
/-- displays -/
def ArgsE (m : Type → Type) [Md m] (w : Wd) (O : List Nat) (b : Bool) (a : Addr) (cls : Value) (dd : Option Addr) (i : Nat) (er : Er) (t : TA) (f : Env → m (List D)) : Prop := ∀ (A : Av) (H0 : Hp) (M : Av) (σ : L2.St) (H : Hp) (ρ : Env) (Q : List V → Hp → Prop), Rel w O A H0 M σ H ρ → σ[i]? = some (some (.ref a)) → ErrD w w.pa H er cls dd →
  Md.wp (f ρ) (fun ds => ∀ vs H', Step w H H' → DensB w M H' b vs ds → Q vs H') → t σ H Q
theorem ae_nil : ArgsE m w O b a cls dd i er tNil aNil := fun A H0 M σ H ρ Q R _ _ q => Md.wp_ret q [] H .refl trivial
theorem ae_cons (ha : SimE m w O b a cls dd i er ta fa) (hr : ArgsE m w O b a cls dd i er tr fr) : ArgsE m w O b a cls dd i er (tCons ta tr) (aCons fa fr) := fun A H0 M σ H ρ Q R hs hE q => by
  refine ha A H0 M σ H ρ _ R hs hE (Md.wp_mono (fun x q1 v H1 k1 d1 => ?_) (Md.wp_bind q))
  refine hr A H0 M σ H1 ρ _ (R.go k1) hs (hE.step k1) (Md.wp_mono (fun xs q2 vs H2 k2 ds => ?_) (Md.wp_bind q1))
  exact Md.wp_ret q2 _ H2 (k1.trans k2) ⟨d1.step R.pm k2, ds⟩
theorem sel_lst (hr : ArgsE m w O true a cls dd i er tr fr) (A : Av) (H0 : Hp) (M : Av) (σ : L2.St) (H : Hp) (ρ : Env) (Q : VK) (R : Rel w O A H0 M σ H ρ) (hs : σ[i]? = some (some (.ref a))) (hE : ErrD w w.pa H er cls dd)
    (q : Md.wp (pLst fr ρ) fun ds => ∀ p vs H', H p = none → Step w H H' → H' p = some (.lst vs) → Dens w (M.or p) H' vs ds → Q (.ref p) H') : tLst tr σ H Q := by
  refine hr A H0 M σ H ρ _ R hs hE (Md.wp_mono (fun ds q1 vs H1 k1 h => ?_) (Md.wp_bind q))
  obtain ⟨es, e, q2⟩ := Md.wp_lift q1
  obtain ⟨rfl, hl⟩ := okL_eq e
  refine ⟨by rw [h.length]; exact lenOk_le hl, fun p n => ?_⟩
  refine q2 p vs _ (fresh_back k1 R.potOk n) (k1.trans (Step.new n)) upd_same (Dens.lat (M := M.or p) (fun a o na ea => ?_) _ _ (Dens.more n _ _ h.safe))
  rw [upd_ne (fun z => na (.inr z))]
  exact ea
end
end Pw
set_option Elab.async false
set_option linter.all false
set_option maxRecDepth 100000
set_option maxHeartbeats 1000000
/-! Pw80: a clause's suite; try: call() with its clauses; defs that get functions: their promise, their calls. -/
namespace Pw
open PySem PySem.Spec PyProof.Rows L2
section
variable {m : Type → Type} [Md m] {w : Wd} {κ : Bool} {O Ob O1 : List Nat} {b : Bool} {a : Addr} {cls : Value} {dd : Option Addr} {i : Nat} {er : Er} {t : TE} {f : Env → m D} {ts : TS} {gs : Env → m Rs} {tr : TA} {fr : Env → m (List D)}
def SsmE (m : Type → Type) [Md m] (w : Wd) (κ : Bool) (Ob O O' : List Nat) (a : Addr) (cls : Value) (dd : Option Addr) (i : Nat) (er : Er) (ts : TS) (gs : Env → m Rs) : Prop := ∀ (A : Av) (H0 : Hp) (M : Av) (σ : L2.St) (H : Hp) (ρ : Env) (E : Ends), Rel w O A H0 M σ H ρ → σ[i]? = some (some (.ref a)) → ErrD w w.pa H er cls dd →
  Md.wp (gs ρ) (Post w κ O' Ob A H0 M H E) → ts E σ H
theorem sse_retL (h : ArgsE m w O true a cls dd i er tr fr) : SsmE m w true Ob O O1 a cls dd i er (tRet (tLst tr)) (sRetL (pLst fr)) := fun A H0 M σ H ρ E R hs hE q => by
  refine sel_lst h A H0 M σ H ρ _ R hs hE (Md.wp_mono (fun ds q1 p vs H1 n k1 e1 h1 => ?_) (Md.wp_bind q))
  exact Md.wp_ret q1 _ H1 (R.step.trans k1) (.inr ⟨p, vs, ds, rfl, rfl, R.free0 n, e1, Dens.weak (fun a z => z.imp (R.av a) fun z => z) _ _ h1⟩)
end
/-! ### the clauses -/
/-- a clause: the class, its suite's reading, what it tells of an error -/
structure ClaD (m : Type → Type) where
  c : Str
  ts : Addr → Value → Option Addr → TS
  gs : Er → Env → m Rs
section
variable {m : Type → Type} [Md m] {w : Wd} {κ : Bool} {O Ob : List Nat}
def ClaOk (w : Wd) (κ : Bool) (Ob O : List Nat) (i : Nat) (q : ClaD m) : Prop := ∀ (a : Addr) (cls : Value) (dd : Option Addr) (er : Er), er.c = q.c → SsmE m w κ Ob O O a cls dd i er (q.ts a cls dd) (q.gs er)
def goneR (i : Nat) : Rs → Rs
  | .nx ρ => .nx (ρ.set i none)
  | .rt d => .rt d
  | .bk ρ => .bk (ρ.set i none)
  | .ct ρ => .ct (ρ.set i none)
def sCla (i : Nat) (er : Er) (ρ : Env) : List (ClaD m) → m Rs
  | [] => Md.lift none
  | q :: qs => if er.c = q.c then Md.bind (q.gs er (ρ.set i none)) fun r => Md.ret (goneR i r) else sCla i er ρ qs
/-- try: x() / except X as n: .. -/
def sTryM (ic i : Nat) (qs : List (ClaD m)) : Env → m Rs := fun ρ => Md.bind (Md.lift (if i < ρ.length then gG ρ ic else none)) fun d => match d with
  | .fn c ns ds => if c = "" then Md.ret (.nx ρ) else sCla i ⟨c, ns.zip ds⟩ ρ qs
  | _ => Md.lift none
def claV (w : Wd) (qs : List (ClaD m)) : List Cla := qs.map fun q => (.ref (w.cl q.c), q.ts)
theorem Rel.wipe1 {A : Av} {H0 : Hp} {M : Av} {σ : L2.St} {H : Hp} {ρ : Env} (r : Rel w O A H0 M σ H ρ) (i : Nat) (hi : i ∉ O) (x : Option V) : Rel w O A H0 M (σ.set i x) H (ρ.set i none) := by
  have at_ : ∀ {j d}, (ρ.set i none)[j]? = some (some d) → ρ[j]? = some (some d) ∧ i ≠ j := fun {j d} e => by
    by_cases q : i = j
    · subst q
      by_cases hl : i < ρ.length
      · rw [List.getElem?_set_self hl] at e; cases e
      · rw [List.getElem?_eq_none (by rw [List.length_set]; exact Nat.le_of_not_lt hl)] at e; cases e
    · exact ⟨by rwa [List.getElem?_set_ne q] at e, q⟩
  refine ⟨by rw [List.length_set, List.length_set, r.len], r.step, r.pot, r.av, r.new, r.isL, fun j d e n => ?_, fun j d e n => ?_, fun j l d1 d2 p h1 h2 n1 n2 h3 h4 => ?_⟩
  · obtain ⟨e1, q⟩ := at_ e
    rw [List.getElem?_set_ne q]
    exact r.sh j d e1 n
  · obtain ⟨e1, q⟩ := at_ e
    rw [List.getElem?_set_ne q]
    exact r.ow j d e1 n
  · obtain ⟨e1, q1⟩ := at_ h1
    obtain ⟨e2, q2⟩ := at_ h2
    rw [List.getElem?_set_ne q1] at h3
    rw [List.getElem?_set_ne q2] at h4
    exact r.sep j l d1 d2 p e1 e2 n1 n2 h3 h4
/-- which class is which -/
def ExmAll (w : Wd) (cs : List Str) : Prop := ∀ c ∈ cs, ∀ c' ∈ cs, PySem.W.exmOne w.K (.ref (w.cl c)) (.ref (w.cl c')) = some (decide (c = c'))
theorem cla_go {i : Nat} (hi : i ∉ O) (hi2 : i ∉ Ob) {cs : List Str} (hx : ExmAll w cs) {A : Av} {H0 : Hp} {M : Av} {σ : L2.St} {H : Hp} {ρ : Env} {E : Ends} {er : Er} {cls : Value} {dd : Option Addr} (R : Rel w O A H0 M σ H ρ) (hE : ErrD w w.pa H er cls dd) (hc : er.c ∈ cs) (hl : i < ρ.length) :
    ∀ (qs : List (ClaD m)), (∀ q ∈ qs, ClaOk w κ Ob O i q) → (∀ q ∈ qs, q.c ∈ cs) → Md.wp (sCla i er ρ qs) (Post w κ O Ob A H0 M H E) → wAsM w.K i E (claV w qs) cls dd σ H
  | [], _, _, q => by
    obtain ⟨_, e, _⟩ := Md.wp_lift q
    cases e
  | c0 :: qs, hs, hm, q => by
    unfold sCla at q
    refine ⟨decide (er.c = c0.c), by rw [hE.1]; exact hx _ hc _ (hm c0 List.mem_cons_self), fun hb a na => ?_, fun hb => ?_⟩
    · have eb := of_decide_eq_true hb
      rw [if_pos eb] at q
      have R1 := R.wipe1 i hi (some (.ref a))
      refine hs c0 List.mem_cons_self a cls dd er eb A H0 M _ H _ _ R1 (List.getElem?_set_self (by rw [← R.len]; exact hl)) hE (Md.wp_mono (fun r z => ?_) (Md.wp_bind q))
      have z := Md.wp_ret z
      cases r with
      | nx ρ' => exact fun M' σ' H' R' k' => z M' _ H' (R'.wipe1 i hi none) k'
      | rt d => exact z
      | bk ρ' => exact fun M' σ' H' R' k' => z M' _ H' (R'.wipe1 i hi2 none) k'
      | ct ρ' => exact fun M' σ' H' R' k' => z M' _ H' (R'.wipe1 i hi2 none) k'
    · have eb : er.c ≠ c0.c := of_decide_eq_false hb
      rw [if_neg eb] at q
      exact cla_go hi hi2 hx R hE hc hl qs (fun q hq => hs q (List.mem_cons_of_mem _ hq)) (fun q hq => hm q (List.mem_cons_of_mem _ hq)) q
/-- a pure error that no clause names: nothing is told -/
theorem scla_in {i : Nat} {er : Er} {ρ : Env} {Z : Rs → Prop} : ∀ {qs : List (ClaD m)}, Md.wp (sCla i er ρ qs) Z → ∃ q ∈ qs, er.c = q.c
  | [], q => by
    obtain ⟨_, e, _⟩ := Md.wp_lift q
    cases e
  | c0 :: qs, q => by
    unfold sCla at q
    by_cases e : er.c = c0.c
    · exact ⟨c0, List.mem_cons_self, e⟩
    · rw [if_neg e] at q
      obtain ⟨x, hx, e2⟩ := scla_in q
      exact ⟨x, List.mem_cons_of_mem _ hx, e2⟩
theorem ss_tryM (ic i : Nat) {cs : List Str} {qs : List (ClaD m)} (hx : ExmAll w cs) (hm : qs.map (·.c) = cs) (hs : ∀ q ∈ qs, ClaOk w κ Ob O i q) (hc : ic ∉ O := by decide) (hi : i ∉ O := by decide) (hi2 : i ∉ Ob := by decide) :
    Ssm m w κ Ob O O (tTryM w.K i (fun W => tDrop (tAct w ic W)) (claV w qs)) (sTryM ic i qs) := fun A H0 M σ H ρ E R q => by
  obtain ⟨d, e, q⟩ := Md.wp_lift (Md.wp_bind q)
  split at e
  · rename_i hl
    obtain ⟨v, es, hv⟩ := R.sh ic d (gG_eq e) hc
    cases hv with
    | @fn a c ns ds hmem =>
      refine ⟨a, _, es, hmem, R.potOk, fun ec v H' k => ?_, fun nc cls dd H' k hE => ?_⟩
      · have q : Md.wp (if c = "" then Md.ret (.nx ρ) else sCla i ⟨c, ns.zip ds⟩ ρ qs) (Post w κ O Ob A H0 M H E) := q
        rw [if_pos ec] at q
        exact Md.wp_ret q M σ H' (R.go k) (.step R.pm k)
      · have q : Md.wp (if c = "" then Md.ret (.nx ρ) else sCla i ⟨c, ns.zip ds⟩ ρ qs) (Post w κ O Ob A H0 M H E) := q
        rw [if_neg nc] at q
        obtain ⟨q0, hq0, eq0⟩ := scla_in q
        refine cla_go (κ := κ) (Ob := Ob) hi hi2 hx (R.go k) hE (by rw [← hm, eq0]; exact List.mem_map_of_mem hq0) hl qs hs (fun q hq => by rw [← hm]; exact List.mem_map_of_mem hq) (Md.wp_mono (fun r z => Post.go (.step R.pm k) z) q)
    | _ => obtain ⟨_, e2, _⟩ := Md.wp_lift q; cases e2
  · cases e
end
/-! ### defs that get functions -/
section
variable {m n : Type → Type} [Md m] [Md n] [Up n m] {P : Program} {wo : World} {mg : Str → Option Value} {base : Heap} {w : Wd} {kc : Nat}
/-- the promise: the functions do what is told of them -/
def SpF (P : Program) (wo : World) (K : PySem.W.Frag) (mg : Str → Option Value) (base : Heap) (cl : Cl) (kc : Nat) (m : Type → Type) [Md m] (κ : Bool) (j : Nat) (spec : List D → m D) : Sp := fun vs H Q _ => vs.length = j ∧ ∃ (pot : Sh) (M : Av) (ds : List D), CallsOk P wo K mg base cl kc pot ∧ Dens ⟨K, cl, pot⟩ M H vs ds ∧ (∀ a, Wd.pa ⟨K, cl, pot⟩ a → M a) ∧ AllL M H ∧ PotOk ⟨K, cl, pot⟩ H ∧
  Md.wp (spec ds) fun d => ∀ v H', Step ⟨K, cl, pot⟩ H H' → RetOk ⟨K, cl, pot⟩ κ M H H' v d → Q v H'
theorem fng_defF {K : PySem.W.Frag} {cl : Cl} {k : Nat} {x : Str} {st : Stmt} {ps N : List Str} {f : Addr} {fd : FuncData} {κ : Bool} {O O' : List Nat} {t : Sh → TS} {fs : Env → m Rs}
    (F : FunD K x x (defArgs st) (defBody st) (defScope st) [] [] f fd) (S : FnScope N ps (defScope st))
    (hb : ∀ (pot : Sh), CallsOk P wo K mg base cl kc pot → ∀ (cdv : Value) (B : Around) (out : List PySem.Env) (z : Shared) (H : Hp) (E : XK), B.guards = some [] → Room k (B.deeper (envOfC x (defScope st) z.heap.objs.size f cdv)) → PSs (cxOf CX0 P wo K mg base N x (defScope st) f cdv B out z H E).nox (defBody st) (t pot))
    (hs : ∀ pot, CallsOk P wo K mg base cl kc pot → Ssm m ⟨K, cl, pot⟩ κ [] O O' (t pot) fs) (hO : ∀ i ∈ O, ps.length ≤ i := by decide) : FnG P wo K mg base CX0 (k + 1) f fd ps (SpF P wo K mg base cl kc m κ ps.length (runD κ N.length fs)) := by
  refine fng_of F S (fun vs H Q E h => h.1) (fun cdv B out z H vs Q E hg hr h => ?_)
  obtain ⟨hl, pot, M, ds, hC, hd, hp, ha, po, q⟩ := h
  refine ⟨t pot, (hb pot hC cdv B out z H E hg hr).nox, ?_⟩
  refine hs pot hC M H M (L2.start N vs) H (startD N.length ds) _ (Rel.start hd hp ha po fun i hi => by rw [← hd.length, hl]; exact hO i hi) ?_
  refine Md.wp_mono (fun r q1 => ?_) (Md.wp_bind q)
  cases r with
  | rt d =>
    have z := Md.wp_ret (show Md.wp (Md.ret d) _ from q1)
    exact z
  | nx ρ =>
    intro M' σ' H' R _
    cases κ with
    | true => exact let ⟨_, e, _⟩ := Md.wp_lift q1; nomatch e
    | false =>
      have z := Md.wp_ret (show Md.wp (Md.ret D.non) _ from q1)
      exact z .non H' R.step .non
  | bk ρ => exact let ⟨_, e, _⟩ := Md.wp_lift q1; nomatch e
  | ct ρ => exact let ⟨_, e, _⟩ := Md.wp_lift q1; nomatch e
variable {O : List Nat} {j : Nat} {t : TA} {fr : Env → m (List D)} {spec : List D → n D}
/-- such a def called by another: the functions are those that it knows itself -/
theorem simL_goFn (C : CallsOk P wo w.K mg base w.cl kc w.pot) (ha : ArN m w O true j t fr) : SimL m w O (tGo (SpF P wo w.K mg base w.cl kc n true j spec) t) (pGoL spec fr) := fun A H0 M σ H ρ Q R q => by
  refine ha A H0 M σ H ρ _ R (Md.wp_mono (fun ds q1 vs H1 k1 l1 d1 => ?_) (Md.wp_bind q))
  refine ⟨l1, w.pot, M, ds, C, d1.safe, R.pm, (R.go k1).isL, (R.go k1).potOk, Up.ok (Md.wp_mono (fun d z v H' k r => ?_) (Md.wp_bind q1))⟩
  rcases r with ⟨rfl, rfl⟩ | ⟨p, us, es, rfl, rfl, e1, e2, e3⟩
  · obtain ⟨_, e4, _⟩ := Md.wp_lift z
    cases e4
  · obtain ⟨_, e4, z⟩ := Md.wp_lift z
    cases e4
    exact z p us H' (fresh_back k1 R.potOk e1) (k1.trans k) e2 e3
theorem sim_goFnN (C : CallsOk P wo w.K mg base w.cl kc w.pot) (ha : ArN m w O true j t fr) : Sim m w O true (tGo (SpF P wo w.K mg base w.cl kc n true j spec) t) (pOf (pGoL spec fr)) := sim_new (simL_goFn C ha)
end
end Pw
set_option Elab.async false
set_option linter.all false
set_option maxRecDepth 100000
set_option maxHeartbeats 1000000
/-! Pw81: the making of a lambda; the cells of the maker known while a call runs. -/
namespace Pw
open PySem PySem.Spec PyProof.Rows L2
/-! ### a lambda is made -/
section
variable {X : Cx} {pins : List (Addr × Obj)} {σ : L2.St} {H : Hp} {s : Shared}
theorem lam_known {L : Lam} {q : Str} {cl : List (Str × Addr)} {c' : Addr} {t' : Nat} {pm ctv : Value} (I : Inv X pins σ H s) :
    Inv X pins σ (upd H s.heap.objs.size (LamO s.heap.objs.size L q cl c')) { s with heap := s.heap.push (PySem.W.kla_obj "<lambda>" q L.params L.body L.scope cl pm c' ctv), toks := t' } := by
  refine I.laid (a := s.heap.objs.size) (fun b u e => Heap.get?_push_of_some _ e) (Nat.le_refl _) ?_
  have e : (s.heap.push (PySem.W.kla_obj "<lambda>" q L.params L.body L.scope cl pm c' ctv)).get? s.heap.objs.size = some (PySem.W.kla_obj "<lambda>" q L.params L.body L.scope cl pm c' ctv) := Heap.get?_push_size _ rfl
  exact ⟨⟨_, _, pm, ctv, e⟩, ⟨_, e⟩, fun h1 h2 ⟨od, sl, p, t, z⟩ st => ⟨od, sl, p, t, st _ z⟩⟩
/-- what changes when a lambda is made: tables grow, new objects -/
structure Made (T : List (Addr × Str)) (H H1 : Hp) (f c' : Addr) (L : Lam) (q : Str) (cl : List (Str × Addr)) : Prop where
  old : ∀ b o, H b = some o → (∀ p ∈ T, p.1 ≠ b) → H1 b = some o
  free : ∀ b, H1 b = none → H b = none
  tab : LamX.Tabs T H1
  new : H f = none
  fn : H1 f = some (LamO f L q cl c')
  code : H1 c' = some (LamX.CodeO c' q)
theorem lam_made {T : List (Addr × Str)} {c P : Addr} {L : Lam} {pos : Pos} {E : Value → Shared → Prop} {Q : Value → Shared → Prop} (I : Inv X pins σ H s) (TB : LamX.TabB X.base X.mg c P) (hcode : X.env.code = .ref c)
    (hm : (P, X.env.qual ++ "<lambda>") ∈ T) (hu : ∀ p ∈ T, p.1 = P → p.2 = X.env.qual ++ "<lambda>") (hT : LamX.Tabs T H) (hdef : defaultsOf L.params X.env = ([], [])) (hfree : ∀ y ∈ L.scope.names, y.2 = .free → ∃ c, X.env.cells.lookup y.1 = some c)
    (h : ∀ (f c' : Addr) (H1 : Hp) (s' : Shared), Inv X pins σ H1 s' → Made T H H1 f c' L (X.env.qual ++ "<lambda>") (cloFrom X.env.cells L.scope.names []) → Q (.ref f) s') :
    wpAny (model X.prog X.w) X.A (eval (.Lambda L.params L.body L.scope pos) X.env) Q E s := by
  obtain ⟨ps, hP, ht, ha⟩ := hT _ hm
  refine PySem.W.kla_eval hdef ?_
  have bP : s.heap.BuiltinsAt X.mg P := TB.bm.keeps I.bk
  have hP' : s.heap.get? P = some { cls := .none, data := .fields ps } := I.hok P _ hP
  cases known : codeAmong pos ps.toList with
  | none =>
    refine PySem.W.kla_makeFunction (mg := X.mg) (c := c) (P := P) (ps := ps) (closure_ok hfree) I.ok.glob (I.mod.glob.keeps I.bk) hcode (TB.code.keeps I.bk) hP' ht known TB.gP bP fun c' ctv h' tk kept above below rec_ tab' => ?_
    obtain ⟨c2, oc, vs, t, e2, hoc, hd, hv⟩ := rec_
    cases e2
    have nC : H c' = none := I.hok.fresh above
    have I1 := LamX.inv_table (t' := tk) (q := X.env.qual ++ "<lambda>") (more := #[rawInt pos.line, rawInt pos.col, .ref c']) (h' := h') I hP (fun b o hb e => kept b o hb e) tab' above ⟨oc, vs, t, hoc, hd, hv⟩
    obtain ⟨H1, eH⟩ : ∃ H1, H1 = upd (upd H P (.tbl (ps ++ #[rawInt pos.line, rawInt pos.col, .ref c']))) c' (LamX.CodeO c' (X.env.qual ++ "<lambda>")) := ⟨_, rfl⟩
    rw [← eH] at I1
    have PC : P ≠ c' := ne_of_none hP nC
    have at1 : ∀ b o, b ≠ P → H b = some o → H1 b = some o := fun b o nb e => by
      rw [eH, upd_ne (ne_of_none e nC), upd_ne nb]
      exact e
    have atC : H1 c' = some (LamX.CodeO c' (X.env.qual ++ "<lambda>")) := by rw [eH, upd_same]
    have atP : H1 P = some (.tbl (ps ++ #[rawInt pos.line, rawInt pos.col, .ref c'])) := by rw [eH, upd_ne PC, upd_same]
    have T1 : LamX.Tabs T H1 := fun p hp => by
      have keepC : ∀ {c0 : Addr} {q0 : Str}, H c0 = some (LamX.CodeO c0 q0) → H1 c0 = some (LamX.CodeO c0 q0) := fun {c0 q0} e => at1 c0 _ (fun z => by
        rw [z, hP] at e
        exact LamX.codeO_ne _ (Option.some.inj e).symm) e
      by_cases hb : p.1 = P
      · rw [hu p hp hb, hb]
        have eL : (ps ++ #[rawInt pos.line, rawInt pos.col, .ref c']).toList = ps.toList ++ [rawInt pos.line, rawInt pos.col, .ref c'] := by simp
        refine ⟨_, atP, by rw [eL]; exact PySem.TriplesOk_snoc _ _ _ _ ht, fun p' cv hcv => ?_⟩
        rw [eL] at hcv
        rcases LamX.among_app _ ht hcv with z | z
        · obtain ⟨c0, e1, e2⟩ := ha p' cv z
          exact ⟨c0, e1, keepC e2⟩
        · exact ⟨c', z, atC⟩
      · obtain ⟨ps', a1, a2, a3⟩ := hT p hp
        refine ⟨ps', at1 _ _ hb a1, a2, fun p' cv hcv => ?_⟩
        obtain ⟨c0, e1, e2⟩ := a3 p' cv hcv
        exact ⟨c0, e1, keepC e2⟩
    have nF : H1 h'.objs.size = none := I1.hok.fresh (Nat.le_refl _)
    refine h h'.objs.size c' _ _ (lam_known (t' := tk) (L := L) (q := X.env.qual ++ "<lambda>") (cl := cloFrom X.env.cells L.scope.names []) (c' := c') (pm := (X.mg "__name__").getD .none) (ctv := ctv) I1) ⟨fun b o e nb => ?_, fun b e => ?_, T1.ext fun b o e => ?_, I.hok.fresh (Nat.le_trans above (Nat.le_of_lt below)), upd_same, ?_⟩
    · have e1 := at1 b o (fun z => nb _ hm z.symm) e
      exact (upd_ne (ne_of_none e1 nF)).trans e1
    · have e1 := NdefX.upd_none e
      rw [eH] at e1
      exact NdefX.upd_none (NdefX.upd_none e1)
    · exact (upd_ne (ne_of_none e nF)).trans e
    · exact (upd_ne (Nat.ne_of_lt below)).trans atC
  | some cv =>
    obtain ⟨c', e, hco⟩ := ha pos cv known
    subst e
    refine PySem.W.kla_makeFunctionHit (mg := X.mg) (c := c) (P := P) (ps := ps) (closure_ok hfree) I.ok.glob (I.mod.glob.keeps I.bk) hcode (TB.code.keeps I.bk) hP' ht known bP fun ctv h' tk kept size => ?_
    have I1 : Inv X pins σ H { s with heap := h', toks := tk } := I.kept kept
    have nF : H h'.objs.size = none := I1.hok.fresh (Nat.le_refl _)
    refine h h'.objs.size c' _ _ (lam_known (t' := tk) (L := L) (q := X.env.qual ++ "<lambda>") (cl := cloFrom X.env.cells L.scope.names []) (c' := c') (pm := (X.mg "__name__").getD .none) (ctv := ctv) I1) ⟨fun b o e _ => ?_, fun b e => NdefX.upd_none e, hT.ext fun b o e => ?_, nF, upd_same, ?_⟩
    · exact (upd_ne (ne_of_none e nF)).trans e
    · exact (upd_ne (ne_of_none e nF)).trans e
    · exact (upd_ne (ne_of_none hco nF)).trans hco
/-- the reading of a lambda -/
def tLam (T : List (Addr × Str)) (cells : List (Str × Addr)) (q : Str) (L : Lam) : TE := fun σ H Q => LamX.Tabs T H ∧ ∀ (f c' : Addr) (H1 : Hp), Made T H H1 f c' L q (cloFrom cells L.scope.names []) → Q (.ref f) H1
theorem pe_lam {T : List (Addr × Str)} {c P : Addr} {L : Lam} {pos : Pos} (TB : LamX.TabB X.base X.mg c P) (hcode : X.env.code = .ref c) (hm : (P, X.env.qual ++ "<lambda>") ∈ T) (hu : ∀ p ∈ T, p.1 = P → p.2 = X.env.qual ++ "<lambda>")
    (hdef : defaultsOf L.params X.env = ([], [])) (hfree : ∀ y ∈ L.scope.names, y.2 = .free → X.env.scope.names.lookup y.1 = some .cell ∨ X.env.scope.names.lookup y.1 = some .free) :
    PE X (.Lambda L.params L.body L.scope pos) (tLam T X.env.cells (X.env.qual ++ "<lambda>") L) := by
  refine ⟨fun pins s σ H Q I h => lam_made I TB hcode hm hu h.1 hdef (fun y hy e => ?_) fun f c' H1 s' J M => ⟨.ref f, H1, J, rfl, h.2 f c' H1 M⟩⟩
  rcases hfree y hy e with k | k
  · exact I.ok.has _ (.inl k)
  · exact I.ok.has _ (.inr k)
end
/-! ### the maker's cells, known while a call runs -/
/-- ys: the captured names, js: their slots; cs: their cells -/
structure TrackR (cells : List (Str × Addr)) (ys : List Str) (js : List Nat) (cs : List (Addr × Obj)) (σ : L2.St) (H : Hp) : Prop where
  free : ∀ b o, cs.lookup b = some o → H b = none
  cell : ∀ b o, cs.lookup b = some o → ∃ cv, o.data = .cell cv
  apart : ∀ x y c, cells.lookup x = some c → cells.lookup y = some c → x = y
  at_ : ∀ (i : Nat) (y : Str) (j : Nat), ys[i]? = some y → js[i]? = some j → ∃ (c : Addr) (o : Obj) (cv : Option Value), cells.lookup y = some c ∧ cs.lookup c = some o ∧ o.data = .cell cv ∧ ∀ v, σ[j]? = some (some v) → ∃ u, cv = some u ∧ RelV v u
/-- f(..), the cells known -/
def tGoC (sp : Sp) (cells : List (Str × Addr)) (ys : List Str) (js : List Nat) (t : TA) : TE := fun σ H Q => t σ H fun vs H1 => ∀ cs, TrackR cells ys js cs σ H1 → sp vs (trk cs H1) (fun v H2 => (∀ b o, cs.lookup b = some o → H2 b = some (CellX b o)) ∧ Q v (untrk cs H2)) E0
section
variable {X : Cx}
/-- the cells of some names of the running def -/
theorem cells_now {pins : List (Addr × Obj)} {σ : L2.St} {H : Hp} {z : Shared} (I : Inv X pins σ H z) (hfn : X.fn = fun _ => true) (hex : X.ex = []) : ∀ (ys : List Str) (js : List Nat), js.map (fun j => X.N[j]?) = ys.map some → (∀ y ∈ ys, X.env.scope.names.lookup y = some .cell) →
    ∃ cs : List (Addr × Obj), TrackR X.env.cells ys js cs σ H ∧ (∀ b o, cs.lookup b = some o → z.heap.get? b = some o ∧ X.base.get? b = none ∧ b ∉ L2.frs X.stack)
  | [], js, hj, hk => ⟨[], ⟨(fun b o e => nomatch e), (fun b o e => nomatch e), fun x y c => I.ok.inj x y c, (fun i y j e _ => nomatch e)⟩, (fun b o e => nomatch e)⟩
  | y :: ys, js, hj, hk => by
    cases js with
    | nil => cases hj
    | cons j js =>
      rw [List.map_cons, List.map_cons] at hj
      injection hj with hj1 hj2
      obtain ⟨cs, T, hc⟩ := cells_now I hfn hex ys js hj2 fun x hx => hk x (List.mem_cons_of_mem _ hx)
      have kc := hk y List.mem_cons_self
      obtain ⟨c, ec⟩ := I.ok.has y (.inl kc)
      obtain ⟨cv, o, eo, od⟩ := I.cell y c ec
      have nc : H c = none := I.freeC y c ec
      have abv : X.s_0.heap.objs.size ≤ c := I.ok.cab y c (by rw [hfn]) ec
      have nbase : X.base.get? c = none := by
        cases e : X.base.get? c with
        | none => rfl
        | some u =>
          exact absurd (Nat.lt_of_lt_of_le (Heap.lt_size e) (Nat.le_trans I.ok.bsz abv)) (Nat.lt_irrefl _)
      have nfr : c ∉ L2.frs X.stack := fun hm => by
        rcases List.mem_cons.mp (I.stkSub c hm) with q | q
        · exact I.cne y c ec q
        · obtain ⟨_, o2, e2, _⟩ := I.ok.funs.mem q
          exact absurd (Nat.lt_of_lt_of_le (Heap.lt_size e2) abv) (Nat.lt_irrefl _)
      refine ⟨(c, o) :: cs, ⟨fun b u e => ?_, fun b u e => ?_, fun x y c => I.ok.inj x y c, fun i y' j' e1 e2 => ?_⟩, fun b u e => ?_⟩
      · rw [List.lookup_cons] at e
        cases q : b == c with
        | true => rw [beq_iff_eq.mp q]; exact nc
        | false => rw [q] at e; exact T.free b u e
      · rw [List.lookup_cons] at e
        cases q : b == c with
        | true =>
          rw [q] at e
          cases e
          exact ⟨cv, od⟩
        | false => rw [q] at e; exact T.cell b u e
      · cases i with
        | zero =>
          simp only [List.getElem?_cons_zero, Option.some.injEq] at e1 e2
          subst e1 e2
          refine ⟨c, o, cv, ec, by rw [List.lookup_cons, beq_self_eq_true], od, fun v ev => ?_⟩
          obtain ⟨m, hn, hl⟩ := I.loc
          obtain ⟨u, r, l⟩ := hl j y v hj1 ev (.inr (.inl kc))
          rcases l with ⟨k, _⟩ | ⟨_, c2, e2, o2, eo2, od2⟩
          · have k : X.env.scope.names.lookup y = some .local := k
            rw [kc] at k
            cases k
          · rw [ec] at e2
            cases e2
            rw [eo] at eo2
            cases eo2
            rw [od] at od2
            cases od2
            exact ⟨u, rfl, r⟩
        | succ i =>
          simp only [List.getElem?_cons_succ] at e1 e2
          obtain ⟨c2, o2, cv2, k1, k2, k3, k4⟩ := T.at_ i y' j' e1 e2
          by_cases q : c2 = c
          · subst q
            have ey : y' = y := I.ok.inj y' y c2 k1 ec
            have e3 := (hc c2 o2 k2).1
            rw [eo] at e3
            cases e3
            exact ⟨c2, o, cv2, k1, by rw [List.lookup_cons, beq_self_eq_true], k3, k4⟩
          · exact ⟨c2, o2, cv2, k1, by rw [List.lookup_cons, beq_eq_false_iff_ne.mpr q]; exact k2, k3, k4⟩
      · rw [List.lookup_cons] at e
        cases q : b == c with
        | true =>
          rw [q] at e
          cases e
          rw [beq_iff_eq.mp q]
          exact ⟨eo, nbase, nfr⟩
        | false => rw [q] at e; exact hc b u e
theorem pe_goC {k : Nat} {x : Str} {st : Stmt} {ps : List Str} {sp : Sp} {p pos : Pos} {e : Expr} {es : List Expr} {t : TA} {ys : List Str} {js : List Nat} (F : Fun X.prog X.w X.K X.mg X.base k x st ps sp) (hr : Room k X.A) (hg : X.A.guards = some []) (gl : Gl X x) (ha : PA X (e :: es) t)
    (hfn : X.fn = fun _ => true) (hex : X.ex = []) (hjs : js.map (fun j => X.N[j]?) = ys.map some) (hys : ∀ y ∈ ys, X.env.scope.names.lookup y = some .cell)
    (hb : ∀ (y : Str) (kV doc pm : Value) (an : Option Addr) (cdv ct : Value) (us : List Value), us.length = ps.length → bindArgs (PySem.W.fnOf y y (defArgs st) (defBody st) (defScope st) .none kV doc pm an cdv ct) ⟨us, []⟩ = pure (ps.zip us))
    (hdb : (x == ("__debug__" : Str)) = false := by decide) (he : starEach (e :: es) X.env = (false, eval e X.env) :: starEach es X.env := by rfl) (hpl : (backTo pos (starEach es X.env)).any (·.1) = false := by rfl) :
    PE X (.Call (.Name x p) (e :: es) [] pos) (tGoC sp X.env.cells ys js t) := by
  obtain ⟨y, f, fd, D, F, hm⟩ := F.ex
  refine ⟨fun pins z σ H Q I h => wpAny_Call_Name_kw (ld_glob I gl hm (PySem.W.callWith_K (h₀ := X.base) I.ok.mod.kin D.kp (thn (ha.run pos pins z σ H _ I h) fun us z1 q1 => ?_) he hpl) hdb)⟩
  obtain ⟨vs, H1, I1, r, q⟩ := q1
  obtain ⟨cs, T, hc⟩ := cells_now I1 hfn hex ys js hjs hys
  have q := q cs T
  have fr : ∀ b o, cs.lookup b = some o → H1 b = none ∧ z1.heap.get? b = some o := fun b o e => ⟨T.free b o e, (hc b o e).1⟩
  have e1 : Env0 X.prog X.w X.K X.mg X.base X.A X.stack z1 (trk cs H1) := env0_trk I1.env0 fr (fun b o e => (hc b o e).2.1) (fun b o e => (hc b o e).2.2)
  refine ⟨I1.kIn, wpAny_call (codeAny_mono (F.does X.A X.stack z1 (trk cs H1) ⟨us, []⟩ us vs _ E0 hg hr e1 (D.bindsA (hb y) z1 us (r.length ▸ F.many _ _ _ _ q)) r q) fun r z2 hq => ?_)⟩
  match r, hq with
  | .error e, hq => exact hq.elim
  | .ok .next, hq => exact hq.elim
  | .ok .brk, hq => exact hq.elim
  | .ok .cont, hq => exact hq.elim
  | .ok (.ret u), ⟨v, H', os, bare, un, ok', rv, hk, hQ⟩ => exact I1.after ⟨v, untrk cs H', os, bare, un_back (fun b o e => T.free b o e) e1.hok ok' hk un, untrk_hok ok' hk, rv, hQ⟩
end
end Pw
set_option Elab.async false
set_option linter.all false
set_option maxRecDepth 100000
set_option maxHeartbeats 1000000
/-! Pw82: lambdas that the maker hands over: what their calls do, told of the maker's names. -/
namespace Pw
open PySem PySem.Spec PyProof.Rows L2
/-! data without functions -/
mutual
def D.noF : D → Bool
  | .fn _ _ _ => false
  | .lst ds => D.noFs ds
  | .tup ds => D.noFs ds
  | .ins _ _ ds => D.noFs ds
  | .non | .bl _ | .int _ | .str _ | .pot | .rep _ | .cls _ | .ty _ | .dic _ | .scr _ => true
def D.noFs : List D → Bool
  | [] => true
  | d :: ds => d.noF && D.noFs ds
end
section
variable {K : PySem.W.Frag} {cl : Cl} {s1 s2 : Sh} {M : Av} {H H' : Hp}
mutual
theorem Den.sh (hp : s1.p = s2.p) : ∀ (d : D) (v : V), d.noF = true → Den ⟨K, cl, s1⟩ M H v d → Den ⟨K, cl, s2⟩ M H v d
  | .non, _, _, h => by cases h; exact .non
  | .bl b, _, _, h => by cases h; exact .bl b
  | .int i, _, _, h => by cases h; exact .int i
  | .str x, _, _, h => by cases h; exact .str x
  | .pot, _, _, h => by cases h with | pot e => exact .pot (by rw [← hp]; exact e)
  | .rep p, _, _, h => by cases h; exact .rep p
  | .cls p, _, _, h => by cases h; exact .cls (w := ⟨K, cl, s2⟩) p
  | .ty p, _, _, h => by cases h; exact .ty p
  | .scr p, _, _, h => by cases h with | scr e => exact .scr e
  | .dic p, _, _, h => by cases h with | dic n e => exact .dic n e
  | .fn c ns ds, _, z, _ => by unfold D.noF at z; cases z
  | .lst ds, _, z, h => by
    unfold D.noF at z
    cases h with | lst s r => exact .lst s (Dens.sh hp ds _ z r)
  | .tup ds, _, z, h => by
    unfold D.noF at z
    cases h with | tup s r => exact .tup s (Dens.sh hp ds _ z r)
  | .ins c ns ds, _, z, h => by
    unfold D.noF at z
    cases h with | ins n e l r it => exact .ins (w := ⟨K, cl, s2⟩) n e l (Dens.sh hp ds _ z r) it
theorem Dens.sh (hp : s1.p = s2.p) : ∀ (ds : List D) (vs : List V), D.noFs ds = true → Dens ⟨K, cl, s1⟩ M H vs ds → Dens ⟨K, cl, s2⟩ M H vs ds
  | [], _, _, h => by cases h; exact .nil
  | d :: ds, _, z, h => by
    unfold D.noFs at z
    obtain ⟨z1, z2⟩ := Bool.and_eq_true_iff.mp z
    cases h with | cons a b => exact .cons (Den.sh hp d _ z1 a) (Dens.sh hp ds _ z2 b)
end
end
/-! data in a later heap -/
theorem SimO.eq {o u : HO} (h : SimO o u) (n : ∀ l, o ≠ .dK l ∧ ∀ b, o ≠ .frz b (.dK l)) : u = o := by
  rcases h with rfl | ⟨l, h1 | ⟨b, h1⟩, _⟩
  · rfl
  · exact absurd h1 (n l).1
  · exact absurd h1 ((n l).2 b)
theorem LatX.at {p : Option Addr} {H H' : Hp} (k : LatX p H H') {a : Addr} {o : HO} (e : H a = some o) (np : p ≠ some a) (nt : ∀ ps, o ≠ .tbl ps) (n : ∀ l, o ≠ .dK l ∧ ∀ b, o ≠ .frz b (.dK l)) : H' a = some o := by
  obtain ⟨u, e1, s⟩ := k a o np nt e
  rw [s.eq n] at e1
  exact e1
section
variable {w : Wd} {H H' : Hp}
theorem Rd.latX {a : Addr} {u : HO} (k : LatX w.pot.p H H') (n : ¬ w.pa a) (h : Rd H a u) (nt : ∀ ps, u ≠ .tbl ps) (nd : ∀ l, u ≠ .dK l ∧ ∀ b, u ≠ .frz b (.dK l)) : Rd H' a u := by
  have np : w.pot.p ≠ some a := fun z => n (.inl z)
  rcases h with h | ⟨o, h⟩
  · exact .inl (k.at h np nt nd)
  · exact .inr ⟨o, k.at h np (fun _ z => nomatch z) fun l => ⟨(fun z => nomatch z), fun b z => by cases z; exact (nd l).1 rfl⟩⟩
mutual
theorem Den.latX (k : LatX w.pot.p H H') : ∀ (d : D) (v : V), Den w w.pa H v d → Den w w.pa H' v d
  | .non, _, h => by cases h; exact .non
  | .bl b, _, h => by cases h; exact .bl b
  | .int i, _, h => by cases h; exact .int i
  | .str x, _, h => by cases h; exact .str x
  | .pot, _, h => by cases h with | pot e => exact .pot e
  | .rep p, _, h => by cases h; exact .rep p
  | .cls p, _, h => by cases h; exact .cls p
  | .ty p, _, h => by cases h; exact .ty p
  | .scr p, _, h => by cases h with | scr e => exact .scr (e.imp (fun z => ⟨z.1, Rd.latX k z.1 z.2 (fun _ z => nomatch z) fun _ => ⟨(fun z => nomatch z), (fun _ z => nomatch z)⟩⟩) id)
  | .fn c ns ds, _, h => by cases h with | fn e => exact .fn e
  | .dic p, _, h => by
    cases h with
    | dic n e =>
      refine .dic n ?_
      have np : w.pot.p ≠ some _ := fun z => n (.inl z)
      rcases e with e | ⟨o, e⟩
      · obtain ⟨u, e1, rfl | ⟨l, h1, h2⟩⟩ := k _ _ np (by intro ps z; cases z) e
        · exact .inl e1
        · have el : l = p.map fun q => (q.1, V.int q.2) := by
            rcases h1 with z | ⟨b, z⟩ <;> (cases z; try rfl)
          subst el
          rcases h2 with rfl | ⟨b, rfl⟩
          · exact .inl e1
          · exact .inr ⟨b, e1⟩
      · obtain ⟨u, e1, rfl | ⟨l, h1, h2⟩⟩ := k _ _ np (by intro ps z; cases z) e
        · exact .inr ⟨o, e1⟩
        · have el : l = p.map fun q => (q.1, V.int q.2) := by
            rcases h1 with z | ⟨b, z⟩ <;> (cases z; try rfl)
          subst el
          rcases h2 with rfl | ⟨b, rfl⟩
          · exact .inl e1
          · exact .inr ⟨b, e1⟩
  | .lst ds, _, h => by cases h with | lst s r => exact .lst ⟨s.1, k.at s.2 (fun z => s.1 (.inl z)) (fun _ z => nomatch z) fun _ => ⟨(fun z => nomatch z), (fun _ z => nomatch z)⟩⟩ (Dens.latX k ds _ r)
  | .tup ds, _, h => by cases h with | tup s r => exact .tup (s.imp (fun z => ⟨z.1, Rd.latX k z.1 z.2 (fun _ z => nomatch z) fun _ => ⟨(fun z => nomatch z), (fun _ z => nomatch z)⟩⟩) id) (Dens.latX k ds _ r)
  | .ins c ns ds, _, h => by cases h with | ins n e l r it => exact .ins n (k.at e (fun z => n (.inl z)) (fun _ z => nomatch z) fun _ => ⟨(fun z => nomatch z), (fun _ z => nomatch z)⟩) l (Dens.latX k ds _ r) it
theorem Dens.latX (k : LatX w.pot.p H H') : ∀ (ds : List D) (vs : List V), Dens w w.pa H vs ds → Dens w w.pa H' vs ds
  | [], _, h => by cases h; exact .nil
  | d :: ds, _, h => by cases h with | cons a b => exact .cons (Den.latX k d _ a) (Dens.latX k ds _ b)
end
end
/-! ### the lambdas of a maker -/
structure LamD where
  L : Lam
  oc : Env → Option D
  js : List Nat
def slotD (ρ : Env) (j : Nat) : Option D := match ρ[j]? with
  | some o => o
  | none => none
def capE (js : List Nat) (ρ : Env) : Env := js.map (slotD ρ)
theorem slotD_eq {ρ : Env} {j : Nat} {d : D} (h : slotD ρ j = some d) : ρ[j]? = some (some d) := by
  unfold slotD at h
  split at h
  · rename_i o e
    rw [e, h]
  · cases h
def ocOk : D → Option D
  | .fn c ns ds => match D.noFs ds with
    | true => some (.fn c ns ds)
    | false => none
  | _ => none
theorem ocOk_eq {d e : D} (h : ocOk d = some e) : e = d ∧ ∃ c ns ds, d = .fn c ns ds ∧ D.noFs ds = true := by
  unfold ocOk at h
  split at h
  · rename_i c ns ds
    split at h
    · rename_i z
      cases h
      exact ⟨rfl, c, ns, ds, rfl, z⟩
    · cases h
  · cases h
def ocsOf (ρ : Env) : List LamD → Option (List D)
  | [] => some []
  | l :: ls => (l.oc (capE l.js ρ)).bind fun d => (ocOk d).bind fun e => (ocsOf ρ ls).map (e :: ·)
theorem ocsOf_at {ρ : Env} : ∀ {ls : List LamD} {es : List D} {i : Nat} {d : D}, ocsOf ρ ls = some es → es[i]? = some d → ∃ l, ls[i]? = some l ∧ l.oc (capE l.js ρ) = some d ∧ ∃ c ns ds, d = .fn c ns ds ∧ D.noFs ds = true
  | [], es, i, d, h, e => by
    cases h
    cases e
  | l :: ls, es, i, d, h, e => by
    unfold ocsOf at h
    obtain ⟨d1, h1, h⟩ := Option.bind_eq_some_iff.mp h
    obtain ⟨e1, h2, h⟩ := Option.bind_eq_some_iff.mp h
    obtain ⟨es', h3, rfl⟩ := Option.map_eq_some_iff.mp h
    obtain ⟨rfl, hd⟩ := ocOk_eq h2
    cases i with
    | zero =>
      simp only [List.getElem?_cons_zero, Option.some.injEq] at e
      subst e
      exact ⟨l, rfl, h1, hd⟩
    | succ i => exact ocsOf_at (i := i) h3 (by simpa using e)
theorem ocsOf_len {ρ : Env} : ∀ {ls : List LamD} {es : List D}, ocsOf ρ ls = some es → es.length = ls.length
  | [], es, h => by cases h; rfl
  | l :: ls, es, h => by
    unfold ocsOf at h
    obtain ⟨d1, h1, h⟩ := Option.bind_eq_some_iff.mp h
    obtain ⟨e1, h2, h⟩ := Option.bind_eq_some_iff.mp h
    obtain ⟨es', h3, rfl⟩ := Option.map_eq_some_iff.mp h
    exact congrArg (· + 1) (ocsOf_len h3)
/-- they stand at as -/
def LamsAt (q : Str) (cells : List (Str × Addr)) (H : Hp) (as : List Addr) (ls : List LamD) : Prop := as.length = ls.length ∧ ∀ (i : Nat) (a : Addr) (l : LamD), as[i]? = some a → ls[i]? = some l → ∃ c', H a = some (LamO a l.L q (cloFrom cells l.L.scope.names []) c') ∧ H c' = some (LamX.CodeO c' q)
theorem LamsAt.keep {q : Str} {cells : List (Str × Addr)} {H H' : Hp} {as : List Addr} {ls : List LamD} (h : LamsAt q cells H as ls) (k : ∀ a φ, H a = some (.ext φ) → H' a = some (.ext φ)) : LamsAt q cells H' as ls :=
  ⟨h.1, fun i a l e1 e2 => let ⟨c', x, y⟩ := h.2 i a l e1 e2; ⟨c', k _ _ x, k _ _ y⟩⟩
theorem fn_step {w : Wd} {H H' : Hp} (po : PotOk w H) (k : Step w H H') : ∀ a φ, H a = some (.ext φ) → H' a = some (.ext φ) := fun a φ e => k.lat a _ (fun z => by
  obtain ⟨o, e2, ⟨x, y, rfl⟩ | ⟨ps, rfl⟩⟩ := po.ex z <;> (rw [e] at e2; cases e2)) e
end Pw
set_option Elab.async false
set_option linter.all false
set_option maxRecDepth 100000
set_option maxHeartbeats 1000000
/-! Pw83: what a maker hands over does what is told of it, while the call runs. -/
namespace Pw
open PySem PySem.Spec PyProof.Rows L2
theorem ext_not {φ : Heap → Prop} {u : HO} (h : ∀ φ, u ≠ .ext φ) : HO.ext φ ≠ u := fun z => h φ z.symm
theorem LatX.ext {p : Option Addr} {H H' : Hp} (k : LatX p H H') {a : Addr} {φ : Heap → Prop} (e : H a = some (.ext φ)) (np : p ≠ some a) : H' a = some (.ext φ) :=
  k.at e np (fun _ z => nomatch z) fun _ => ⟨(fun z => nomatch z), (fun _ z => nomatch z)⟩
/-- the functions that are handed over, while the cells are known -/
def Sh.hand (p : Option Addr) (fns : List (Addr × D)) (HY : Hp) : Sh := ⟨p, fns, fun H' => LatX p HY H', fun _ _ k h => h.trans k⟩
section
variable {P : Program} {wo : World} {mg : Str → Option Value} {base : Heap} {kc : Nat} {w : Wd} {O : List Nat} {A : Av} {H0 : Hp} {M : Av} {σ : L2.St} {H1 : Hp} {ρ : Env}
theorem cells_at {cells : List (Str × Addr)} {ys fr : List Str} {js ls : List Nat} {cs : List (Addr × Obj)} {HZ : Hp} {h : Heap} {scope : Scope} (T : TrackR cells ys js cs σ H1) (S : NdefX.NScope fr [] fr scope) (hj : ls.length = fr.length)
    (hin : ∀ (i : Nat) (y : Str) (j : Nat), fr[i]? = some y → ls[i]? = some j → ∃ n : Nat, ys[n]? = some y ∧ js[n]? = some j) (hc : ∀ b o, cs.lookup b = some o → h.get? b = some o) (hn : ∀ b o, cs.lookup b = some o → HZ b = none) (hfree : ∀ y ∈ scope.names, y.2 = .free → ∃ c, cells.lookup y.1 = some c) :
    NdefX.CellsAt (cloFrom cells scope.names []) fr (ls.map (NdefX.slotAt σ)) h HZ := by
  have cm : ∀ {y c}, (cloFrom cells scope.names []).lookup y = some c → cells.lookup y = some c := fun {y c} e => NdefX.clo_cm hfree e
  have inn : ∀ {y c}, (cloFrom cells scope.names []).lookup y = some c → ∃ i j, fr[i]? = some y ∧ ls[i]? = some j := fun {y c} e => by
    have hy : (y, NameKind.free) ∈ scope.names := by
      rcases cloFrom_mem (PySem.mem_of_lookup e) with z | ⟨z, _⟩
      · cases z
      · exact z
    obtain ⟨i, hi⟩ := List.mem_iff_getElem?.mp (S.free _ hy rfl)
    have hl : i < ls.length := by
      rw [hj]
      exact (List.getElem?_eq_some_iff.mp hi).1
    exact ⟨i, ls[i], hi, List.getElem?_eq_getElem hl⟩
  refine ⟨by rw [List.length_map]; exact hj, fun y c e => ?_, fun x y c e1 e2 => T.apart x y c (cm e1) (cm e2), fun i y e => ?_⟩
  · obtain ⟨i, j, e1, e2⟩ := inn e
    obtain ⟨n, n1, n2⟩ := hin i y j e1 e2
    obtain ⟨c2, o, cv, k1, k2, k3, _⟩ := T.at_ n y j n1 n2
    rw [cm e] at k1
    cases k1
    exact ⟨hn c o k2, cv, o, hc c o k2, k3⟩
  · have hl : i < ls.length := by
      rw [hj]
      exact (List.getElem?_eq_some_iff.mp e).1
    obtain ⟨n, n1, n2⟩ := hin i y ls[i] e (List.getElem?_eq_getElem hl)
    obtain ⟨c, o, cv, k1, k2, k3, k4⟩ := T.at_ n y _ n1 n2
    refine ⟨c, NdefX.clo_has hfree (PySem.mem_of_lookup (S.frk y (List.mem_of_getElem? e))) k1, fun v ev => ?_⟩
    rw [List.getElem?_map, List.getElem?_eq_getElem hl] at ev
    obtain ⟨u, rfl, ru⟩ := k4 v (NdefX.slotAt_some (Option.some.inj ev))
    exact ⟨u, ru, o, hc c o k2, k3⟩
/-- the captured names' data, later -/
theorem rel_cap {HZ : Hp} {js : List Nat} (R : Rel w O A H0 M σ H1 ρ) (k : LatX w.pot.p H1 HZ) (po : PotOk w.triv HZ) (fr : List Str) (hl : js.length = fr.length) : Rel w.triv [] w.pa HZ w.pa (NdefX.startF fr [] (js.map (NdefX.slotAt σ))) HZ (capE js ρ) := by
  have hlen : (NdefX.startF fr [] (js.map (NdefX.slotAt σ))) = js.map (NdefX.slotAt σ) := by
    unfold NdefX.startF
    rw [List.map_nil, List.nil_append, List.length_map, List.length_nil, ← hl, Nat.sub_zero, Nat.sub_self, List.replicate_zero, List.append_nil]
  rw [hlen]
  refine ⟨by unfold capE; rw [List.length_map, List.length_map], .refl, ⟨fun _ z => z, po⟩, fun _ z => z, fun _ z => .inl z, fun a z => po.lb z, fun i d e _ => ?_, (fun i d e n => nomatch n), (fun i j d e p _ _ n => nomatch n)⟩
  unfold capE at e
  rw [List.getElem?_map] at e
  cases ej : js[i]? with
  | none => rw [ej] at e; cases e
  | some j =>
    rw [ej] at e
    have ed := slotD_eq (Option.some.inj e)
    have key : ∃ v, σ[j]? = some (some v) ∧ DenT w M H1 v d := by
      by_cases hj : j ∈ O
      · rcases R.ow j d ed hj with ⟨rfl, e2⟩ | ⟨p, vs, ds, rfl, e2, mp, np, e3, h⟩
        · exact ⟨_, e2, .inl .non⟩
        · exact ⟨_, e2, .inr ⟨p, vs, ds, rfl, rfl, fun z => np (R.pot _ z), e3, h⟩⟩
      · obtain ⟨v, e2, h⟩ := R.sh j d ed hj
        exact ⟨v, e2, .inl h⟩
    obtain ⟨v, e2, hv⟩ := key
    refine ⟨v, ?_, Den.triv _ _ (Den.latX k _ _ (hv.low R.pm))⟩
    rw [List.getElem?_map, ej]
    exact congrArg some (NdefX.slotAt_of e2)
theorem noFs_zip : ∀ {ns : List Str} {ds : List D}, D.noFs ds = true → D.noFs ((ns.zip ds).map (·.2)) = true
  | [], _, _ => rfl
  | _ :: _, [], _ => rfl
  | n :: ns, d :: ds, h => by
    unfold D.noFs at h
    obtain ⟨h1, h2⟩ := Bool.and_eq_true_iff.mp h
    show (d.noF && D.noFs ((ns.zip ds).map (·.2))) = true
    rw [h1, noFs_zip h2]
    rfl
theorem hand_ok {q : Str} {cells : List (Str × Addr)} {ys : List Str} {js : List Nat} {cs : List (Addr × Obj)} {as : List Addr} {ls : List LamD} {ocs : List D} (R : Rel w O A H0 M σ H1 ρ) (T : TrackR cells ys js cs σ H1) (L : LamsAt q cells H1 as ls)
    (hok : ∀ l ∈ ls, LamOk P wo w.K mg base w.cl kc l.L l.oc ∧ l.js.length = l.L.fr.length ∧ (∀ (i : Nat) (y : Str) (j : Nat), l.L.fr[i]? = some y → l.js[i]? = some j → ∃ n : Nat, ys[n]? = some y ∧ js[n]? = some j) ∧ ∀ y ∈ l.L.scope.names, y.2 = .free → ∃ c, cells.lookup y.1 = some c)
    (ho : ocsOf ρ ls = some ocs) : CallsOk P wo w.K mg base w.cl (kc + 1) (Sh.hand w.pot.p (as.zip ocs) (trk cs H1)) ∧ PotOk ⟨w.K, w.cl, Sh.hand w.pot.p (as.zip ocs) (trk cs H1)⟩ (trk cs H1) := by
  have old : ∀ {b u}, H1 b = some u → trk cs H1 b = some u := fun {b u} e => trk_old T.free e
  have npot : ∀ {a φ}, H1 a = some (.ext φ) → w.pot.p ≠ some a := fun {a φ} e z => by
    obtain ⟨x, y, e2, _⟩ := R.potOk.pot a z
    rw [e] at e2
    cases e2
  have ncs : ∀ {b o}, cs.lookup b = some o → w.pot.p ≠ some b := fun {b o} e z => by
    obtain ⟨x, y, e2, _⟩ := R.potOk.pot b z
    rw [T.free b o e] at e2
    cases e2
  have at_ : ∀ {a d}, (a, d) ∈ as.zip ocs → ∃ l c', l ∈ ls ∧ l.oc (capE l.js ρ) = some d ∧ (∃ c ns ds, d = .fn c ns ds ∧ D.noFs ds = true) ∧ H1 a = some (LamO a l.L q (cloFrom cells l.L.scope.names []) c') ∧ H1 c' = some (LamX.CodeO c' q) := fun {a d} hm => by
    obtain ⟨i, hi⟩ := List.mem_iff_getElem?.mp hm
    rw [List.getElem?_zip_eq_some] at hi
    obtain ⟨l, hl, hoc, hd⟩ := ocsOf_at ho hi.2
    obtain ⟨c', x, y⟩ := L.2 i a l hi.1 hl
    exact ⟨l, c', List.mem_of_getElem? hl, hoc, hd, x, y⟩
  have later : ∀ {H}, LatX w.pot.p (trk cs H1) H → ∀ {a φ}, H1 a = some (.ext φ) → H a = some (.ext φ) := fun {H} k {a φ} e => k.ext (old e) (npot e)
  have known : ∀ {H}, LatX w.pot.p (trk cs H1) H → ∀ b o, cs.lookup b = some o → H b = some (CellX b o) := fun {H} k b o e => k.ext (trk_in e) (ncs e)
  refine ⟨⟨fun a d hm A1 out z H Q E hg hr e0 po hp => ?_, fun a d hm h H hok' k => ?_⟩, ⟨fun p e => ?_, R.potOk.tab.ext fun b o e => old e, LatX.refl⟩⟩
  · obtain ⟨l, c', hl, hoc, ⟨c, ns, ds, rfl, hds⟩, ea, ec⟩ := at_ hm
    obtain ⟨Lk, l1, l2, l3⟩ := hok l hl
    have k : LatX w.pot.p (trk cs H1) H := po.ok
    have g := known k
    have out1 : ∀ {b u}, H1 b = some u → cs.lookup b = none := fun {b u} e => trk_none T.free e
    have eu := env0_untrk e0 g
    have k2 : LatX w.pot.p H1 (untrk cs H) := fun b o np nt e => by
      obtain ⟨u, e1, s⟩ := k b o np nt (old e)
      exact ⟨u, (untrk_out (out1 e)).trans e1, s⟩
    have notin : ∀ {b : Addr} {u : HO}, H b = some u → (∀ φ, u ≠ .ext φ) → cs.lookup b = none := fun {b u} e hu => by
      cases z : cs.lookup b with
      | none => rfl
      | some o =>
        rw [g b o z] at e
        exact absurd (Option.some.inj e) (ext_not hu)
    have pou : PotOk w.triv (untrk cs H) := by
      refine ⟨fun p e => ?_, fun p hp => ?_, trivial⟩
      · obtain ⟨x, y, e1, r⟩ := po.pot p e
        exact ⟨x, y, (untrk_out (notin e1 fun _ z => nomatch z)).trans e1, r⟩
      · obtain ⟨ps, h1, h2, h3⟩ := po.tab p hp
        refine ⟨ps, (untrk_out (notin h1 fun _ z => nomatch z)).trans h1, h2, fun pos cv hcv => ?_⟩
        obtain ⟨c0, e1, e2⟩ := h3 pos cv hcv
        refine ⟨c0, e1, ?_⟩
        cases zz : cs.lookup c0 with
        | none => exact (untrk_out zz).trans e2
        | some o =>
          obtain ⟨⟨oc, vs, t, q1, q2, _⟩, _⟩ := e0.hok c0 _ e2
          have q3 := known_at e0.hok (g c0 o zz)
          obtain ⟨cv', hh⟩ := T.cell c0 o zz
          rw [q1] at q3
          cases q3
          rw [q2] at hh
          cases hh
    have C := cells_at (h := z.heap) (HZ := untrk cs H) T Lk.s.sc l1 l2 (fun b o e => known_at e0.hok (g b o e)) (fun b o e => untrk_in e) l3
    have RL := rel_cap (js := l.js) R k2 pou l.L.fr l1
    have stp : ∀ {H2}, Step w.triv (untrk cs H) H2 → (∀ b o, cs.lookup b = some o → H2 b = none) → Step ⟨w.K, w.cl, Sh.hand w.pot.p (as.zip ocs) (trk cs H1)⟩ H (trk cs H2) := fun {H2} k' fr => by
      refine Step.of (fun b o nb e => ?_) fun _ => ?_
      · cases zz : cs.lookup b with
        | some o' =>
          rw [g b o' zz] at e
          rw [trk_in zz]
          exact e
        | none =>
          rw [trk_out zz]
          exact k'.lat b o nb ((untrk_out zz).trans e)
      · have p2 := k'.pot pou
        exact ⟨fun p e => let ⟨x, y, e1, r⟩ := p2.pot p e; ⟨x, y, trk_old fr e1, r⟩, p2.tab.ext fun b o e => trk_old fr e⟩
    have main := lam_call (Q := fun v H2 => (∀ b o, cs.lookup b = some o → H2 b = none) → Q v (trk cs H2)) (E := fun cls dd H2 => (∀ b o, cs.lookup b = some o → H2 b = none) → E cls dd (trk cs H2)) Lk hr hg eu
      ((untrk_out (out1 ea)).trans (later k ea)) ((untrk_out (out1 ec)).trans (later k ec)) C RL hoc
      ⟨fun e v H2 k' fr => hp.1 e v _ (stp k' fr), fun ne cls dd H2 k' er fr => hp.2 ne cls dd _ (stp k' fr) ⟨er.1, er.2.imp id fun ⟨x, vs, e1, n, e2, r⟩ => ⟨x, vs, e1, n, trk_old fr e2, Dens.lat (fun b o _ e => trk_old fr e) _ _ (Dens.sh (s1 := w.pot.triv) (s2 := Sh.hand w.pot.p (as.zip ocs) (trk cs H1)) rfl _ _ (noFs_zip hds) r)⟩⟩⟩
    refine codeAny_mono main fun r z2 hq => ?_
    match r, hq with
    | .ok .next, hq => exact hq.elim
    | .ok .brk, hq => exact hq.elim
    | .ok .cont, hq => exact hq.elim
    | .ok (.ret u), ⟨v, H2, os, bare, un, ok2, rv, hQ⟩ =>
      obtain ⟨U, K2⟩ := un_again g e0.hok (fun b o e => known_fr e0 (g b o e)) ok2 un
      exact ⟨v, trk cs H2, os, bare, U, K2, rv, hQ fun b o e => un.free b o (known_at e0.hok (g b o e)) (untrk_in e) (by simp)⟩
    | .error er, ⟨x, B, H2, cls, dd, ex, fly, okB, ub, na, os, ag, hE⟩ =>
      obtain ⟨U, K2, inB⟩ := ub_again g e0.hok (fun b o e => known_fr e0 (g b o e)) okB ub
      refine ⟨x, B, trk cs H2, cls, dd, ex, fly, K2, U, ?_, os, ag, hE fun b o e => ub.free b o (known_at e0.hok (g b o e)) (untrk_in e)⟩
      cases zz : cs.lookup x with
      | none => exact (trk_out zz).trans na
      | some o =>
        have := inB x o zz
        rw [fly.2.1] at this
        cases this
  · obtain ⟨l, c', hl, hoc, _, ea, ec⟩ := at_ hm
    have e2 := hok' a _ (later k ea)
    obtain ⟨od, sl, pm, ctv, e3⟩ := e2.1
    exact ⟨_, _, _, _, e3⟩
  · obtain ⟨x, y, e1, r⟩ := R.potOk.pot p e
    exact ⟨x, y, old e1, r⟩
end
end Pw
set_option Elab.async false
set_option linter.all false
set_option maxRecDepth 100000
set_option maxHeartbeats 1000000
/-! Pw84: a def that makes lambdas and hands them over. -/
namespace Pw
open PySem PySem.Spec PyProof.Rows L2
/-! ### back from the call -/
theorem cell_code {c : Addr} {o : Obj} {cv : Option Value} (h : o.data = .cell cv) (q : Str) : CellX c o ≠ LamX.CodeO c q := fun z => by
  unfold LamX.CodeO CellX at z
  injection z with z
  have at_ : (Heap.mk (Array.replicate (c + 1) o) {}).get? c = some o := by
    obtain ⟨x1, x2, x3, x4⟩ := o
    cases h
    unfold Heap.get?
    simp only [Array.getElem?_replicate]
    simp only [if_pos (Nat.lt_succ_self c)]
  have hz := congrFun z (Heap.mk (Array.replicate (c + 1) o) {})
  have hc : (Heap.mk (Array.replicate (c + 1) o) {}).get? c = some o := at_
  rw [hz] at hc
  obtain ⟨oc, vs, t, e1, e2, _⟩ := hc
  rw [at_] at e1
  cases e1
  rw [h] at e2
  cases e2
section
variable {w : Wd} {M : Av} {H H' : Hp}
def KeepX (H H' : Hp) : Prop := ∀ a o, H a = some o → (∀ φ, o ≠ .ext φ) → H' a = some o
theorem Rd.keepX {a : Addr} {u : HO} (k : KeepX H H') (hu : ∀ φ, u ≠ .ext φ) (h : Rd H a u) : Rd H' a u := h.imp (fun e => k _ _ e hu) fun ⟨o, e⟩ => ⟨o, k _ _ e fun _ z => nomatch z⟩
mutual
theorem Den.keepX (k : KeepX H H') : ∀ (d : D) (v : V), Den w M H v d → Den w M H' v d
  | .non, _, h => by cases h; exact .non
  | .bl b, _, h => by cases h; exact .bl b
  | .int i, _, h => by cases h; exact .int i
  | .str x, _, h => by cases h; exact .str x
  | .pot, _, h => by cases h with | pot e => exact .pot e
  | .rep p, _, h => by cases h; exact .rep p
  | .cls p, _, h => by cases h; exact .cls p
  | .ty p, _, h => by cases h; exact .ty p
  | .fn c ns ds, _, h => by cases h with | fn e => exact .fn e
  | .scr p, _, h => by cases h with | scr e => exact .scr (e.imp (fun z => ⟨z.1, Rd.keepX k (fun _ z => nomatch z) z.2⟩) id)
  | .dic p, _, h => by cases h with | dic n e => exact .dic n (Rd.keepX k (fun _ z => nomatch z) e)
  | .lst ds, _, h => by cases h with | lst s r => exact .lst ⟨s.1, k _ _ s.2 (fun _ z => nomatch z)⟩ (Dens.keepX k ds _ r)
  | .tup ds, _, h => by cases h with | tup s r => exact .tup (s.imp (fun z => ⟨z.1, Rd.keepX k (fun _ z => nomatch z) z.2⟩) id) (Dens.keepX k ds _ r)
  | .ins c ns ds, _, h => by cases h with | ins n e l r it => exact .ins n (k _ _ e (fun _ z => nomatch z)) l (Dens.keepX k ds _ r) it
theorem Dens.keepX (k : KeepX H H') : ∀ (ds : List D) (vs : List V), Dens w M H vs ds → Dens w M H' vs ds
  | [], _, h => by cases h; exact .nil
  | d :: ds, _, h => by cases h with | cons a b => exact .cons (Den.keepX k d _ a) (Dens.keepX k ds _ b)
end
end
/-- a lambda is made: a step -/
theorem made_step {w : Wd} {H H1 : Hp} {f c' : Addr} {L : Lam} {q : Str} {cl : List (Str × Addr)} (h : Made w.cl.T H H1 f c' L q cl) : Step w H H1 := by
  refine Step.of (fun a o na e => h.old a o e fun p hp z => na (.inr ⟨p, hp, z⟩)) fun po => ⟨fun p e => ?_, h.tab⟩
  obtain ⟨x, y, e1, r⟩ := po.pot p e
  refine ⟨x, y, h.old p _ e1 fun t ht z => ?_, r⟩
  obtain ⟨ps, e2, _⟩ := po.tab t ht
  rw [z, e1] at e2
  cases e2
def tLams (T : List (Addr × Str)) (cells : List (Str × Addr)) (q : Str) : List LamD → TA
  | [] => tNil
  | l :: ls => tCons (tLam T cells q l.L) (tLams T cells q ls)
section
variable {P : Program} {wo : World} {mg : Str → Option Value} {base : Heap} {kc : Nat} {w : Wd} {O : List Nat} {A : Av} {H0 : Hp} {M : Av} {σ : L2.St} {H H1 : Hp} {ρ : Env} {q : Str} {cells : List (Str × Addr)}
theorem tLam_go {l : LamD} {Q : VK} (R : Rel w O A H0 M σ H ρ) (h : ∀ a H1, Step w H H1 → H a = none → (∃ c', H1 a = some (LamO a l.L q (cloFrom cells l.L.scope.names []) c') ∧ H1 c' = some (LamX.CodeO c' q)) → Q (.ref a) H1) : tLam w.cl.T cells q l.L σ H Q :=
  ⟨R.potOk.tab, fun f c' H1 m => h f H1 (made_step m) m.new ⟨c', m.fn, m.code⟩⟩
theorem tLams_go : ∀ {ls : List LamD} {H : Hp} {Q : List V → Hp → Prop}, Rel w O A H0 M σ H ρ → (∀ as H1, Step w H H1 → LamsAt q cells H1 as ls → Q (as.map V.ref) H1) → tLams w.cl.T cells q ls σ H Q
  | [], H, Q, R, h => h [] H .refl ⟨rfl, (fun i a l e => nomatch e)⟩
  | l :: ls, H, Q, R, h => by
    show tLam w.cl.T cells q l.L σ H fun v H1 => tLams w.cl.T cells q ls σ H1 fun vs H2 => Q (v :: vs) H2
    refine tLam_go (l := l) (cells := cells) (q := q) R fun a H1 k1 _ hx => ?_
    obtain ⟨c', e1, e2⟩ := hx
    refine tLams_go (R.go k1) fun as H2 k2 L => ?_
    have kp := fn_step (R.go k1).potOk k2
    refine h (a :: as) H2 (k1.trans k2) ⟨congrArg (· + 1) L.1, fun i b x eb ex => ?_⟩
    cases i with
    | zero =>
      simp only [List.getElem?_cons_zero, Option.some.injEq] at eb ex
      subst eb ex
      exact ⟨c', kp _ _ e1, kp _ _ e2⟩
    | succ i => exact L.2 i b x (by simpa using eb) (by simpa using ex)
/-- what is known of the maker's lambdas -/
structure LamsOk (P : Program) (wo : World) (K : PySem.W.Frag) (mg : Str → Option Value) (base : Heap) (cl : Cl) (kc : Nat) (cells : List (Str × Addr)) (ys : List Str) (js : List Nat) (ls : List LamD) : Prop where
  ok : ∀ l ∈ ls, LamOk P wo K mg base cl kc l.L l.oc ∧ l.js.length = l.L.fr.length ∧ (∀ (i : Nat) (y : Str) (j : Nat), l.L.fr[i]? = some y → l.js[i]? = some j → ∃ n : Nat, ys[n]? = some y ∧ js[n]? = some j) ∧ ∀ y ∈ l.L.scope.names, y.2 = .free → ∃ c, cells.lookup y.1 = some c
theorem trk_free {cs : List (Addr × Obj)} {p : Addr} (h : trk cs H p = none) : cs.lookup p = none ∧ H p = none := by
  cases z : cs.lookup p with
  | none => exact ⟨rfl, by rwa [trk_out z] at h⟩
  | some o => rw [trk_in z] at h; cases h
/-- the call while the cells are known -/
theorem goC_core {ys : List Str} {js : List Nat} {as : List Addr} {ls : List LamD} {ocs : List D} {κ : Bool} {j : Nat} {n : Type → Type} [Md n] {spec : List D → n D} {vs : List V} {ds : List D} {Q : VK} (R : Rel w O A H0 M σ H1 ρ) (L : LamsAt q cells H1 as ls) (hok : LamsOk P wo w.K mg base w.cl kc cells ys js ls) (ho : ocsOf ρ ls = some ocs)
    (hj : vs.length = j) (hd : ∀ cs, TrackR cells ys js cs σ H1 → Dens ⟨w.K, w.cl, Sh.hand w.pot.p (as.zip ocs) (trk cs H1)⟩ w.pa (trk cs H1) vs ds)
    (q : Md.wp (spec ds) fun d => ∀ v H2, Step w H1 H2 → (match κ with
      | false => d.noL = true ∧ d.noF = true → Den w M H2 v d
      | true => ∀ es, d = .lst es → D.noLs es = true → D.noFs es = true → ∃ p us, v = .ref p ∧ H1 p = none ∧ H2 p = some (.lst us) ∧ Dens w (M.or p) H2 us es) → Q v H2) :
    ∀ cs, TrackR cells ys js cs σ H1 → SpF P wo w.K mg base w.cl (kc + 1) n κ j spec vs (trk cs H1) (fun v H2 => (∀ b o, cs.lookup b = some o → H2 b = some (CellX b o)) ∧ Q v (untrk cs H2)) E0 := fun cs T => by
  obtain ⟨C, po⟩ := hand_ok R T L hok.ok ho
  refine ⟨hj, Sh.hand w.pot.p (as.zip ocs) (trk cs H1), w.pa, ds, C, hd cs T, fun _ z => z, fun a z => po.lb z, po, Md.wp_mono (fun d q1 v H2 k r => ?_) q⟩
  have g : ∀ b o, cs.lookup b = some o → H2 b = some (CellX b o) := fun b o e => k.lat b _ (fun z => by
    obtain ⟨u, e2, ⟨x, y, rfl⟩ | ⟨ps, rfl⟩⟩ := po.ex z <;> (rw [trk_in e] at e2; cases e2)) (trk_in e)
  have kx : KeepX H2 (untrk cs H2) := fun a o e hx => untrk_keep g hx e
  have po2 := k.pot po
  have st : Step w H1 (untrk cs H2) := by
    refine Step.of (fun b o nb e => ?_) fun _ => ⟨fun p e => ?_, fun p hp => ?_⟩
    · have z := trk_none T.free e
      exact (untrk_out z).trans (k.lat b o nb ((trk_out z).trans e))
    · obtain ⟨x, y, e1, r⟩ := po2.pot p e
      exact ⟨x, y, kx _ _ e1 (fun _ z => nomatch z), r⟩
    · obtain ⟨ps, h1, h2, h3⟩ := po2.tab p hp
      refine ⟨ps, kx _ _ h1 (fun _ z => nomatch z), h2, fun pos cv hcv => ?_⟩
      obtain ⟨c0, e1, e2⟩ := h3 pos cv hcv
      refine ⟨c0, e1, ?_⟩
      cases zz : cs.lookup c0 with
      | none => exact (untrk_out zz).trans e2
      | some o =>
        obtain ⟨cv', hh⟩ := T.cell c0 o zz
        rw [g c0 o zz] at e2
        exact absurd (Option.some.inj e2) (cell_code hh p.2)
  refine ⟨g, q1 v _ st ?_⟩
  have Rn := R.go st
  cases κ with
  | false =>
    rintro ⟨hl, hf⟩
    have r2 : Den ⟨w.K, w.cl, Sh.hand w.pot.p (as.zip ocs) (trk cs H1)⟩ w.pa H2 v d := r
    exact Den.up Rn.isL _ _ hl (Den.keepX kx _ _ (Den.sh (s1 := Sh.hand w.pot.p (as.zip ocs) (trk cs H1)) (s2 := w.pot) rfl _ _ hf r2))
  | true =>
    rintro es rfl hl hf
    rcases r with ⟨z, _⟩ | ⟨p, us, es', rfl, z, e1, e2, e3⟩
    · cases z
    · cases z
      obtain ⟨f1, f2⟩ := trk_free e1
      refine ⟨p, us, rfl, f2, kx _ _ e2 (fun _ z => nomatch z), ?_⟩
      have r2 : Dens w (w.pa.or p) (untrk cs H2) us es := Dens.keepX kx _ _ (Dens.sh (s1 := Sh.hand w.pot.p (as.zip ocs) (trk cs H1)) (s2 := w.pot) rfl _ _ hf e3)
      refine Dens.up (fun a z => ?_) _ _ hl r2
      rcases z with z | rfl
      · exact Rn.isL a z
      · exact .inl ⟨_, kx _ _ e2 (fun _ z => nomatch z)⟩
/-! ### the calls -/
section
variable {m n : Type → Type} [Md m] [Md n] [Up n m] {b : Bool} {te : TE} {fe : Env → m D} {ys : List Str} {js : List Nat} {ls : List LamD} {spec : List D → n D}
def dFlat2 (d : D) : Option D := match d.noL && d.noF with
  | true => some d
  | false => none
def noF1 (d : D) : Option Unit := match d.noF with
  | true => some ()
  | false => none
/-- are([lambda ..], due) -/
def pAre (ls : List LamD) (spec : List D → n D) (fe : Env → m D) : Env → m D := fun ρ => Md.bind (fe ρ) fun due => Md.bind (Md.lift (noF1 due)) fun _ => Md.bind (Md.lift (ocsOf ρ ls)) fun ocs => Md.bind (Up.up (spec [.lst ocs, due])) fun d => Md.lift (dFlat2 d)
theorem dens_fns {w' : Wd} {N : Av} {H' : Hp} : ∀ {as : List Addr} {ocs : List D}, as.length = ocs.length → (∀ a d, (a, d) ∈ as.zip ocs → (a, d) ∈ w'.pot.fns) → (∀ d ∈ ocs, ∃ c ns ds, d = .fn c ns ds) → Dens w' N H' (as.map V.ref) ocs
  | [], [], _, _, _ => .nil
  | [], _ :: _, h, _, _ => by cases h
  | _ :: _, [], h, _, _ => by cases h
  | a :: as, d :: ocs, h, hm, hf => by
    obtain ⟨c, ns, ds, rfl⟩ := hf d List.mem_cons_self
    exact .cons (.fn (hm _ _ List.mem_cons_self)) (dens_fns (Nat.succ.inj h) (fun a d z => hm a d (List.mem_cons_of_mem _ z)) fun d hd => hf d (List.mem_cons_of_mem _ hd))
theorem ocs_fn {ocs : List D} (ho : ocsOf ρ ls = some ocs) : ∀ d ∈ ocs, ∃ c ns ds, d = .fn c ns ds := fun d hd => by
  obtain ⟨i, hi⟩ := List.mem_iff_getElem?.mp hd
  obtain ⟨l, _, _, c, ns, ds, e, _⟩ := ocsOf_at ho hi
  exact ⟨c, ns, ds, e⟩
/-- the call of are with the list at p -/
theorem are_go {as : List Addr} {p : Addr} {v : V} {due : D} {ocs : List D} {Q : VK} (R : Rel w O A H0 M σ H1 ρ) (L : LamsAt q cells H1 as ls) (hok : LamsOk P wo w.K mg base w.cl kc cells ys js ls) (ep : H1 p = some (.lst (as.map V.ref))) (np : ¬ w.pa p) (dv : DenT w M H1 v due) (hf : due.noF = true) (ho : ocsOf ρ ls = some ocs)
    (q1 : Md.wp (spec [.lst ocs, due]) fun d => ∀ z H2, Step w H1 H2 → (d.noL = true ∧ d.noF = true → Den w M H2 z d) → Q z H2) :
    ∀ cs, TrackR cells ys js cs σ H1 → SpF P wo w.K mg base w.cl (kc + 1) n false 2 spec [.ref p, v] (trk cs H1) (fun v H2 => (∀ b o, cs.lookup b = some o → H2 b = some (CellX b o)) ∧ Q v (untrk cs H2)) E0 :=
  goC_core (κ := false) R L hok ho rfl (fun cs T => .cons (.lst ⟨np, trk_old T.free ep⟩ (dens_fns (by rw [L.1, ocsOf_len ho]) (fun a d z => z) (ocs_fn ho)))
    (.cons (Den.lat (M := w.pa) (fun a o _ e => trk_old T.free e) _ _ (Den.sh (s1 := w.pot) (s2 := Sh.hand w.pot.p (as.zip ocs) (trk cs H1)) rfl _ _ hf (dv.low R.pm))) .nil)) q1
def dFlatL2 : D → Option (List D)
  | .lst ds => match D.noLs ds && D.noFs ds with
    | true => some ds
    | false => none
  | _ => none
/-- heard(lambda: ..) -/
def pHeard (l : LamD) (spec : List D → n D) : Env → m (List D) := fun ρ => Md.bind (Md.lift (ocsOf ρ [l])) fun ocs => Md.bind (Up.up (spec ocs)) fun d => Md.lift (dFlatL2 d)
end
end
end Pw
set_option Elab.async false
set_option linter.all false
set_option maxRecDepth 100000
set_option maxHeartbeats 1000000
/-! Pw85: a list of lambdas under a name, made longer, handed over; the maker's rule. -/
namespace Pw
open PySem PySem.Spec PyProof.Rows L2
/-- the name at c holds a list of the lambdas ls; no datum stands there -/
structure RelF (w : Wd) (O : List Nat) (A : Av) (H0 : Hp) (M : Av) (σ : L2.St) (H : Hp) (ρ : Env) (q : Str) (cells : List (Str × Addr)) (c : Nat) (ls : List LamD) (p : Addr) (as : List Addr) : Prop where
  r : Rel w O A H0 M σ H ρ
  sl : σ[c]? = some (some (.ref p))
  no : ∀ d, ρ[c]? ≠ some (some d)
  mp : M p
  np : ¬ A p
  ep : H p = some (.lst (as.map V.ref))
  lams : LamsAt q cells H as ls
  hn : ∀ j d, ρ[j]? = some (some d) → j ∈ O → σ[j]? = some (some (.ref p)) → False
section
variable {m n : Type → Type} [Md m] [Md n] [Up n m] {P : Program} {wo : World} {mg : Str → Option Value} {base : Heap} {kc : Nat} {w : Wd} {κ : Bool} {O O' Ob : List Nat} {q : Str} {cells : List (Str × Addr)} {ys : List Str} {js : List Nat} {c : Nat} {ls ls2 : List LamD} {ts us rest : TS} {gs hs : Env → m Rs} {b : Bool} {t te : TE} {f fe : Env → m D}
def SsmF (m : Type → Type) [Md m] (w : Wd) (κ : Bool) (Ob O O' : List Nat) (q : Str) (cells : List (Str × Addr)) (c : Nat) (ls : List LamD) (ts : TS) (gs : Env → m Rs) : Prop := ∀ (A : Av) (H0 : Hp) (M : Av) (σ : L2.St) (H : Hp) (ρ : Env) (E : Ends) (p : Addr) (as : List Addr), RelF w O A H0 M σ H ρ q cells c ls p as →
  Md.wp (gs ρ) (Post w κ O' Ob A H0 M H E) → ts E σ H
def SimF (m : Type → Type) [Md m] (w : Wd) (O : List Nat) (b : Bool) (q : Str) (cells : List (Str × Addr)) (c : Nat) (ls : List LamD) (t : TE) (f : Env → m D) : Prop := ∀ (A : Av) (H0 : Hp) (M : Av) (σ : L2.St) (H : Hp) (ρ : Env) (Q : VK) (p : Addr) (as : List Addr), RelF w O A H0 M σ H ρ q cells c ls p as →
  Md.wp (f ρ) (fun d => ∀ v H', Step w H H' → DenB w M H' b v d → Q v H') → t σ H Q
def sF (c : Nat) (gs : Env → m Rs) : Env → m Rs := fun ρ => Md.bind (Md.lift (if c < ρ.length then some () else none)) fun _ => gs (ρ.set c none)
theorem sf_start (c : Nat) (h : SsmF m w κ Ob O O' q cells c ls rest gs) (hc : c ∉ O := by decide) (hl : Nat.ble ls.length 1000000 = true := by rfl) : Ssm m w κ Ob O O' (tSeq (tAsg (tLst (tLams w.cl.T cells q ls)) (gName c)) rest) (sF c gs) := fun A H0 M σ H ρ E R qq => by
  obtain ⟨_, e1, q1⟩ := Md.wp_lift (Md.wp_bind qq)
  split at e1
  · rename_i hlt
    show tLams w.cl.T cells q ls σ H fun vs H1 => vs.length ≤ sizeLine ∧ ∀ p, H1 p = none → rest E (σ.set c (some (.ref p))) (upd H1 p (.lst vs))
    refine tLams_go R fun as H1 k1 L => ⟨by rw [List.length_map, L.1]; exact lenOk_le hl, fun p np => ?_⟩
    have R1 := R.go k1
    have k2 : Step w H1 (upd H1 p (.lst (as.map V.ref))) := Step.new np
    have R2 := (R1.add (p := p) (vs := as.map V.ref) np k2 upd_same).wipe1 c hc (some (.ref p))
    have nM : ¬ M p := R1.fresh np
    refine h A H0 (M.or p) _ _ _ E p as ⟨R2, List.getElem?_set_self (by rw [← R.len]; exact hlt), fun d e => ?_, .inr rfl, fun z => nM (R.av _ z), upd_same, L.keep fun a φ e => by rw [upd_ne (ne_of_none e np)]; exact e, fun j d e1 e2 e3 => ?_⟩ (Md.wp_mono (fun r z => Post.go (Evo.add R.pm (fresh_back k1 R.potOk np) (k1.trans k2)) z) q1)
    · rw [List.getElem?_set_self hlt] at e
      cases e
    · have ej : j ≠ c := fun z => hc (z ▸ e2)
      rw [List.getElem?_set_ne (Ne.symm ej)] at e1 e3
      obtain ⟨p', us, ds, _, z2, z3, _⟩ := R.owr e1 e2 e3
      rw [e3] at z2
      cases z2
      exact nM z3
  · cases e1
/-- calls.append(lambda: ..) -/
theorem sf_app {l : LamD} (h : SsmF m w κ Ob O O' q cells c (ls ++ [l]) rest gs) (hc : c ∉ O := by decide) (hl : Nat.ble (ls.length + 2) 1000000 = true := by rfl) : SsmF m w κ Ob O O' q cells c ls (tSeq (tDrop (tBM w.K "list" rAppend (tVar c) (tCons (tLam w.cl.T cells q l.L) tNil))) rest) gs := fun A H0 M σ H ρ E p as F qq => by
  refine ⟨.ref p, F.sl, .inl ⟨rfl, _, .of F.ep⟩, ?_⟩
  show tLam w.cl.T cells q l.L σ H fun v H1 => rAppend (.ref p) [v] H1 fun _ H2 => rest E σ H2
  refine tLam_go (l := l) F.r fun a H1 k1 n1 hx => ?_
  obtain ⟨c', x1, x2⟩ := hx
  have npa : ¬ w.pa p := fun z => F.np (F.r.pot _ z)
  have ep1 : H1 p = some (.lst (as.map V.ref)) := k1.lat _ _ npa F.ep
  have R1 := F.r.go k1
  have L1 := F.lams.keep (fn_step F.r.potOk k1)
  refine ⟨p, as.map V.ref, .ref a, rfl, rfl, ep1, ?_, ?_⟩
  · rw [List.length_map, L1.1]
    have := lenOk_lt (n := ls.length + 2) hl
    omega
  · obtain ⟨R2, ev⟩ := R1.poke (us := as.map V.ref ++ [V.ref a]) F.mp F.np ep1 F.hn
    have kp : ∀ x φ, H1 x = some (.ext φ) → upd H1 p (.lst (as.map V.ref ++ [V.ref a])) x = some (.ext φ) := fun x φ e => by
      rw [upd_ne (fun z => by rw [z, ep1] at e; cases e)]
      exact e
    refine h A H0 M σ _ ρ E p (as ++ [a]) ⟨R2, F.sl, F.no, F.mp, F.np, ?_, ⟨by rw [List.length_append, List.length_append, L1.1]; rfl, fun i b y e1 e2 => ?_⟩, F.hn⟩ (Md.wp_mono (fun r z => Post.go ((Evo.step F.r.pm k1).trans ev) z) qq)
    · rw [upd_same, List.map_append]
      rfl
    · by_cases hi : i < as.length
      · rw [List.getElem?_append_left hi] at e1
        rw [List.getElem?_append_left (by rw [← L1.1]; exact hi)] at e2
        obtain ⟨c2, y1, y2⟩ := L1.2 i b y e1 e2
        exact ⟨c2, kp _ _ y1, kp _ _ y2⟩
      · rw [List.getElem?_append_right (Nat.le_of_not_lt hi)] at e1
        rw [List.getElem?_append_right (by rw [← L1.1]; exact Nat.le_of_not_lt hi), ← L1.1] at e2
        cases hz : i - as.length with
        | zero =>
          rw [hz] at e1 e2
          simp only [List.getElem?_cons_zero, Option.some.injEq] at e1 e2
          subst e1 e2
          exact ⟨c', kp _ _ x1, kp _ _ x2⟩
        | succ k => rw [hz] at e1; simp at e1
/-- the use: are(calls, due) -/
theorem sf_are {spec : List D → n D} (hok : LamsOk P wo w.K mg base w.cl kc cells ys js ls) (h : Sim m w O b te fe) : SimF m w O true q cells c ls (tGoC (SpF P wo w.K mg base w.cl (kc + 1) n false 2 spec) cells ys js (tCons (tVar c) (tCons te tNil))) (pAre ls spec fe) := fun A H0 M σ H ρ Q p as F qq => by
  refine ⟨.ref p, F.sl, ?_⟩
  have npa : ¬ w.pa p := fun z => F.np (F.r.pot _ z)
  refine h A H0 M σ H ρ _ F.r (Md.wp_mono (fun due q1 v H3 k3 dv => ?_) (Md.wp_bind qq))
  obtain ⟨_, e1, q2⟩ := Md.wp_lift (Md.wp_bind q1)
  obtain ⟨ocs, e2, q3⟩ := Md.wp_lift (Md.wp_bind q2)
  have hf : due.noF = true := by
    unfold noF1 at e1
    split at e1
    · assumption
    · cases e1
  refine are_go (q := q) (F.r.go k3) (F.lams.keep (fn_step F.r.potOk k3)) hok (k3.lat _ _ npa F.ep) npa dv.t hf e2 (Up.ok (Md.wp_mono (fun d q4 z H2 k4 r => ?_) (Md.wp_bind q3)))
  obtain ⟨d', e4, q5⟩ := Md.wp_lift q4
  unfold dFlat2 at e4
  split at e4
  · rename_i hz
    cases e4
    obtain ⟨z1, z2⟩ := Bool.and_eq_true_iff.mp hz
    exact q5 z H2 (k3.trans k4) (r ⟨z1, z2⟩)
  · cases e4
/-- tests -/
def TstF (m : Type → Type) [Md m] (w : Wd) (O : List Nat) (q : Str) (cells : List (Str × Addr)) (c : Nat) (ls : List LamD) (t : TT) (f : Env → m Bool) : Prop := ∀ (A : Av) (H0 : Hp) (M : Av) (σ : L2.St) (H : Hp) (ρ : Env) (Q : Bool → Hp → Prop) (p : Addr) (as : List Addr), RelF w O A H0 M σ H ρ q cells c ls p as →
  Md.wp (f ρ) (fun b => ∀ H', Step w H H' → Q b H') → t σ H Q
theorem tf_B (h : SimF m w O b q cells c ls t f) : TstF m w O q cells c ls (L2.tB t) (p1 dBl f) := fun A H0 M σ H ρ Q p as F qq => by
  refine h A H0 M σ H ρ _ p as F (Md.wp_mono (fun x q1 v H1 k1 d1 => ?_) (Md.wp_bind qq))
  obtain ⟨c, e, q3⟩ := Md.wp_lift q1
  rw [dBl_eq e] at d1
  exact ⟨c, d1.t.bl, q3 H1 k1⟩
theorem tf_not {tt : TT} {ft : Env → m Bool} (h : TstF m w O q cells c ls tt ft) : TstF m w O q cells c ls (tNot tt) (bNot ft) := fun A H0 M σ H ρ Q p as F qq => by
  refine h A H0 M σ H ρ _ p as F (Md.wp_mono (fun c q1 H1 k1 => ?_) (Md.wp_bind qq))
  exact Md.wp_ret q1 H1 k1
theorem sf_if {tt : TT} {ft : Env → m Bool} (h : TstF m w O q cells c ls tt ft) (h1 : Ssm m w κ Ob O O' ts gs) (h2 : Ssm m w κ Ob O O' us hs) : SsmF m w κ Ob O O' q cells c ls (tIfS tt ts us) (sIf ft gs hs) := fun A H0 M σ H ρ E p as F qq => by
  refine h A H0 M σ H ρ _ p as F (Md.wp_mono (fun c q1 H1 k1 => ?_) (Md.wp_bind qq))
  cases c with
  | true => exact h1 A H0 M σ H1 ρ E (F.r.go k1) (Md.wp_mono (fun r z => Post.go (.step F.r.pm k1) z) q1)
  | false => exact h2 A H0 M σ H1 ρ E (F.r.go k1) (Md.wp_mono (fun r z => Post.go (.step F.r.pm k1) z) q1)
theorem sf_ret (h : SimF m w O true q cells c ls t f) : SsmF m w false Ob O O' q cells c ls (tRet t) (sRet f) := fun A H0 M σ H ρ E p as F qq => by
  refine h A H0 M σ H ρ _ p as F (Md.wp_mono (fun x q1 v H1 k1 d1 => ?_) (Md.wp_bind qq))
  exact Md.wp_ret q1 v H1 (F.r.step.trans k1) (Den.weak F.r.av _ _ d1)
end
/-! ### the maker's rule: its readings may name its cells -/
section
variable {m : Type → Type} [Md m] {P : Program} {w : World} {K : PySem.W.Frag} {cl : Cl} {mg : Str → Option Value} {base : Heap}
theorem fng_ofC {CX : CXT} {sp : Sp} {k : Nat} {f : Addr} {fd : FuncData} {ps N : List Str} {x qual : Str} {params : Arguments} {body : List Stmt} {scope : Scope} {dvs : List V} {kws : List (Str × V)} (F : FunD K x qual params body scope dvs kws f fd) (S : FnScope N ps scope) (many : ∀ vs H Q E, sp vs H Q E → vs.length = ps.length)
    (hbody : ∀ (cdv : Value) (B : Around) (out : List PySem.Env) (z : Shared) (H : Hp) (vs : List V) (Q : VK) (E : XK), fd.code = cdv → B.guards = some [] → Room k (B.deeper (envOfC qual scope z.heap.objs.size f cdv)) → sp vs H Q E →
      ∃ t, PSs (cxOf CX P w K mg base N qual scope f cdv B out z H E) body t ∧ t { nx := fun _ H' => Q .non H', rt := Q } (start N vs) H) : FnG P w K mg base CX (k + 1) f fd ps sp := by
  obtain ⟨oc, od, dV, kV, doc, pm, an, cdv, ct, osl, rfl, lk, hcd, _, _⟩ := F.ex
  refine ⟨many, fun B out z H args us vs Q E hg hr e0 hb r hsp => ?_⟩
  have KX : K.In z.heap := e0.mod.kin.keeps fun a o e => (e0.bs a o e).1
  have nl : z.heap.NoLimit := e0.mod.nolimit.keeps fun a o e => (e0.bs a o e).1
  refine codeAny_call_function hr.depth (KX _ _ lk) rfl S.co S.gen rfl (PySem.W.codeRec_of KX hcd) (hb _ _ _ _ ?_)
  refine wpAny_newFunctionEnv_cells S.kind (fun y hy => ?_) fun env he z1 x => ?_
  · rcases S.par y.1 (List.of_mem_zip (show (y.1, y.2) ∈ ps.zip us from hy)).1 with q | q
    · exact .inl q
    · exact .inr ⟨q, PySem.W.cellsFrom_some _ _ _ (.inl q)⟩
  subst he
  refine ⟨nl.keeps x.toInCall.keep, codeAny_func ?_⟩
  obtain ⟨t, ht, hq⟩ := hbody cdv B out z H vs Q E rfl hg (hr.deeper _) hsp
  refine wpAny_mono (ht.run [] z1 (start N vs) H _ (inv_start S hr.hd e0 (many _ _ _ _ hsp) r x) hq) (fun fl z' hz => ?_) fun _ _ hz => hz
  cases fl with
  | ret u => exact let ⟨v, _, H', J, rv, q⟩ := hz; ⟨v, H', J.os, J.bare, J.base, J.hok, rv, q⟩
  | next => exact let ⟨_, H', J, q⟩ := hz; ⟨V.non, H', J.os, J.bare, J.base, J.hok, rfl, q⟩
  | brk => exact let ⟨_, _, _, q⟩ := hz; q.elim
  | cont => exact let ⟨_, _, _, q⟩ := hz; q.elim
theorem fng_defC {k : Nat} {x : Str} {st : Stmt} {ps N : List Str} {f : Addr} {fd : FuncData} {κ : Bool} {O O' : List Nat} {t : List (Str × Addr) → TS} {fs : Env → m Rs}
    (F : FunD K x x (defArgs st) (defBody st) (defScope st) [] [] f fd) (S : FnScope N ps (defScope st))
    (hb : ∀ (cdv : Value) (B : Around) (out : List PySem.Env) (z : Shared) (H : Hp) (E : XK), fd.code = cdv → B.guards = some [] → Room k (B.deeper (envOfC x (defScope st) z.heap.objs.size f cdv)) → PSs (cxOf CX0 P w K mg base N x (defScope st) f cdv B out z H E).nox (defBody st) (t (envOfC x (defScope st) z.heap.objs.size f cdv).cells))
    (hs : ∀ pot cells, (∀ y, (defScope st).names.lookup y = some .cell → ∃ c, cells.lookup y = some c) → Ssm m ⟨K, cl, pot⟩ κ [] O O' (t cells) fs) (hO : ∀ i ∈ O, ps.length ≤ i := by decide) : FnG P w K mg base CX0 (k + 1) f fd ps (SpD K cl m κ ps.length (runD κ N.length fs)) := by
  refine fng_ofC F S (fun vs H Q E h => h.1) (fun cdv B out z H vs Q E hcd hg hr h => ?_)
  obtain ⟨hl, pot, M, ds, hd, hp, ha, po, q⟩ := h
  refine ⟨t (envOfC x (defScope st) z.heap.objs.size f cdv).cells, (hb cdv B out z H E hcd hg hr).nox, ?_⟩
  refine hs pot _ (fun y hy => cell_has hy) M H M (L2.start N vs) H (startD N.length ds) _ (Rel.start hd hp ha po fun i hi => by rw [← hd.length, hl]; exact hO i hi) ?_
  refine Md.wp_mono (fun r q1 => ?_) (Md.wp_bind q)
  cases r with
  | rt d =>
    have z := Md.wp_ret (show Md.wp (Md.ret d) _ from q1)
    exact z
  | nx ρ =>
    intro M' σ' H' R _
    cases κ with
    | true => exact let ⟨_, e, _⟩ := Md.wp_lift q1; nomatch e
    | false =>
      have z := Md.wp_ret (show Md.wp (Md.ret D.non) _ from q1)
      exact z .non H' R.step .non
  | bk ρ => exact let ⟨_, e, _⟩ := Md.wp_lift q1; nomatch e
  | ct ρ => exact let ⟨_, e, _⟩ := Md.wp_lift q1; nomatch e
end
end Pw
set_option Elab.async false
set_option linter.all false
set_option maxRecDepth 100000
set_option maxHeartbeats 1000000
/-! Pw86: the head and the end of a law whose defs make lambdas: their code objects' tables. -/
namespace Pw
open PySem PySem.Spec PyProof.Rows L2
/-- the code object of a def, the table of a code object -/
def codeA (K : PySem.W.Frag) (x : Str) : Addr := match K.lookup (He.ga K x) with
  | some ⟨_, _, .func fd, _⟩ => (match fd.code with
    | .ref c => c
    | _ => 0)
  | _ => 0
def tabA (K : PySem.W.Frag) (x : Str) : Addr := match K.lookup (codeA K x) with
  | some ⟨_, _, .fields vs, _⟩ => (match (vs[11]? : Option Value) with
    | some (.ref P) => P
    | _ => 0)
  | _ => 0
def cutA (K : PySem.W.Frag) (ts : List Addr) : PySem.W.Frag := K.filter fun p => !ts.contains p.1
theorem cutA_look {ts : List Addr} {a : Addr} : ∀ {K : PySem.W.Frag} {o : Obj}, (cutA K ts).lookup a = some o → K.lookup a = some o ∧ a ∉ ts
  | [], o, h => by cases h
  | (b, u) :: K, o, h => by
    unfold cutA at h
    rw [List.filter_cons] at h
    by_cases z : ts.contains b = true
    · have hz : (!ts.contains b) = false := by rw [z]; rfl
      rw [if_neg (by rw [hz]; exact Bool.false_ne_true)] at h
      obtain ⟨h1, h2⟩ := cutA_look (K := K) h
      refine ⟨?_, h2⟩
      rw [List.lookup_cons]
      have : (a == b) = false := beq_eq_false_iff_ne.mpr fun e => h2 (by rw [e]; simpa using z)
      rw [this]
      exact h1
    · have z' : ts.contains b = false := by simpa using z
      have hz : (!ts.contains b) = true := by rw [z']; rfl
      rw [if_pos hz, List.lookup_cons] at h
      rw [List.lookup_cons]
      cases e : a == b with
      | true =>
        rw [e] at h
        refine ⟨h, fun hm => ?_⟩
        rw [beq_iff_eq.mp e] at hm
        have : ts.contains b = true := by simpa using hm
        rw [z'] at this
        cases this
      | false =>
        rw [e] at h
        exact cutA_look (K := K) h
def emptyT (K : PySem.W.Frag) (a : Addr) : Bool := match K.lookup a with
  | some ⟨.none, Option.none, .fields vs, sl⟩ => vs.isEmpty && sl.isEmpty
  | _ => false
theorem emptyT_ok {K : PySem.W.Frag} {a : Addr} (h : emptyT K a = true) : K.lookup a = some { cls := .none, data := .fields #[] } := by
  unfold emptyT at h
  split at h
  · rename_i vs sl e
    obtain ⟨h1, h2⟩ := Bool.and_eq_true_iff.mp h
    rw [e]
    have e1 : vs = #[] := by simpa using h1
    have e2 : sl = #[] := by simpa using h2
    rw [e1, e2]
  · cases h
def codeB (K : PySem.W.Frag) (x : Str) : Bool := match K.lookup (He.ga K x) with
  | some ⟨_, _, .func fd, _⟩ => (match fd.code with
    | .ref _ => true
    | _ => false)
  | _ => false
theorem code_of {K : PySem.W.Frag} {x y : Str} {st : Stmt} {f : Addr} {fd : FuncData} (F : FunD K y y (defArgs st) (defBody st) (defScope st) [] [] f fd) (hf : f = He.ga K x) (h : codeB K x = true) : fd.code = .ref (codeA K x) := by
  obtain ⟨oc, od, dV, kV, doc, pm, an, cdv, ct, osl, rfl, lk, _⟩ := F.ex
  unfold codeB at h
  unfold codeA
  rw [← hf, lk] at h ⊢
  dsimp only at h ⊢
  split at h
  · rfl
  · cases h
/-- the tables, told of what is known -/
def tabsOf (K : PySem.W.Frag) (xs : List Str) : List Addr := xs.map (tabA K)
def tabsB (K : PySem.W.Frag) (xs : List Str) : Bool := (xs.all fun x => emptyT K (tabA K x)) && ((xs.all fun x => codeB (cutA K (tabsOf K xs)) x && (PySem.W.codeHdIn (cutA K (tabsOf K xs)) (codeA (cutA K (tabsOf K xs)) x) (tabA (cutA K (tabsOf K xs)) x) && decide (tabA (cutA K (tabsOf K xs)) x = tabA K x))) && decide (tabsOf K xs).Nodup)
abbrev AlT : Type := AlQ × Bool
def obsKT (fa : List He.Fa) (fn : List He.DefD) (pr : List PrpD) (ex : PySem.W.Frag → Bool) (K : PySem.W.Frag) : AlQ :=
  (He.obsD fa fn K, (ex K && pr.all fun q => q.ok K, pr.map fun q => fnWA K (pgA K q)))
def obsT (n : Nat) (fa : List He.Fa) (fn : List He.DefD) (pr : List PrpD) (ex : PySem.W.Frag → Bool) (xs : List Str) (g : Addr → Option Obj) : AlT :=
  (obsKT fa fn pr ex (cutA (He.frG g (asR g n)) (tabsOf (He.frG g (asR g n)) xs)), tabsB (He.frG g (asR g n)) xs)
/-- what the head tells of the tables -/
structure TabK (K : PySem.W.Frag) (xs : List Str) (h : Heap) : Prop where
  code : ∀ x ∈ xs, codeB K x = true
  hd : ∀ x ∈ xs, PySem.W.codeHdIn K (codeA K x) (tabA K x) = true
  emp : ∀ x ∈ xs, h.get? (tabA K x) = some { cls := .none, data := .fields #[] }
  out : ∀ x ∈ xs, K.lookup (tabA K x) = none
  nd : (xs.map (tabA K)).Nodup
def SaysT (fa : List He.Fa) (fn : List He.DefD) (pr : List PrpD) (ex : PySem.W.Frag → Bool) (xs : List Str) (K : PySem.W.Frag) (h : Heap) : Prop := SaysQ fa fn pr ex K ∧ TabK K xs h
theorem saysT_of {fa : List He.Fa} {fn : List He.DefD} {pr : List PrpD} {ex : PySem.W.Frag → Bool} {xs : List Str} {K0 : PySem.W.Frag} {h : Heap} (kin : K0.In h) (e1 : obsKT fa fn pr ex (cutA K0 (tabsOf K0 xs)) = (He.valD fn, (true, pr.map fun q => q.d.val))) (e2 : tabsB K0 xs = true) :
    (cutA K0 (tabsOf K0 xs)).In h ∧ SaysT fa fn pr ex xs (cutA K0 (tabsOf K0 xs)) h := by
  refine ⟨fun a o e => kin a o (cutA_look e).1, ?_, ?_⟩
  · unfold obsKT at e1
    simp only [Prod.mk.injEq] at e1
    exact ⟨e1.1, e1.2.1, e1.2.2⟩
  · unfold tabsB at e2
    simp only [Bool.and_eq_true, List.all_eq_true, decide_eq_true_eq] at e2
    obtain ⟨h1, h2, h3⟩ := e2
    refine ⟨fun x hx => (h2 x hx).1, fun x hx => (h2 x hx).2.1, fun x hx => ?_, fun x hx => ?_, ?_⟩
    · rw [(h2 x hx).2.2]
      exact kin _ _ (emptyT_ok (h1 x hx))
    · rw [(h2 x hx).2.2]
      cases z : (cutA K0 (tabsOf K0 xs)).lookup (tabA K0 x) with
      | none => rfl
      | some o => exact absurd (List.mem_map_of_mem hx) (cutA_look z).2
    · have : xs.map (tabA (cutA K0 (tabsOf K0 xs))) = tabsOf K0 xs := List.map_congr_left fun x hx => (h2 x hx).2.2
      rw [this]
      exact h3
def hookT (n : Nat) (fa : List He.Fa) (fn : List He.DefD) (pr : List PrpD) (ex : PySem.W.Frag → Bool) (xs : List Str) : PySem.W.Hook where
  α := AlT
  obs := fun s => obsT n fa fn pr ex xs s.heap.get?
  val := fun _ => ((He.valD fn, (true, pr.map fun q => q.d.val)), true)
  says := fun _ h => ∃ K : PySem.W.Frag, K.In h ∧ SaysT fa fn pr ex xs K h
  of := fun _ s e => by
    have e : obsT n fa fn pr ex xs s.heap.get? = ((He.valD fn, (true, pr.map fun q => q.d.val)), true) := e
    unfold obsT at e
    simp only [Prod.mk.injEq] at e
    obtain ⟨k1, k2⟩ := saysT_of (h := s.heap) (K0 := He.frG s.heap.get? (asR s.heap.get? n)) He.frG_in e.1 e.2
    exact ⟨_, k1, k2⟩
  keeps := fun _ _ _ ⟨K, hK, c, T⟩ k => ⟨K, PySem.W.Frag.In.keeps hK k, c, ⟨T.code, T.hd, fun x hx => k _ _ (T.emp x hx), T.out, T.nd⟩⟩
theorem obsT_eq {n : Nat} {fa : List He.Fa} {fn : List He.DefD} {pr : List PrpD} {ex : PySem.W.Frag → Bool} {xs : List Str} {g : Addr → Option Obj} {s : Shared} (h : ∀ a, g a = s.heap.get? a) : obsT n fa fn pr ex xs g = (hookT n fa fn pr ex xs).obs s := by
  have e : g = s.heap.get? := funext h
  rw [e] <;> rfl
end Pw
set_option Elab.async false
set_option linter.all false
set_option maxRecDepth 100000
set_option maxHeartbeats 1000000
/-! Pw87: the end of a law whose defs make lambdas. -/
namespace Pw
open PySem PySem.Spec PyProof.Rows L2
def hpT (a : Addr) (ts : List Addr) (u : Option HO) : Hp := fun b => if b = a then u else if b ∈ ts then some (.tbl #[]) else none
theorem law_goT {P : Program} {w : World} {K : PySem.W.Frag} {mg bu : Str → Option Value} {k : Nat} {fa a : Addr} {fd : FuncData} {x : Str} {cl : Str → Addr} {xs : List Str} {nm : Str → Str} {spec : List D → G D} {z : Shared} {vs : List Value} {ns : List Int}
    (kin : K.In z.heap) (hmg : z.heap.Ns mainGlobals mg) (hbu : z.heap.Ns builtinsNs bu) (hbo : ∀ y : Str, y ≠ "__name__" → bu y = bootBuiltins y) (nol : z.heap.NoLimit) (gen : z.gens = #[]) (TK : TabK K xs z.heap)
    (hbm : ∃ (bm : Addr) (ob : Obj), mg "__builtins__" = some (.ref bm) ∧ bm ≠ builtinsNs ∧ z.heap.get? bm = some ob ∧ ob.cls = .type "module" ∧ ob.dict = some builtinsNs ∧ ob.data = .plain)
    (ea : z.heap.get? a = some { cls := .type "list", data := .seq vs.toArray }) (hin : IntsAre vs ns) (short : ns.length ≤ 63) (room : Room k callerA)
    (F : ∀ base : Heap, K.In base → base.Ns mainGlobals mg → (∀ y ∈ xs, LamX.TabB base mg (codeA K y) (tabA K y)) → FnG P w K mg base CX0 k fa fd [x] (SpD K ⟨cl, xs.map fun y => (tabA K y, nm y)⟩ G false 1 spec)) (bind : ∀ (s : Shared) (u : Value), BindsTo s fd ⟨[u], []⟩ [(x, u)])
    (good : Md.wp (spec [.scr ns]) fun d => d = .bl true) :
    codeAny (model P w) callerA (.call (.ref fa) ⟨[.ref a], []⟩) (fun r z' => r = .ok (.ret (.bool true)) ∧ OldK z.heap z'.heap ∧ z'.os = z.os ∧ AllBare z'.gens) z := by
  have hrv : Vals (ns.map V.int) vs := vals_ints hin
  have hle : ns.length ≤ sizeLine := Nat.le_trans short (by rw [sizeLine_eq]; decide)
  obtain ⟨ts, ets⟩ : ∃ ts, ts = xs.map (tabA K) := ⟨_, rfl⟩
  have isT : ∀ b ∈ ts, ∃ y ∈ xs, tabA K y = b := fun b hb => by
    rw [ets] at hb
    exact List.mem_map.mp hb
  have emp : ∀ b ∈ ts, z.heap.get? b = some { cls := .none, data := .fields #[] } := fun b hb => by
    obtain ⟨y, hy, rfl⟩ := isT b hb
    exact TK.emp y hy
  have aT : a ∉ ts := fun hb => by
    have q := emp a hb
    rw [ea] at q
    cases congrArg Obj.data (Option.some.inj q)
  obtain ⟨T, eT⟩ : ∃ T : List (Addr × Str), T = xs.map fun y => (tabA K y, nm y) := ⟨_, rfl⟩
  have inT : ∀ q ∈ T, q.1 ∈ ts := fun q hq => by
    rw [eT] at hq
    obtain ⟨y, hy, rfl⟩ := List.mem_map.mp hq
    rw [ets]
    exact List.mem_map_of_mem hy
  -- over one abstract heap
  have main : ∀ J : Hp, (∀ b o, J b = some o → (b = a ∧ ∃ ob xs, o = .frz ob (.lst xs)) ∨ (b ∈ ts ∧ o = .tbl #[])) → (∀ b ∈ ts, J b = some (.tbl #[])) → (∀ cl' : Cl, Den ⟨K, cl', .of none⟩ (fun b => b ∈ ts) J (.ref a) (.scr ns)) → HOk P w J z.heap → (J a ≠ none → K.lookup a = none) →
      codeAny (model P w) callerA (.call (.ref fa) ⟨[.ref a], []⟩) (fun r z' => r = .ok (.ret (.bool true)) ∧ OldK z.heap z'.heap ∧ z'.os = z.os ∧ AllBare z'.gens) z := by
    intro J hJ hT hD ok hK
    have out : ∀ {b : Addr} {o : Obj}, (∀ vs2 n2, o.data ≠ .seq vs2 n2) → o.data ≠ .fields #[] → z.heap.get? b = some o → J b = none := fun {b o} nd ne e => by
      cases hb : J b with
      | none => rfl
      | some u =>
        rcases hJ b u hb with ⟨rfl, _⟩ | ⟨hm, _⟩
        · rw [ea] at e
          cases e
          exact absurd rfl (nd _ _)
        · rw [emp b hm] at e
          cases e
          exact absurd rfl ne
    have hid : ∀ {b : Addr} {f : Str → Option Value}, z.heap.Ns b f → (hidT z.heap J).Ns b f := fun {b f} h => by
      obtain ⟨o, es, ep, e, d, r⟩ := h
      refine ⟨o, es, ep, hidT_get e (out (fun vs2 n2 q => ?_) (fun q => ?_) e), d, r⟩ <;> (rw [d] at q; cases q)
    have kb : K.In (hidT z.heap J) := fun b o e => hidT_get (kin b o e) (by
      cases hb : J b with
      | none => rfl
      | some u =>
        rcases hJ b u hb with ⟨rfl, _⟩ | ⟨hm, _⟩
        · have := hK (fun q => by rw [hb] at q; cases q)
          rw [this] at e
          cases e
        · obtain ⟨y, hy, rfl⟩ := isT b hm
          rw [TK.out y hy] at e
          cases e)
    have md : Mod K mg (hidT z.heap J) := by
      obtain ⟨mc, n1, n2⟩ := nol
      exact ⟨kb, hid hmg, ⟨bu, hid hbu, hbo⟩, ⟨mc, hid n1, n2⟩⟩
    have env : Env0 P w K mg (hidT z.heap J) callerA [] z J := ⟨rfl, md, fun b o e => of_hidT e, Nat.le_of_eq (hidT_size _ _), trivial, fun b hb => absurd hb (by simp [L2.frs]), ok, .of_eq gen⟩
    have tb : ∀ y ∈ xs, LamX.TabB (hidT z.heap J) mg (codeA K y) (tabA K y) := fun y hy => by
      have hm : tabA K y ∈ ts := by
        rw [ets]
        exact List.mem_map_of_mem hy
      refine ⟨PySem.W.codeHd_of_K kb (TK.hd y hy), ?_, fun q => ?_⟩
      · obtain ⟨bm, ob, b1, b2, b3, b4, b5, b6⟩ := hbm
        refine ⟨bm, ob, b1, b2, fun q => ?_, fun q => ?_, hidT_get b3 (out (fun vs2 n2 q => ?_) (fun q => ?_) b3), b4, b5, b6⟩
        · obtain ⟨o, es, ep, e, d, _⟩ := hmg
          rw [q, e] at b3
          cases b3
          rw [d] at b6
          cases b6
        · rw [q, emp _ hm] at b3
          cases b3
          cases b6
        · rw [b6] at q
          cases q
        · rw [b6] at q
          cases q
      · obtain ⟨o, es, ep, e, d, _⟩ := hmg
        rw [q, emp _ hm] at e
        cases e
        cases d
    have want : SpD K ⟨cl, T⟩ G false 1 spec [.ref a] J (fun v _ => v = .bl true) E0 := by
      refine ⟨rfl, .of none, fun b => b ∈ ts, [.scr ns], .cons (hD _) .nil, fun b hb => ?_, fun b hb => .inr (.inr (.inr ⟨_, hT b hb⟩)), ⟨(fun b hb => nomatch hb), fun q hq => LamX.TabS.nil (hT _ (inT q hq)), trivial⟩, Md.wp_mono (fun d e v H' _ r => ?_) good⟩
      · rcases hb with hb | ⟨q, hq, rfl⟩
        · cases hb
        · exact inT q hq
      · subst e
        have r2 : Den ⟨K, ⟨cl, T⟩, .of none⟩ (fun b => b ∈ ts) H' v (.bl true) := r
        cases r2
        rfl
    have F' := F _ kb (hid hmg) tb
    rw [← eT] at F'
    refine codeAny_mono (F'.does callerA [] z J ⟨[.ref a], []⟩ [.ref a] [.ref a] (fun v _ => v = .bl true) E0 rfl room env (bind z (.ref a)) (.cons rfl .nil) want) fun r z' hz => ?_
    match r, hz with
    | .error e, hz => exact hz.elim
    | .ok .next, hz => exact hz.elim
    | .ok .brk, hz => exact hz.elim
    | .ok .cont, hz => exact hz.elim
    | .ok (.ret u), ⟨v, J', eos, ba, un, ok', rv, ev⟩ =>
      have ev : v = .bl true := ev
      subst ev
      have eu : u = Value.bool true := rv
      subst eu
      have kept : ∀ b o, b ∉ ts → z.heap.get? b = some o → z'.heap.get? b = some o := fun b o nb e => by
        cases hb : J b with
        | none => exact un.keep b o e hb (by simp [L2.frs]) (by simp)
        | some u =>
          rcases hJ b u hb with ⟨_, ob, xs2, rfl⟩ | ⟨hm, _⟩
          · obtain ⟨k1, _⟩ := ok b _ hb
            obtain ⟨k2, _⟩ := ok' b _ (un.frzs b ob _ hb)
            rw [e] at k1
            cases k1
            exact k2
          · exact absurd hm nb
      have grown : ∀ b ∈ ts, ∃ more : Array Value, z'.heap.get? b = some { cls := .none, data := .fields more } := fun b hb => by
        obtain ⟨more, q⟩ := un.tbls b #[] (hT b hb)
        exact ⟨_, ok' b _ q⟩
      refine ⟨rfl, ⟨fun b o e => ?_, fun b o e => ?_⟩, eos, ba⟩
      · by_cases hb : b ∈ ts
        · obtain ⟨more, hm⟩ := grown b hb
          have e0 := emp b hb
          rw [e] at e0
          cases e0
          obtain ⟨y, hy, rfl⟩ := isT b hb
          exact .inr (.inl ⟨((PySem.W.codeHd_of_K kin (TK.hd y hy)).tab (TK.emp y hy)).isCodeTable, rfl, #[], more, rfl, by rw [Array.empty_append]; exact hm⟩)
        · exact .inl (kept b o hb e)
      · by_cases hb : b ∈ ts
        · obtain ⟨more, hm⟩ := grown b hb
          exact ⟨_, hm⟩
        · exact ⟨o, kept b o hb e⟩
  have hokT : ∀ b ∈ ts, ∀ J : Hp, ObjOk P w J z.heap b (.tbl #[]) := fun b hb J => emp b hb
  have at_ : ∀ u b, b ∈ ts → hpT a ts u b = some (.tbl #[]) := fun u b hb => by
    have ne : ¬ b = a := fun q => aT (by rw [← q]; exact hb)
    show (if b = a then u else if b ∈ ts then some (HO.tbl #[]) else none) = _
    rw [if_neg ne, if_pos hb]
  have at2 : ∀ u b o, b ≠ a → hpT a ts u b = some o → b ∈ ts ∧ o = .tbl #[] := fun u b o ne e => by
    unfold hpT at e
    rw [if_neg ne] at e
    by_cases hb : b ∈ ts
    · rw [if_pos hb] at e
      cases e
      exact ⟨hb, rfl⟩
    · rw [if_neg hb] at e
      cases e
  have ata : ∀ u, hpT a ts u a = u := fun u => by
    unfold hpT
    rw [if_pos rfl]
  cases hk : K.lookup a with
  | some o =>
    have e := kin a o hk
    rw [ea] at e
    cases e
    have sq : ∀ J : Hp, SqL K J a (ns.map V.int) := fun J => .inr ⟨_, vs.toArray, _, hk, rfl, rfl, rfl, by rw [List.size_toArray, hin.length]; exact hle, by simpa using hrv⟩
    have na : hpT a ts none a = none := ata none
    refine main (hpT a ts none) (fun b o h => ?_) (at_ none) (fun cl' => .scr (.inr sq)) (fun b o h => ?_) fun h => absurd na h
    · by_cases q : b = a
      · rw [q, na] at h; cases h
      · exact .inr (at2 none b o q h)
    · by_cases q : b = a
      · rw [q, na] at h; cases h
      · obtain ⟨hb, rfl⟩ := at2 none b o q h
        exact hokT b hb _
  | none =>
    obtain ⟨u, eu⟩ : ∃ u, u = some (HO.frz { cls := .type "list", data := .seq vs.toArray } (.lst (ns.map V.int))) := ⟨_, rfl⟩
    have J0 : hpT a ts u a = some (HO.frz { cls := .type "list", data := .seq vs.toArray } (.lst (ns.map V.int))) := (ata u).trans eu
    refine main (hpT a ts u) (fun b o e => ?_) (at_ u) (fun cl' => .scr (.inl ⟨aT, .inr ⟨_, J0⟩⟩)) (fun b o e => ?_) fun _ => hk
    · by_cases h : b = a
      · subst h
        rw [J0] at e
        cases e
        exact .inl ⟨rfl, _, _, rfl⟩
      · exact .inr (at2 u b o h e)
    · by_cases h : b = a
      · subst h
        rw [J0] at e
        cases e
        exact ⟨ea, by rw [List.length_map]; exact hle, vs, _, hrv, ea⟩
      · obtain ⟨hb, rfl⟩ := at2 u b o h e
        exact hokT b hb _
/-- the law's row, from what the head says -/
theorem walk_endT {l : PySem.W.OpenLaw} {k : Nat} {q : Program} {loose : List Str} {XP : (Str → Option Value) → Heap → Prop} {YP : World → Heap → Prop} {d : DefRec} {x : Str} {xs : List Str} {nm : Str → Str} {spec : List D → G D}
    (h63 : l.most = some 63) (hdf : d.params.defaults = []) (hr : Room k callerA)
    (F : ∀ (w : World) (mg : Str → Option Value) (fa : Addr) (h : Heap), YP w h → h.Ns mainGlobals mg → mg d.name = some (.ref fa) →
      ∃ (K : PySem.W.Frag) (fd : FuncData) (cl : Str → Addr), K.In h ∧ TabK K xs h ∧ (∀ (s : Shared) (u : Value), BindsTo s fd ⟨[u], []⟩ [(x, u)]) ∧ ∀ base : Heap, K.In base → base.Ns mainGlobals mg → (∀ y ∈ xs, LamX.TabB base mg (codeA K y) (tabA K y)) → FnG l.prog w K mg base CX0 k fa fd [x] (SpD K ⟨cl, xs.map fun y => (tabA K y, nm y)⟩ G false 1 spec))
    (good : ∀ ns : List Int, ns.length ≤ 63 → Md.wp (spec [.scr ns]) fun d => d = .bl true) :
    PySem.W.WalkO q loose XP YP l.row.toRowW d [] (fun f vs => PySem.call f vs) := by
  refine Att.attach_call h63 hdf fun w s₀ s₁ mg mb fa o pm cd doc a vs ns G Y ho hd hcd hmg hobj hints hlen hg => ?_
  obtain ⟨K, fd, cl, kin, TK, bd, Fk⟩ := F w mg fa _ Y G.T.g hmg
  exact law_goT kin G.T.g G.T.b G.T.builtins G.T.nolimit hg TK G.T.bmain hobj hints hlen hr Fk bd (good ns hlen)
end Pw
set_option Elab.async false
set_option linter.all false
set_option maxRecDepth 100000
set_option maxHeartbeats 1000000
/-! Pw88: more of what raises: whatever the def hands back; names of arguments; error classes with one field. -/
namespace Pw
open PySem PySem.Spec PyProof.Rows L2
section
variable {w : Wd} {O O1 Ob : List Nat} {κ κ2 b : Bool} {t1 : TS} {ta tb t2 : WX → TS} {fs : Env → Option Rs} {fa fb fx : Env → Option Er}
theorem xs_two2 {t1 t2 : WX → TS} {f1 f2 : Env → Option Er} (hn : ∀ W, Ssm Option w κ [] O O1 (t1 W) fs) (h1 : Xsm w O t1 f1) (h2 : Xsm w O1 t2 f2) : Xsm w O (fun W => tSeq (t1 W) (t2 W)) (xTwo fs f1 f2) := fun A H0 M σ H ρ W E e R q hw => by
  unfold xTwo at q
  split at q
  · rename_i e1 q1
    cases q
    exact h1 A H0 M σ H ρ W { E with nx := t2 W E } e R q1 hw
  · split at q
    · rename_i ρ' e1
      exact hn W A H0 M σ H ρ { E with nx := t2 W E } R ⟨_, e1, fun M' σ' H' R' _ => h2 A H0 M' σ' H' ρ' W E e R' q hw⟩
    · cases q
theorem xs_if2 {tc : WX → TT} {fc : Env → Option Bool} (hc : ∀ W, Tst Option w O (tc W) fc) (h1 : Xsm w O ta fa) (h2 : Xsm w O tb fb) : Xsm w O (fun W => tIfS (tc W) (ta W) (tb W)) (xIf fc fa fb) := fun A H0 M σ H ρ W E e R q hw => by
  unfold xIf at q
  split at q
  · rename_i e1
    exact hc W A H0 M σ H ρ _ R ⟨_, e1, fun H1 k1 => h1 A H0 M σ H1 ρ W E e (R.go k1) q hw⟩
  · rename_i e1
    exact hc W A H0 M σ H ρ _ R ⟨_, e1, fun H1 k1 => h2 A H0 M σ H1 ρ W E e (R.go k1) q hw⟩
  · cases q
/-- a call: the arguments raise, or the def does -/
def xBoth (fa fg : Env → Option Er) : Env → Option Er := fun ρ => match fa ρ with
  | some e => some e
  | none => fg ρ
theorem xe_both {t : WX → TE} {f1 f2 : Env → Option Er} (h1 : Xe w O t f1) (h2 : Xe w O t f2) : Xe w O t (xBoth f1 f2) := fun A H0 M σ H ρ W Q e R q hw => by
  unfold xBoth at q
  split at q
  · rename_i e1 q1
    cases q
    exact h1 A H0 M σ H ρ W Q e R q1 hw
  · exact h2 A H0 M σ H ρ W Q e R q hw
/-- arguments that may raise, where they do not: a call that raises -/
theorem xe_goE2 {κ : Bool} {j : Nat} {t : WX → TA} {fr : Env → Option (List D)} {spec : List D → Option D} {x : List D → Option Er} (ha : ∀ W, ArN Option w O true j (t W) fr) : Xe w O (fun W => tGoX (SpE w.K w.cl Option κ j spec x) (WE W) (t W)) (xGo x fr) := fun A H0 M σ H ρ W Q e R q hw => xe_goE (t := t W) (ha W) A H0 M σ H ρ W Q e R q hw
end
section
variable {m : Type → Type} [Md m] {w : Wd} {O : List Nat} {j : Nat} {t : TA} {fr : Env → m (List D)} {spec : List D → Option D} {x : List D → Option Er} {E : L2.St → XK}
theorem simL_goE [Up Option m] (ha : ArN m w O true j t fr) : SimL m w O (tGoX (SpE w.K w.cl Option true j spec x) E t) (pGoL spec fr) := fun A H0 M σ H ρ Q R q => by
  refine ha A H0 M σ H ρ _ R (Md.wp_mono (fun ds q1 vs H1 k1 l1 d1 => ?_) (Md.wp_bind q))
  refine .inl ⟨l1, w.pot, M, ds, d1.safe, R.pm, (R.go k1).isL, (R.go k1).potOk, Md.wp_mono (fun d z v H' k r => ?_) (Up.ok (Md.wp_bind q1))⟩
  rcases r with ⟨rfl, rfl⟩ | ⟨p, us, es, rfl, rfl, e1, e2, e3⟩
  · obtain ⟨_, e4, _⟩ := Md.wp_lift z
    cases e4
  · obtain ⟨_, e4, z⟩ := Md.wp_lift z
    cases e4
    exact z p us H' (fresh_back k1 R.potOk e1) (k1.trans k) e2 e3
theorem sim_goEN [Up Option m] (ha : ArN m w O true j t fr) : Sim m w O true (tGoX (SpE w.K w.cl Option true j spec x) E t) (pOf (pGoL spec fr)) := sim_new (simL_goE ha)
end
/-! ### calls by names -/
section
variable {X : Cx} {k : Nat} {ps ks : List Str} {sp : Sp} {x : Str} {st : Stmt} {p pos : Pos} {e : Expr} {es : List Expr} {kws : List Keyword} {t tk : TA} {W : WX}
theorem pe_goXK0 (ks : List Str) (π : List Nat) (F : FunX X.prog X.w X.K X.mg X.base k x st ps sp) (hr : Room k X.A) (hg : X.A.guards = some []) (tko : Takes X W) (gl : Gl X x) (hkw : PK X kws tk)
    (hb : ∀ (y : Str) (kV doc pm : Value) (an : Option Addr) (cdv ct : Value) (us ws : List Value), us.length = 0 → ws.length = ks.length → bindArgs (PySem.W.fnOf y y (defArgs st) (defBody st) (defScope st) .none kV doc pm an cdv ct) ⟨us, ks.zip ws⟩ = pure (ps.zip (pick π (us ++ ws))))
    (hl : kws.length = ks.length := by rfl)
    (hdb : (x == ("__debug__" : Str)) = false := by decide)
    (hall : (backToKw pos (keywordEach kws X.env)).all (·.1.isSome) = true := by rfl) (hks : (backToKw pos (keywordEach kws X.env)).filterMap (·.1) = ks := by rfl)
    (hpl : ((backTo pos (starEach [] X.env)).any (·.1) || (backToKw pos (keywordEach kws X.env)).any (·.1.isNone)) = false := by rfl) :
    PE X (.Call (.Name x p) [] kws pos) (tGoX sp (WE W) (tKws ks.length π tk)) := by
  obtain ⟨y, f, fd, D, F, hm⟩ := F.ex
  refine ⟨fun pins z σ H Q I h => wpAny_Call_Name_kw (ld_glob I gl hm (PySem.W.callWith_KW0 (h₀ := X.base) I.ok.mod.kin D.kp hall (thn (hkw.run pos pins z σ H _ I h) fun ws z2 ⟨zs, H2, I2, rz, l2, q2⟩ => ⟨I2.kIn, ?_⟩) hpl) hdb)⟩
  rw [hks]
  refine wpAny_call (codeAny_mono (go_fnX (us := pick π ws) F hr hg ?_ (passAt tko σ) I2 (pick_vals rz π) q2) fun r z' h => ?_)
  · obtain ⟨oc, od, dV, kV, doc, pm, an, cdv, ct, osl, rfl, lk, hcd, hD, hK⟩ := D.ex
    rcases hD with ⟨_, rfl⟩ | ⟨e, _⟩
    · exact .of_eq (hb y kV doc pm an cdv ct [] ws rfl (by rw [← rz.length]; exact l2))
    · exact absurd rfl e
  · match r, h with
    | .ok (.ret u), h => exact h
    | .error e, h => exact h
/-- both rows of a def that may raise -/
theorem funE {P : Program} {w : World} {K : PySem.W.Frag} {cl : Cl} {mg : Str → Option Value} {base : Heap} {k j : Nat} {κ : Bool} {x : Str} {st : Stmt} {ps : List Str} {spec : List D → Option D} {xr : List D → Option Er} {f : Addr} {fd : FuncData} {y : Str}
    (F : FunD K y y (defArgs st) (defBody st) (defScope st) [] [] f fd) (hm : mg x = some (.ref f)) (F1 : FnG P w K mg base CX0 k f fd ps (SpD K cl Option κ j spec)) (F2 : FnG P w K mg base (L2.CX P w) k f fd ps (SpX K cl j xr)) : FunX P w K mg base k x st ps (SpE K cl Option κ j spec xr) :=
  ⟨y, f, fd, F, F1.toX.or F2, hm⟩
end
/-! ### repr of a field by any rule -/
section
variable {m : Type → Type} [Md m] {w : Wd} {O : List Nat} {a : Addr} {cls : Value} {dd : Option Addr} {i : Nat} {er : Er}
def pReprG (g : List D → Option D) (n : Str) (er : Er) : Env → m D := fun _ => Md.lift ((er.fs.lookup n).bind fun x => (g [x]).bind dFlatF)
theorem se_reprG {r : List V → Hp → VK → Prop} {g : List D → Option D} (hr : ClSim w r g) (n : Str) : SimE m w O true a cls dd i er (tCB r (tCons (tXf a cls dd (w.cl er.c) n (tVar i)) tNil)) (pReprG g n er) := fun A H0 M σ H ρ Q R hs hE q => by
  obtain ⟨d, e, q⟩ := Md.wp_lift q
  obtain ⟨x, e0, e1⟩ := Option.bind_eq_some_iff.mp e
  obtain ⟨y, e2, e3⟩ := Option.bind_eq_some_iff.mp e1
  unfold dFlatF at e3
  cases hn : y.noL with
  | false => rw [hn] at e3; cases e3
  | true =>
    rw [hn] at e3
    cases e3
    obtain ⟨hc, p, fs, v, hx, ex, el, hv⟩ := fld_at hE e0
    refine ⟨.ref a, hs, rfl, hc, p, fs, v, hx, ex, el, ?_⟩
    exact hr w.pa H [x] d [v] Q (fun _ z => z) (fun a z e => R.potOk.no z e) ⟨.inl hv, trivial⟩ e2 fun z H3 k3 dz => q z H3 k3 (Den.up (R.go k3).isL _ _ hn dz)
end
/-! ### error classes with one field: what the head shows -/
def exIB (K : PySem.W.Frag) (x : Str) : Bool := decide (PySem.W.findIn K (.ref (He.ga K x)) "__init__" = some (some (.ref (He.ma K (He.ga K x) "__init__")))) && (decide (PySem.W.typeIn K (.ref (He.ma K (He.ga K x) "__init__")) = some (.type "function")) && xfB K (He.ga K x))
theorem ex1_of {P : Program} {w : World} {K : PySem.W.Frag} {mg : Str → Option Value} {base : Heap} {x qual f : Str} {st : Stmt} {fd : FuncData} {N ps : List Str} (h1 : oexB K (He.ga K x) f = true) (h2 : exIB K x = true) (gl : mg x = some (.ref (He.ga K x)))
    (F : FunD K "__init__" qual (defArgs st) (defBody st) (defScope st) [] [] (He.ma K (He.ga K x) "__init__") fd) (S : FnScope N ps (defScope st)) (hl : ps.length = 2)
    (hbind : ∀ (kV doc pm : Value) (an : Option Addr) (cdv ct : Value) (us : List Value), us.length = ps.length → bindArgs (PySem.W.fnOf "__init__" qual (defArgs st) (defBody st) (defScope st) .none kV doc pm an cdv ct) ⟨us, []⟩ = pure (ps.zip us))
    (hb : ∀ (cdv : Value) (B : Around) (out : List PySem.Env) (z : Shared) (H : Hp) (E : XK) (fI : Addr), Room 0 (B.deeper (envOfC qual (defScope st) z.heap.objs.size fI cdv)) → PSs (cxOf CX0 P w K mg base N qual (defScope st) fI cdv B out z H E) (defBody st) (tOst K f (tVar 0) (tVar 1))) :
    Ex1 P w K mg base 1 x f (He.ga K x) := by
  obtain ⟨T, hno, me⟩ := oexB_ok h1
  unfold exIB at h2
  simp only [Bool.and_eq_true, decide_eq_true_eq] at h2
  exact ⟨T, hno, gl, ⟨_, fd, ps, h2.1, h2.2.1, fnok_init1 F S hl fun cdv B out z H E hr => hb cdv B out z H E _ hr, Binds.all fun us hu => by
    obtain ⟨oc, od, dV, kV, doc, pm, an, cdv, ct, osl, rfl, lk, hcd, hD, hK⟩ := F.ex
    rcases hD with ⟨_, rfl⟩ | ⟨e, _⟩
    · exact hbind kV doc pm an cdv ct us hu
    · exact absurd rfl e⟩, me⟩
end Pw
set_option Elab.async false
set_option linter.all false
set_option maxRecDepth 100000
set_option maxHeartbeats 1000000
/-! Pw89: where a lambda stands in its def; the pure side without its words; the maker's table. -/
namespace Pw
open PySem PySem.Spec PyProof.Rows L2
def noE : Expr := .Constant .none 0 ⟨0, 0, 0, 0⟩
def noS : Stmt := .Pass ⟨0, 0, 0, 0⟩
/-- the i-th part of an expression -/
def lmE (i : Nat) : Expr → Expr
  | .BoolOp _ vs _ => vs.getD i noE
  | .BinOp l _ r _ => if i = 0 then l else r
  | .UnaryOp _ e _ => e
  | .Compare l _ rs _ => (l :: rs).getD i noE
  | .Call _ es _ _ => es.getD i noE
  | .List es _ => es.getD i noE
  | .Tuple es _ _ => es.getD i noE
  | _ => noE
def lmS : Stmt → Expr
  | .Return (some e) _ => e
  | .Assign _ e _ => e
  | .Expr e _ => e
  | .If t _ _ _ => t
  | _ => noE
def lmB (i : Nat) : Stmt → Stmt
  | .For _ _ b _ _ => b.getD i noS
  | .If _ b _ _ => b.getD i noS
  | _ => noS
def lamOf (fr : List Str) : Expr → Lam
  | .Lambda a b s _ => ⟨a, b, s, fr⟩
  | _ => ⟨⟨[], [], .none, [], [], .none, []⟩, noE, default, fr⟩
/-! ### without the words -/
abbrev LamP := List Nat × (Env → Option D)
def LamD.p (l : LamD) : LamP := (l.js, l.oc)
def ocsP (ρ : Env) : List LamP → Option (List D)
  | [] => some []
  | l :: ls => (l.2 (capE l.1 ρ)).bind fun d => (ocOk d).bind fun e => (ocsP ρ ls).map (e :: ·)
theorem ocsP_eq {ρ : Env} : ∀ ls : List LamD, ocsP ρ (ls.map LamD.p) = ocsOf ρ ls
  | [] => rfl
  | l :: ls => by
    rw [List.map_cons]
    show (l.oc (capE l.js ρ)).bind _ = _
    unfold ocsOf
    rw [ocsP_eq ls]
section
variable {m n : Type → Type} [Md m] [Md n] [Up n m] {P : Program} {wo : World} {mg : Str → Option Value} {base : Heap} {kc : Nat} {w : Wd} {O : List Nat} {q : Str} {cells : List (Str × Addr)} {ys : List Str} {js : List Nat} {ls : List LamD} {os : List LamP} {b : Bool} {te : TE} {fe : Env → m D} {spec : List D → n D} {c : Nat}
def pAreP (os : List LamP) (spec : List D → n D) (fe : Env → m D) : Env → m D := fun ρ => Md.bind (fe ρ) fun due => Md.bind (Md.lift (noF1 due)) fun _ => Md.bind (Md.lift (ocsP ρ os)) fun ocs => Md.bind (Up.up (spec [.lst ocs, due])) fun d => Md.lift (dFlat2 d)
theorem pAreP_eq : pAreP (ls.map LamD.p) spec fe = pAre ls spec fe := by
  funext ρ
  unfold pAreP pAre
  rw [ocsP_eq]
theorem sf_areP (hok : LamsOk P wo w.K mg base w.cl kc cells ys js ls) (h : Sim m w O b te fe) (ho : os = ls.map LamD.p := by rfl) : SimF m w O true q cells c ls (tGoC (SpF P wo w.K mg base w.cl (kc + 1) n false 2 spec) cells ys js (tCons (tVar c) (tCons te tNil))) (pAreP os spec fe) := by
  subst ho
  rw [pAreP_eq]
  exact sf_are hok h
def pHeardP (o : LamP) (spec : List D → n D) : Env → m (List D) := fun ρ => Md.bind (Md.lift (ocsP ρ [o])) fun ocs => Md.bind (Up.up (spec ocs)) fun d => Md.lift (dFlatL2 d)
theorem lamsOk_nil {K : PySem.W.Frag} {cl : Cl} : LamsOk P wo K mg base cl kc cells ys js [] := ⟨fun l h => nomatch h⟩
theorem lamsOk_cons {K : PySem.W.Frag} {cl : Cl} {l : LamD} {ls : List LamD} (h : LamOk P wo K mg base cl kc l.L l.oc) (hl : l.js.length = l.L.fr.length) (hin : ((l.L.fr.zip l.js).all fun p => (ys.zip js).contains p) = true) (hy : ∀ y ∈ l.L.scope.names, y.2 = .free → ∃ c, cells.lookup y.1 = some c) (t : LamsOk P wo K mg base cl kc cells ys js ls) : LamsOk P wo K mg base cl kc cells ys js (l :: ls) := ⟨fun x hx => by
  rcases List.mem_cons.mp hx with rfl | hx
  · refine ⟨h, hl, fun i y j e1 e2 => ?_, hy⟩
    have hm : (y, j) ∈ x.L.fr.zip x.js := List.mem_iff_getElem?.mpr ⟨i, by rw [List.getElem?_zip_eq_some]; exact ⟨e1, e2⟩⟩
    have h2 := List.all_eq_true.mp hin _ hm
    have h3 : (y, j) ∈ ys.zip js := by simpa using h2
    obtain ⟨n, hn⟩ := List.mem_iff_getElem?.mp h3
    rw [List.getElem?_zip_eq_some] at hn
    exact ⟨n, hn⟩
  · exact t.ok x hx⟩
/-- a lambda's captured names are cells of the maker -/
theorem lam_free {sc : Scope} {L : Lam} (hc : ∀ y, sc.names.lookup y = some .cell → ∃ c, cells.lookup y = some c) (h : (L.scope.names.all fun y => !decide (y.2 = .free) || decide (sc.names.lookup y.1 = some .cell)) = true) : ∀ y ∈ L.scope.names, y.2 = .free → ∃ c, cells.lookup y.1 = some c := fun y hy e => by
  have z := List.all_eq_true.mp h y hy
  simp only [Bool.or_eq_true, Bool.not_eq_true', decide_eq_false_iff_not, decide_eq_true_eq] at z
  exact hc _ (z.resolve_left fun q => q e)
end
/-! ### the maker's table -/
structure TabX (mg : Str → Option Value) (base : Heap) (cl : Cl) (c P : Addr) (q : Str) : Prop where
  tb : LamX.TabB base mg c P
  mem : (P, q) ∈ cl.T
  uniq : ∀ p ∈ cl.T, p.1 = P → p.2 = q
theorem nodup_map {α β : Type} {f : α → β} : ∀ {l : List α} {x y : α}, (l.map f).Nodup → x ∈ l → y ∈ l → f x = f y → x = y
  | [], _, _, _, h, _, _ => nomatch h
  | a :: l, x, y, nd, hx, hy, e => by
    rw [List.map_cons, List.nodup_cons] at nd
    rcases List.mem_cons.mp hx with h1 | h1
    · rcases List.mem_cons.mp hy with h2 | h2
      · rw [h1, h2]
      · exact absurd (show f a ∈ l.map f by rw [← h1, e]; exact List.mem_map_of_mem h2) nd.1
    · rcases List.mem_cons.mp hy with h2 | h2
      · exact absurd (show f a ∈ l.map f by rw [← h2, ← e]; exact List.mem_map_of_mem h1) nd.1
      · exact nodup_map nd.2 h1 h2 e
theorem tabx_of {K : PySem.W.Frag} {xs : List Str} {h base : Heap} {mg : Str → Option Value} {nm : Str → Str} {cl : Str → Addr} (T : TabK K xs h) (TB : ∀ y ∈ xs, LamX.TabB base mg (codeA K y) (tabA K y)) {x : Str} (hx : x ∈ xs) : TabX mg base ⟨cl, xs.map fun y => (tabA K y, nm y)⟩ (codeA K x) (tabA K x) (nm x) :=
  ⟨TB x hx, List.mem_map_of_mem (f := fun y => (tabA K y, nm y)) hx, fun p hp e => by
    obtain ⟨y, hy, rfl⟩ := List.mem_map.mp hp
    have := nodup_map T.nd hy hx e
    rw [this]⟩
end Pw
set_option Elab.async false
set_option linter.all false
set_option maxRecDepth 100000
set_option maxHeartbeats 1000000
/-! Pw90: the clauses without their readings; what the head shows of the classes in clauses. -/
namespace Pw
open PySem PySem.Spec PyProof.Rows L2
section
variable {m : Type → Type} [Md m] {w : Wd} {κ : Bool} {O Ob : List Nat}
abbrev ClaP (m : Type → Type) := Str × (Er → Env → m Rs)
def ClaD.p (q : ClaD m) : ClaP m := (q.c, q.gs)
def sClaP (i : Nat) (er : Er) (ρ : Env) : List (ClaP m) → m Rs
  | [] => Md.lift none
  | q :: qs => if er.c = q.1 then Md.bind (q.2 er (ρ.set i none)) fun r => Md.ret (goneR i r) else sClaP i er ρ qs
def sTryP (ic i : Nat) (qs : List (ClaP m)) : Env → m Rs := fun ρ => Md.bind (Md.lift (if i < ρ.length then gG ρ ic else none)) fun d => match d with
  | .fn c ns ds => if c = "" then Md.ret (.nx ρ) else sClaP i ⟨c, ns.zip ds⟩ ρ qs
  | _ => Md.lift none
theorem sClaP_eq {i : Nat} {er : Er} {ρ : Env} : ∀ qs : List (ClaD m), sClaP i er ρ (qs.map ClaD.p) = sCla i er ρ qs
  | [] => rfl
  | q :: qs => by
    rw [List.map_cons]
    show (if er.c = q.c then _ else sClaP i er ρ (qs.map ClaD.p)) = _
    unfold sCla
    rw [sClaP_eq qs]
    rfl
theorem sTryP_eq {ic i : Nat} {qs : List (ClaD m)} : sTryP ic i (qs.map ClaD.p) = sTryM ic i qs := by
  funext ρ
  unfold sTryP sTryM
  congr 1
  funext d
  cases d <;> first | rfl | (dsimp only; rw [sClaP_eq])
theorem ss_tryP (ic i : Nat) {cs : List Str} {qs : List (ClaD m)} {ps : List (ClaP m)} (hx : ExmAll w cs) (hm : qs.map (·.c) = cs) (hs : ∀ q ∈ qs, ClaOk w κ Ob O i q) (hp : ps = qs.map ClaD.p := by rfl) (hc : ic ∉ O := by decide) (hi : i ∉ O := by decide) (hi2 : i ∉ Ob := by decide) :
    Ssm m w κ Ob O O (tTryM w.K i (fun W => tDrop (tAct w ic W)) (claV w qs)) (sTryP ic i ps) := by
  subst hp
  rw [sTryP_eq]
  exact ss_tryM ic i hx hm hs hc hi hi2
theorem claAll_nil {i : Nat} : ∀ q ∈ ([] : List (ClaD m)), ClaOk w κ Ob O i q := fun q h => nomatch h
theorem claAll_cons {i : Nat} {q : ClaD m} {qs : List (ClaD m)} (h : ClaOk w κ Ob O i q) (t : ∀ q ∈ qs, ClaOk w κ Ob O i q) : ∀ x ∈ q :: qs, ClaOk w κ Ob O i x := fun x hx => by
  rcases List.mem_cons.mp hx with rfl | hx
  · exact h
  · exact t x hx
end
def exmAllB (K : PySem.W.Frag) (cs : List Str) : Bool := cs.all fun c => cs.all fun c' => decide (PySem.W.exmOne K (.ref (He.ga K c)) (.ref (He.ga K c')) = some (decide (c = c')))
theorem exmAll_ok {K : PySem.W.Frag} {cs : List Str} {T : List (Addr × Str)} (h : exmAllB K cs = true) : ∀ pot, ExmAll ⟨K, ⟨He.ga K, T⟩, pot⟩ cs := fun pot c hc c' hc' => by
  unfold exmAllB at h
  simp only [List.all_eq_true, decide_eq_true_eq] at h
  exact h c hc c' hc'
def kitB (K : PySem.W.Frag) (c c' : Str) : Bool := decide (PySem.W.kitCls K (.ref (He.ga K c)) (.ref (He.ga K c')) = some true)
theorem kitB_ok {K : PySem.W.Frag} {c c' : Str} (h : kitB K c c' = true) : PySem.W.kitCls K (.ref (He.ga K c)) (.ref (He.ga K c')) = some true := of_decide_eq_true h
def nofB (K : PySem.W.Frag) (c f : Str) : Bool := decide (PySem.W.findIn K (.ref (He.ga K c)) f = some none)
theorem nofB_ok {K : PySem.W.Frag} {c f : Str} (h : nofB K c f = true) : PySem.W.findIn K (.ref (He.ga K c)) f = some none := of_decide_eq_true h
def xfcB (K : PySem.W.Frag) (c : Str) : Bool := xfB K (He.ga K c)
end Pw
set_option Elab.async false
set_option linter.all false
set_option maxRecDepth 100000
set_option maxHeartbeats 1000000
/-! Pw91: repr of any plain data, the empty dict too; == over lists that hold such texts. -/
namespace Pw
open PySem PySem.Spec PyProof.Rows L2
def z1B (K : PySem.W.Frag) (c f : Str) : Bool := oexB K (He.ga K c) f && exIB K c
theorem z1B_ok {K : PySem.W.Frag} {c f : Str} (h : z1B K c f = true) : oexB K (He.ga K c) f = true ∧ exIB K c = true := Bool.and_eq_true_iff.mp h
/-! ### repr -/
def rReprV (K : PySem.W.Frag) : List V → Hp → VK → Prop := fun xs H Q => rRepr K xs H Q ∨ (∃ b, xs = [.bl b] ∧ Q (.str (PyData.bool b).shown) H) ∨ (∃ i : Int, xs = [.int i] ∧ i.natAbs.log2 < 1920 ∧ Q (.str (PyData.int i).shown) H) ∨
  (∃ x : Str, xs = [.str x] ∧ (reprText x).length ≤ sizeLine ∧ Q (.str (PyData.str x).shown) H) ∨ ∃ a, xs = [.ref a] ∧ Rd H a (.dK []) ∧ Q (.str (PyData.dict []).shown) H
theorem call_reprV {X : Cx} (hg : X.A.guards = some []) (hu : X.A.units + 64 < cLine) : CallR X (.builtin "repr") (rReprV X.K) := by
  intro pins s σ H xs us Q I r h
  rcases h with h | ⟨b, rfl, q⟩ | ⟨i, rfl, hi, q⟩ | ⟨x, rfl, hx, q⟩ | ⟨a, rfl, hd, q⟩
  · exact call_repr hg hu pins s σ H xs us Q I r h
  · cases r with
    | cons rx rr =>
      cases rr
      cases (show _ = Value.bool b from rx)
      exact PySem.P.repr_of_bool ⟨.str (PyData.bool b).shown, H, I.kept (t' := s.toks + 1) fun _ _ e => e, ⟨s.toks, by unfold PyData.shown; cases b <;> rfl⟩, q⟩
  · cases r with
    | cons rx rr =>
      cases rr
      obtain ⟨t, rfl⟩ := (show ∃ t, _ = Value.int i t from rx)
      exact PySem.P.repr_of_int hi ⟨.str (PyData.int i).shown, H, I.kept (t' := s.toks + 1) fun _ _ e => e, ⟨s.toks, by unfold PyData.shown; rfl⟩, q⟩
  · cases r with
    | cons rx rr =>
      cases rr
      obtain ⟨t, rfl⟩ := (show ∃ t, _ = Value.str x t from rx)
      exact PySem.P.repr_of_str ⟨.str (PyData.str x).shown, H, I.kept (t' := s.toks + 1) fun _ _ e => e, ⟨s.toks, by unfold PyData.shown; rfl⟩, q⟩ hx
  · cases r with
    | cons rx rr =>
      cases rr
      cases (show _ = Value.ref a from rx)
      obtain ⟨_, hsm, vs, kv, ob, es, ep, eo, ⟨ec, _⟩, ed, hk, hp, _⟩ := dk_rd I.hok hd
      have e0 : vs = [] := by cases kv; rfl
      subst e0
      have ee : es.toList = [] := List.length_eq_zero_iff.mp (Pairs.length hp)
      have rd : Reads s.heap (.ref a) (.dict []) (a :: [] ++ []) := .dict (kvs := []) eo ec ed (by rw [ee]; exact .nil) (by rw [ee]; exact .nil)
      refine repr_of_reads' rd rfl (fun _ hm => by
        have e : sysModules = a := List.mem_singleton.mp (show sysModules ∈ [a] from hm)
        rw [← e, beq_self_eq_true] at hsm
        cases hsm) hg (by show X.A.units + _ < cLine; simp only [PyData.depth, PyData.depthKv]; omega) (fun _ _ e => e) (fun h' u tk hk => ?_) (by decide +kernel)
      exact ⟨.str (PyData.dict []).shown, H, I.kept (t' := tk) hk, ⟨u, rfl⟩, q⟩
def dReprV : List D → Option D
  | [.bl b] => some (.rep (.bool b))
  | [.int i] => match decide (i.natAbs.log2 < 1920) with
    | true => some (.rep (.int i))
    | false => none
  | [.str x] => match decide ((reprText x).length ≤ 1000000) with
    | true => some (.rep (.str x))
    | false => none
  | [.dic []] => some (.rep (.dict []))
  | ds => dRepr ds
theorem cs_reprV {w : Wd} : ClSim w (rReprV w.K) dReprV := fun M H ds d vs Q hp hd h e q => by
  unfold dReprV at e
  split at e
  · cases e
    obtain ⟨v, rfl, dv⟩ := one_arg h
    cases dv.bl
    exact .inr (.inl ⟨_, rfl, q _ H .refl (.rep _)⟩)
  · split at e
    · rename_i hi
      cases e
      obtain ⟨v, rfl, dv⟩ := one_arg h
      cases dv.int
      exact .inr (.inr (.inl ⟨_, rfl, of_decide_eq_true hi, q _ H .refl (.rep _)⟩))
    · cases e
  · split at e
    · rename_i hi
      cases e
      obtain ⟨v, rfl, dv⟩ := one_arg h
      cases dv.str
      exact .inr (.inr (.inr (.inl ⟨_, rfl, Nat.le_trans (of_decide_eq_true hi) (by rw [sizeLine_eq]; decide), q _ H .refl (.rep _)⟩)))
    · cases e
  · cases e
    obtain ⟨v, rfl, dv⟩ := one_arg h
    rcases dv with dv | ⟨_, _, _, _, z, _⟩
    · cases dv with | dic n e => exact .inr (.inr (.inr (.inr ⟨_, rfl, e, q _ H .refl (.rep _)⟩)))
    · cases z
  · exact .inl (cs_repr M H _ d vs Q hp hd h e q)
/-! ### == over lists of texts of data -/
def D.txt : D → Option PyData
  | .non => some .none
  | .bl b => some (.bool b)
  | .int i => some (.int i)
  | .str x => some (.str x)
  | .rep p => some (.str p.shown)
  | _ => none
def txts : List D → Option (List PyData)
  | [] => some []
  | d :: ds => d.txt.bind fun p => (txts ds).map (p :: ·)
def sameR : PyData → PyData → Bool
  | .dict [], .dict [] => true
  | p, q => pySame p q
theorem sameR_eq {p q : PyData} (h : sameR p q = true) : p = q := by
  unfold sameR at h
  split at h
  · rfl
  · exact pySame_eq _ _ h
def sure1 : D → D → Bool
  | .non, .non => true
  | .bl a, .bl b => a == b
  | .int i, .int j => decide (i = j)
  | .str a, .str b => decide (a = b)
  | .rep p, .rep q => sameR p q
  | _, _ => false
def sureA : List D → List D → Bool
  | [], [] => true
  | x :: xs, y :: ys => sure1 x y && sureA xs ys
  | _, _ => false
theorem sure1_eq {x y : D} (h : sure1 x y = true) : ∃ p, x.txt = some p ∧ y = x := by
  unfold sure1 at h
  split at h
  · exact ⟨_, rfl, rfl⟩
  · cases beq_iff_eq.mp h; exact ⟨_, rfl, rfl⟩
  · cases of_decide_eq_true h; exact ⟨_, rfl, rfl⟩
  · cases of_decide_eq_true h; exact ⟨_, rfl, rfl⟩
  · cases sameR_eq h; exact ⟨_, rfl, rfl⟩
  · cases h
theorem sureA_eq : ∀ {xs ys : List D}, sureA xs ys = true → ∃ ps, txts xs = some ps ∧ ys = xs
  | [], [], _ => ⟨[], rfl, rfl⟩
  | [], _ :: _, h => by cases h
  | _ :: _, [], h => by cases h
  | x :: xs, y :: ys, h => by
    unfold sureA at h
    obtain ⟨h1, h2⟩ := Bool.and_eq_true_iff.mp h
    obtain ⟨p, e1, rfl⟩ := sure1_eq h1
    obtain ⟨ps, e2, rfl⟩ := sureA_eq h2
    exact ⟨p :: ps, by unfold txts; rw [e1, e2]; rfl, rfl⟩
theorem txts_refl : ∀ {xs : List D} {ps : List PyData}, txts xs = some ps → PyData.eqvAll ps ps = true
  | [], _, e => by cases e; unfold PyData.eqvAll; rfl
  | x :: xs, _, e => by
    unfold txts at e
    obtain ⟨p, e1, e2⟩ := Option.bind_eq_some_iff.mp e
    obtain ⟨ps, e3, rfl⟩ := Option.map_eq_some_iff.mp e2
    unfold PyData.eqvAll
    rw [txts_refl e3, Bool.and_true]
    unfold D.txt at e1
    split at e1 <;> first | (cases e1; unfold PyData.eqv; first | rfl | exact beq_self_eq_true _) | cases e1
section
variable {w : Wd} {M : Av} {H : Hp}
theorem txt_dp {x : D} {v : V} {p : PyData} (e : x.txt = some p) (h : Den w M H v x) : Dp w.K H v p := by
  unfold D.txt at e
  split at e
  · cases e; cases h; exact .non
  · cases e; cases h; exact .bl _
  · cases e; cases h; exact .int _
  · cases e; cases h; exact .str _
  · cases e; cases h; exact .str _
  · cases e
theorem txts_dp : ∀ {xs : List D} {vs : List V} {ps : List PyData}, txts xs = some ps → Dens w M H vs xs → DpAll w.K H vs ps
  | [], _, _, e, h => by cases e; cases h; exact .nil
  | x :: xs, _, _, e, h => by
    unfold txts at e
    obtain ⟨p, e1, e2⟩ := Option.bind_eq_some_iff.mp e
    obtain ⟨ps, e3, rfl⟩ := Option.map_eq_some_iff.mp e2
    cases h with | cons a b => exact .cons (txt_dp e1 a) (txts_dp e3 b)
theorem lst_dp {xs : List D} {v : V} {ps : List PyData} (hp : ∀ a, w.pa a → M a) (e : txts xs = some ps) (h : DenT w M H v (.lst xs)) : Dp w.K H v (.list ps) := by
  have z := h.low hp
  cases z with | lst s r => exact .lst s.sq (txts_dp e r)
end
def sureT (x y : D) : Bool := match x, y with
  | .lst xs, .lst ys => sureA xs ys && (match txts xs with
    | some ps => SeqAt.shaped (.list ps)
    | none => false)
  | _, _ => false
def dEqT (x y : D) : Option D := match sureT x y with
  | true => some (.bl true)
  | false => dEq x y
def dNeT (x y : D) : Option D := match sureT x y with
  | true => some (.bl false)
  | false => dNe x y
theorem sureT_dp {w : Wd} {M : Av} {H : Hp} {x y : D} {v u : V} (hp : ∀ a, w.pa a → M a) (h : sureT x y = true) (hx : DenT w M H v x) (hy : DenT w M H u y) : ∃ p, Dp w.K H v p ∧ Dp w.K H u p ∧ SeqAt.shaped p = true ∧ PyData.eqv p p = true := by
  unfold sureT at h
  split at h
  · obtain ⟨h1, h2⟩ := Bool.and_eq_true_iff.mp h
    obtain ⟨ps, e, rfl⟩ := sureA_eq h1
    rw [e] at h2
    exact ⟨.list ps, lst_dp hp e hx, lst_dp hp e hy, h2, by unfold PyData.eqv; exact txts_refl e⟩
  · cases h
theorem os_eqT {w : Wd} : OpSim w (rEqU w.K) dEqT := fun M H x y d v u Q hp hd dx dy e q => by
  unfold dEqT at e
  split at e
  · rename_i h
    cases e
    obtain ⟨p, d1, d2, s, eq⟩ := sureT_dp hp h dx dy
    exact .inr ⟨p, p, d1, d2, s, s, by rw [eq]; exact q _ H .refl (.bl _)⟩
  · exact os_eq M H x y d v u Q hp hd dx dy e q
theorem os_neT {w : Wd} : OpSim w (rNeU w.K) dNeT := fun M H x y d v u Q hp hd dx dy e q => by
  unfold dNeT at e
  split at e
  · rename_i h
    cases e
    obtain ⟨p, d1, d2, s, eq⟩ := sureT_dp hp h dx dy
    exact .inr ⟨p, p, d1, d2, s, s, by rw [eq]; exact q _ H .refl (.bl _)⟩
  · exact os_ne M H x y d v u Q hp hd dx dy e q
end Pw
set_option Elab.async false
set_option linter.all false
set_option maxRecDepth 100000
set_option maxHeartbeats 4000000
/-! Pw92: tuple * int. -/
namespace Pw
open PySem PySem.Spec PyProof.Rows L2
theorem tuple_mul1 (l : Addr) (items : Array Value) (n : Nat) (dd : Option Addr) (sl : Array (Option Value)) (u : Tok) :
    Meets (Builtin.«tuple.__mul__» ⟨[.ref l, .int 1 u], []⟩) (fun _ R s => s.heap.get? l = some { cls := .type "tuple", dict := dd, data := .seq items n, slots := sl } ∧ R (.ok (.ret (Value.ref l))) s) :=
  .of_wp fun prog w A R s h => by
    obtain ⟨hp, g, d, tk, os⟩ := s
    obtain ⟨hl, h⟩ := h
    have f1 := AutoSeq1.idx_int
    have c1 : (items.isEmpty || (1 : Int) == 1) = true := by rw [show ((1 : Int) == 1) = true from rfl, Bool.or_true]
    wp_walk using wpAny_loadPart' hl
    repeat (first
      | (refine wpAny_ite_true (decide_eq_true c1) ?_; wp_walk using wpAny_loadPart' hl)
      | (refine wpAny_ite_true (by simp) ?_; wp_walk using wpAny_loadPart' hl)
      | (refine wpAny_ite_false (by decide) ?_; wp_walk using wpAny_loadPart' hl))
    exact ⟨_, rfl, h⟩
def rRepT1 (K : PySem.W.Frag) : R2 := fun x y H Q => ∃ l xs, x = .ref l ∧ y = .int 1 ∧ SqT K H l xs ∧ Q (.ref l) H
theorem op_repT1 {X : Cx} : OpR X (binaryOp .Mult) (rRepT1 X.K) := by
  intro pins s σ H x y v u Q I rx ry h
  obtain ⟨l, xs, rfl, rfl, hT, q⟩ := h
  cases rx
  obtain ⟨t, rfl⟩ := ry
  obtain ⟨its, r, ⟨⟨cls, dd, data, sl⟩, ho, hc, n, hd⟩, hs⟩ := I.tuple hT
  simp only at hc hd
  subst hc hd
  refine wpAny_binaryOp_repeat_ref (T := "tuple") (U := "int") (by decide) ⟨_, ho, rfl⟩ (fun s' => typeIs_int s' 1 t) noFill_tuple_mul F.fills_int_mul F.slot_int_rmul repeat_tuple F.slot_int_index.lookup
    (call_meets F.slot_int_rmul (typeIs_int s 1 t) F.entry_int_rmul (F.args_int_rmul_2 _ _) (int_rmul_tuple 1 t l its.toArray n dd sl)
      ⟨ho, rfl, ⟨_, ho, rfl⟩, call_meets F.slot_tuple_mul ⟨_, ho, rfl⟩ F.entry_tuple_mul (F.args_tuple_mul_2 _ _) (tuple_mul1 l its.toArray n dd sl t) ⟨ho, ?_⟩⟩)
  exact ⟨.ref l, H, I.kept (t' := s.toks) fun _ _ e => e, rfl, q⟩
def rMulT (K : PySem.W.Frag) : R2 := fun x y H Q => rMulU x y H Q ∨ (fun x y H Q => rRepT K x y H Q ∨ rRepT1 K x y H Q) x y H Q
theorem op_mulT {X : Cx} : OpR X (binaryOp .Mult) (rMulT X.K) := op_mulU.or (op_repT.or op_repT1)
def dMulT : D → D → Option D
  | .tup xs, .int k => if k = 1 then some (.tup xs) else match decide (xs ≠ [] ∧ 2 ≤ k ∧ k ≤ 1000 ∧ xs.length ≤ 1000) with
    | true => some (.tup (List.replicate k.toNat xs).flatten)
    | false => none
  | x, y => dMul x y
theorem dens_rep {w : Wd} {M : Av} {H : Hp} {vs : List V} {ds : List D} (h : Dens w M H vs ds) : ∀ n : Nat, Dens w M H (List.replicate n vs).flatten (List.replicate n ds).flatten
  | 0 => .nil
  | n + 1 => by
    rw [List.replicate_succ, List.replicate_succ, List.flatten_cons, List.flatten_cons]
    exact h.append (dens_rep h n)
theorem os_mulT {w : Wd} : OpSim w (rMulT w.K) dMulT := fun M H x y d v u Q hp hd dx dy e q => by
  unfold dMulT at e
  split at e
  · rename_i xs k
    obtain ⟨a, vs, rfl, ea, ha⟩ := dx.tuple
    cases dy.int
    by_cases hk : k = 1
    · rw [if_pos hk] at e
      cases e
      subst hk
      exact .inr (.inr ⟨a, vs, rfl, rfl, ea.sq, q _ H .refl (.tup ea ha)⟩)
    · rw [if_neg hk] at e
      split at e
      · rename_i hz
        cases e
        obtain ⟨h1, h2, h3, h4⟩ := of_decide_eq_true hz
        refine .inr (.inl ⟨a, k, vs, rfl, rfl, ea.sq, fun z => h1 (ha.nil_iff.mp z), h2, h3, by rw [ha.length]; exact h4, fun p n => ?_⟩)
        exact q _ _ (Step.new n) (.tup (.inl ⟨fun z => hd p z n, .inl upd_same⟩) (Dens.lat (lat_upd n) _ _ (dens_rep ha k.toNat)))
      · cases e
  · exact .inl (os_mul M H _ _ d v u Q hp hd dx dy e q)
end Pw
set_option linter.all false
set_option maxRecDepth 100000
namespace Pw
open PySem PySem.Spec PyProof.Rows L2
def f_P_basics_is_integer : Env → Option Rs := (sRet (pAndV (p1 (dIsi "int") (pVar 0)) (p1 dNot (p1 (dIsi "bool") (pVar 0)))))
def P_basics_is_integer : List D → Option D := runD false 1 f_P_basics_is_integer
def f_P_basics_is_list : Env → Option Rs := (sRet (p1 (dIsi2 "list" "tuple") (pVar 0)))
def P_basics_is_list : List D → Option D := runD false 1 f_P_basics_is_list
def f_P_words_weight_of : Env → Option Rs := (sSeq (sSet 1 (p2 dAdd (p2 dAdd (p2 dIx (pC (.tup ([0, 1, 1, 2, 1, 2, 2, 3, 1, 2, 2, 3, 2, 3, 3, 4].map .int))) (p2 (dI2 (gBit (· &&& ·))) (pVar 0) (pC (.int 15)))) (p2 dIx (pC (.tup ([0, 1, 1, 2, 1, 2, 2, 3, 1, 2, 2, 3, 2, 3, 3, 4].map .int))) (p2 (dI2 (gBit (· &&& ·))) (p2 (dI2 gShr) (pVar 0) (pC (.int 4))) (pC (.int 15))))) (p2 dIx (pC (.tup ([0, 1, 1, 2, 1, 2, 2, 3, 1, 2, 2, 3, 2, 3, 3, 4].map .int))) (p2 (dI2 (gBit (· &&& ·))) (p2 (dI2 gShr) (pVar 0) (pC (.int 8))) (pC (.int 15))))))
  (sRet (p2 dAdd (p2 dAdd (p2 dAdd (pVar 1) (p2 dIx (pC (.tup ([0, 1, 1, 2, 1, 2, 2, 3, 1, 2, 2, 3, 2, 3, 3, 4].map .int))) (p2 (dI2 (gBit (· &&& ·))) (p2 (dI2 gShr) (pVar 0) (pC (.int 12))) (pC (.int 15))))) (p2 dIx (pC (.tup ([0, 1, 1, 2, 1, 2, 2, 3, 1, 2, 2, 3, 2, 3, 3, 4].map .int))) (p2 (dI2 (gBit (· &&& ·))) (p2 (dI2 gShr) (pVar 0) (pC (.int 16))) (pC (.int 15))))) (p2 dIx (pC (.tup ([0, 1, 1, 2, 1, 2, 2, 3, 1, 2, 2, 3, 2, 3, 3, 4].map .int))) (p2 (dI2 gShr) (pVar 0) (pC (.int 20)))))))
def P_words_weight_of : List D → Option D := runD false 2 f_P_words_weight_of
def f_P_words_is_odd : Env → Option Rs := (sRet (p2 dEq (p2 (dI2 (gBit (· &&& ·))) (pGo P_words_weight_of (aCons (pVar 0) aNil)) (pC (.int 1))) (pC (.int 1))))
def P_words_is_odd : List D → Option D := runD false 1 f_P_words_is_odd
def f_P_words_spots_of : Env → Option Rs := (sRetL (pLc (pA dRg1 (aCons (pC (.int 24)) aNil)) (tgName 1) (p1 dBl (p2 dEq (p2 (dI2 (gBit (· &&& ·))) (p2 (dI2 gShr) (pVar 0) (pVar 1)) (pC (.int 1))) (pC (.int 1)))) (pVar 1) [1]))
def P_words_spots_of : List D → Option D := runD true 2 f_P_words_spots_of
end Pw
set_option linter.all false
set_option maxRecDepth 100000
namespace Pw
open PySem PySem.Spec PyProof.Rows L2
end Pw
set_option linter.all false
set_option maxRecDepth 100000
namespace Pw
open PySem PySem.Spec PyProof.Rows L2
def f_P_sums_want_even_places : Env → Option Rs := (sIf (bOr (bNot (p1 dBl (pGo P_basics_is_integer (aCons (pVar 0) aNil)))) (bOr (bNot (p1 dBl (p3c dLe dLe (pC (.int 2)) (pVar 0) (pC (.int 24))))) (p1 dBl (p2 dNe (p2 dMul (p2 (dI2 gDiv) (pVar 0) (pC (.int 2))) (pC (.int 2))) (pVar 0)))))
  sNone
  sNext)
def P_sums_want_even_places : List D → Option D := runD false 1 f_P_sums_want_even_places
def f_P_sums_want_eights : Env → Option Rs := (sIf (p1 dBl (p2 dNe (p2 dMul (p2 (dI2 gDiv) (pVar 0) (pC (.int 8))) (pC (.int 8))) (pVar 0)))
  sNone
  sNext)
def P_sums_want_eights : List D → Option D := runD false 1 f_P_sums_want_eights
def f_P_sums_are_integers : Env → Option Rs := (sRet (pAndV (pGo P_basics_is_list (aCons (pVar 0) aNil)) (pA dAll (aCons (pOf (pLc (p1 D.items (pVar 0)) (tgName 1) (fun _ => Md.ret true) (pGo P_basics_is_integer (aCons (pVar 1) aNil)) [1])) aNil))))
def P_sums_are_integers : List D → Option D := runD false 2 f_P_sums_are_integers
def f_P_sums_want_sum_numbers : Env → Option Rs := (sIf (bOr (bNot (p1 dBl (pGo P_sums_are_integers (aCons (pVar 0) aNil)))) (p1 dBl (p2 dNe (pA dLen (aCons (pVar 0) aNil)) (pVar 1))))
  sNone
  sNext)
def P_sums_want_sum_numbers : List D → Option D := runD false 2 f_P_sums_want_sum_numbers
def f_P_sums_product_of : Env → Option Rs := (sSeq (sSetL 2 (p2 dRep (pOf (pLst (aCons (pC (.int 0)) aNil))) (p2 dSub (p2 dAdd (pA dLen (aCons (pVar 0) aNil)) (pA dLen (aCons (pVar 1) aNil))) (pC (.int 1)))))
  (sSeq (sFor (p1 dEnum (pVar 0)) (tgTup [3, 4])
  (sIf (p1 dBl (p2 dNe (pVar 4) (pC (.int 0))))
  (sFor (p1 dEnum (pVar 1)) (tgTup [5, 6])
  (sPut 2 (p2 dAdd (pVar 3) (pVar 5)) (p2 dAdd (p2 dIx (pVar 2) (p2 dAdd (pVar 3) (pVar 5))) (p2 dMul (pVar 4) (pVar 6)))))
  sNext))
  (sRet (pVar 2))))
def P_sums_product_of : List D → Option D := runD true 7 f_P_sums_product_of
def f_P_sums_power_of : Env → Option Rs := (sSeq (sSet 2 (pOf (pLst (aCons (pC (.int 1)) aNil))))
  (sSeq (sFor (pA dRg1 (aCons (pVar 1) aNil)) (tgName 3)
  (sSet 2 (pOf (pGoL P_sums_product_of (aCons (pVar 2) (aCons (pVar 0) aNil))))))
  (sRet (pVar 2))))
def P_sums_power_of : List D → Option D := runD false 4 f_P_sums_power_of
def f_P_sums_products_by : Env → Option Rs := (sSeq (sSetL 3 (pLst aNil))
  (sSeq (sFor (pA dRg1 (aCons (p2 dAdd (p2 (dI2 gDiv) (pVar 0) (p2 dSub (pA dLen (aCons (pVar 2) aNil)) (pC (.int 1)))) (pC (.int 1))) aNil)) (tgName 4)
  (sSeq (sSet 5 (p2 (dI2 gDiv) (p2 dSub (pVar 0) (p2 dMul (pVar 4) (p2 dSub (pA dLen (aCons (pVar 2) aNil)) (pC (.int 1))))) (p2 dSub (pA dLen (aCons (pVar 1) aNil)) (pC (.int 1)))))
  (sApp 3 (pOf (pGoL P_sums_product_of (aCons (pGo P_sums_power_of (aCons (pVar 1) (aCons (pVar 5) aNil))) (aCons (pGo P_sums_power_of (aCons (pVar 2) (aCons (pVar 4) aNil))) aNil)))))))
  (sRet (pVar 3))))
def P_sums_products_by : List D → Option D := runD true 6 f_P_sums_products_by
def f_P_sums_added : Env → Option Rs := (sSeq (sSet 4 (p2 dMul (pOf (pLst (aCons (pC (.int 0)) aNil))) (p2 dAdd (pVar 0) (pC (.int 1)))))
  (sSeq (sFor (p2 dZip (pVar 1) (pOf (pGoL P_sums_products_by (aCons (pVar 0) (aCons (pVar 2) (aCons (pVar 3) aNil)))))) (tgTup [5, 6])
  (sSet 4 (pOf (pLc (p2 dZip (pVar 4) (pVar 6)) (tgTup [7, 8]) (fun _ => Md.ret true) (p2 dAdd (pVar 7) (p2 dMul (pVar 5) (pVar 8))) [7, 8]))))
  (sRet (pVar 4))))
def P_sums_added : List D → Option D := runD false 9 f_P_sums_added
def f_P_sums_row_of : Env → Option Rs := (sSeq (sDrop (pGo P_sums_want_even_places (aCons (pVar 0) aNil)))
  (sSeq (sDrop (pGo P_sums_want_sum_numbers (aCons (pVar 1) (aCons (p2 dAdd (p2 (dI2 gDiv) (pVar 0) (pC (.int 8))) (pC (.int 1))) aNil))))
  (sRet (pGo P_sums_added (aCons (pVar 0) (aCons (pVar 1) (aCons (pC (.tup ([1, 0, 1].map .int))) (aCons (pC (.tup ([0, 0, 1, 0, -2, 0, 1, 0, 0].map .int))) aNil))))))))
def P_sums_row_of : List D → Option D := runD false 2 f_P_sums_row_of
def f_P_sums_fours_row_of : Env → Option Rs := (sSeq (sDrop (pGo P_sums_want_even_places (aCons (pVar 0) aNil)))
  (sSeq (sDrop (pGo P_sums_want_sum_numbers (aCons (pVar 1) (aCons (p2 dAdd (p2 (dI2 gDiv) (pVar 0) (pC (.int 24))) (pC (.int 1))) aNil))))
  (sSeq (sDrop (pGo P_sums_want_eights (aCons (pVar 0) aNil)))
  (sRet (pGo P_sums_added (aCons (pVar 0) (aCons (pVar 1) (aCons (pC (.tup ([1, 0, 0, 0, 14, 0, 0, 0, 1].map .int))) (aCons (pC (.tup ([0, 0, 0, 0, 1, 0, 0, 0, -4, 0, 0, 0, 6, 0, 0, 0, -4, 0, 0, 0, 1, 0, 0, 0, 0].map .int))) aNil)))))))))
def P_sums_fours_row_of : List D → Option D := runD false 2 f_P_sums_fours_row_of
def f_P_limits_limit : Env → Option Rs := (sSeq (sDrop (pGo P_sums_want_even_places (aCons (pVar 0) aNil)))
  (sRet (p2 dAdd (p2 dMul (p2 (dI2 gDiv) (pVar 0) (pC (.int 8))) (pC (.int 2))) (pC (.int 2)))))
def P_limits_limit : List D → Option D := runD false 1 f_P_limits_limit
def f_P_limits_fours_limit : Env → Option Rs := (sSeq (sDrop (pGo P_sums_want_even_places (aCons (pVar 0) aNil)))
  (sSeq (sDrop (pGo P_sums_want_eights (aCons (pVar 0) aNil)))
  (sRet (p2 dAdd (p2 dMul (p2 (dI2 gDiv) (pVar 0) (pC (.int 24))) (pC (.int 4))) (pC (.int 4))))))
def P_limits_fours_limit : List D → Option D := runD false 1 f_P_limits_fours_limit
def f_P_limits_greatest_by : Env → Option Rs := (sSeq (sMany [4, 5] (aConsL (pLst aNil) (aCons (p2 dAdd (pOf (pLst (aCons (pC (.int 1)) aNil))) (p2 dMul (pOf (pLst (aCons (pC (.int 0)) aNil))) (pVar 0))) aNil)))
  (sSeq (sFor (p1 D.items (pOf (pGoL P_sums_products_by (aCons (pVar 0) (aCons (pVar 1) (aCons (pVar 2) aNil)))))) (tgName 3)
  (sSeq (sSet 6 (p2 dIx (pOf (pLc (pA dRg1 (aCons (pA dLen (aCons (pVar 3) aNil)) aNil)) (tgName 8) (p1 dBl (p2 dNe (p2 dIx (pVar 3) (pVar 8)) (pC (.int 0)))) (pVar 8) [8])) (pC (.int 0))))
  (sSeq (sSet 7 (pIf (p1 dBl (p2 dEq (pVar 6) (pC (.int 0)))) (p2 dIx (pVar 5) (pVar 6)) (p2 dSub (pC (.int 0)) (p2 dIx (pVar 5) (pVar 6)))))
  (sSeq (sApp 4 (pVar 7))
  (sSet 5 (pIf (p1 dBl (p2 dEq (pVar 6) (pC (.int 0)))) (pVar 3) (pOf (pLc (p2 dZip (pVar 5) (pVar 3)) (tgTup [9, 10]) (fun _ => Md.ret true) (p2 dAdd (pVar 9) (p2 dMul (pVar 7) (pVar 10))) [9, 10]))))))))
  (sRet (pVar 4))))
def P_limits_greatest_by : List D → Option D := runD true 11 f_P_limits_greatest_by
def f_P_limits_greatest : Env → Option Rs := (sSeq (sDrop (pGo P_sums_want_even_places (aCons (pVar 0) aNil)))
  (sRetL (pGoL P_limits_greatest_by (aCons (pVar 0) (aCons (pC (.tup ([1, 0, 1].map .int))) (aCons (pC (.tup ([0, 0, 1, 0, -2, 0, 1, 0, 0].map .int))) aNil))))))
def P_limits_greatest : List D → Option D := runD true 1 f_P_limits_greatest
def f_P_limits_fours_greatest : Env → Option Rs := (sSeq (sDrop (pGo P_sums_want_even_places (aCons (pVar 0) aNil)))
  (sSeq (sDrop (pGo P_sums_want_eights (aCons (pVar 0) aNil)))
  (sRetL (pGoL P_limits_greatest_by (aCons (pVar 0) (aCons (pC (.tup ([1, 0, 0, 0, 14, 0, 0, 0, 1].map .int))) (aCons (pC (.tup ([0, 0, 0, 0, 1, 0, 0, 0, -4, 0, 0, 0, 6, 0, 0, 0, -4, 0, 0, 0, 1, 0, 0, 0, 0].map .int))) aNil)))))))
def P_limits_fours_greatest : List D → Option D := runD true 1 f_P_limits_fours_greatest
end Pw
set_option linter.all false
set_option maxRecDepth 100000
namespace Pw
open PySem PySem.Spec PyProof.Rows L2
def f_P_sums_want_row_numbers : Env → Option Rs := (sSeq (sIf (bOr (bNot (p1 dBl (pGo P_sums_are_integers (aCons (pVar 0) aNil)))) (bOr (bNot (p1 dBl (p3c dLe dLe (pC (.int 3)) (pA dLen (aCons (pVar 0) aNil)) (p2 dAdd (pC (.int 24)) (pC (.int 1)))))) (p1 dBl (p2 dEq (p2 dMul (p2 (dI2 gDiv) (pA dLen (aCons (pVar 0) aNil)) (pC (.int 2))) (pC (.int 2))) (pA dLen (aCons (pVar 0) aNil))))))
  sNone
  sNext)
  (sRet (p2 dSub (pA dLen (aCons (pVar 0) aNil)) (pC (.int 1)))))
def P_sums_want_row_numbers : List D → Option D := runD false 1 f_P_sums_want_row_numbers
def f_P_sums_solved : Env → Option Rs := (sSeq (sMany [4, 5] (aCons (pOf (pA dListOf (aCons (pVar 0) aNil))) (aConsL (pLst aNil) aNil)))
  (sSeq (sFor (p1 D.items (pOf (pGoL P_sums_products_by (aCons (p2 dSub (pA dLen (aCons (pVar 0) aNil)) (pC (.int 1))) (aCons (pVar 1) (aCons (pVar 2) aNil)))))) (tgName 3)
  (sSeq (sSet 6 (p2 dIx (pOf (pLc (pA dRg1 (aCons (pA dLen (aCons (pVar 3) aNil)) aNil)) (tgName 8) (p1 dBl (p2 dNe (p2 dIx (pVar 3) (pVar 8)) (pC (.int 0)))) (pVar 8) [8])) (pC (.int 0))))
  (sSeq (sSet 7 (p2 dIx (pVar 4) (pVar 6)))
  (sSeq (sApp 5 (pVar 7))
  (sSet 4 (pOf (pLc (p2 dZip (pVar 4) (pVar 3)) (tgTup [9, 10]) (fun _ => Md.ret true) (p2 dSub (pVar 9) (p2 dMul (pVar 7) (pVar 10))) [9, 10])))))))
  (sRet (pIf (p1 dBl (p2 dEq (pVar 4) (p2 dMul (pOf (pLst (aCons (pC (.int 0)) aNil))) (pA dLen (aCons (pVar 4) aNil))))) (pVar 5) (pC .non)))))
def P_sums_solved : List D → Option D := runD false 11 f_P_sums_solved
def f_P_sums_sums : Env → Option Rs := (sSeq (sDrop (pGo P_sums_want_row_numbers (aCons (pVar 0) aNil)))
  (sRet (pGo P_sums_solved (aCons (pVar 0) (aCons (pC (.tup ([1, 0, 1].map .int))) (aCons (pC (.tup ([0, 0, 1, 0, -2, 0, 1, 0, 0].map .int))) aNil))))))
def P_sums_sums : List D → Option D := runD false 1 f_P_sums_sums
def f_P_sums_fours : Env → Option Rs := (sSeq (sDrop (pGo P_sums_want_eights (aCons (pGo P_sums_want_row_numbers (aCons (pVar 0) aNil)) aNil)))
  (sRet (pGo P_sums_solved (aCons (pVar 0) (aCons (pC (.tup ([1, 0, 0, 0, 14, 0, 0, 0, 1].map .int))) (aCons (pC (.tup ([0, 0, 0, 0, 1, 0, 0, 0, -4, 0, 0, 0, 6, 0, 0, 0, -4, 0, 0, 0, 1, 0, 0, 0, 0].map .int))) aNil))))))
def P_sums_fours : List D → Option D := runD false 1 f_P_sums_fours
end Pw
set_option linter.all false
set_option maxRecDepth 100000
namespace Pw
open PySem PySem.Spec PyProof.Rows L2
end Pw
set_option linter.all false
set_option maxRecDepth 100000
namespace Pw
open PySem PySem.Spec PyProof.Rows L2
def f_P_limits_twos : Env → Option Rs := (sSeq (sSet 1 (pC (.int 1)))
  (sSeq (sFor (pA dRg1 (aCons (pVar 0) aNil)) (tgName 2)
  (sSet 1 (p2 dMul (pC (.int 2)) (pVar 1))))
  (sRet (pVar 1))))
def P_limits_twos : List D → Option D := runD false 3 f_P_limits_twos
def f_P_limits_shadow_by : Env → Option Rs := (sSeq (sMany [3, 4] (aCons (p2 (dI2 gDiv) (pVar 0) (pC (.int 2))) (aCons (p2 (dI2 gDiv) (pVar 0) (pC (.int 8))) aNil)))
  (sSeq (sSet 2 (pA dMax2 (aCons (pC (.int 0)) (aCons (p2 dSub (p2 dMul (pC (.int 6)) (pVar 4)) (pVar 3)) aNil))))
  (sSeq (sMany [5, 6, 7] (aConsL (p2 dRep (pOf (pLst (aCons (pC (.int 0)) aNil))) (p2 dAdd (pVar 0) (pC (.int 1)))) (aCons (pGo P_limits_twos (aCons (pVar 2) aNil)) (aCons (pC (.int 1)) aNil))))
  (sSeq (sFor (p1 dEnum (pVar 1)) (tgTup [8, 9])
  (sSeq (sMany [10, 11] (aCons (p2 dMul (p2 dMul (pVar 7) (pVar 9)) (pGo P_limits_twos (aCons (p2 dAdd (p2 dSub (pVar 3) (p2 dMul (pC (.int 6)) (pVar 8))) (pVar 2)) aNil))) (aCons (p2 dSub (pVar 3) (p2 dMul (pC (.int 4)) (pVar 8))) aNil)))
  (sSeq (sFor (p1 dEnum (pGo P_sums_power_of (aCons (pC (.tup ([1, 0, 0, 0, -2, 0, 0, 0, 1].map .int))) (aCons (pVar 8) aNil)))) (tgTup [12, 13])
  (sPut 5 (p2 dAdd (pVar 11) (pVar 12)) (p2 dAdd (p2 dIx (pVar 5) (p2 dAdd (pVar 11) (pVar 12))) (p2 dMul (pVar 10) (pVar 13)))))
  (sSet 7 (p2 dSub (pC (.int 0)) (pVar 7))))))
  (sSeq (sIf (p1 dBl (pA dAny (aCons (pOf (pLc (p1 D.items (pVar 5)) (tgName 9) (fun _ => Md.ret true) (p2 dNe (p2 dMul (p2 (dI2 gDiv) (pVar 9) (pVar 6)) (pVar 6)) (pVar 9)) [9])) aNil)))
  (sRet (pC .non))
  sNext)
  (sRet (pOf (pLc (p1 D.items (pVar 5)) (tgName 9) (fun _ => Md.ret true) (p2 (dI2 gDiv) (pVar 9) (pVar 6)) [9]))))))))
def P_limits_shadow_by : List D → Option D := runD false 14 f_P_limits_shadow_by
def f_P_limits_can_be : Env → Option Rs := (sSeq (sSet 1 (pGo P_sums_want_row_numbers (aCons (pVar 0) aNil)))
  (sSeq (sSet 2 (pGo P_sums_solved (aCons (pVar 0) (aCons (pC (.tup ([1, 0, 1].map .int))) (aCons (pC (.tup ([0, 0, 1, 0, -2, 0, 1, 0, 0].map .int))) aNil)))))
  (sSeq (sIf (bOr (p1 dBl (p2 dIs (pVar 2) (pC .non))) (p1 dBl (p2 dLt (pA dMinU (aCons (pVar 0) aNil)) (pC (.int 0)))))
  (sRet (pC (.bl false)))
  sNext)
  (sSeq (sSet 3 (pGo P_limits_shadow_by (aCons (pVar 1) (aCons (pVar 2) aNil))))
  (sRet (pAndV (p2 dIsNot (pVar 3) (pC .non)) (p2 dGe (pA dMinU (aCons (pVar 3) aNil)) (pC (.int 0)))))))))
def P_limits_can_be : List D → Option D := runD false 4 f_P_limits_can_be
end Pw
set_option linter.all false
set_option maxRecDepth 100000
namespace Pw
open PySem PySem.Spec PyProof.Rows L2
def f_P_limits_shadow_of : Env → Option Rs := (sSeq (sDrop (pGo P_sums_want_even_places (aCons (pVar 0) aNil)))
  (sSeq (sDrop (pGo P_sums_want_sum_numbers (aCons (pVar 1) (aCons (p2 dAdd (p2 (dI2 gDiv) (pVar 0) (pC (.int 8))) (pC (.int 1))) aNil))))
  (sRet (pGo P_limits_shadow_by (aCons (pVar 0) (aCons (pVar 1) aNil))))))
def P_limits_shadow_of : List D → Option D := runD false 2 f_P_limits_shadow_of
end Pw
set_option linter.all false
set_option maxRecDepth 100000
namespace Pw
open PySem PySem.Spec PyProof.Rows L2
def f_P_rooms_left_of : Env → Option Rs := (sSeq (sFor (p1 D.items (pVar 0)) (tgName 2)
  (sSet 1 (pA dMin2 (aCons (pVar 1) (aCons (p2 (dI2 (gBit (· ^^^ ·))) (pVar 1) (pVar 2)) aNil)))))
  (sRet (pVar 1)))
def P_rooms_left_of : List D → Option D := runD false 3 f_P_rooms_left_of
def f_P_rooms_with_word : Env → Option Rs := (sSeq (sSet 2 (pGo P_rooms_left_of (aCons (pVar 0) (aCons (pVar 1) aNil))))
  (sSeq (sIf (p1 dBl (p2 dEq (pVar 2) (pC (.int 0))))
  (sRet (pVar 0))
  sNext)
  (sRet (pA dTupleOf (aCons (pOf (p1 dSortedR1 (p2 dAdd (pOf (pLc (p1 D.items (pVar 0)) (tgName 3) (fun _ => Md.ret true) (pA dMin2 (aCons (pVar 3) (aCons (p2 (dI2 (gBit (· ^^^ ·))) (pVar 3) (pVar 2)) aNil))) [3])) (pOf (pLst (aCons (pVar 2) aNil)))))) aNil)))))
def P_rooms_with_word : List D → Option D := runD false 4 f_P_rooms_with_word
def f_P_rooms_plain_basis : Env → Option Rs := (sSeq (sSet 1 (pTup aNil))
  (sSeq (sFor (p1 D.items (pVar 0)) (tgName 2)
  (sSet 1 (pGo P_rooms_with_word (aCons (pVar 1) (aCons (pVar 2) aNil)))))
  (sRet (pVar 1))))
def P_rooms_plain_basis : List D → Option D := runD false 3 f_P_rooms_plain_basis
def f_P_rooms_want_room : Env → Option Rs := (sIf (bNot (p1 dBl (p1 (dIsiC "Room" ["Room", "Told"]) (pVar 0))))
  sNone
  sNext)
def P_rooms_want_room : List D → Option D := runD false 1 f_P_rooms_want_room
def f_P_contraries_contrary_basis : Env → Option Rs := (sSeq (sSet 2 (pOf (pLc (p1 D.items (pVar 1)) (tgName 5) (fun _ => Md.ret true) (p2 (dI2 gShl) (pC (.int 1)) (p2 dIx (pOf (pGoL P_words_spots_of (aCons (pVar 5) aNil))) (p1 dNeg (pC (.int 1))))) [5])))
  (sSeq (sSetL 3 (pLst aNil))
  (sSeq (sFor (pA dRg1 (aCons (pVar 0) aNil)) (tgName 4)
  (sSeq (sSet 5 (p2 (dI2 gShl) (pC (.int 1)) (pVar 4)))
  (sIf (p1 dBl (p2 dNotIn (pVar 5) (pVar 2)))
  (sSeq (sSet 6 (pOf (pLc (p2 dZip (pVar 1) (pVar 2)) (tgTup [7, 8]) (p1 dBl (p2 dEq (p2 (dI2 (gBit (· &&& ·))) (p2 (dI2 gShr) (pVar 7) (pVar 4)) (pC (.int 1))) (pC (.int 1)))) (pVar 8) [7, 8])))
  (sApp 3 (p2 dAdd (pA dSum (aCons (pVar 6) aNil)) (pVar 5))))
  sNext)))
  (sRet (pGo P_rooms_plain_basis (aCons (pVar 3) aNil))))))
def P_contraries_contrary_basis : List D → Option D := runD false 9 f_P_contraries_contrary_basis
end Pw
set_option linter.all false
set_option maxRecDepth 100000
namespace Pw
open PySem PySem.Spec PyProof.Rows L2
def f_P_mixes_want_alike : Env → Option Rs := (sSeq (sDrop (pGo P_rooms_want_room (aCons (pVar 0) aNil)))
  (sSeq (sDrop (pGo P_rooms_want_room (aCons (pVar 1) aNil)))
  (sIf (p1 dBl (p2 dNe (p1 (dFld "Room" "own_places") (pVar 0)) (p1 (dFld "Room" "own_places") (pVar 1))))
  sNone
  sNext)))
def P_mixes_want_alike : List D → Option D := runD false 2 f_P_mixes_want_alike
end Pw
set_option linter.all false
set_option maxRecDepth 100000
namespace Pw
open PySem PySem.Spec PyProof.Rows L2
end Pw
set_option linter.all false
set_option maxRecDepth 100000
namespace Pw
open PySem PySem.Spec PyProof.Rows L2
end Pw
set_option linter.all false
set_option maxRecDepth 100000
namespace Pw
open PySem PySem.Spec PyProof.Rows L2
def f_P_contraries_odd_two : Env → Option Rs := (sSeq (sFor (p1 dEnum (pVar 0)) (tgTup [1, 2])
  (sFor (p1 D.items (pSl dSlU (pVar 0) (fun _ => Md.ret none) (p1 dInt (p2 dAdd (pVar 1) (pC (.int 1)))))) (tgName 3)
  (sIf (p1 dBl (pGo P_words_is_odd (aCons (p2 (dI2 (gBit (· &&& ·))) (pVar 2) (pVar 3)) aNil)))
  (sRet (pTup (aCons (pVar 3) (aCons (pVar 2) aNil))))
  sNext)))
  (sRet (pC .non)))
def P_contraries_odd_two : List D → Option D := runD false 4 f_P_contraries_odd_two
def f_P_contraries_are_still : Env → Option Rs := (sRet (p2 dIs (pGo P_contraries_odd_two (aCons (pVar 0) aNil)) (pC .non)))
def P_contraries_are_still : List D → Option D := runD false 1 f_P_contraries_are_still
def f_P_contraries_is_own_room : Env → Option Rs := (sRet (pAndV (p2 dEq (p2 dMul (pC (.int 2)) (pA dLen (aCons (p1 (dFld "Room" "own_basis") (pVar 0)) aNil))) (p1 (dFld "Room" "own_places") (pVar 0))) (pGo P_contraries_are_still (aCons (p1 (dFld "Room" "own_basis") (pVar 0)) aNil))))
def P_contraries_is_own_room : List D → Option D := runD false 1 f_P_contraries_is_own_room
end Pw
set_option linter.all false
set_option maxRecDepth 100000
namespace Pw
open PySem PySem.Spec PyProof.Rows L2
end Pw
set_option linter.all false
set_option maxRecDepth 100000
namespace Pw
open PySem PySem.Spec PyProof.Rows L2
end Pw
set_option linter.all false
set_option maxRecDepth 100000
namespace Pw
open PySem PySem.Spec PyProof.Rows L2
def f_P_neighbours_want_own : Env → Option Rs := (sIf (bNot (p1 dBl (pGo P_contraries_is_own_room (aCons (pVar 0) aNil))))
  sNone
  sNext)
def P_neighbours_want_own : List D → Option D := runD false 1 f_P_neighbours_want_own
def f_P_neighbours_want_own_two : Env → Option Rs := (sSeq (sDrop (pGo P_mixes_want_alike (aCons (pVar 0) (aCons (pVar 1) aNil))))
  (sSeq (sDrop (pGo P_neighbours_want_own (aCons (pVar 0) aNil)))
  (sDrop (pGo P_neighbours_want_own (aCons (pVar 1) aNil)))))
def P_neighbours_want_own_two : List D → Option D := runD false 2 f_P_neighbours_want_own_two
end Pw
set_option linter.all false
set_option maxRecDepth 100000
namespace Pw
open PySem PySem.Spec PyProof.Rows L2
end Pw
set_option linter.all false
set_option maxRecDepth 100000
namespace Pw
open PySem PySem.Spec PyProof.Rows L2
end Pw
set_option linter.all false
set_option maxRecDepth 100000
namespace Pw
open PySem PySem.Spec PyProof.Rows L2
end Pw
set_option linter.all false
set_option maxRecDepth 100000
namespace Pw
open PySem PySem.Spec PyProof.Rows L2
end Pw
set_option linter.all false
set_option maxRecDepth 100000
namespace Pw
open PySem PySem.Spec PyProof.Rows L2
end Pw
set_option linter.all false
set_option maxRecDepth 100000
namespace Pw
open PySem PySem.Spec PyProof.Rows L2
end Pw
set_option linter.all false
set_option maxRecDepth 100000
namespace Pw
open PySem PySem.Spec PyProof.Rows L2
end Pw
set_option linter.all false
set_option maxRecDepth 100000
namespace Pw
open PySem PySem.Spec PyProof.Rows L2
end Pw
set_option linter.all false
set_option maxRecDepth 100000
namespace Pw
open PySem PySem.Spec PyProof.Rows L2
end Pw
set_option linter.all false
set_option maxRecDepth 100000
namespace Pw
open PySem PySem.Spec PyProof.Rows L2
end Pw
set_option linter.all false
set_option maxRecDepth 100000
namespace Pw
open PySem PySem.Spec PyProof.Rows L2
end Pw
set_option linter.all false
set_option maxRecDepth 100000
namespace Pw
open PySem PySem.Spec PyProof.Rows L2
def f_P_weights_walked (rec : List D → List Int → Option (List Int)) : Env → Option Rs := (sIf (p1 dBl (p2 dGt (pA dLen (aCons (pVar 0) aNil)) (pC (.int 8))))
  (sSeq (sMut 2 rec (aCons (pSl dSlU (pVar 0) (p1 dInt (pC (.int 1))) (fun _ => Md.ret none)) (aCons (pVar 1) aNil)))
  (sMut 2 rec (aCons (pSl dSlU (pVar 0) (p1 dInt (pC (.int 1))) (fun _ => Md.ret none)) (aCons (p2 (dI2 (gBit (· ^^^ ·))) (pVar 1) (p2 dIx (pVar 0) (pC (.int 0)))) aNil))))
  (sSeq (sSet 3 (pOf (pLst (aCons (pVar 1) aNil))))
  (sSeq (sFor (p1 D.items (pVar 0)) (tgName 4)
  (sSet 3 (p2 dAdd (pVar 3) (pOf (pLc (p1 D.items (pVar 3)) (tgName 6) (fun _ => Md.ret true) (p2 (dI2 (gBit (· ^^^ ·))) (pVar 6) (pVar 4)) [6])))))
  (sFor (p1 D.items (pVar 3)) (tgName 4)
  (sSeq (sSet 5 (pGo P_words_weight_of (aCons (pVar 4) aNil)))
  (sPut 2 (pVar 5) (p2 dAdd (p2 dIx (pVar 2) (pVar 5)) (pC (.int 1)))))))))
end Pw
set_option linter.all false
set_option maxRecDepth 100000
namespace Pw
open PySem PySem.Spec PyProof.Rows L2
end Pw
set_option linter.all false
set_option maxRecDepth 100000
namespace Pw
open PySem PySem.Spec PyProof.Rows L2
end Pw
set_option linter.all false
set_option maxRecDepth 100000
namespace Pw
open PySem PySem.Spec PyProof.Rows L2
end Pw
set_option linter.all false
set_option maxRecDepth 100000
namespace Pw
open PySem PySem.Spec PyProof.Rows L2
end Pw
set_option linter.all false
set_option maxRecDepth 100000
namespace Pw
open PySem PySem.Spec PyProof.Rows L2
end Pw
set_option linter.all false
set_option maxRecDepth 100000
namespace Pw
open PySem PySem.Spec PyProof.Rows L2
end Pw
set_option linter.all false
set_option maxRecDepth 100000
namespace Pw
open PySem PySem.Spec PyProof.Rows L2
end Pw
set_option linter.all false
set_option maxRecDepth 100000
namespace Pw
open PySem PySem.Spec PyProof.Rows L2
def f_P_weights_heavy (rec : List D → List Int → Option (List Int)) : Env → Option Rs := (sIf (p1 dBl (p2 dGt (pA dLen (aCons (pVar 0) aNil)) (pC (.int 8))))
  (sSeq (sMut 3 rec (aCons (pSl dSlU (pVar 0) (p1 dInt (pC (.int 1))) (fun _ => Md.ret none)) (aCons (pVar 1) (aCons (pVar 2) aNil))))
  (sMut 3 rec (aCons (pSl dSlU (pVar 0) (p1 dInt (pC (.int 1))) (fun _ => Md.ret none)) (aCons (p2 (dI2 (gBit (· ^^^ ·))) (pVar 1) (p2 dIx (pVar 0) (pC (.int 0)))) (aCons (pVar 2) aNil)))))
  (sSeq (sSet 4 (pOf (pLst (aCons (pVar 1) aNil))))
  (sSeq (sFor (p1 D.items (pVar 0)) (tgName 5)
  (sSet 4 (p2 dAdd (pVar 4) (pOf (pLc (p1 D.items (pVar 4)) (tgName 6) (fun _ => Md.ret true) (p2 (dI2 (gBit (· ^^^ ·))) (pVar 6) (pVar 5)) [6])))))
  (sExt 3 (pOf (pLc (p1 D.items (pVar 4)) (tgName 5) (p1 dBl (p2 dEq (pGo P_words_weight_of (aCons (pVar 5) aNil)) (pVar 2))) (pVar 5) [5]))))))
end Pw
set_option linter.all false
set_option maxRecDepth 100000
namespace Pw
open PySem PySem.Spec PyProof.Rows L2
end Pw
set_option linter.all false
set_option maxRecDepth 100000
namespace Pw
open PySem PySem.Spec PyProof.Rows L2
end Pw
set_option linter.all false
set_option maxRecDepth 100000
namespace Pw
open PySem PySem.Spec PyProof.Rows L2
end Pw
set_option linter.all false
set_option maxRecDepth 100000
namespace Pw
open PySem PySem.Spec PyProof.Rows L2
end Pw
set_option linter.all false
set_option maxRecDepth 100000
namespace Pw
open PySem PySem.Spec PyProof.Rows L2
end Pw
set_option linter.all false
set_option maxRecDepth 100000
namespace Pw
open PySem PySem.Spec PyProof.Rows L2
end Pw
set_option linter.all false
set_option maxRecDepth 100000
namespace Pw
open PySem PySem.Spec PyProof.Rows L2
end Pw
set_option linter.all false
set_option maxRecDepth 100000
namespace Pw
open PySem PySem.Spec PyProof.Rows L2
end Pw
set_option linter.all false
set_option maxRecDepth 100000
namespace Pw
open PySem PySem.Spec PyProof.Rows L2
end Pw
set_option linter.all false
set_option maxRecDepth 100000
namespace Pw
open PySem PySem.Spec PyProof.Rows L2
end Pw
set_option linter.all false
set_option maxRecDepth 100000
namespace Pw
open PySem PySem.Spec PyProof.Rows L2
end Pw
set_option linter.all false
set_option maxRecDepth 100000
namespace Pw
open PySem PySem.Spec PyProof.Rows L2
end Pw
set_option linter.all false
set_option maxRecDepth 100000
namespace Pw
open PySem PySem.Spec PyProof.Rows L2
end Pw
set_option linter.all false
set_option maxRecDepth 100000
namespace Pw
open PySem PySem.Spec PyProof.Rows L2
end Pw
set_option linter.all false
set_option maxRecDepth 100000
namespace Pw
open PySem PySem.Spec PyProof.Rows L2
end Pw
set_option linter.all false
set_option maxRecDepth 100000
namespace Pw
open PySem PySem.Spec PyProof.Rows L2
end Pw
set_option linter.all false
set_option maxRecDepth 100000
namespace Pw
open PySem PySem.Spec PyProof.Rows L2
end Pw
set_option linter.all false
set_option maxRecDepth 100000
namespace Pw
open PySem PySem.Spec PyProof.Rows L2
end Pw
set_option linter.all false
set_option maxRecDepth 100000
namespace Pw
open PySem PySem.Spec PyProof.Rows L2
end Pw
set_option linter.all false
set_option maxRecDepth 100000
namespace Pw
open PySem PySem.Spec PyProof.Rows L2
end Pw
set_option linter.all false
set_option maxRecDepth 100000
namespace Pw
open PySem PySem.Spec PyProof.Rows L2
def f_P_fours_free_words : Env → Option Rs := (sSeq (sMany [4, 5] (aConsL (pLst aNil) (aCons (pVar 1) aNil)))
  (sSeq (sFor (p1 D.items (pVar 0)) (tgName 3)
  (sIf (bAnd (p1 dBl (p2 dLt (pA dLen (aCons (pVar 4) aNil)) (pVar 2))) (p1 dBl (p2 dNe (pGo P_rooms_left_of (aCons (pVar 5) (aCons (pVar 3) aNil))) (pC (.int 0)))))
  (sSeq (sApp 4 (pVar 3))
  (sSet 5 (pGo P_rooms_with_word (aCons (pVar 5) (aCons (pVar 3) aNil)))))
  sNext))
  (sRet (pVar 4))))
def P_fours_free_words : List D → Option D := runD true 6 f_P_fours_free_words
def f_P_fours_further_word : Env → Option Rs := (sSeq (sSet 2 (pOf (pLst (aCons (pC (.int 0)) aNil))))
  (sSeq (sFor (p1 D.items (pOf (pGoL P_fours_free_words (aCons (pGo P_contraries_contrary_basis (aCons (pVar 0) (aCons (pVar 1) aNil))) (aCons (pVar 1) (aCons (pC (.int 3)) aNil)))))) (tgName 3)
  (sSet 2 (p2 dAdd (pVar 2) (pOf (pLc (p1 D.items (pVar 2)) (tgName 4) (fun _ => Md.ret true) (p2 (dI2 (gBit (· ^^^ ·))) (pVar 4) (pVar 3)) [4])))))
  (sRet (p2 dIx (pOf (pLc (p1 D.items (pSl dSlU (pVar 2) (p1 dInt (pC (.int 1))) (fun _ => Md.ret none))) (tgName 3) (p1 dBl (p2 dEq (p2 (dI2 (gBit (· &&& ·))) (pGo P_words_weight_of (aCons (pVar 3) aNil)) (pC (.int 3))) (pC (.int 0)))) (pVar 3) [3])) (pC (.int 0))))))
def P_fours_further_word : List D → Option D := runD false 5 f_P_fours_further_word
def f_P_fours_other_over : Env → Option Rs := (sSeq (sSet 4 (p2 dIx (pOf (pLc (p1 D.items (pGo P_contraries_contrary_basis (aCons (pVar 0) (aCons (pVar 1) aNil)))) (tgName 5) (p1 dBl (p2 dNe (pGo P_rooms_left_of (aCons (pVar 3) (aCons (pVar 5) aNil))) (pC (.int 0)))) (pVar 5) [5])) (pC (.int 0))))
  (sRet (pGo P_rooms_with_word (aCons (pVar 1) (aCons (pIf (p1 dBl (p2 dEq (p2 (dI2 (gBit (· &&& ·))) (pGo P_words_weight_of (aCons (pVar 4) aNil)) (pC (.int 3))) (pC (.int 0)))) (pVar 4) (p2 (dI2 (gBit (· ^^^ ·))) (pVar 4) (pVar 2))) aNil)))))
def P_fours_other_over : List D → Option D := runD false 6 f_P_fours_other_over
def f_P_fours_others_over : Env → Option Rs := (sSeq (sSet 4 (pOf (pGoL P_fours_free_words (aCons (pVar 3) (aCons (pGo P_rooms_with_word (aCons (pVar 1) (aCons (pVar 2) aNil))) (aCons (pVar 0) aNil))))))
  (sSeq (sSet 5 (pOf (pLst (aCons (pOf (pA dListOf (aCons (pVar 1) aNil))) aNil))))
  (sSeq (sFor (p1 D.items (pVar 4)) (tgName 6)
  (sSet 5 (p2 dAdd (pOf (pLc (p1 D.items (pVar 5)) (tgName 7) (fun _ => Md.ret true) (p2 dAdd (pVar 7) (pOf (pLst (aCons (pVar 6) aNil)))) [7])) (pOf (pLc (p1 D.items (pVar 5)) (tgName 7) (fun _ => Md.ret true) (p2 dAdd (pVar 7) (pOf (pLst (aCons (p2 (dI2 (gBit (· ^^^ ·))) (pVar 6) (pVar 2)) aNil)))) [7])))))
  (sRetL (pLc (p1 D.items (pVar 5)) (tgName 7) (fun _ => Md.ret true) (pGo P_fours_other_over (aCons (pVar 0) (aCons (pGo P_rooms_plain_basis (aCons (pVar 7) aNil)) (aCons (pVar 2) (aCons (pVar 3) aNil))))) [7])))))
def P_fours_others_over : List D → Option D := runD true 8 f_P_fours_others_over
def f_P_fours_fills_over (rec : List D → Option D) : Env → Option Rs := (sSeq (sIf (p1 dBl (p2 dEq (p2 dMul (pC (.int 2)) (pA dLen (aCons (pVar 1) aNil))) (pVar 0)))
  (sRetL (pLst (aCons (pVar 1) aNil)))
  sNext)
  (sSeq (sSet 2 (pGo P_fours_further_word (aCons (pVar 0) (aCons (pVar 1) aNil))))
  (sSeq (sSet 3 (pOf (pGoL rec (aCons (pVar 0) (aCons (pGo P_rooms_with_word (aCons (pVar 1) (aCons (pVar 2) aNil))) aNil)))))
  (sSeq (sSetL 4 (pA dListOf (aCons (pVar 3) aNil)))
  (sSeq (sFor (p1 D.items (pVar 3)) (tgName 5)
  (sExt 4 (pOf (pGoL P_fours_others_over (aCons (pVar 0) (aCons (pVar 1) (aCons (pVar 2) (aCons (pVar 5) aNil))))))))
  (sRet (pVar 4)))))))
end Pw
set_option linter.all false
set_option maxRecDepth 100000
namespace Pw
open PySem PySem.Spec PyProof.Rows L2
end Pw
set_option linter.all false
set_option maxRecDepth 100000
namespace Pw
open PySem PySem.Spec PyProof.Rows L2
def f_P_chains_are_fours : Env → Option Rs := (sRet (pA dAll (aCons (pOf (pLc (p1 D.items (pVar 0)) (tgName 1) (fun _ => Md.ret true) (p2 dEq (p2 (dI2 (gBit (· &&& ·))) (pGo P_words_weight_of (aCons (pVar 1) aNil)) (pC (.int 3))) (pC (.int 0))) [1])) aNil)))
def P_chains_are_fours : List D → Option D := runD false 2 f_P_chains_are_fours
end Pw
set_option linter.all false
set_option maxRecDepth 100000
namespace Pw
open PySem PySem.Spec PyProof.Rows L2
end Pw
set_option linter.all false
set_option maxRecDepth 100000
namespace Pw
open PySem PySem.Spec PyProof.Rows L2
end Pw
set_option linter.all false
set_option maxRecDepth 100000
namespace Pw
open PySem PySem.Spec PyProof.Rows L2
end Pw
set_option linter.all false
set_option maxRecDepth 100000
namespace Pw
open PySem PySem.Spec PyProof.Rows L2
end Pw
set_option linter.all false
set_option maxRecDepth 100000
namespace Pw
open PySem PySem.Spec PyProof.Rows L2
end Pw
set_option linter.all false
set_option maxRecDepth 100000
namespace Pw
open PySem PySem.Spec PyProof.Rows L2
end Pw
set_option linter.all false
set_option maxRecDepth 100000
namespace Pw
open PySem PySem.Spec PyProof.Rows L2
end Pw
set_option linter.all false
set_option maxRecDepth 100000
namespace Pw
open PySem PySem.Spec PyProof.Rows L2
end Pw
set_option linter.all false
set_option maxRecDepth 100000
namespace Pw
open PySem PySem.Spec PyProof.Rows L2
end Pw
set_option linter.all false
set_option maxRecDepth 100000
namespace Pw
open PySem PySem.Spec PyProof.Rows L2
def f_X_chains_same_family : Env → Option Er := (xPre (sDrop (pGo P_neighbours_want_own_two (aCons (pVar 0) (aCons (pVar 1) aNil))))
  (xIf (bOr (bNot (p1 dBl (pGo P_chains_are_fours (aCons (p1 (dFld "Room" "own_basis") (pVar 0)) aNil)))) (bNot (p1 dBl (pGo P_chains_are_fours (aCons (p1 (dFld "Room" "own_basis") (pVar 1)) aNil)))))
  (xRaise0 "NotByFours")
  xNo))
def X_chains_same_family : List D → Option Er := fun ds => f_X_chains_same_family (startD 2 ds)
end Pw
set_option linter.all false
set_option maxRecDepth 100000
namespace Pw
open PySem PySem.Spec PyProof.Rows L2
end Pw
set_option linter.all false
set_option maxRecDepth 100000
namespace Pw
open PySem PySem.Spec PyProof.Rows L2
end Pw
set_option linter.all false
set_option maxRecDepth 100000
namespace Pw
open PySem PySem.Spec PyProof.Rows L2
def f_X_sums_want_even_places : Env → Option Er := (xIf (bOr (bNot (p1 dBl (pGo P_basics_is_integer (aCons (pVar 0) aNil)))) (bOr (bNot (p1 dBl (p3c dLe dLe (pC (.int 2)) (pVar 0) (pC (.int 24))))) (p1 dBl (p2 dNe (p2 dMul (p2 (dI2 gDiv) (pVar 0) (pC (.int 2))) (pC (.int 2))) (pVar 0)))))
  (xRaise1 "InvalidPlaces" "value" (pVar 0))
  xNo)
def X_sums_want_even_places : List D → Option Er := fun ds => f_X_sums_want_even_places (startD 1 ds)
def f_X_sums_want_eights : Env → Option Er := (xIf (p1 dBl (p2 dNe (p2 dMul (p2 (dI2 gDiv) (pVar 0) (pC (.int 8))) (pC (.int 8))) (pVar 0)))
  (xRaise0 "NotEights")
  xNo)
def X_sums_want_eights : List D → Option Er := fun ds => f_X_sums_want_eights (startD 1 ds)
def f_X_sums_want_row_numbers : Env → Option Er := (xIf (bOr (bNot (p1 dBl (pGo P_sums_are_integers (aCons (pVar 0) aNil)))) (bOr (bNot (p1 dBl (p3c dLe dLe (pC (.int 3)) (pA dLen (aCons (pVar 0) aNil)) (p2 dAdd (pC (.int 24)) (pC (.int 1)))))) (p1 dBl (p2 dEq (p2 dMul (p2 (dI2 gDiv) (pA dLen (aCons (pVar 0) aNil)) (pC (.int 2))) (pC (.int 2))) (pA dLen (aCons (pVar 0) aNil))))))
  (xRaise1 "InvalidNumbers" "value" (pVar 0))
  xNo)
def X_sums_want_row_numbers : List D → Option Er := fun ds => f_X_sums_want_row_numbers (startD 1 ds)
def f_X_sums_want_sum_numbers : Env → Option Er := (xIf (bOr (bNot (p1 dBl (pGo P_sums_are_integers (aCons (pVar 0) aNil)))) (p1 dBl (p2 dNe (pA dLen (aCons (pVar 0) aNil)) (pVar 1))))
  (xRaise1 "InvalidNumbers" "value" (pVar 0))
  xNo)
def X_sums_want_sum_numbers : List D → Option Er := fun ds => f_X_sums_want_sum_numbers (startD 2 ds)
def f_X_sums_sums : Env → Option Er := (xGo X_sums_want_row_numbers (aCons (pVar 0) aNil))
def X_sums_sums : List D → Option Er := fun ds => f_X_sums_sums (startD 1 ds)
def f_X_sums_row_of : Env → Option Er := (xTwo (sDrop (pGo P_sums_want_even_places (aCons (pVar 0) aNil)))
  (xGo X_sums_want_even_places (aCons (pVar 0) aNil))
  (xGo X_sums_want_sum_numbers (aCons (pVar 1) (aCons (p2 dAdd (p2 (dI2 gDiv) (pVar 0) (pC (.int 8))) (pC (.int 1))) aNil))))
def X_sums_row_of : List D → Option Er := fun ds => f_X_sums_row_of (startD 2 ds)
def f_X_sums_fours : Env → Option Er := (xBoth (xArg (xGo X_sums_want_row_numbers (aCons (pVar 0) aNil)) (pGo P_sums_want_row_numbers (aCons (pVar 0) aNil)) xNo) (xGo X_sums_want_eights (aCons (pGo P_sums_want_row_numbers (aCons (pVar 0) aNil)) aNil)))
def X_sums_fours : List D → Option Er := fun ds => f_X_sums_fours (startD 1 ds)
def f_X_sums_fours_row_of : Env → Option Er := (xTwo (sDrop (pGo P_sums_want_even_places (aCons (pVar 0) aNil)))
  (xGo X_sums_want_even_places (aCons (pVar 0) aNil))
  (xTwo (sDrop (pGo P_sums_want_sum_numbers (aCons (pVar 1) (aCons (p2 dAdd (p2 (dI2 gDiv) (pVar 0) (pC (.int 24))) (pC (.int 1))) aNil))))
  (xGo X_sums_want_sum_numbers (aCons (pVar 1) (aCons (p2 dAdd (p2 (dI2 gDiv) (pVar 0) (pC (.int 24))) (pC (.int 1))) aNil)))
  (xGo X_sums_want_eights (aCons (pVar 0) aNil))))
def X_sums_fours_row_of : List D → Option Er := fun ds => f_X_sums_fours_row_of (startD 2 ds)
def f_X_limits_shadow_of : Env → Option Er := (xTwo (sDrop (pGo P_sums_want_even_places (aCons (pVar 0) aNil)))
  (xGo X_sums_want_even_places (aCons (pVar 0) aNil))
  (xGo X_sums_want_sum_numbers (aCons (pVar 1) (aCons (p2 dAdd (p2 (dI2 gDiv) (pVar 0) (pC (.int 8))) (pC (.int 1))) aNil))))
def X_limits_shadow_of : List D → Option Er := fun ds => f_X_limits_shadow_of (startD 2 ds)
def f_X_limits_limit : Env → Option Er := (xGo X_sums_want_even_places (aCons (pVar 0) aNil))
def X_limits_limit : List D → Option Er := fun ds => f_X_limits_limit (startD 1 ds)
def f_X_limits_fours_limit : Env → Option Er := (xTwo (sDrop (pGo P_sums_want_even_places (aCons (pVar 0) aNil)))
  (xGo X_sums_want_even_places (aCons (pVar 0) aNil))
  (xGo X_sums_want_eights (aCons (pVar 0) aNil)))
def X_limits_fours_limit : List D → Option Er := fun ds => f_X_limits_fours_limit (startD 1 ds)
def f_X_limits_greatest : Env → Option Er := (xGo X_sums_want_even_places (aCons (pVar 0) aNil))
def X_limits_greatest : List D → Option Er := fun ds => f_X_limits_greatest (startD 1 ds)
def f_X_limits_fours_greatest : Env → Option Er := (xTwo (sDrop (pGo P_sums_want_even_places (aCons (pVar 0) aNil)))
  (xGo X_sums_want_even_places (aCons (pVar 0) aNil))
  (xGo X_sums_want_eights (aCons (pVar 0) aNil)))
def X_limits_fours_greatest : List D → Option Er := fun ds => f_X_limits_fours_greatest (startD 1 ds)
def f_X_limits_can_be : Env → Option Er := (xGo X_sums_want_row_numbers (aCons (pVar 0) aNil))
def X_limits_can_be : List D → Option Er := fun ds => f_X_limits_can_be (startD 4 ds)
def oc_P_sums_row_of : Env → Option D := (pOc (xGo X_sums_row_of (aCons (pVar 0) (aCons (pC .non) aNil))) (pGo P_sums_row_of (aCons (pVar 0) (aCons (pC .non) aNil))))
def oc_P_sums_row_of_v2 : Env → Option D := (pOc (xGo X_sums_row_of (aKws [1, 0] (aCons (pOf (pLst (aCons (pC (.int 1)) aNil))) (aCons (pVar 0) aNil)))) (pGo P_sums_row_of (aKws [1, 0] (aCons (pOf (pLst (aCons (pC (.int 1)) aNil))) (aCons (pVar 0) aNil)))))
def oc_P_sums_fours_row_of : Env → Option D := (pOc (xGo X_sums_fours_row_of (aCons (pVar 0) (aCons (pOf (pLst (aCons (pC (.int 1)) aNil))) aNil))) (pGo P_sums_fours_row_of (aCons (pVar 0) (aCons (pOf (pLst (aCons (pC (.int 1)) aNil))) aNil))))
def oc_P_sums_fours_row_of_v2 : Env → Option D := (pOc (xGo X_sums_fours_row_of (aKws [1, 0] (aCons (pC (.int 0)) (aCons (pVar 0) aNil)))) (pGo P_sums_fours_row_of (aKws [1, 0] (aCons (pC (.int 0)) (aCons (pVar 0) aNil)))))
def oc_P_limits_shadow_of : Env → Option D := (pOc (xGo X_limits_shadow_of (aCons (pVar 0) (aCons (pOf (pLst (aCons (pC (.int 1)) aNil))) aNil))) (pGo P_limits_shadow_of (aCons (pVar 0) (aCons (pOf (pLst (aCons (pC (.int 1)) aNil))) aNil))))
def oc_P_limits_shadow_of_v2 : Env → Option D := (pOc (xGo X_limits_shadow_of (aKws [1, 0] (aCons (pC .non) (aCons (pVar 0) aNil)))) (pGo P_limits_shadow_of (aKws [1, 0] (aCons (pC .non) (aCons (pVar 0) aNil)))))
def oc_P_limits_limit : Env → Option D := (pOc (xGo X_limits_limit (aCons (pVar 0) aNil)) (pGo P_limits_limit (aCons (pVar 0) aNil)))
def oc_P_limits_fours_limit : Env → Option D := (pOc (xGo X_limits_fours_limit (aKws [0] (aCons (pVar 0) aNil))) (pGo P_limits_fours_limit (aKws [0] (aCons (pVar 0) aNil))))
def oc_P_limits_greatest : Env → Option D := (pOc (xGo X_limits_greatest (aCons (pVar 0) aNil)) (pOf (pGoL P_limits_greatest (aCons (pVar 0) aNil))))
def oc_P_limits_fours_greatest : Env → Option D := (pOc (xGo X_limits_fours_greatest (aCons (pVar 0) aNil)) (pOf (pGoL P_limits_fours_greatest (aCons (pVar 0) aNil))))
def oc_P_sums_sums : Env → Option D := (pOc (xGo X_sums_sums (aCons (pVar 0) aNil)) (pGo P_sums_sums (aCons (pVar 0) aNil)))
def oc_P_sums_sums_v2 : Env → Option D := (pOc (xGo X_sums_sums (aKws [0] (aCons (pVar 0) aNil))) (pGo P_sums_sums (aKws [0] (aCons (pVar 0) aNil))))
def oc_P_sums_fours : Env → Option D := (pOc (xGo X_sums_fours (aCons (pVar 0) aNil)) (pGo P_sums_fours (aCons (pVar 0) aNil)))
def oc_P_limits_can_be : Env → Option D := (pOc (xGo X_limits_can_be (aCons (pVar 0) aNil)) (pGo P_limits_can_be (aCons (pVar 0) aNil)))
def oc_P_limits_can_be_v2 : Env → Option D := (pOc (xGo X_limits_can_be (aKws [0] (aCons (pVar 0) aNil))) (pGo P_limits_can_be (aKws [0] (aCons (pVar 0) aNil))))
def oc_P_sums_row_of_v3 : Env → Option D := (pOc (xGo X_sums_row_of (aCons (pVar 0) (aCons (pVar 1) aNil))) (pGo P_sums_row_of (aCons (pVar 0) (aCons (pVar 1) aNil))))
def oc_P_sums_row_of_v4 : Env → Option D := (pOc (xGo X_sums_row_of (aKws [1, 0] (aCons (pVar 0) (aCons (pVar 1) aNil)))) (pGo P_sums_row_of (aKws [1, 0] (aCons (pVar 0) (aCons (pVar 1) aNil)))))
def oc_P_limits_shadow_of_v3 : Env → Option D := (pOc (xGo X_limits_shadow_of (aCons (pVar 0) (aCons (pVar 1) aNil))) (pGo P_limits_shadow_of (aCons (pVar 0) (aCons (pVar 1) aNil))))
def oc_P_sums_fours_row_of_v3 : Env → Option D := (pOc (xGo X_sums_fours_row_of (aCons (pC (.int 12)) (aCons (pOf (pLst (aCons (pC (.int 1)) aNil))) aNil))) (pGo P_sums_fours_row_of (aCons (pC (.int 12)) (aCons (pOf (pLst (aCons (pC (.int 1)) aNil))) aNil))))
def oc_P_limits_fours_limit_v2 : Env → Option D := (pOc (xGo X_limits_fours_limit (aCons (pC (.int 2)) aNil)) (pGo P_limits_fours_limit (aCons (pC (.int 2)) aNil)))
def oc_P_limits_fours_limit_v3 : Env → Option D := (pOc (xGo X_limits_fours_limit (aKws [0] (aCons (pC (.int 22)) aNil))) (pGo P_limits_fours_limit (aKws [0] (aCons (pC (.int 22)) aNil))))
def oc_P_limits_fours_greatest_v2 : Env → Option D := (pOc (xGo X_limits_fours_greatest (aCons (pC (.int 20)) aNil)) (pOf (pGoL P_limits_fours_greatest (aCons (pC (.int 20)) aNil))))
def oc_P_sums_fours_row_of_v4 : Env → Option D := (pOc (xGo X_sums_fours_row_of (aCons (pVar 0) (aCons (pVar 1) aNil))) (pGo P_sums_fours_row_of (aCons (pVar 0) (aCons (pVar 1) aNil))))
def oc_P_sums_fours_row_of_v5 : Env → Option D := (pOc (xGo X_sums_fours_row_of (aKws [1, 0] (aCons (pVar 0) (aCons (pVar 1) aNil)))) (pGo P_sums_fours_row_of (aKws [1, 0] (aCons (pVar 0) (aCons (pVar 1) aNil)))))
def oc_P_sums_fours_v2 : Env → Option D := (pOc (xGo X_sums_fours (aCons (p2 dAdd (pTup (aCons (pC (.int 1)) aNil)) (p2 dMulT (pTup (aCons (pC (.int 0)) aNil)) (pC (.int 24)))) aNil)) (pGo P_sums_fours (aCons (p2 dAdd (pTup (aCons (pC (.int 1)) aNil)) (p2 dMulT (pTup (aCons (pC (.int 0)) aNil)) (pC (.int 24)))) aNil)))
def oc_P_sums_row_of_v5 : Env → Option D := (pOc (xGo X_sums_row_of (aCons (pVar 0) (aCons (p2 dMulT (pTup (aCons (pC (.int 0)) aNil)) (pVar 1)) aNil))) (pGo P_sums_row_of (aCons (pVar 0) (aCons (p2 dMulT (pTup (aCons (pC (.int 0)) aNil)) (pVar 1)) aNil))))
def oc_P_limits_fours_limit_v4 : Env → Option D := (pOc (xGo X_limits_fours_limit (aCons (pC (.int 24)) aNil)) (pGo P_limits_fours_limit (aCons (pC (.int 24)) aNil)))
def oc_P_limits_can_be_v3 : Env → Option D := (pOc (xGo X_limits_can_be (aCons (p2 dMul (pOf (pLst (aCons (p1 dNeg (pC (.int 1))) aNil))) (pC (.int 25))) aNil)) (pGo P_limits_can_be (aCons (p2 dMul (pOf (pLst (aCons (p1 dNeg (pC (.int 1))) aNil))) (pC (.int 25))) aNil)))
def f_L_pot_v62 : Env → Option Rs := (sSeq (sSet 2 (p2 dAdd (p2 dAdd (p2 dMul (pC (.int 311)) (pVar 1)) (pC (.int 241))) (p2 (dI2 gMod) (pA dSum (aCons (pSl dSlU (pVar 0) (fun _ => Md.ret none) (p1 dInt (pC (.int 1)))) aNil)) (pC (.int 1000003)))))
  (sSeq (sIf (p1 dBl (p2 dLt (pVar 1) (pA dLen (aCons (pVar 0) aNil))))
  (sSet 2 (pA dAbs (aCons (p2 dIx (pVar 0) (pVar 1)) aNil)))
  sNext)
  (sRetL (pLst (aCons (pA dMax2 (aCons (pC (.int 0)) (aCons (p2 dSub (pVar 2) (p2 (dI2 gPow) (pC (.int 10)) (pC (.int 18)))) aNil))) (aCons (p2 dAdd (p2 (dI2 gMod) (p2 dMul (p2 dAdd (p2 (dI2 gMod) (pVar 2) (pC (.int 2147483549))) (pC (.int 18353))) (p2 (dI2 gPow) (p2 dAdd (p2 dMul (pC (.int 2)) (pVar 1)) (pC (.int 3))) (pC (.int 3)))) (pC (.int 2147483477))) (pC (.int 1))) aNil))))))
def L_pot_v62 : List D → Option D := runD true 3 f_L_pot_v62
def f_L_heard : Env → Option Rs := (sSeq (sTryP 0 1 [("InvalidPlaces", fun er => (sRetL (pLst (aCons (pC (.str "places")) (aCons (pReprG dReprV "value" er) (aCons (pC (.bl true)) aNil)))))),
    ("InvalidNumbers", fun er => (sRetL (pLst (aCons (pC (.str "numbers")) (aCons (pReprG dReprV "value" er) (aCons (pC (.bl true)) aNil)))))),
    ("NotEights", fun er => (sRetL (pLst (aCons (pC (.str "not eights")) (aCons (pC (.bl true)) aNil)))))])
  (sRetL (pLst (aCons (pC (.str "let")) aNil))))
def L_heard : List D → Option D := runD true 2 f_L_heard
def f_L_are : Env → Option Rs := (sRet (p2 dEqT (pOf (pLc (p1 D.items (pVar 0)) (tgName 2) (p1 dBl (p2 dNeT (pOf (pGoL L_heard (aCons (pVar 2) aNil))) (pVar 1))) (pVar 2) [2])) (pOf (pLst aNil))))
def L_are : List D → Option D := runD false 3 f_L_are
def f_L_places_right : Env → Option Rs := (sF 1 (sRet (pAreP [([0], oc_P_sums_row_of), ([0], oc_P_sums_row_of_v2), ([0], oc_P_sums_fours_row_of), ([0], oc_P_sums_fours_row_of_v2), ([0], oc_P_limits_shadow_of), ([0], oc_P_limits_shadow_of_v2), ([0], oc_P_limits_limit), ([0], oc_P_limits_fours_limit), ([0], oc_P_limits_greatest), ([0], oc_P_limits_fours_greatest)] L_are (pOf (pLst (aCons (pC (.str "places")) (aCons (pA dReprV (aCons (pVar 0) aNil)) (aCons (pC (.bl true)) aNil))))))))
def L_places_right : List D → Option D := runD false 2 f_L_places_right
def f_L_lists_right_v3 : Env → Option Rs := (sF 1 (sRet (pAreP [([0], oc_P_sums_sums), ([0], oc_P_sums_sums_v2), ([0], oc_P_sums_fours), ([0], oc_P_limits_can_be), ([0], oc_P_limits_can_be_v2)] L_are (pOf (pLst (aCons (pC (.str "numbers")) (aCons (pA dReprV (aCons (pVar 0) aNil)) (aCons (pC (.bl true)) aNil))))))))
def L_lists_right_v3 : List D → Option D := runD false 2 f_L_lists_right_v3
def f_L_numbers_right_v2 : Env → Option Rs := (sF 2 (sRet (pAreP [([0, 1], oc_P_sums_row_of_v3), ([1, 0], oc_P_sums_row_of_v4), ([0, 1], oc_P_limits_shadow_of_v3)] L_are (pOf (pLst (aCons (pC (.str "numbers")) (aCons (pA dReprV (aCons (pVar 1) aNil)) (aCons (pC (.bl true)) aNil))))))))
def L_numbers_right_v2 : List D → Option D := runD false 3 f_L_numbers_right_v2
def f_L_eights_right : Env → Option Rs := (sSeq (sSet 1 (p2 dAdd (pOf (pLst (aCons (pC (.int 1)) aNil))) (p2 dMul (pOf (pLst (aCons (pC (.int 0)) aNil))) (pIf (p1 dBl (p2 dNe (p2 (dI2 gMod) (p2 dMul (pC (.int 2)) (pVar 0)) (pC (.int 8))) (pC (.int 0)))) (p2 dMul (pC (.int 2)) (pVar 0)) (pC (.int 10))))))
  (sF 2 (sRet (pAreP [([1], oc_P_sums_fours), ([], oc_P_sums_fours_row_of_v3), ([], oc_P_limits_fours_limit_v2), ([], oc_P_limits_fours_limit_v3), ([], oc_P_limits_fours_greatest_v2)] L_are (pOf (pLst (aCons (pC (.str "not eights")) (aCons (pC (.bl true)) aNil))))))))
def L_eights_right : List D → Option D := runD false 3 f_L_eights_right
def f_L_right_v76 : Env → G Rs := (sSeq (sFor (p1 D.items (pOf (pLst (aCons (pC .non) (aCons (pC (.bl true)) (aCons (pC (.int 0)) (aCons (p1 dNeg (pC (.int 2))) (aCons (pC (.int 1)) (aCons (pC (.int 3)) (aCons (pC (.int 23)) (aCons (pC (.int 25)) (aCons (pC (.int 26)) (aCons (pC (.int 999998)) (aCons (pC (.str "4")) (aCons (pOf (pLst (aCons (pC (.int 4)) aNil))) (aCons (pTup aNil) (aCons (pC (.dic [])) aNil))))))))))))))))) (tgName 1)
  (sIf (bNot (p1 dBl (pGo L_places_right (aCons (pVar 1) aNil))))
  (sRet (pC (.bl false)))
  sNext))
  (sSeq (sSet 2 (pOf (pLst (aCons (pC (.int 1)) (aCons (pC (.int 0)) (aCons (pGo S_draw (aCons (pVar 0) (aCons (pC (.int 5)) aNil))) aNil))))))
  (sSeq (sFor (p1 D.items (pOf (pLst (aCons (pC .non) (aCons (pC (.int 0)) (aCons (pC (.bl true)) (aCons (pC (.str "101")) (aCons (pC (.dic [])) (aCons (pOf (pLst aNil)) (aCons (pTup aNil) (aCons (pOf (pLst (aCons (pC (.int 1)) aNil))) (aCons (pOf (pLst (aCons (pC (.int 1)) (aCons (pC (.int 0)) aNil)))) (aCons (pOf (pLst (aCons (pC (.int 1)) (aCons (pC (.int 0)) (aCons (pC (.int 0)) (aCons (pC (.int 1)) aNil)))))) (aCons (pOf (pLst (aCons (pC (.int 1)) (aCons (pC (.bl true)) (aCons (pC (.int 1)) aNil))))) (aCons (pOf (pLst (aCons (pC (.int 1)) (aCons (pC (.str "0")) (aCons (pC (.int 1)) aNil))))) (aCons (pOf (pLst (aCons (pC (.int 1)) (aCons (pC .non) (aCons (pC (.int 1)) aNil))))) (aCons (pOf (pLst (aCons (pOf (pLst (aCons (pC (.int 1)) aNil))) (aCons (pC (.int 0)) (aCons (pC (.int 1)) aNil))))) (aCons (p2 dMul (pOf (pLst (aCons (pC (.int 0)) aNil))) (pC (.int 27))) (aCons (p2 dAdd (pVar 2) (pOf (pLst (aCons (pC (.bl false)) (aCons (pC (.int 1)) aNil))))) aNil))))))))))))))))))) (tgName 1)
  (sIf (bNot (p1 dBl (pGo L_lists_right_v3 (aCons (pVar 1) aNil))))
  (sRet (pC (.bl false)))
  sNext))
  (sSeq (sSet 3 (p2 dMul (pC (.int 2)) (p2 dAdd (pC (.int 1)) (pGo S_draw (aCons (pVar 0) (aCons (pC (.int 12)) aNil))))))
  (sSeq (sSet 4 (p2 dAdd (p2 (dI2 gDiv) (pVar 3) (pC (.int 8))) (pC (.int 1))))
  (sSeq (sFor (p1 D.items (pOf (pLst (aCons (pC .non) (aCons (pC (.int 0)) (aCons (pC (.bl true)) (aCons (pC (.str "1")) (aCons (pC (.dic [])) (aCons (pOf (pLst aNil)) (aCons (p2 dMul (pOf (pLst (aCons (pC (.int 1)) aNil))) (p2 dAdd (pVar 4) (pC (.int 1)))) (aCons (p2 dAdd (p2 dMul (pOf (pLst (aCons (pC (.int 0)) aNil))) (p2 dSub (pVar 4) (pC (.int 1)))) (pOf (pLst (aCons (pC (.bl true)) aNil)))) (aCons (p2 dAdd (p2 dMul (pOf (pLst (aCons (pC (.int 1)) aNil))) (p2 dSub (pVar 4) (pC (.int 1)))) (pOf (pLst (aCons (pC .non) aNil)))) (aCons (p2 dMul (pOf (pLst (aCons (pOf (pLst (aCons (pC (.int 1)) aNil))) aNil))) (pVar 4)) (aCons (p2 dMul (pOf (pLst (aCons (pC (.int 1)) aNil))) (pC (.int 13))) aNil)))))))))))))) (tgName 1)
  (sIf (bNot (p1 dBl (pGo L_numbers_right_v2 (aCons (pVar 3) (aCons (pVar 1) aNil)))))
  (sRet (pC (.bl false)))
  sNext))
  (sSeq (sFor (p1 D.items (pOf (pLst (aCons (pC .non) (aCons (pOf (pLst aNil)) (aCons (pOf (pLst (aCons (pC (.int 1)) (aCons (pC (.int 2)) (aCons (pC (.int 3)) aNil))))) (aCons (pOf (pLst (aCons (pC (.bl true)) aNil))) (aCons (p2 dMul (pOf (pLst (aCons (pC (.int 1)) aNil))) (pC (.int 4))) aNil)))))))) (tgName 1)
  (sF 5 (sIf (bNot (p1 dBl (pAreP [([3, 1], oc_P_sums_fours_row_of_v4), ([1, 3], oc_P_sums_fours_row_of_v5)] L_are (pOf (pLst (aCons (pC (.str "numbers")) (aCons (pA dReprV (aCons (pVar 1) aNil)) (aCons (pC (.bl true)) aNil))))))))
  (sRet (pC (.bl false)))
  sNext)))
  (sSeq (sIf (bNot (p1 dBl (pGo L_eights_right (aCons (p2 dAdd (pC (.int 1)) (pGo S_draw (aCons (pVar 0) (aCons (pC (.int 12)) aNil)))) aNil))))
  (sRet (pC (.bl false)))
  sNext)
  (sF 5 (sRet (pAreP [([2], oc_P_sums_sums), ([], oc_P_sums_fours_v2), ([3, 4], oc_P_sums_row_of_v5), ([], oc_P_limits_fours_limit_v4), ([], oc_P_limits_can_be_v3)] L_are (pOf (pLst (aCons (pC (.str "let")) aNil))))))))))))))
def L_right_v76 : List D → G D := runD false 6 f_L_right_v76
def f_L_law_v76 : Env → G Rs := (sRet (pGoPot L_right_v76 (pGoL L_pot_v62 (aCons (pVar 0) (aCons (pC (.int 0)) aNil)))))
def L_law_v76 : List D → G D := runD false 1 f_L_law_v76
end Pw
section
set_option Elab.async false
set_option linter.all false
set_option maxRecDepth 100000
set_option maxHeartbeats 4000000
/-! the walk of owncontraries_k60_sums_refused: printed by gen.py -/
namespace Wk60
open PySem PySem.Spec PyProof.Rows L2 Pw
def top (i : Nat) : Stmt := PySem.Challenge.pw_owncontraries_k60_sums_refused.main.body.getD i (.Pass ⟨0, 0, 0, 0⟩)
abbrev s_is_integer : Stmt := top 7
theorem sc_is_integer : FnScope ["value"] ["value"] (defScope s_is_integer) := ⟨rfl, rfl, rfl, by decide +kernel, rfl, by decide +kernel, by decide +kernel⟩
abbrev s_is_list : Stmt := top 8
theorem sc_is_list : FnScope ["value"] ["value"] (defScope s_is_list) := ⟨rfl, rfl, rfl, by decide +kernel, rfl, by decide +kernel, by decide +kernel⟩
abbrev s_want_even_places : Stmt := top 17
theorem sc_want_even_places : FnScope ["value"] ["value"] (defScope s_want_even_places) := ⟨rfl, rfl, rfl, by decide +kernel, rfl, by decide +kernel, by decide +kernel⟩
abbrev s_want_eights : Stmt := top 18
theorem sc_want_eights : FnScope ["places"] ["places"] (defScope s_want_eights) := ⟨rfl, rfl, rfl, by decide +kernel, rfl, by decide +kernel, by decide +kernel⟩
abbrev s_are_integers : Stmt := top 19
theorem sc_are_integers : FnScope ["value", "number"] ["value"] (defScope s_are_integers) := ⟨rfl, rfl, rfl, by decide +kernel, rfl, by decide +kernel, by decide +kernel⟩
abbrev s_want_row_numbers : Stmt := top 20
theorem sc_want_row_numbers : FnScope ["value"] ["value"] (defScope s_want_row_numbers) := ⟨rfl, rfl, rfl, by decide +kernel, rfl, by decide +kernel, by decide +kernel⟩
abbrev s_want_sum_numbers : Stmt := top 21
theorem sc_want_sum_numbers : FnScope ["value", "many"] ["value", "many"] (defScope s_want_sum_numbers) := ⟨rfl, rfl, rfl, by decide +kernel, rfl, by decide +kernel, by decide +kernel⟩
abbrev s_product_of : Stmt := top 22
theorem sc_product_of : FnScope ["one", "other", "found", "at", "near", "to", "far"] ["one", "other"] (defScope s_product_of) := ⟨rfl, rfl, rfl, by decide +kernel, rfl, by decide +kernel, by decide +kernel⟩
abbrev s_power_of : Stmt := top 23
theorem sc_power_of : FnScope ["poly", "many", "found", "turn"] ["poly", "many"] (defScope s_power_of) := ⟨rfl, rfl, rfl, by decide +kernel, rfl, by decide +kernel, by decide +kernel⟩
abbrev s_products_by : Stmt := top 24
theorem sc_products_by : FnScope ["places", "first", "second", "found", "many", "left"] ["places", "first", "second"] (defScope s_products_by) := ⟨rfl, rfl, rfl, by decide +kernel, rfl, by decide +kernel, by decide +kernel⟩
abbrev s_added : Stmt := top 25
theorem sc_added : FnScope ["places", "numbers", "first", "second", "found", "number", "product", "one", "more"] ["places", "numbers", "first", "second"] (defScope s_added) := ⟨rfl, rfl, rfl, by decide +kernel, rfl, by decide +kernel, by decide +kernel⟩
abbrev s_solved : Stmt := top 26
theorem sc_solved : FnScope ["numbers", "first", "second", "product", "left", "found", "lead", "number", "place", "one", "more"] ["numbers", "first", "second"] (defScope s_solved) := ⟨rfl, rfl, rfl, by decide +kernel, rfl, by decide +kernel, by decide +kernel⟩
abbrev s_sums : Stmt := top 27
theorem sc_sums : FnScope ["numbers"] ["numbers"] (defScope s_sums) := ⟨rfl, rfl, rfl, by decide +kernel, rfl, by decide +kernel, by decide +kernel⟩
abbrev s_row_of : Stmt := top 28
theorem sc_row_of : FnScope ["places", "numbers"] ["places", "numbers"] (defScope s_row_of) := ⟨rfl, rfl, rfl, by decide +kernel, rfl, by decide +kernel, by decide +kernel⟩
abbrev s_fours_sums : Stmt := top 29
theorem sc_fours_sums : FnScope ["numbers"] ["numbers"] (defScope s_fours_sums) := ⟨rfl, rfl, rfl, by decide +kernel, rfl, by decide +kernel, by decide +kernel⟩
abbrev s_fours_row_of : Stmt := top 30
theorem sc_fours_row_of : FnScope ["places", "numbers"] ["places", "numbers"] (defScope s_fours_row_of) := ⟨rfl, rfl, rfl, by decide +kernel, rfl, by decide +kernel, by decide +kernel⟩
abbrev s_twos : Stmt := top 34
theorem sc_twos : FnScope ["many", "found", "turn"] ["many"] (defScope s_twos) := ⟨rfl, rfl, rfl, by decide +kernel, rfl, by decide +kernel, by decide +kernel⟩
abbrev s_shadow_by : Stmt := top 35
theorem sc_shadow_by : FnScope ["places", "numbers", "below", "half", "last", "found", "shared", "sign", "many", "number", "factor", "begin", "place", "part"] ["places", "numbers"] (defScope s_shadow_by) := ⟨rfl, rfl, rfl, by decide +kernel, rfl, by decide +kernel, by decide +kernel⟩
abbrev s_shadow_of : Stmt := top 36
theorem sc_shadow_of : FnScope ["places", "numbers"] ["places", "numbers"] (defScope s_shadow_of) := ⟨rfl, rfl, rfl, by decide +kernel, rfl, by decide +kernel, by decide +kernel⟩
abbrev s_limit : Stmt := top 37
theorem sc_limit : FnScope ["places"] ["places"] (defScope s_limit) := ⟨rfl, rfl, rfl, by decide +kernel, rfl, by decide +kernel, by decide +kernel⟩
abbrev s_fours_limit : Stmt := top 38
theorem sc_fours_limit : FnScope ["places"] ["places"] (defScope s_fours_limit) := ⟨rfl, rfl, rfl, by decide +kernel, rfl, by decide +kernel, by decide +kernel⟩
abbrev s_greatest_by : Stmt := top 39
theorem sc_greatest_by : FnScope ["places", "first", "second", "product", "found", "here", "lead", "number", "place", "one", "more"] ["places", "first", "second"] (defScope s_greatest_by) := ⟨rfl, rfl, rfl, by decide +kernel, rfl, by decide +kernel, by decide +kernel⟩
abbrev s_greatest : Stmt := top 40
theorem sc_greatest : FnScope ["places"] ["places"] (defScope s_greatest) := ⟨rfl, rfl, rfl, by decide +kernel, rfl, by decide +kernel, by decide +kernel⟩
abbrev s_fours_greatest : Stmt := top 41
theorem sc_fours_greatest : FnScope ["places"] ["places"] (defScope s_fours_greatest) := ⟨rfl, rfl, rfl, by decide +kernel, rfl, by decide +kernel, by decide +kernel⟩
abbrev s_can_be : Stmt := top 42
theorem sc_can_be : FnScope ["numbers", "places", "found", "shadow"] ["numbers"] (defScope s_can_be) := ⟨rfl, rfl, rfl, by decide +kernel, rfl, by decide +kernel, by decide +kernel⟩
abbrev s__law_pot : Stmt := top 44
theorem sc__law_pot : FnScope ["_law_script", "_law_k", "_law_cell"] ["_law_script", "_law_k"] (defScope s__law_pot) := ⟨rfl, rfl, rfl, by decide +kernel, rfl, by decide +kernel, by decide +kernel⟩
abbrev s__law_draw : Stmt := top 45
theorem sc__law_draw : FnScope ["_law_pot_here", "_law_many", "_law_digit"] ["_law_pot_here", "_law_many"] (defScope s__law_draw) := ⟨rfl, rfl, rfl, by decide +kernel, rfl, by decide +kernel, by decide +kernel⟩
abbrev s__law_heard : Stmt := top 46
theorem sc__law_heard : FnScope ["_law_call", "e"] ["_law_call"] (defScope s__law_heard) := ⟨rfl, rfl, rfl, by decide +kernel, rfl, by decide +kernel, by decide +kernel⟩
abbrev s__law_are : Stmt := top 47
theorem sc__law_are : FnScope ["_law_calls", "_law_due", "_law_call"] ["_law_calls", "_law_due"] (defScope s__law_are) := ⟨rfl, rfl, rfl, by decide +kernel, rfl, by decide +kernel, by decide +kernel⟩
abbrev s__law_places_right : Stmt := top 48
theorem sc__law_places_right : FnScope ["_law_odd", "_law_calls"] ["_law_odd"] (defScope s__law_places_right) := ⟨rfl, rfl, rfl, by decide +kernel, rfl, by decide +kernel, by decide +kernel⟩
abbrev s__law_lists_right : Stmt := top 49
theorem sc__law_lists_right : FnScope ["_law_odd", "_law_calls"] ["_law_odd"] (defScope s__law_lists_right) := ⟨rfl, rfl, rfl, by decide +kernel, rfl, by decide +kernel, by decide +kernel⟩
abbrev s__law_numbers_right : Stmt := top 50
theorem sc__law_numbers_right : FnScope ["_law_places", "_law_odd", "_law_calls"] ["_law_places", "_law_odd"] (defScope s__law_numbers_right) := ⟨rfl, rfl, rfl, by decide +kernel, rfl, by decide +kernel, by decide +kernel⟩
abbrev s__law_eights_right : Stmt := top 51
theorem sc__law_eights_right : FnScope ["_law_many", "_law_row", "_law_calls"] ["_law_many"] (defScope s__law_eights_right) := ⟨rfl, rfl, rfl, by decide +kernel, rfl, by decide +kernel, by decide +kernel⟩
abbrev s__law_right : Stmt := top 52
theorem sc__law_right : FnScope ["_law_pot_here", "_law_odd", "_law_short", "_law_places", "_law_many", "_law_calls"] ["_law_pot_here"] (defScope s__law_right) := ⟨rfl, rfl, rfl, by decide +kernel, rfl, by decide +kernel, by decide +kernel⟩
abbrev s_law : Stmt := top 53
theorem sc_law : FnScope ["_law_script"] ["_law_script"] (defScope s_law) := ⟨rfl, rfl, rfl, by decide +kernel, rfl, by decide +kernel, by decide +kernel⟩
abbrev s_InvalidNumbers__init : Stmt := defIn (top 3) 0
theorem sc_InvalidNumbers__init : FnScope ["self", "value"] ["self", "value"] (defScope s_InvalidNumbers__init) := ⟨rfl, rfl, rfl, by decide +kernel, rfl, by decide +kernel, by decide +kernel⟩
abbrev s_InvalidPlaces__init : Stmt := defIn (top 4) 0
theorem sc_InvalidPlaces__init : FnScope ["self", "value"] ["self", "value"] (defScope s_InvalidPlaces__init) := ⟨rfl, rfl, rfl, by decide +kernel, rfl, by decide +kernel, by decide +kernel⟩
def d_is_integer : He.DefD := ⟨("is_integer", none), "is_integer", "is_integer", defArgs s_is_integer, defBody s_is_integer, defScope s_is_integer, [], []⟩
def d_is_list : He.DefD := ⟨("is_list", none), "is_list", "is_list", defArgs s_is_list, defBody s_is_list, defScope s_is_list, [], []⟩
def d_want_even_places : He.DefD := ⟨("want_even_places", none), "want_even_places", "want_even_places", defArgs s_want_even_places, defBody s_want_even_places, defScope s_want_even_places, [], []⟩
def d_want_eights : He.DefD := ⟨("want_eights", none), "want_eights", "want_eights", defArgs s_want_eights, defBody s_want_eights, defScope s_want_eights, [], []⟩
def d_are_integers : He.DefD := ⟨("are_integers", none), "are_integers", "are_integers", defArgs s_are_integers, defBody s_are_integers, defScope s_are_integers, [], []⟩
def d_want_row_numbers : He.DefD := ⟨("want_row_numbers", none), "want_row_numbers", "want_row_numbers", defArgs s_want_row_numbers, defBody s_want_row_numbers, defScope s_want_row_numbers, [], []⟩
def d_want_sum_numbers : He.DefD := ⟨("want_sum_numbers", none), "want_sum_numbers", "want_sum_numbers", defArgs s_want_sum_numbers, defBody s_want_sum_numbers, defScope s_want_sum_numbers, [], []⟩
def d_product_of : He.DefD := ⟨("product_of", none), "product_of", "product_of", defArgs s_product_of, defBody s_product_of, defScope s_product_of, [], []⟩
def d_power_of : He.DefD := ⟨("power_of", none), "power_of", "power_of", defArgs s_power_of, defBody s_power_of, defScope s_power_of, [], []⟩
def d_products_by : He.DefD := ⟨("products_by", none), "products_by", "products_by", defArgs s_products_by, defBody s_products_by, defScope s_products_by, [], []⟩
def d_added : He.DefD := ⟨("added", none), "added", "added", defArgs s_added, defBody s_added, defScope s_added, [], []⟩
def d_solved : He.DefD := ⟨("solved", none), "solved", "solved", defArgs s_solved, defBody s_solved, defScope s_solved, [], []⟩
def d_sums : He.DefD := ⟨("sums", none), "sums", "sums", defArgs s_sums, defBody s_sums, defScope s_sums, [], []⟩
def d_row_of : He.DefD := ⟨("row_of", none), "row_of", "row_of", defArgs s_row_of, defBody s_row_of, defScope s_row_of, [], []⟩
def d_fours_sums : He.DefD := ⟨("fours_sums", none), "fours_sums", "fours_sums", defArgs s_fours_sums, defBody s_fours_sums, defScope s_fours_sums, [], []⟩
def d_fours_row_of : He.DefD := ⟨("fours_row_of", none), "fours_row_of", "fours_row_of", defArgs s_fours_row_of, defBody s_fours_row_of, defScope s_fours_row_of, [], []⟩
def d_twos : He.DefD := ⟨("twos", none), "twos", "twos", defArgs s_twos, defBody s_twos, defScope s_twos, [], []⟩
def d_shadow_by : He.DefD := ⟨("shadow_by", none), "shadow_by", "shadow_by", defArgs s_shadow_by, defBody s_shadow_by, defScope s_shadow_by, [], []⟩
def d_shadow_of : He.DefD := ⟨("shadow_of", none), "shadow_of", "shadow_of", defArgs s_shadow_of, defBody s_shadow_of, defScope s_shadow_of, [], []⟩
def d_limit : He.DefD := ⟨("limit", none), "limit", "limit", defArgs s_limit, defBody s_limit, defScope s_limit, [], []⟩
def d_fours_limit : He.DefD := ⟨("fours_limit", none), "fours_limit", "fours_limit", defArgs s_fours_limit, defBody s_fours_limit, defScope s_fours_limit, [], []⟩
def d_greatest_by : He.DefD := ⟨("greatest_by", none), "greatest_by", "greatest_by", defArgs s_greatest_by, defBody s_greatest_by, defScope s_greatest_by, [], []⟩
def d_greatest : He.DefD := ⟨("greatest", none), "greatest", "greatest", defArgs s_greatest, defBody s_greatest, defScope s_greatest, [], []⟩
def d_fours_greatest : He.DefD := ⟨("fours_greatest", none), "fours_greatest", "fours_greatest", defArgs s_fours_greatest, defBody s_fours_greatest, defScope s_fours_greatest, [], []⟩
def d_can_be : He.DefD := ⟨("can_be", none), "can_be", "can_be", defArgs s_can_be, defBody s_can_be, defScope s_can_be, [], []⟩
def d__law_pot : He.DefD := ⟨("_law_pot", none), "_law_pot", "_law_pot", defArgs s__law_pot, defBody s__law_pot, defScope s__law_pot, [], []⟩
def d__law_draw : He.DefD := ⟨("_law_draw", none), "_law_draw", "_law_draw", defArgs s__law_draw, defBody s__law_draw, defScope s__law_draw, [], []⟩
def d__law_heard : He.DefD := ⟨("_law_heard", none), "_law_heard", "_law_heard", defArgs s__law_heard, defBody s__law_heard, defScope s__law_heard, [], []⟩
def d__law_are : He.DefD := ⟨("_law_are", none), "_law_are", "_law_are", defArgs s__law_are, defBody s__law_are, defScope s__law_are, [], []⟩
def d__law_places_right : He.DefD := ⟨("_law_places_right", none), "_law_places_right", "_law_places_right", defArgs s__law_places_right, defBody s__law_places_right, defScope s__law_places_right, [], []⟩
def d__law_lists_right : He.DefD := ⟨("_law_lists_right", none), "_law_lists_right", "_law_lists_right", defArgs s__law_lists_right, defBody s__law_lists_right, defScope s__law_lists_right, [], []⟩
def d__law_numbers_right : He.DefD := ⟨("_law_numbers_right", none), "_law_numbers_right", "_law_numbers_right", defArgs s__law_numbers_right, defBody s__law_numbers_right, defScope s__law_numbers_right, [], []⟩
def d__law_eights_right : He.DefD := ⟨("_law_eights_right", none), "_law_eights_right", "_law_eights_right", defArgs s__law_eights_right, defBody s__law_eights_right, defScope s__law_eights_right, [], []⟩
def d__law_right : He.DefD := ⟨("_law_right", none), "_law_right", "_law_right", defArgs s__law_right, defBody s__law_right, defScope s__law_right, [], []⟩
def d_law : He.DefD := ⟨("law", none), "law", "law", defArgs s_law, defBody s_law, defScope s_law, [], []⟩
def d_InvalidNumbers__init : He.DefD := ⟨("InvalidNumbers", some "__init__"), "__init__", "InvalidNumbers.__init__", defArgs s_InvalidNumbers__init, defBody s_InvalidNumbers__init, defScope s_InvalidNumbers__init, [], []⟩
def d_InvalidPlaces__init : He.DefD := ⟨("InvalidPlaces", some "__init__"), "__init__", "InvalidPlaces.__init__", defArgs s_InvalidPlaces__init, defBody s_InvalidPlaces__init, defScope s_InvalidPlaces__init, [], []⟩
def fa : List He.Fa := [.glo "is_integer", .glo "is_list", .glo "want_even_places", .glo "want_eights", .glo "are_integers", .glo "want_row_numbers", .glo "want_sum_numbers", .glo "product_of", .glo "power_of", .glo "products_by", .glo "added", .glo "solved", .glo "sums", .glo "row_of", .glo "fours_sums", .glo "fours_row_of", .glo "twos", .glo "shadow_by", .glo "shadow_of", .glo "limit", .glo "fours_limit", .glo "greatest_by", .glo "greatest", .glo "fours_greatest", .glo "can_be", .glo "_law_pot", .glo "_law_draw", .glo "_law_heard", .glo "_law_are", .glo "_law_places_right", .glo "_law_lists_right", .glo "_law_numbers_right", .glo "_law_eights_right", .glo "_law_right", .glo "law", .glo "WordError", .glo "InvalidPlaces", .glo "InvalidNumbers", .glo "StateError", .glo "NotEights", .free "isinstance", .free "int", .free "bool", .free "list", .free "tuple", .int "MOST_PLACES" 24, .int "EIGHT" 8, .free "all", .free "len", .free "enumerate", .free "range", .free "zip", .glo "FIRST", .glo "SECOND", .glo "FOURS_FIRST", .glo "FOURS_SECOND", .int "THREES" 24, .free "max", .int "STEP" 6, .glo "SQUARE", .free "any", .free "min", .free "sum", .free "abs", .free "divmod", .free "repr"]
def fn : List He.DefD := [d_is_integer, d_is_list, d_want_even_places, d_want_eights, d_are_integers, d_want_row_numbers, d_want_sum_numbers, d_product_of, d_power_of, d_products_by, d_added, d_solved, d_sums, d_row_of, d_fours_sums, d_fours_row_of, d_twos, d_shadow_by, d_shadow_of, d_limit, d_fours_limit, d_greatest_by, d_greatest, d_fours_greatest, d_can_be, d__law_pot, d__law_draw, d__law_heard, d__law_are, d__law_places_right, d__law_lists_right, d__law_numbers_right, d__law_eights_right, d__law_right, d_law, d_InvalidNumbers__init, d_InvalidPlaces__init]
def pr : List PrpD := []
def ex (K : PySem.W.Frag) : Bool := He.tupB K "FIRST" ([1, 0, 1].map He.Dv.int) && He.tupB K "SECOND" ([0, 0, 1, 0, -2, 0, 1, 0, 0].map He.Dv.int) && He.tupB K "FOURS_FIRST" ([1, 0, 0, 0, 14, 0, 0, 0, 1].map He.Dv.int) && He.tupB K "FOURS_SECOND" ([0, 0, 0, 0, 1, 0, 0, 0, -4, 0, 0, 0, 6, 0, 0, 0, -4, 0, 0, 0, 1, 0, 0, 0, 0].map He.Dv.int) && He.tupB K "SQUARE" ([1, 0, 0, 0, -2, 0, 0, 0, 1].map He.Dv.int) && z1B K "InvalidPlaces" "value"  && ex0B K "NotEights" "RuntimeError" && z1B K "InvalidNumbers" "value"  && xfcB K "InvalidPlaces" && nofB K "InvalidPlaces" "value" && kitB K "InvalidPlaces" "WordError" && xfcB K "InvalidNumbers" && nofB K "InvalidNumbers" "value" && kitB K "InvalidNumbers" "WordError" && kitB K "NotEights" "StateError" && exmAllB K ["InvalidPlaces", "InvalidNumbers", "NotEights"] && true
theorem ex_FIRST {K : PySem.W.Frag} (cx : ex K = true) : He.tupB K "FIRST" ([1, 0, 1].map He.Dv.int) = true := by
  unfold ex at cx
  simp only [Bool.and_eq_true, and_true] at cx
  exact cx.1.1.1.1.1.1.1.1.1.1.1.1.1.1.1
theorem ex_SECOND {K : PySem.W.Frag} (cx : ex K = true) : He.tupB K "SECOND" ([0, 0, 1, 0, -2, 0, 1, 0, 0].map He.Dv.int) = true := by
  unfold ex at cx
  simp only [Bool.and_eq_true, and_true] at cx
  exact cx.1.1.1.1.1.1.1.1.1.1.1.1.1.1.2
theorem ex_FOURS_FIRST {K : PySem.W.Frag} (cx : ex K = true) : He.tupB K "FOURS_FIRST" ([1, 0, 0, 0, 14, 0, 0, 0, 1].map He.Dv.int) = true := by
  unfold ex at cx
  simp only [Bool.and_eq_true, and_true] at cx
  exact cx.1.1.1.1.1.1.1.1.1.1.1.1.1.2
theorem ex_FOURS_SECOND {K : PySem.W.Frag} (cx : ex K = true) : He.tupB K "FOURS_SECOND" ([0, 0, 0, 0, 1, 0, 0, 0, -4, 0, 0, 0, 6, 0, 0, 0, -4, 0, 0, 0, 1, 0, 0, 0, 0].map He.Dv.int) = true := by
  unfold ex at cx
  simp only [Bool.and_eq_true, and_true] at cx
  exact cx.1.1.1.1.1.1.1.1.1.1.1.1.2
theorem ex_SQUARE {K : PySem.W.Frag} (cx : ex K = true) : He.tupB K "SQUARE" ([1, 0, 0, 0, -2, 0, 0, 0, 1].map He.Dv.int) = true := by
  unfold ex at cx
  simp only [Bool.and_eq_true, and_true] at cx
  exact cx.1.1.1.1.1.1.1.1.1.1.1.2
theorem ex_Z_InvalidPlaces {K : PySem.W.Frag} (cx : ex K = true) : z1B K "InvalidPlaces" "value"  = true := by
  unfold ex at cx
  simp only [Bool.and_eq_true, and_true] at cx
  exact cx.1.1.1.1.1.1.1.1.1.1.2
theorem ex_T0_NotEights {K : PySem.W.Frag} (cx : ex K = true) : ex0B K "NotEights" "RuntimeError" = true := by
  unfold ex at cx
  simp only [Bool.and_eq_true, and_true] at cx
  exact cx.1.1.1.1.1.1.1.1.1.2
theorem ex_Z_InvalidNumbers {K : PySem.W.Frag} (cx : ex K = true) : z1B K "InvalidNumbers" "value"  = true := by
  unfold ex at cx
  simp only [Bool.and_eq_true, and_true] at cx
  exact cx.1.1.1.1.1.1.1.1.2
theorem ex_XF_InvalidPlaces {K : PySem.W.Frag} (cx : ex K = true) : xfcB K "InvalidPlaces" = true := by
  unfold ex at cx
  simp only [Bool.and_eq_true, and_true] at cx
  exact cx.1.1.1.1.1.1.1.2
theorem ex_NF_InvalidPlaces__value {K : PySem.W.Frag} (cx : ex K = true) : nofB K "InvalidPlaces" "value" = true := by
  unfold ex at cx
  simp only [Bool.and_eq_true, and_true] at cx
  exact cx.1.1.1.1.1.1.2
theorem ex_KS_InvalidPlaces__WordError {K : PySem.W.Frag} (cx : ex K = true) : kitB K "InvalidPlaces" "WordError" = true := by
  unfold ex at cx
  simp only [Bool.and_eq_true, and_true] at cx
  exact cx.1.1.1.1.1.2
theorem ex_XF_InvalidNumbers {K : PySem.W.Frag} (cx : ex K = true) : xfcB K "InvalidNumbers" = true := by
  unfold ex at cx
  simp only [Bool.and_eq_true, and_true] at cx
  exact cx.1.1.1.1.2
theorem ex_NF_InvalidNumbers__value {K : PySem.W.Frag} (cx : ex K = true) : nofB K "InvalidNumbers" "value" = true := by
  unfold ex at cx
  simp only [Bool.and_eq_true, and_true] at cx
  exact cx.1.1.1.2
theorem ex_KS_InvalidNumbers__WordError {K : PySem.W.Frag} (cx : ex K = true) : kitB K "InvalidNumbers" "WordError" = true := by
  unfold ex at cx
  simp only [Bool.and_eq_true, and_true] at cx
  exact cx.1.1.2
theorem ex_KS_NotEights__StateError {K : PySem.W.Frag} (cx : ex K = true) : kitB K "NotEights" "StateError" = true := by
  unfold ex at cx
  simp only [Bool.and_eq_true, and_true] at cx
  exact cx.1.2
theorem ex_XM {K : PySem.W.Frag} (cx : ex K = true) : exmAllB K ["InvalidPlaces", "InvalidNumbers", "NotEights"] = true := by
  unfold ex at cx
  simp only [Bool.and_eq_true, and_true] at cx
  exact cx.2
abbrev R : PySem.W.OpenRow := PySem.W.OpenLaw.row PySem.Challenge.rw_owncontraries_k60_sums_refused
def xs : List PySem.Str := ["_law_places_right", "_law_lists_right", "_law_numbers_right", "_law_eights_right", "_law_right"]
def nm (y : PySem.Str) : PySem.Str := (y ++ ".<locals>.") ++ "<lambda>"
abbrev clT (K : PySem.W.Frag) : Cl := ⟨He.ga K, xs.map fun y => (tabA K y, nm y)⟩
abbrev hk : PySem.W.Hook := hookT 5 fa fn pr ex xs
def ob (s : PySem.W.SharedT) : AlT := obsT 5 fa fn pr ex xs (HandSHeadRun.getT s)
theorem ob_eq (s : PySem.W.SharedT) : ob s = hk.obs s.abs := obsT_eq (HandSHeadRun.getT_eq s)
def loose0 : List PySem.Str := ["WordError", "StateError", "InvalidNumbers", "InvalidPlaces", "NotEights", "is_integer", "is_list", "MOST_PLACES", "EIGHT", "THREES", "FIRST", "SECOND"]
def loose1 : List PySem.Str := ["FOURS_FIRST", "FOURS_SECOND", "want_even_places", "want_eights", "are_integers", "want_row_numbers", "want_sum_numbers", "product_of", "power_of", "products_by", "added", "solved"]
def loose2 : List PySem.Str := ["sums", "row_of", "fours_sums", "fours_row_of", "SQUARE", "STEP", "twos", "shadow_by", "shadow_of", "limit", "fours_limit", "greatest_by"]
def loose3 : List PySem.Str := ["greatest", "fours_greatest", "can_be", "_law_pot", "_law_draw", "_law_heard", "_law_are", "_law_places_right", "_law_lists_right", "_law_numbers_right", "_law_eights_right", "_law_right"]
def loose : List PySem.Str := loose0 ++ loose1 ++ loose2 ++ loose3
theorem run (w : World) : HandSHeadRun.RunEq R (PySem.W.view R.prog [53]) hk ob 20000 loose w := by
  intro os
  kernel_rfl
section
variable {P : Program} {w : World} {K : PySem.W.Frag} {cl : Cl} {mg : Str → Option Value} {base : Heap}
def t_is_integer (K : PySem.W.Frag) (cl : Cl) : TS := (tRet (tAndV (tCB (rIsi K) (tCons (tVar 0) (tCons (tC (.ty "int")) tNil))) (tNotV (tCB (rIsi K) (tCons (tVar 0) (tCons (tC (.ty "bool")) tNil))))))
theorem g_is_integer {f : Addr} {fd : FuncData} {y : Str} (F : FunD K y y (defArgs s_is_integer) (defBody s_is_integer) (defScope s_is_integer) [] [] f fd) (fr_isinstance : mg "isinstance" = none) (fr_int : mg "int" = none) (fr_bool : mg "bool" = none) : FnG P w K mg base CX0 1 f fd ["value"] (SpD K cl Option false 1 P_basics_is_integer) := by
  refine fng_def (m := Option) (κ := false) (st := s_is_integer) (ps := ["value"]) (N := ["value"]) (O := []) (O' := []) (t := t_is_integer K cl) (fs := f_P_basics_is_integer) F sc_is_integer (fun cdv B out z H E hg hr => ?_) (fun pot => ?_)
  · have nd := sc_is_integer.nd
    have hg0 : (B.deeper (envOfC y (defScope s_is_integer) z.heap.objs.size f cdv)).guards = some [] := hg
    have hu64 := hr.units
    exact (pss_one (ps_ret (pe_and (pe_callB call_isi rfl fr_isinstance (by decide +kernel) (pa_cons (pv 0) (pa_cons (pe_bltn rfl fr_int (by decide +kernel) rfl) pa_nil))) (pe_one (pe_not (pe_callB call_isi rfl fr_isinstance (by decide +kernel) (pa_cons (pv 0) (pa_cons (pe_bltn rfl fr_bool (by decide +kernel) rfl) pa_nil))))))))
  · exact (ss_ret (sim_andV (sim_isi "int" (sim_up (sim_var 0))) (sim_notV (sim_isi "bool" (sim_up (sim_var 0))))))
theorem fun_is_integer {x y : Str} (D : DefAt K mg x y s_is_integer) (fr_isinstance : mg "isinstance" = none) (fr_int : mg "int" = none) (fr_bool : mg "bool" = none) : Fun P w K mg base 1 x s_is_integer ["value"] (SpD K cl Option false 1 P_basics_is_integer) := let ⟨f, fd, F, hm⟩ := D; ⟨y, f, fd, F, g_is_integer F fr_isinstance fr_int fr_bool, hm⟩
def t_is_list (K : PySem.W.Frag) (cl : Cl) : TS := (tRet (tCB (rIsiT K) (tCons (tVar 0) (tCons (tTup (tCons (tC (.ty "list")) (tCons (tC (.ty "tuple")) tNil))) tNil))))
theorem g_is_list {f : Addr} {fd : FuncData} {y : Str} (F : FunD K y y (defArgs s_is_list) (defBody s_is_list) (defScope s_is_list) [] [] f fd) (fr_isinstance : mg "isinstance" = none) (fr_list : mg "list" = none) (fr_tuple : mg "tuple" = none) : FnG P w K mg base CX0 1 f fd ["value"] (SpD K cl Option false 1 P_basics_is_list) := by
  refine fng_def (m := Option) (κ := false) (st := s_is_list) (ps := ["value"]) (N := ["value"]) (O := []) (O' := []) (t := t_is_list K cl) (fs := f_P_basics_is_list) F sc_is_list (fun cdv B out z H E hg hr => ?_) (fun pot => ?_)
  · have nd := sc_is_list.nd
    have hg0 : (B.deeper (envOfC y (defScope s_is_list) z.heap.objs.size f cdv)).guards = some [] := hg
    have hu64 := hr.units
    exact (pss_one (ps_ret (pe_callB call_isiT rfl fr_isinstance (by decide +kernel) (pa_cons (pv 0) (pa_cons (pe_tup (pa_cons (pe_bltn rfl fr_list (by decide +kernel) rfl) (pa_cons (pe_bltn rfl fr_tuple (by decide +kernel) rfl) pa_nil))) pa_nil)))))
  · exact (ss_ret (sim_isi2 "list" "tuple" (sim_up (sim_var 0))))
theorem fun_is_list {x y : Str} (D : DefAt K mg x y s_is_list) (fr_isinstance : mg "isinstance" = none) (fr_list : mg "list" = none) (fr_tuple : mg "tuple" = none) : Fun P w K mg base 1 x s_is_list ["value"] (SpD K cl Option false 1 P_basics_is_list) := let ⟨f, fd, F, hm⟩ := D; ⟨y, f, fd, F, g_is_list F fr_isinstance fr_list fr_tuple, hm⟩
def t_want_even_places (K : PySem.W.Frag) (cl : Cl) : TS := (tIfS (tOr (tNot (tB (tGo (SpD K cl Option false 1 P_basics_is_integer) (tCons (tVar 0) tNil)))) (tOr (tNot (tTest (tChain (rLeI) (rLeI) (tC (.int 2)) (tVar 0) (tC (.int 24))))) (tTest (tOp (rNeU K) (tOp (rMulU) (tOp (rDivI) (tVar 0) (tC (.int 2))) (tC (.int 2))) (tVar 0))))) tNever tNext)
theorem g_want_even_places {f : Addr} {fd : FuncData} {y : Str} (F : FunD K y y (defArgs s_want_even_places) (defBody s_want_even_places) (defScope s_want_even_places) [] [] f fd) (F_is_integer : Fun P w K mg base 1 "is_integer" s_is_integer ["value"] (SpD K cl Option false 1 P_basics_is_integer)) (gc_MOST_PLACES : ∃ t, mg "MOST_PLACES" = some (.int 24 t)) : FnG P w K mg base CX0 3 f fd ["value"] (SpD K cl Option false 1 P_sums_want_even_places) := by
  refine fng_def (m := Option) (κ := false) (st := s_want_even_places) (ps := ["value"]) (N := ["value"]) (O := []) (O' := []) (t := t_want_even_places K cl) (fs := f_P_sums_want_even_places) F sc_want_even_places (fun cdv B out z H E hg hr => ?_) (fun pot => ?_)
  · have nd := sc_want_even_places.nd
    have hg0 : (B.deeper (envOfC y (defScope s_want_even_places) z.heap.objs.size f cdv)).guards = some [] := hg
    have hu64 := hr.units
    exact (pss_one (ps_if (PW.pt (pw_or (pt_not (pt_val (pe_go F_is_integer (hr.mono (by decide)) hg0 rfl (pa_cons (pv 0) pa_nil) (fun _ _ _ _ _ _ _ us hl => match us, hl with | [_], _ => rfl)))) (pw_or (pt_not (pt_chain op_le op_le pe_int (pv 0) (pe_gc rfl (gc_of gc_MOST_PLACES)))) (pw_or1 (pt_cmpR (op_neU hu64) (pe_op op_mulU (pe_op op_fdivW (pv 0) pe_int) pe_int) (pv 0) (nomark _)))))) (pss_one ps_never) pss_nil))
  · exact (ss_if (tst_or (tst_not (tst_B (sim_go (an_cons (sim_var 0) an_nil)))) (tst_or (tst_not (tst_test (sim_chain os_le os_le (sim_int 2) (sim_var 0) (sim_int 24)))) (tst_test (sim_op os_ne (sim_op os_mul (sim_op os_div (sim_var 0) (sim_int 2)) (sim_int 2)) (sim_var 0))))) ss_never ss_next)
theorem fun_want_even_places {x y : Str} (D : DefAt K mg x y s_want_even_places) (F_is_integer : Fun P w K mg base 1 "is_integer" s_is_integer ["value"] (SpD K cl Option false 1 P_basics_is_integer)) (gc_MOST_PLACES : ∃ t, mg "MOST_PLACES" = some (.int 24 t)) : Fun P w K mg base 3 x s_want_even_places ["value"] (SpD K cl Option false 1 P_sums_want_even_places) := let ⟨f, fd, F, hm⟩ := D; ⟨y, f, fd, F, g_want_even_places F F_is_integer gc_MOST_PLACES, hm⟩
def tx_want_even_places (K : PySem.W.Frag) (cl : Cl) : WX → TS := fun W => (tIfS (tOr (tNot (tB (tGo (SpD K cl Option false 1 P_basics_is_integer) (tCons (tVar 0) tNil)))) (tOr (tNot (tTest (tChain (rLeI) (rLeI) (tC (.int 2)) (tVar 0) (tC (.int 24))))) (tTest (tOp (rNeU K) (tOp (rMulU) (tOp (rDivI) (tVar 0) (tC (.int 2))) (tC (.int 2))) (tVar 0))))) (tRaise1 K (cl "InvalidPlaces") "value" (tVar 0) W) tNext)
theorem gx_want_even_places {f : Addr} {fd : FuncData} {y : Str} (F : FunD K y y (defArgs s_want_even_places) (defBody s_want_even_places) (defScope s_want_even_places) [] [] f fd) (F_is_integer : Fun P w K mg base 1 "is_integer" s_is_integer ["value"] (SpD K cl Option false 1 P_basics_is_integer)) (gc_MOST_PLACES : ∃ t, mg "MOST_PLACES" = some (.int 24 t)) (Z_InvalidPlaces : Ex1 P w K mg base 1 "InvalidPlaces" "value" (cl "InvalidPlaces")) : FnG P w K mg base (L2.CX P w) 3 f fd ["value"] (SpX K cl 1 X_sums_want_even_places) := by
  refine fng_defX (st := s_want_even_places) (ps := ["value"]) (N := ["value"]) (O := []) (t := tx_want_even_places K cl) (fx := f_X_sums_want_even_places) F sc_want_even_places (fun cdv B out z H E hg hr => ?_) (fun pot => ?_)
  · have nd := sc_want_even_places.nd
    have hg0 : (B.deeper (envOfC y (defScope s_want_even_places) z.heap.objs.size f cdv)).guards = some [] := hg
    have hu64 := hr.units
    exact (pss_one (ps_if (PW.pt (pw_or (pt_not (pt_val (pe_go F_is_integer (hr.mono (by decide)) hg0 rfl (pa_cons (pv 0) pa_nil) (fun _ _ _ _ _ _ _ us hl => match us, hl with | [_], _ => rfl)))) (pw_or (pt_not (pt_chain op_le op_le pe_int (pv 0) (pe_gc rfl (gc_of gc_MOST_PLACES)))) (pw_or1 (pt_cmpR (op_neU hu64) (pe_op op_mulU (pe_op op_fdivW (pv 0) pe_int) pe_int) (pv 0) (nomark _)))))) (pss_one (ps_raise1 rfl Z_InvalidPlaces (hr.mono (by decide)) (takes_of rfl rfl rfl rfl) rfl (pv 0))) pss_nil))
  · exact (xs_if2 (fun W => (tst_or (tst_not (tst_B (sim_go (an_cons (sim_var 0) an_nil)))) (tst_or (tst_not (tst_test (sim_chain os_le os_le (sim_int 2) (sim_var 0) (sim_int 24)))) (tst_test (sim_op os_ne (sim_op os_mul (sim_op os_div (sim_var 0) (sim_int 2)) (sim_int 2)) (sim_var 0)))))) (xs_raise1 "InvalidPlaces" "value" Z_InvalidPlaces.T Z_InvalidPlaces.no (sim_var 0)) xs_no)
theorem fune_want_even_places {x y : Str} (D : DefAt K mg x y s_want_even_places) (F_is_integer : Fun P w K mg base 1 "is_integer" s_is_integer ["value"] (SpD K cl Option false 1 P_basics_is_integer)) (gc_MOST_PLACES : ∃ t, mg "MOST_PLACES" = some (.int 24 t)) (Z_InvalidPlaces : Ex1 P w K mg base 1 "InvalidPlaces" "value" (cl "InvalidPlaces")) : FunX P w K mg base 3 x s_want_even_places ["value"] (SpE K cl Option false 1 P_sums_want_even_places X_sums_want_even_places) := let ⟨f, fd, F, hm⟩ := D; funE F hm (g_want_even_places F F_is_integer gc_MOST_PLACES) (gx_want_even_places F F_is_integer gc_MOST_PLACES Z_InvalidPlaces)
def t_want_eights (K : PySem.W.Frag) (cl : Cl) : TS := (tIfS (tTest (tOp (rNeU K) (tOp (rMulU) (tOp (rDivI) (tVar 0) (tC (.int 8))) (tC (.int 8))) (tVar 0))) tNever tNext)
theorem g_want_eights {f : Addr} {fd : FuncData} {y : Str} (F : FunD K y y (defArgs s_want_eights) (defBody s_want_eights) (defScope s_want_eights) [] [] f fd) (gc_EIGHT : ∃ t, mg "EIGHT" = some (.int 8 t)) : FnG P w K mg base CX0 1 f fd ["places"] (SpD K cl Option false 1 P_sums_want_eights) := by
  refine fng_def (m := Option) (κ := false) (st := s_want_eights) (ps := ["places"]) (N := ["places"]) (O := []) (O' := []) (t := t_want_eights K cl) (fs := f_P_sums_want_eights) F sc_want_eights (fun cdv B out z H E hg hr => ?_) (fun pot => ?_)
  · have nd := sc_want_eights.nd
    have hg0 : (B.deeper (envOfC y (defScope s_want_eights) z.heap.objs.size f cdv)).guards = some [] := hg
    have hu64 := hr.units
    exact (pss_one (ps_if (pt_cmpR (op_neU hu64) (pe_op op_mulU (pe_op op_fdivW (pv 0) (pe_gc rfl (gc_of gc_EIGHT))) (pe_gc rfl (gc_of gc_EIGHT))) (pv 0) (nomark _)) (pss_one ps_never) pss_nil))
  · exact (ss_if (tst_test (sim_op os_ne (sim_op os_mul (sim_op os_div (sim_var 0) (sim_int 8)) (sim_int 8)) (sim_var 0))) ss_never ss_next)
theorem fun_want_eights {x y : Str} (D : DefAt K mg x y s_want_eights) (gc_EIGHT : ∃ t, mg "EIGHT" = some (.int 8 t)) : Fun P w K mg base 1 x s_want_eights ["places"] (SpD K cl Option false 1 P_sums_want_eights) := let ⟨f, fd, F, hm⟩ := D; ⟨y, f, fd, F, g_want_eights F gc_EIGHT, hm⟩
def tx_want_eights (K : PySem.W.Frag) (cl : Cl) : WX → TS := fun W => (tIfS (tTest (tOp (rNeU K) (tOp (rMulU) (tOp (rDivI) (tVar 0) (tC (.int 8))) (tC (.int 8))) (tVar 0))) (tRaise0 (cl "NotEights") W) tNext)
theorem gx_want_eights {f : Addr} {fd : FuncData} {y : Str} (F : FunD K y y (defArgs s_want_eights) (defBody s_want_eights) (defScope s_want_eights) [] [] f fd) (gc_EIGHT : ∃ t, mg "EIGHT" = some (.int 8 t)) (T0_NotEights : Ex0 K mg "NotEights" (cl "NotEights")) : FnG P w K mg base (L2.CX P w) 1 f fd ["places"] (SpX K cl 1 X_sums_want_eights) := by
  refine fng_defX (st := s_want_eights) (ps := ["places"]) (N := ["places"]) (O := []) (t := tx_want_eights K cl) (fx := f_X_sums_want_eights) F sc_want_eights (fun cdv B out z H E hg hr => ?_) (fun pot => ?_)
  · have nd := sc_want_eights.nd
    have hg0 : (B.deeper (envOfC y (defScope s_want_eights) z.heap.objs.size f cdv)).guards = some [] := hg
    have hu64 := hr.units
    exact (pss_one (ps_if (pt_cmpR (op_neU hu64) (pe_op op_mulU (pe_op op_fdivW (pv 0) (pe_gc rfl (gc_of gc_EIGHT))) (pe_gc rfl (gc_of gc_EIGHT))) (pv 0) (nomark _)) (pss_one (ps_raise0 rfl T0_NotEights (takes_of rfl rfl rfl rfl) rfl)) pss_nil))
  · exact (xs_if2 (fun W => (tst_test (sim_op os_ne (sim_op os_mul (sim_op os_div (sim_var 0) (sim_int 8)) (sim_int 8)) (sim_var 0)))) (xs_raise0 "NotEights") xs_no)
theorem fune_want_eights {x y : Str} (D : DefAt K mg x y s_want_eights) (gc_EIGHT : ∃ t, mg "EIGHT" = some (.int 8 t)) (T0_NotEights : Ex0 K mg "NotEights" (cl "NotEights")) : FunX P w K mg base 1 x s_want_eights ["places"] (SpE K cl Option false 1 P_sums_want_eights X_sums_want_eights) := let ⟨f, fd, F, hm⟩ := D; funE F hm (g_want_eights F gc_EIGHT) (gx_want_eights F gc_EIGHT T0_NotEights)
def t_are_integers (K : PySem.W.Frag) (cl : Cl) : TS := (tRet (tAndV (tGo (SpD K cl Option false 1 P_basics_is_list) (tCons (tVar 0) tNil)) (tCB (rAll K) (tCons (tLc (iSeq K (tVar 0)) (gName 1) tYes (tGo (SpD K cl Option false 1 P_basics_is_integer) (tCons (tVar 1) tNil)) [1]) tNil))))
theorem g_are_integers {f : Addr} {fd : FuncData} {y : Str} (F : FunD K y y (defArgs s_are_integers) (defBody s_are_integers) (defScope s_are_integers) [] [] f fd) (F_is_list : Fun P w K mg base 1 "is_list" s_is_list ["value"] (SpD K cl Option false 1 P_basics_is_list)) (fr_all : mg "all" = none) (F_is_integer : Fun P w K mg base 1 "is_integer" s_is_integer ["value"] (SpD K cl Option false 1 P_basics_is_integer)) : FnG P w K mg base CX0 2 f fd ["value"] (SpD K cl Option false 1 P_sums_are_integers) := by
  refine fng_def (m := Option) (κ := false) (st := s_are_integers) (ps := ["value"]) (N := ["value", "number"]) (O := []) (O' := []) (t := t_are_integers K cl) (fs := f_P_sums_are_integers) F sc_are_integers (fun cdv B out z H E hg hr => ?_) (fun pot => ?_)
  · have nd := sc_are_integers.nd
    have hg0 : (B.deeper (envOfC y (defScope s_are_integers) z.heap.objs.size f cdv)).guards = some [] := hg
    have hu64 := hr.units
    exact (pss_one (ps_ret (pe_and (pe_go F_is_list (hr.mono (by decide)) hg0 rfl (pa_cons (pv 0) pa_nil) (fun _ _ _ _ _ _ _ us hl => match us, hl with | [_], _ => rfl)) (pe_one (pe_callB (cr_all rfl) rfl fr_all (by decide +kernel) (pa_cons (pe_lc (own := [("number", 1)]) (g := (gName 1)) (tt := tYes) (te := (tGo (SpD K cl Option false 1 P_basics_is_integer) (tCons (tVar 1) tNil))) rfl nd (pi_seq (pv 0)) (blkOk_by (N := ["value", "number"]) (sc := defScope s_are_integers) (by decide +kernel)) (fun _ _ _ _ _ => (pg_name (i := 1) nd rfl (Or.inl rfl))) (fun _ _ _ _ _ => pts_nil) (fun _ _ _ _ _ => (pe_go F_is_integer (hr.mono (by decide)) hg0 rfl (pa_cons (pv 1) pa_nil) (fun _ _ _ _ _ _ _ us hl => match us, hl with | [_], _ => rfl)))) pa_nil))))))
  · exact (ss_ret (sim_andV (sim_go (an_cons (sim_var 0) an_nil)) (sim_cb cs_all (args_cons (sim_up (sim_new (simL_lc (vs := [1]) (si_seq (sim_var 0)) (tg_name 1) tst_yes (sim_go (an_cons (sim_var 1) an_nil))))) args_nil))))
theorem fun_are_integers {x y : Str} (D : DefAt K mg x y s_are_integers) (F_is_list : Fun P w K mg base 1 "is_list" s_is_list ["value"] (SpD K cl Option false 1 P_basics_is_list)) (fr_all : mg "all" = none) (F_is_integer : Fun P w K mg base 1 "is_integer" s_is_integer ["value"] (SpD K cl Option false 1 P_basics_is_integer)) : Fun P w K mg base 2 x s_are_integers ["value"] (SpD K cl Option false 1 P_sums_are_integers) := let ⟨f, fd, F, hm⟩ := D; ⟨y, f, fd, F, g_are_integers F F_is_list fr_all F_is_integer, hm⟩
def t_want_row_numbers (K : PySem.W.Frag) (cl : Cl) : TS := (tSeq (tIfS (tOr (tNot (tB (tGo (SpD K cl Option false 1 P_sums_are_integers) (tCons (tVar 0) tNil)))) (tOr (tNot (tTest (tChain (rLeI) (rLeI) (tC (.int 3)) (tCB (rLenU K) (tCons (tVar 0) tNil)) (tOp (rAddU K) (tC (.int 24)) (tC (.int 1)))))) (tTest (tOp (rEqU K) (tOp (rMulU) (tOp (rDivI) (tCB (rLenU K) (tCons (tVar 0) tNil)) (tC (.int 2))) (tC (.int 2))) (tCB (rLenU K) (tCons (tVar 0) tNil)))))) tNever tNext) (tRet (tOp (rSubI) (tCB (rLenU K) (tCons (tVar 0) tNil)) (tC (.int 1)))))
theorem g_want_row_numbers {f : Addr} {fd : FuncData} {y : Str} (F : FunD K y y (defArgs s_want_row_numbers) (defBody s_want_row_numbers) (defScope s_want_row_numbers) [] [] f fd) (F_are_integers : Fun P w K mg base 2 "are_integers" s_are_integers ["value"] (SpD K cl Option false 1 P_sums_are_integers)) (fr_len : mg "len" = none) (gc_MOST_PLACES : ∃ t, mg "MOST_PLACES" = some (.int 24 t)) : FnG P w K mg base CX0 3 f fd ["value"] (SpD K cl Option false 1 P_sums_want_row_numbers) := by
  refine fng_def (m := Option) (κ := false) (st := s_want_row_numbers) (ps := ["value"]) (N := ["value"]) (O := []) (O' := []) (t := t_want_row_numbers K cl) (fs := f_P_sums_want_row_numbers) F sc_want_row_numbers (fun cdv B out z H E hg hr => ?_) (fun pot => ?_)
  · have nd := sc_want_row_numbers.nd
    have hg0 : (B.deeper (envOfC y (defScope s_want_row_numbers) z.heap.objs.size f cdv)).guards = some [] := hg
    have hu64 := hr.units
    exact (pss_cons (ps_if (PW.pt (pw_or (pt_not (pt_val (pe_go F_are_integers (hr.mono (by decide)) hg0 rfl (pa_cons (pv 0) pa_nil) (fun _ _ _ _ _ _ _ us hl => match us, hl with | [_], _ => rfl)))) (pw_or (pt_not (pt_chain op_le op_le pe_int (pe_callB call_lenU rfl fr_len (by decide +kernel) (pa_cons (pv 0) pa_nil)) (pe_op op_addU (pe_gc rfl (gc_of gc_MOST_PLACES)) pe_int))) (pw_or1 (pt_cmpR (op_eqU hu64) (pe_op op_mulU (pe_op op_fdivW (pe_callB call_lenU rfl fr_len (by decide +kernel) (pa_cons (pv 0) pa_nil)) pe_int) pe_int) (pe_callB call_lenU rfl fr_len (by decide +kernel) (pa_cons (pv 0) pa_nil)) (nomark _)))))) (pss_one ps_never) pss_nil) (pss_one (ps_ret (pe_op op_sub (pe_callB call_lenU rfl fr_len (by decide +kernel) (pa_cons (pv 0) pa_nil)) pe_int))))
  · exact (ss_seq (ss_if (tst_or (tst_not (tst_B (sim_go (an_cons (sim_var 0) an_nil)))) (tst_or (tst_not (tst_test (sim_chain os_le os_le (sim_int 3) (sim_cb cs_len (args_cons (sim_up (sim_var 0)) args_nil)) (sim_op os_add (sim_int 24) (sim_int 1))))) (tst_test (sim_op os_eq (sim_op os_mul (sim_op os_div (sim_cb cs_len (args_cons (sim_up (sim_var 0)) args_nil)) (sim_int 2)) (sim_int 2)) (sim_cb cs_len (args_cons (sim_up (sim_var 0)) args_nil)))))) ss_never ss_next)
  (ss_ret (sim_op os_sub (sim_cb cs_len (args_cons (sim_up (sim_var 0)) args_nil)) (sim_int 1))))
theorem fun_want_row_numbers {x y : Str} (D : DefAt K mg x y s_want_row_numbers) (F_are_integers : Fun P w K mg base 2 "are_integers" s_are_integers ["value"] (SpD K cl Option false 1 P_sums_are_integers)) (fr_len : mg "len" = none) (gc_MOST_PLACES : ∃ t, mg "MOST_PLACES" = some (.int 24 t)) : Fun P w K mg base 3 x s_want_row_numbers ["value"] (SpD K cl Option false 1 P_sums_want_row_numbers) := let ⟨f, fd, F, hm⟩ := D; ⟨y, f, fd, F, g_want_row_numbers F F_are_integers fr_len gc_MOST_PLACES, hm⟩
def tx_want_row_numbers (K : PySem.W.Frag) (cl : Cl) : WX → TS := fun W => (tSeq (tIfS (tOr (tNot (tB (tGo (SpD K cl Option false 1 P_sums_are_integers) (tCons (tVar 0) tNil)))) (tOr (tNot (tTest (tChain (rLeI) (rLeI) (tC (.int 3)) (tCB (rLenU K) (tCons (tVar 0) tNil)) (tOp (rAddU K) (tC (.int 24)) (tC (.int 1)))))) (tTest (tOp (rEqU K) (tOp (rMulU) (tOp (rDivI) (tCB (rLenU K) (tCons (tVar 0) tNil)) (tC (.int 2))) (tC (.int 2))) (tCB (rLenU K) (tCons (tVar 0) tNil)))))) (tRaise1 K (cl "InvalidNumbers") "value" (tVar 0) W) tNext) (tRet (tOp (rSubI) (tCB (rLenU K) (tCons (tVar 0) tNil)) (tC (.int 1)))))
theorem gx_want_row_numbers {f : Addr} {fd : FuncData} {y : Str} (F : FunD K y y (defArgs s_want_row_numbers) (defBody s_want_row_numbers) (defScope s_want_row_numbers) [] [] f fd) (F_are_integers : Fun P w K mg base 2 "are_integers" s_are_integers ["value"] (SpD K cl Option false 1 P_sums_are_integers)) (fr_len : mg "len" = none) (gc_MOST_PLACES : ∃ t, mg "MOST_PLACES" = some (.int 24 t)) (Z_InvalidNumbers : Ex1 P w K mg base 1 "InvalidNumbers" "value" (cl "InvalidNumbers")) : FnG P w K mg base (L2.CX P w) 3 f fd ["value"] (SpX K cl 1 X_sums_want_row_numbers) := by
  refine fng_defX (st := s_want_row_numbers) (ps := ["value"]) (N := ["value"]) (O := []) (t := tx_want_row_numbers K cl) (fx := f_X_sums_want_row_numbers) F sc_want_row_numbers (fun cdv B out z H E hg hr => ?_) (fun pot => ?_)
  · have nd := sc_want_row_numbers.nd
    have hg0 : (B.deeper (envOfC y (defScope s_want_row_numbers) z.heap.objs.size f cdv)).guards = some [] := hg
    have hu64 := hr.units
    exact (pss_cons (ps_if (PW.pt (pw_or (pt_not (pt_val (pe_go F_are_integers (hr.mono (by decide)) hg0 rfl (pa_cons (pv 0) pa_nil) (fun _ _ _ _ _ _ _ us hl => match us, hl with | [_], _ => rfl)))) (pw_or (pt_not (pt_chain op_le op_le pe_int (pe_callB call_lenU rfl fr_len (by decide +kernel) (pa_cons (pv 0) pa_nil)) (pe_op op_addU (pe_gc rfl (gc_of gc_MOST_PLACES)) pe_int))) (pw_or1 (pt_cmpR (op_eqU hu64) (pe_op op_mulU (pe_op op_fdivW (pe_callB call_lenU rfl fr_len (by decide +kernel) (pa_cons (pv 0) pa_nil)) pe_int) pe_int) (pe_callB call_lenU rfl fr_len (by decide +kernel) (pa_cons (pv 0) pa_nil)) (nomark _)))))) (pss_one (ps_raise1 rfl Z_InvalidNumbers (hr.mono (by decide)) (takes_of rfl rfl rfl rfl) rfl (pv 0))) pss_nil) (pss_one (ps_ret (pe_op op_sub (pe_callB call_lenU rfl fr_len (by decide +kernel) (pa_cons (pv 0) pa_nil)) pe_int))))
  · exact (xs_fst (t2 := fun W => (tRet (tOp (rSubI) (tCB (rLenU K) (tCons (tVar 0) tNil)) (tC (.int 1))))) (xs_if2 (fun W => (tst_or (tst_not (tst_B (sim_go (an_cons (sim_var 0) an_nil)))) (tst_or (tst_not (tst_test (sim_chain os_le os_le (sim_int 3) (sim_cb cs_len (args_cons (sim_up (sim_var 0)) args_nil)) (sim_op os_add (sim_int 24) (sim_int 1))))) (tst_test (sim_op os_eq (sim_op os_mul (sim_op os_div (sim_cb cs_len (args_cons (sim_up (sim_var 0)) args_nil)) (sim_int 2)) (sim_int 2)) (sim_cb cs_len (args_cons (sim_up (sim_var 0)) args_nil))))))) (xs_raise1 "InvalidNumbers" "value" Z_InvalidNumbers.T Z_InvalidNumbers.no (sim_var 0)) xs_no))
theorem fune_want_row_numbers {x y : Str} (D : DefAt K mg x y s_want_row_numbers) (F_are_integers : Fun P w K mg base 2 "are_integers" s_are_integers ["value"] (SpD K cl Option false 1 P_sums_are_integers)) (fr_len : mg "len" = none) (gc_MOST_PLACES : ∃ t, mg "MOST_PLACES" = some (.int 24 t)) (Z_InvalidNumbers : Ex1 P w K mg base 1 "InvalidNumbers" "value" (cl "InvalidNumbers")) : FunX P w K mg base 3 x s_want_row_numbers ["value"] (SpE K cl Option false 1 P_sums_want_row_numbers X_sums_want_row_numbers) := let ⟨f, fd, F, hm⟩ := D; funE F hm (g_want_row_numbers F F_are_integers fr_len gc_MOST_PLACES) (gx_want_row_numbers F F_are_integers fr_len gc_MOST_PLACES Z_InvalidNumbers)
def t_want_sum_numbers (K : PySem.W.Frag) (cl : Cl) : TS := (tIfS (tOr (tNot (tB (tGo (SpD K cl Option false 1 P_sums_are_integers) (tCons (tVar 0) tNil)))) (tTest (tOp (rNeU K) (tCB (rLenU K) (tCons (tVar 0) tNil)) (tVar 1)))) tNever tNext)
theorem g_want_sum_numbers {f : Addr} {fd : FuncData} {y : Str} (F : FunD K y y (defArgs s_want_sum_numbers) (defBody s_want_sum_numbers) (defScope s_want_sum_numbers) [] [] f fd) (F_are_integers : Fun P w K mg base 2 "are_integers" s_are_integers ["value"] (SpD K cl Option false 1 P_sums_are_integers)) (fr_len : mg "len" = none) : FnG P w K mg base CX0 3 f fd ["value", "many"] (SpD K cl Option false 2 P_sums_want_sum_numbers) := by
  refine fng_def (m := Option) (κ := false) (st := s_want_sum_numbers) (ps := ["value", "many"]) (N := ["value", "many"]) (O := []) (O' := []) (t := t_want_sum_numbers K cl) (fs := f_P_sums_want_sum_numbers) F sc_want_sum_numbers (fun cdv B out z H E hg hr => ?_) (fun pot => ?_)
  · have nd := sc_want_sum_numbers.nd
    have hg0 : (B.deeper (envOfC y (defScope s_want_sum_numbers) z.heap.objs.size f cdv)).guards = some [] := hg
    have hu64 := hr.units
    exact (pss_one (ps_if (PW.pt (pw_or (pt_not (pt_val (pe_go F_are_integers (hr.mono (by decide)) hg0 rfl (pa_cons (pv 0) pa_nil) (fun _ _ _ _ _ _ _ us hl => match us, hl with | [_], _ => rfl)))) (pw_or1 (pt_cmpR (op_neU hu64) (pe_callB call_lenU rfl fr_len (by decide +kernel) (pa_cons (pv 0) pa_nil)) (pv 1) (nomark _))))) (pss_one ps_never) pss_nil))
  · exact (ss_if (tst_or (tst_not (tst_B (sim_go (an_cons (sim_var 0) an_nil)))) (tst_test (sim_op os_ne (sim_cb cs_len (args_cons (sim_up (sim_var 0)) args_nil)) (sim_var 1)))) ss_never ss_next)
theorem fun_want_sum_numbers {x y : Str} (D : DefAt K mg x y s_want_sum_numbers) (F_are_integers : Fun P w K mg base 2 "are_integers" s_are_integers ["value"] (SpD K cl Option false 1 P_sums_are_integers)) (fr_len : mg "len" = none) : Fun P w K mg base 3 x s_want_sum_numbers ["value", "many"] (SpD K cl Option false 2 P_sums_want_sum_numbers) := let ⟨f, fd, F, hm⟩ := D; ⟨y, f, fd, F, g_want_sum_numbers F F_are_integers fr_len, hm⟩
def tx_want_sum_numbers (K : PySem.W.Frag) (cl : Cl) : WX → TS := fun W => (tIfS (tOr (tNot (tB (tGo (SpD K cl Option false 1 P_sums_are_integers) (tCons (tVar 0) tNil)))) (tTest (tOp (rNeU K) (tCB (rLenU K) (tCons (tVar 0) tNil)) (tVar 1)))) (tRaise1 K (cl "InvalidNumbers") "value" (tVar 0) W) tNext)
theorem gx_want_sum_numbers {f : Addr} {fd : FuncData} {y : Str} (F : FunD K y y (defArgs s_want_sum_numbers) (defBody s_want_sum_numbers) (defScope s_want_sum_numbers) [] [] f fd) (F_are_integers : Fun P w K mg base 2 "are_integers" s_are_integers ["value"] (SpD K cl Option false 1 P_sums_are_integers)) (fr_len : mg "len" = none) (Z_InvalidNumbers : Ex1 P w K mg base 1 "InvalidNumbers" "value" (cl "InvalidNumbers")) : FnG P w K mg base (L2.CX P w) 3 f fd ["value", "many"] (SpX K cl 2 X_sums_want_sum_numbers) := by
  refine fng_defX (st := s_want_sum_numbers) (ps := ["value", "many"]) (N := ["value", "many"]) (O := []) (t := tx_want_sum_numbers K cl) (fx := f_X_sums_want_sum_numbers) F sc_want_sum_numbers (fun cdv B out z H E hg hr => ?_) (fun pot => ?_)
  · have nd := sc_want_sum_numbers.nd
    have hg0 : (B.deeper (envOfC y (defScope s_want_sum_numbers) z.heap.objs.size f cdv)).guards = some [] := hg
    have hu64 := hr.units
    exact (pss_one (ps_if (PW.pt (pw_or (pt_not (pt_val (pe_go F_are_integers (hr.mono (by decide)) hg0 rfl (pa_cons (pv 0) pa_nil) (fun _ _ _ _ _ _ _ us hl => match us, hl with | [_], _ => rfl)))) (pw_or1 (pt_cmpR (op_neU hu64) (pe_callB call_lenU rfl fr_len (by decide +kernel) (pa_cons (pv 0) pa_nil)) (pv 1) (nomark _))))) (pss_one (ps_raise1 rfl Z_InvalidNumbers (hr.mono (by decide)) (takes_of rfl rfl rfl rfl) rfl (pv 0))) pss_nil))
  · exact (xs_if2 (fun W => (tst_or (tst_not (tst_B (sim_go (an_cons (sim_var 0) an_nil)))) (tst_test (sim_op os_ne (sim_cb cs_len (args_cons (sim_up (sim_var 0)) args_nil)) (sim_var 1))))) (xs_raise1 "InvalidNumbers" "value" Z_InvalidNumbers.T Z_InvalidNumbers.no (sim_var 0)) xs_no)
theorem fune_want_sum_numbers {x y : Str} (D : DefAt K mg x y s_want_sum_numbers) (F_are_integers : Fun P w K mg base 2 "are_integers" s_are_integers ["value"] (SpD K cl Option false 1 P_sums_are_integers)) (fr_len : mg "len" = none) (Z_InvalidNumbers : Ex1 P w K mg base 1 "InvalidNumbers" "value" (cl "InvalidNumbers")) : FunX P w K mg base 3 x s_want_sum_numbers ["value", "many"] (SpE K cl Option false 2 P_sums_want_sum_numbers X_sums_want_sum_numbers) := let ⟨f, fd, F, hm⟩ := D; funE F hm (g_want_sum_numbers F F_are_integers fr_len) (gx_want_sum_numbers F F_are_integers fr_len Z_InvalidNumbers)
def t_product_of (K : PySem.W.Frag) (cl : Cl) : TS := (tSeq (tAsg (tOp rRep (tLst (tCons (tC (.int 0)) tNil)) (tOp (rSubI) (tOp (rAddU K) (tCB (rLenU K) (tCons (tVar 0) tNil)) (tCB (rLenU K) (tCons (tVar 1) tNil))) (tC (.int 1)))) (gName 2)) (tSeq (tFor (iEnumU K (tVar 0)) (gTup K 2 (gNames [3, 4])) (tIfS (tTest (tOp (rNeU K) (tVar 4) (tC (.int 0)))) (tFor (iEnumU K (tVar 1)) (gTup K 2 (gNames [5, 6])) (tAsg (tOp (rAddU K) (tOp (rIx K) (tVar 2) (tOp (rAddU K) (tVar 3) (tVar 5))) (tOp (rMulU) (tVar 4) (tVar 6))) (gSub (tVar 2) (tOp (rAddU K) (tVar 3) (tVar 5)) rSetL))) tNext)) (tRet (tVar 2))))
theorem g_product_of {f : Addr} {fd : FuncData} {y : Str} (F : FunD K y y (defArgs s_product_of) (defBody s_product_of) (defScope s_product_of) [] [] f fd) (fr_len : mg "len" = none) (fr_enumerate : mg "enumerate" = none) : FnG P w K mg base CX0 1 f fd ["one", "other"] (SpD K cl Option true 2 P_sums_product_of) := by
  refine fng_def (m := Option) (κ := true) (st := s_product_of) (ps := ["one", "other"]) (N := ["one", "other", "found", "at", "near", "to", "far"]) (O := [2]) (O' := [2]) (t := t_product_of K cl) (fs := f_P_sums_product_of) F sc_product_of (fun cdv B out z H E hg hr => ?_) (fun pot => ?_)
  · have nd := sc_product_of.nd
    have hg0 : (B.deeper (envOfC y (defScope s_product_of) z.heap.objs.size f cdv)).guards = some [] := hg
    have hu64 := hr.units
    exact (pss_cons (ps_set (i := 2) nd rfl (Or.inl rfl) (pe_op op_rep (pe_lst (pa_cons pe_int pa_nil)) (pe_op op_sub (pe_op op_addU (pe_callB call_lenU rfl fr_len (by decide +kernel) (pa_cons (pv 0) pa_nil)) (pe_callB call_lenU rfl fr_len (by decide +kernel) (pa_cons (pv 1) pa_nil))) pe_int))) (pss_cons (ps_for PassesOwn.never rfl (pi_enumU rfl fr_enumerate (pv 0)) (pg_tup rfl (pgs_cons (pg_name (i := 3) nd rfl (Or.inl rfl)) (pgs_cons (pg_name (i := 4) nd rfl (Or.inl rfl)) pgs_nil))) (pss_one (ps_if (pt_cmpR (op_neU hu64) (pv 4) pe_int (nomark _)) (pss_one (ps_for PassesOwn.never rfl (pi_enumU rfl fr_enumerate (pv 1)) (pg_tup rfl (pgs_cons (pg_name (i := 5) nd rfl (Or.inl rfl)) (pgs_cons (pg_name (i := 6) nd rfl (Or.inl rfl)) pgs_nil))) (pss_one (ps_asg (pe_op op_addU (pe_ix ix_seq (pv 2) (pe_op op_addU (pv 3) (pv 5)) (fun _ _ => rfl)) (pe_op op_mulU (pv 4) (pv 6))) (pg_sub (pv 2) (pe_op op_addU (pv 3) (pv 5)) set_list))))) pss_nil))) (pss_one (ps_ret (pv 2)))))
  · exact (ss_seq (ss_setL 2 (simL_op os_rep (sim_new (simL_lst (args_cons (sim_int 0) args_nil))) (sim_op os_sub (sim_op os_add (sim_cb cs_len (args_cons (sim_up (sim_var 0)) args_nil)) (sim_cb cs_len (args_cons (sim_up (sim_var 1)) args_nil))) (sim_int 1))))
  (ss_seq (ss_for (si_enumU (sim_var 0)) (tg_tup [3, 4]) (ss_if (tst_test (sim_op os_ne (sim_var 4) (sim_int 0))) (ss_for (si_enumU (sim_var 1)) (tg_tup [5, 6]) (ss_put 2 (sim_op os_add (sim_var 3) (sim_var 5)) (sim_op os_add (sim_op os_ix (sim_own 2) (sim_op os_add (sim_var 3) (sim_var 5))) (sim_op os_mul (sim_var 4) (sim_var 6))))) ss_next))
  (ss_retOwn 2)))
theorem fun_product_of {x y : Str} (D : DefAt K mg x y s_product_of) (fr_len : mg "len" = none) (fr_enumerate : mg "enumerate" = none) : Fun P w K mg base 1 x s_product_of ["one", "other"] (SpD K cl Option true 2 P_sums_product_of) := let ⟨f, fd, F, hm⟩ := D; ⟨y, f, fd, F, g_product_of F fr_len fr_enumerate, hm⟩
def t_power_of (K : PySem.W.Frag) (cl : Cl) : TS := (tSeq (tAsg (tLst (tCons (tC (.int 1)) tNil)) (gName 2)) (tSeq (tFor (iRng1 (tCons (tVar 1) tNil)) (gName 3) (tAsg (tGo (SpD K cl Option true 2 P_sums_product_of) (tCons (tVar 2) (tCons (tVar 0) tNil))) (gName 2))) (tRet (tVar 2))))
theorem g_power_of {f : Addr} {fd : FuncData} {y : Str} (F : FunD K y y (defArgs s_power_of) (defBody s_power_of) (defScope s_power_of) [] [] f fd) (fr_range : mg "range" = none) (F_product_of : Fun P w K mg base 1 "product_of" s_product_of ["one", "other"] (SpD K cl Option true 2 P_sums_product_of)) : FnG P w K mg base CX0 2 f fd ["poly", "many"] (SpD K cl Option false 2 P_sums_power_of) := by
  refine fng_def (m := Option) (κ := false) (st := s_power_of) (ps := ["poly", "many"]) (N := ["poly", "many", "found", "turn"]) (O := []) (O' := []) (t := t_power_of K cl) (fs := f_P_sums_power_of) F sc_power_of (fun cdv B out z H E hg hr => ?_) (fun pot => ?_)
  · have nd := sc_power_of.nd
    have hg0 : (B.deeper (envOfC y (defScope s_power_of) z.heap.objs.size f cdv)).guards = some [] := hg
    have hu64 := hr.units
    exact (pss_cons (ps_set (i := 2) nd rfl (Or.inl rfl) (pe_lst (pa_cons pe_int pa_nil))) (pss_cons (ps_for PassesOwn.never rfl (pi_range1 rfl fr_range (pa_cons (pv 1) pa_nil)) (pg_name (i := 3) nd rfl (Or.inl rfl)) (pss_one (ps_set (i := 2) nd rfl (Or.inl rfl) (pe_go F_product_of (hr.mono (by decide)) hg0 rfl (pa_cons (pv 2) (pa_cons (pv 0) pa_nil)) (fun _ _ _ _ _ _ _ us hl => match us, hl with | [_, _], _ => rfl))))) (pss_one (ps_ret (pv 2)))))
  · exact (ss_seq (ss_set 2 (sim_new (simL_lst (args_cons (sim_int 1) args_nil))))
  (ss_seq (ss_for (si_rg1 (args_cons (sim_var 1) args_nil)) (tg_name 3) (ss_set 2 (sim_goN (an_cons (sim_var 2) (an_cons (sim_var 0) an_nil)))))
  (ss_ret (sim_var 2))))
theorem fun_power_of {x y : Str} (D : DefAt K mg x y s_power_of) (fr_range : mg "range" = none) (F_product_of : Fun P w K mg base 1 "product_of" s_product_of ["one", "other"] (SpD K cl Option true 2 P_sums_product_of)) : Fun P w K mg base 2 x s_power_of ["poly", "many"] (SpD K cl Option false 2 P_sums_power_of) := let ⟨f, fd, F, hm⟩ := D; ⟨y, f, fd, F, g_power_of F fr_range F_product_of, hm⟩
def t_products_by (K : PySem.W.Frag) (cl : Cl) : TS := (tSeq (tAsg (tLst tNil) (gName 3)) (tSeq (tFor (iRng1 (tCons (tOp (rAddU K) (tOp (rDivI) (tVar 0) (tOp (rSubI) (tCB (rLenU K) (tCons (tVar 2) tNil)) (tC (.int 1)))) (tC (.int 1))) tNil)) (gName 4) (tSeq (tAsg (tOp (rDivI) (tOp (rSubI) (tVar 0) (tOp (rMulU) (tVar 4) (tOp (rSubI) (tCB (rLenU K) (tCons (tVar 2) tNil)) (tC (.int 1))))) (tOp (rSubI) (tCB (rLenU K) (tCons (tVar 1) tNil)) (tC (.int 1)))) (gName 5)) (tDrop (tBM K "list" rAppend (tVar 3) (tCons (tGo (SpD K cl Option true 2 P_sums_product_of) (tCons (tGo (SpD K cl Option false 2 P_sums_power_of) (tCons (tVar 1) (tCons (tVar 5) tNil))) (tCons (tGo (SpD K cl Option false 2 P_sums_power_of) (tCons (tVar 2) (tCons (tVar 4) tNil))) tNil))) tNil))))) (tRet (tVar 3))))
theorem g_products_by {f : Addr} {fd : FuncData} {y : Str} (F : FunD K y y (defArgs s_products_by) (defBody s_products_by) (defScope s_products_by) [] [] f fd) (fr_range : mg "range" = none) (fr_len : mg "len" = none) (F_product_of : Fun P w K mg base 1 "product_of" s_product_of ["one", "other"] (SpD K cl Option true 2 P_sums_product_of)) (F_power_of : Fun P w K mg base 2 "power_of" s_power_of ["poly", "many"] (SpD K cl Option false 2 P_sums_power_of)) : FnG P w K mg base CX0 3 f fd ["places", "first", "second"] (SpD K cl Option true 3 P_sums_products_by) := by
  refine fng_def (m := Option) (κ := true) (st := s_products_by) (ps := ["places", "first", "second"]) (N := ["places", "first", "second", "found", "many", "left"]) (O := [3]) (O' := [3]) (t := t_products_by K cl) (fs := f_P_sums_products_by) F sc_products_by (fun cdv B out z H E hg hr => ?_) (fun pot => ?_)
  · have nd := sc_products_by.nd
    have hg0 : (B.deeper (envOfC y (defScope s_products_by) z.heap.objs.size f cdv)).guards = some [] := hg
    have hu64 := hr.units
    exact (pss_cons (ps_set (i := 3) nd rfl (Or.inl rfl) (pe_lst pa_nil)) (pss_cons (ps_for PassesOwn.never rfl (pi_range1 rfl fr_range (pa_cons (pe_op op_addU (pe_op op_fdivW (pv 0) (pe_op op_sub (pe_callB call_lenU rfl fr_len (by decide +kernel) (pa_cons (pv 2) pa_nil)) pe_int)) pe_int) pa_nil)) (pg_name (i := 4) nd rfl (Or.inl rfl)) (pss_cons (ps_set (i := 5) nd rfl (Or.inl rfl) (pe_op op_fdivW (pe_op op_sub (pv 0) (pe_op op_mulU (pv 4) (pe_op op_sub (pe_callB call_lenU rfl fr_len (by decide +kernel) (pa_cons (pv 2) pa_nil)) pe_int))) (pe_op op_sub (pe_callB call_lenU rfl fr_len (by decide +kernel) (pa_cons (pv 1) pa_nil)) pe_int))) (pss_one (ps_expr (pe_bm PySem.F.plainAttrs_list PySem.F.slot_list_append PySem.F.type_list_append mt_append (pv 3) (pa_cons (pe_go F_product_of (hr.mono (by decide)) hg0 rfl (pa_cons (pe_go F_power_of (hr.mono (by decide)) hg0 rfl (pa_cons (pv 1) (pa_cons (pv 5) pa_nil)) (fun _ _ _ _ _ _ _ us hl => match us, hl with | [_, _], _ => rfl)) (pa_cons (pe_go F_power_of (hr.mono (by decide)) hg0 rfl (pa_cons (pv 2) (pa_cons (pv 4) pa_nil)) (fun _ _ _ _ _ _ _ us hl => match us, hl with | [_, _], _ => rfl)) pa_nil)) (fun _ _ _ _ _ _ _ us hl => match us, hl with | [_, _], _ => rfl)) pa_nil)))))) (pss_one (ps_ret (pv 3)))))
  · exact (ss_seq (ss_setL 3 (simL_lst args_nil))
  (ss_seq (ss_for (si_rg1 (args_cons (sim_op os_add (sim_op os_div (sim_var 0) (sim_op os_sub (sim_cb cs_len (args_cons (sim_up (sim_var 2)) args_nil)) (sim_int 1))) (sim_int 1)) args_nil)) (tg_name 4) (ss_seq (ss_set 5 (sim_op os_div (sim_op os_sub (sim_var 0) (sim_op os_mul (sim_var 4) (sim_op os_sub (sim_cb cs_len (args_cons (sim_up (sim_var 2)) args_nil)) (sim_int 1)))) (sim_op os_sub (sim_cb cs_len (args_cons (sim_up (sim_var 1)) args_nil)) (sim_int 1))))
  (ss_app 3 (sim_goN (an_cons (sim_go (an_cons (sim_var 1) (an_cons (sim_var 5) an_nil))) (an_cons (sim_go (an_cons (sim_var 2) (an_cons (sim_var 4) an_nil))) an_nil))))))
  (ss_retOwn 3)))
theorem fun_products_by {x y : Str} (D : DefAt K mg x y s_products_by) (fr_range : mg "range" = none) (fr_len : mg "len" = none) (F_product_of : Fun P w K mg base 1 "product_of" s_product_of ["one", "other"] (SpD K cl Option true 2 P_sums_product_of)) (F_power_of : Fun P w K mg base 2 "power_of" s_power_of ["poly", "many"] (SpD K cl Option false 2 P_sums_power_of)) : Fun P w K mg base 3 x s_products_by ["places", "first", "second"] (SpD K cl Option true 3 P_sums_products_by) := let ⟨f, fd, F, hm⟩ := D; ⟨y, f, fd, F, g_products_by F fr_range fr_len F_product_of F_power_of, hm⟩
def t_added (K : PySem.W.Frag) (cl : Cl) : TS := (tSeq (tAsg (tOp (rMulU) (tLst (tCons (tC (.int 0)) tNil)) (tOp (rAddU K) (tVar 0) (tC (.int 1)))) (gName 4)) (tSeq (tFor (iZipU K (tVar 1) (tGo (SpD K cl Option true 3 P_sums_products_by) (tCons (tVar 0) (tCons (tVar 2) (tCons (tVar 3) tNil))))) (gTup K 2 (gNames [5, 6])) (tAsg (tLc (iZipU K (tVar 4) (tVar 6)) (gTup K 2 (gNames [7, 8])) tYes (tOp (rAddU K) (tVar 7) (tOp (rMulU) (tVar 5) (tVar 8))) [7, 8]) (gName 4))) (tRet (tVar 4))))
theorem g_added {f : Addr} {fd : FuncData} {y : Str} (F : FunD K y y (defArgs s_added) (defBody s_added) (defScope s_added) [] [] f fd) (fr_zip : mg "zip" = none) (F_products_by : Fun P w K mg base 3 "products_by" s_products_by ["places", "first", "second"] (SpD K cl Option true 3 P_sums_products_by)) : FnG P w K mg base CX0 4 f fd ["places", "numbers", "first", "second"] (SpD K cl Option false 4 P_sums_added) := by
  refine fng_def (m := Option) (κ := false) (st := s_added) (ps := ["places", "numbers", "first", "second"]) (N := ["places", "numbers", "first", "second", "found", "number", "product", "one", "more"]) (O := []) (O' := []) (t := t_added K cl) (fs := f_P_sums_added) F sc_added (fun cdv B out z H E hg hr => ?_) (fun pot => ?_)
  · have nd := sc_added.nd
    have hg0 : (B.deeper (envOfC y (defScope s_added) z.heap.objs.size f cdv)).guards = some [] := hg
    have hu64 := hr.units
    exact (pss_cons (ps_set (i := 4) nd rfl (Or.inl rfl) (pe_op op_mulU (pe_lst (pa_cons pe_int pa_nil)) (pe_op op_addU (pv 0) pe_int))) (pss_cons (ps_for PassesOwn.never rfl (pi_zipU rfl fr_zip (pv 1) (pe_go F_products_by (hr.mono (by decide)) hg0 rfl (pa_cons (pv 0) (pa_cons (pv 2) (pa_cons (pv 3) pa_nil))) (fun _ _ _ _ _ _ _ us hl => match us, hl with | [_, _, _], _ => rfl))) (pg_tup rfl (pgs_cons (pg_name (i := 5) nd rfl (Or.inr rfl)) (pgs_cons (pg_name (i := 6) nd rfl (Or.inl rfl)) pgs_nil))) (pss_one (by first | exact ps_setLc (i := 4) (own := [("one", 7), ("more", 8)]) (g := (gTup K 2 (gNames [7, 8]))) (tt := tYes) (te := (tOp (rAddU K) (tVar 7) (tOp (rMulU) (tVar 5) (tVar 8)))) rfl nd rfl rfl (sw_true rfl rfl rfl (by decide +kernel)) (pi_zipU rfl fr_zip (pv 4) (pv 6)) (blkOk_by (N := ["places", "numbers", "first", "second", "found", "number", "product", "one", "more"]) (sc := defScope s_added) (by decide +kernel)) (fun _ _ _ _ _ => (pg_tup rfl (pgs_cons (pg_name (i := 7) nd rfl (Or.inl rfl)) (pgs_cons (pg_name (i := 8) nd rfl (Or.inl rfl)) pgs_nil)))) (fun _ _ _ _ _ => pts_nil) (fun _ _ _ _ _ => (pe_op op_addU (pv 7) (pe_op op_mulU (pv 5) (pv 8)))) | exact ps_set (i := 4) nd rfl (Or.inl rfl) (pe_lc (own := [("one", 7), ("more", 8)]) (g := (gTup K 2 (gNames [7, 8]))) (tt := tYes) (te := (tOp (rAddU K) (tVar 7) (tOp (rMulU) (tVar 5) (tVar 8)))) rfl nd (pi_zipU rfl fr_zip (pv 4) (pv 6)) (blkOk_by (N := ["places", "numbers", "first", "second", "found", "number", "product", "one", "more"]) (sc := defScope s_added) (by decide +kernel)) (fun _ _ _ _ _ => (pg_tup rfl (pgs_cons (pg_name (i := 7) nd rfl (Or.inl rfl)) (pgs_cons (pg_name (i := 8) nd rfl (Or.inl rfl)) pgs_nil)))) (fun _ _ _ _ _ => pts_nil) (fun _ _ _ _ _ => (pe_op op_addU (pv 7) (pe_op op_mulU (pv 5) (pv 8)))))))) (pss_one (ps_ret (pv 4)))))
  · exact (ss_seq (ss_set 4 (sim_op os_mul (sim_new (simL_lst (args_cons (sim_int 0) args_nil))) (sim_op os_add (sim_var 0) (sim_int 1))))
  (ss_seq (ss_for (si_zipU (sim_var 1) (sim_goN (an_cons (sim_var 0) (an_cons (sim_var 2) (an_cons (sim_var 3) an_nil))))) (tg_tup [5, 6]) (ss_set 4 (sim_new (simL_lc (vs := [7, 8]) (si_zipU (sim_var 4) (sim_var 6)) (tg_tup [7, 8]) tst_yes (sim_op os_add (sim_var 7) (sim_op os_mul (sim_var 5) (sim_var 8)))))))
  (ss_ret (sim_var 4))))
theorem fun_added {x y : Str} (D : DefAt K mg x y s_added) (fr_zip : mg "zip" = none) (F_products_by : Fun P w K mg base 3 "products_by" s_products_by ["places", "first", "second"] (SpD K cl Option true 3 P_sums_products_by)) : Fun P w K mg base 4 x s_added ["places", "numbers", "first", "second"] (SpD K cl Option false 4 P_sums_added) := let ⟨f, fd, F, hm⟩ := D; ⟨y, f, fd, F, g_added F fr_zip F_products_by, hm⟩
def t_solved (K : PySem.W.Frag) (cl : Cl) : TS := (tSeq (tPar 4 5 (tCons (tCB (rListOf K) (tCons (tVar 0) tNil)) (tCons (tLst tNil) tNil))) (tSeq (tFor (iSeq K (tGo (SpD K cl Option true 3 P_sums_products_by) (tCons (tOp (rSubI) (tCB (rLenU K) (tCons (tVar 0) tNil)) (tC (.int 1))) (tCons (tVar 1) (tCons (tVar 2) tNil))))) (gName 3) (tSeq (tAsg (tOp (rIx K) (tLc (iRng1 (tCons (tCB (rLenU K) (tCons (tVar 3) tNil)) tNil)) (gName 8) (tTest (tOp (rNeU K) (tOp (rIx K) (tVar 3) (tVar 8)) (tC (.int 0)))) (tVar 8) [8]) (tC (.int 0))) (gName 6)) (tSeq (tAsg (tOp (rIx K) (tVar 4) (tVar 6)) (gName 7)) (tSeq (tDrop (tBM K "list" rAppend (tVar 5) (tCons (tVar 7) tNil))) (tAsg (tLc (iZipU K (tVar 4) (tVar 3)) (gTup K 2 (gNames [9, 10])) tYes (tOp (rSubI) (tVar 9) (tOp (rMulU) (tVar 7) (tVar 10))) [9, 10]) (gName 4)))))) (tRet (tIf (tTest (tOp (rEqU K) (tVar 4) (tOp (rMulU) (tLst (tCons (tC (.int 0)) tNil)) (tCB (rLenU K) (tCons (tVar 4) tNil))))) (tVar 5) (tC .non)))))
theorem g_solved {f : Addr} {fd : FuncData} {y : Str} (F : FunD K y y (defArgs s_solved) (defBody s_solved) (defScope s_solved) [] [] f fd) (fr_list : mg "list" = none) (F_products_by : Fun P w K mg base 3 "products_by" s_products_by ["places", "first", "second"] (SpD K cl Option true 3 P_sums_products_by)) (fr_len : mg "len" = none) (fr_range : mg "range" = none) (fr_zip : mg "zip" = none) : FnG P w K mg base CX0 4 f fd ["numbers", "first", "second"] (SpD K cl Option false 3 P_sums_solved) := by
  refine fng_def (m := Option) (κ := false) (st := s_solved) (ps := ["numbers", "first", "second"]) (N := ["numbers", "first", "second", "product", "left", "found", "lead", "number", "place", "one", "more"]) (O := [5]) (O' := []) (t := t_solved K cl) (fs := f_P_sums_solved) F sc_solved (fun cdv B out z H E hg hr => ?_) (fun pot => ?_)
  · have nd := sc_solved.nd
    have hg0 : (B.deeper (envOfC y (defScope s_solved) z.heap.objs.size f cdv)).guards = some [] := hg
    have hu64 := hr.units
    exact (pss_cons (ps_par (i := 4) (j := 5) rfl nd rfl rfl (by decide) rfl rfl (pa_cons (pe_callTy call_list_of rfl fr_list (by decide +kernel) (pa_cons (pv 0) pa_nil)) (pa_cons (pe_lst pa_nil) pa_nil)) rfl) (pss_cons (ps_for PassesOwn.never rfl (pi_seq (pe_go F_products_by (hr.mono (by decide)) hg0 rfl (pa_cons (pe_op op_sub (pe_callB call_lenU rfl fr_len (by decide +kernel) (pa_cons (pv 0) pa_nil)) pe_int) (pa_cons (pv 1) (pa_cons (pv 2) pa_nil))) (fun _ _ _ _ _ _ _ us hl => match us, hl with | [_, _, _], _ => rfl))) (pg_name (i := 3) nd rfl (Or.inr rfl)) (pss_cons (ps_set (i := 6) nd rfl (Or.inl rfl) (pe_ix ix_seq (pe_lc (own := [("place", 8)]) (g := (gName 8)) (tt := (tTest (tOp (rNeU K) (tOp (rIx K) (tVar 3) (tVar 8)) (tC (.int 0))))) (te := (tVar 8)) rfl nd (pi_range1 rfl fr_range (pa_cons (pe_callB call_lenU rfl fr_len (by decide +kernel) (pa_cons (pv 3) pa_nil)) pa_nil)) (blkOk_by (N := ["numbers", "first", "second", "product", "left", "found", "lead", "number", "place", "one", "more"]) (sc := defScope s_solved) (by decide +kernel)) (fun _ _ _ _ _ => (pg_name (i := 8) nd rfl (Or.inl rfl))) (fun _ _ _ _ _ => (pts_one (pt_cmpR (op_neU hu64) (pe_ix ix_seq (pv 3) (pv 8) (fun _ _ => rfl)) pe_int (nomark _)))) (fun _ _ _ _ _ => (pv 8))) pe_int (fun _ _ => rfl))) (pss_cons (ps_set (i := 7) nd rfl (Or.inr rfl) (pe_ix ix_seq (pv 4) (pv 6) (fun _ _ => rfl))) (pss_cons (ps_expr (pe_bm PySem.F.plainAttrs_list PySem.F.slot_list_append PySem.F.type_list_append mt_append (pv 5) (pa_cons (pv 7) pa_nil))) (pss_one (by first | exact ps_setLc (i := 4) (own := [("one", 9), ("more", 10)]) (g := (gTup K 2 (gNames [9, 10]))) (tt := tYes) (te := (tOp (rSubI) (tVar 9) (tOp (rMulU) (tVar 7) (tVar 10)))) rfl nd rfl rfl (sw_true rfl rfl rfl (by decide +kernel)) (pi_zipU rfl fr_zip (pv 4) (pv 3)) (blkOk_by (N := ["numbers", "first", "second", "product", "left", "found", "lead", "number", "place", "one", "more"]) (sc := defScope s_solved) (by decide +kernel)) (fun _ _ _ _ _ => (pg_tup rfl (pgs_cons (pg_name (i := 9) nd rfl (Or.inl rfl)) (pgs_cons (pg_name (i := 10) nd rfl (Or.inl rfl)) pgs_nil)))) (fun _ _ _ _ _ => pts_nil) (fun _ _ _ _ _ => (pe_op op_sub (pv 9) (pe_op op_mulU (pv 7) (pv 10)))) | exact ps_set (i := 4) nd rfl (Or.inl rfl) (pe_lc (own := [("one", 9), ("more", 10)]) (g := (gTup K 2 (gNames [9, 10]))) (tt := tYes) (te := (tOp (rSubI) (tVar 9) (tOp (rMulU) (tVar 7) (tVar 10)))) rfl nd (pi_zipU rfl fr_zip (pv 4) (pv 3)) (blkOk_by (N := ["numbers", "first", "second", "product", "left", "found", "lead", "number", "place", "one", "more"]) (sc := defScope s_solved) (by decide +kernel)) (fun _ _ _ _ _ => (pg_tup rfl (pgs_cons (pg_name (i := 9) nd rfl (Or.inl rfl)) (pgs_cons (pg_name (i := 10) nd rfl (Or.inl rfl)) pgs_nil)))) (fun _ _ _ _ _ => pts_nil) (fun _ _ _ _ _ => (pe_op op_sub (pv 9) (pe_op op_mulU (pv 7) (pv 10))))))))))) (pss_one (ps_ret (pe_ifExp (pt_cmpR (op_eqU hu64) (pv 4) (pe_op op_mulU (pe_lst (pa_cons pe_int pa_nil)) (pe_callB call_lenU rfl fr_len (by decide +kernel) (pa_cons (pv 4) pa_nil))) (nomark _)) (pv 5) pe_non)))))
  · exact (ss_seq (ss_par (ak_sh (sim_new (simL_cb cs_listOf (args_cons (sim_up (sim_var 0)) args_nil))) (ak_ow (simL_lst args_nil) ak_nil)))
  (ss_seq (ss_for (si_seq (sim_goN (an_cons (sim_op os_sub (sim_cb cs_len (args_cons (sim_up (sim_var 0)) args_nil)) (sim_int 1)) (an_cons (sim_var 1) (an_cons (sim_var 2) an_nil))))) (tg_name 3) (ss_seq (ss_set 6 (sim_op os_ix (sim_new (simL_lc (vs := [8]) (si_rg1 (args_cons (sim_cb cs_len (args_cons (sim_up (sim_var 3)) args_nil)) args_nil)) (tg_name 8) (tst_test (sim_op os_ne (sim_op os_ix (sim_var 3) (sim_var 8)) (sim_int 0))) (sim_var 8))) (sim_int 0)))
  (ss_seq (ss_set 7 (sim_op os_ix (sim_var 4) (sim_var 6)))
  (ss_seq (ss_app 5 (sim_var 7))
  (ss_set 4 (sim_new (simL_lc (vs := [9, 10]) (si_zipU (sim_var 4) (sim_var 3)) (tg_tup [9, 10]) tst_yes (sim_op os_sub (sim_var 9) (sim_op os_mul (sim_var 7) (sim_var 10))))))))))
  (ss_free (O1 := []) [5] (ss_ret (sim_if (tst_test (sim_op os_eq (sim_var 4) (sim_op os_mul (sim_new (simL_lst (args_cons (sim_int 0) args_nil))) (sim_cb cs_len (args_cons (sim_up (sim_var 4)) args_nil))))) (sim_var 5) sim_non)))))
theorem fun_solved {x y : Str} (D : DefAt K mg x y s_solved) (fr_list : mg "list" = none) (F_products_by : Fun P w K mg base 3 "products_by" s_products_by ["places", "first", "second"] (SpD K cl Option true 3 P_sums_products_by)) (fr_len : mg "len" = none) (fr_range : mg "range" = none) (fr_zip : mg "zip" = none) : Fun P w K mg base 4 x s_solved ["numbers", "first", "second"] (SpD K cl Option false 3 P_sums_solved) := let ⟨f, fd, F, hm⟩ := D; ⟨y, f, fd, F, g_solved F fr_list F_products_by fr_len fr_range fr_zip, hm⟩
def t_sums (K : PySem.W.Frag) (cl : Cl) : TS := (tSeq (tDrop (tGo (SpD K cl Option false 1 P_sums_want_row_numbers) (tCons (tVar 0) tNil))) (tRet (tGo (SpD K cl Option false 3 P_sums_solved) (tCons (tVar 0) (tCons (tC (.ref (He.ga K "FIRST"))) (tCons (tC (.ref (He.ga K "SECOND"))) tNil))))))
theorem g_sums {f : Addr} {fd : FuncData} {y : Str} (F : FunD K y y (defArgs s_sums) (defBody s_sums) (defScope s_sums) [] [] f fd) (F_want_row_numbers : Fun P w K mg base 3 "want_row_numbers" s_want_row_numbers ["value"] (SpD K cl Option false 1 P_sums_want_row_numbers)) (F_solved : Fun P w K mg base 4 "solved" s_solved ["numbers", "first", "second"] (SpD K cl Option false 3 P_sums_solved)) (gt_FIRST : GTup K mg "FIRST" [1, 0, 1]) (gt_SECOND : GTup K mg "SECOND" [0, 0, 1, 0, -2, 0, 1, 0, 0]) : FnG P w K mg base CX0 5 f fd ["numbers"] (SpD K cl Option false 1 P_sums_sums) := by
  refine fng_def (m := Option) (κ := false) (st := s_sums) (ps := ["numbers"]) (N := ["numbers"]) (O := []) (O' := []) (t := t_sums K cl) (fs := f_P_sums_sums) F sc_sums (fun cdv B out z H E hg hr => ?_) (fun pot => ?_)
  · have nd := sc_sums.nd
    have hg0 : (B.deeper (envOfC y (defScope s_sums) z.heap.objs.size f cdv)).guards = some [] := hg
    have hu64 := hr.units
    exact (pss_cons (ps_expr (pe_go F_want_row_numbers (hr.mono (by decide)) hg0 rfl (pa_cons (pv 0) pa_nil) (fun _ _ _ _ _ _ _ us hl => match us, hl with | [_], _ => rfl))) (pss_one (ps_ret (pe_go F_solved (hr.mono (by decide)) hg0 rfl (pa_cons (pv 0) (pa_cons (pe_gtup rfl gt_FIRST) (pa_cons (pe_gtup rfl gt_SECOND) pa_nil))) (fun _ _ _ _ _ _ _ us hl => match us, hl with | [_, _, _], _ => rfl)))))
  · exact (ss_seq (ss_drop (sim_go (an_cons (sim_var 0) an_nil)))
  (ss_ret (sim_go (an_cons (sim_var 0) (an_cons (sim_gtup gt_FIRST) (an_cons (sim_gtup gt_SECOND) an_nil))))))
theorem fun_sums {x y : Str} (D : DefAt K mg x y s_sums) (F_want_row_numbers : Fun P w K mg base 3 "want_row_numbers" s_want_row_numbers ["value"] (SpD K cl Option false 1 P_sums_want_row_numbers)) (F_solved : Fun P w K mg base 4 "solved" s_solved ["numbers", "first", "second"] (SpD K cl Option false 3 P_sums_solved)) (gt_FIRST : GTup K mg "FIRST" [1, 0, 1]) (gt_SECOND : GTup K mg "SECOND" [0, 0, 1, 0, -2, 0, 1, 0, 0]) : Fun P w K mg base 5 x s_sums ["numbers"] (SpD K cl Option false 1 P_sums_sums) := let ⟨f, fd, F, hm⟩ := D; ⟨y, f, fd, F, g_sums F F_want_row_numbers F_solved gt_FIRST gt_SECOND, hm⟩
def tx_sums (K : PySem.W.Frag) (cl : Cl) : WX → TS := fun W => (tSeq (tDrop (tGoX (SpE K cl Option false 1 P_sums_want_row_numbers X_sums_want_row_numbers) (WE W) (tCons (tVar 0) tNil))) (tRet (tGo (SpD K cl Option false 3 P_sums_solved) (tCons (tVar 0) (tCons (tC (.ref (He.ga K "FIRST"))) (tCons (tC (.ref (He.ga K "SECOND"))) tNil))))))
theorem gx_sums {f : Addr} {fd : FuncData} {y : Str} (F : FunD K y y (defArgs s_sums) (defBody s_sums) (defScope s_sums) [] [] f fd) (Y_want_row_numbers : FunX P w K mg base 3 "want_row_numbers" s_want_row_numbers ["value"] (SpE K cl Option false 1 P_sums_want_row_numbers X_sums_want_row_numbers)) (F_solved : Fun P w K mg base 4 "solved" s_solved ["numbers", "first", "second"] (SpD K cl Option false 3 P_sums_solved)) (gt_FIRST : GTup K mg "FIRST" [1, 0, 1]) (gt_SECOND : GTup K mg "SECOND" [0, 0, 1, 0, -2, 0, 1, 0, 0]) : FnG P w K mg base (L2.CX P w) 5 f fd ["numbers"] (SpX K cl 1 X_sums_sums) := by
  refine fng_defX (st := s_sums) (ps := ["numbers"]) (N := ["numbers"]) (O := []) (t := tx_sums K cl) (fx := f_X_sums_sums) F sc_sums (fun cdv B out z H E hg hr => ?_) (fun pot => ?_)
  · have nd := sc_sums.nd
    have hg0 : (B.deeper (envOfC y (defScope s_sums) z.heap.objs.size f cdv)).guards = some [] := hg
    have hu64 := hr.units
    exact (pss_cons (ps_expr (pe_goX Y_want_row_numbers (hr.mono (by decide)) hg0 (takes_of rfl rfl rfl rfl) rfl (pa_cons (pv 0) pa_nil) (fun _ _ _ _ _ _ _ us hl => match us, hl with | [_], _ => rfl))) (pss_one (ps_ret (pe_go F_solved (hr.mono (by decide)) hg0 rfl (pa_cons (pv 0) (pa_cons (pe_gtup rfl gt_FIRST) (pa_cons (pe_gtup rfl gt_SECOND) pa_nil))) (fun _ _ _ _ _ _ _ us hl => match us, hl with | [_, _, _], _ => rfl)))))
  · exact (xs_fst (t2 := fun W => (tRet (tGo (SpD K cl Option false 3 P_sums_solved) (tCons (tVar 0) (tCons (tC (.ref (He.ga K "FIRST"))) (tCons (tC (.ref (He.ga K "SECOND"))) tNil)))))) (xs_drop (xe_goE2 (fun W => (an_cons (sim_var 0) an_nil)))))
theorem fune_sums {x y : Str} (D : DefAt K mg x y s_sums) (F_want_row_numbers : Fun P w K mg base 3 "want_row_numbers" s_want_row_numbers ["value"] (SpD K cl Option false 1 P_sums_want_row_numbers)) (F_solved : Fun P w K mg base 4 "solved" s_solved ["numbers", "first", "second"] (SpD K cl Option false 3 P_sums_solved)) (gt_FIRST : GTup K mg "FIRST" [1, 0, 1]) (gt_SECOND : GTup K mg "SECOND" [0, 0, 1, 0, -2, 0, 1, 0, 0]) (Y_want_row_numbers : FunX P w K mg base 3 "want_row_numbers" s_want_row_numbers ["value"] (SpE K cl Option false 1 P_sums_want_row_numbers X_sums_want_row_numbers)) : FunX P w K mg base 5 x s_sums ["numbers"] (SpE K cl Option false 1 P_sums_sums X_sums_sums) := let ⟨f, fd, F, hm⟩ := D; funE F hm (g_sums F F_want_row_numbers F_solved gt_FIRST gt_SECOND) (gx_sums F Y_want_row_numbers F_solved gt_FIRST gt_SECOND)
def t_row_of (K : PySem.W.Frag) (cl : Cl) : TS := (tSeq (tDrop (tGo (SpD K cl Option false 1 P_sums_want_even_places) (tCons (tVar 0) tNil))) (tSeq (tDrop (tGo (SpD K cl Option false 2 P_sums_want_sum_numbers) (tCons (tVar 1) (tCons (tOp (rAddU K) (tOp (rDivI) (tVar 0) (tC (.int 8))) (tC (.int 1))) tNil)))) (tRet (tGo (SpD K cl Option false 4 P_sums_added) (tCons (tVar 0) (tCons (tVar 1) (tCons (tC (.ref (He.ga K "FIRST"))) (tCons (tC (.ref (He.ga K "SECOND"))) tNil))))))))
theorem g_row_of {f : Addr} {fd : FuncData} {y : Str} (F : FunD K y y (defArgs s_row_of) (defBody s_row_of) (defScope s_row_of) [] [] f fd) (F_want_even_places : Fun P w K mg base 3 "want_even_places" s_want_even_places ["value"] (SpD K cl Option false 1 P_sums_want_even_places)) (F_want_sum_numbers : Fun P w K mg base 3 "want_sum_numbers" s_want_sum_numbers ["value", "many"] (SpD K cl Option false 2 P_sums_want_sum_numbers)) (gc_EIGHT : ∃ t, mg "EIGHT" = some (.int 8 t)) (F_added : Fun P w K mg base 4 "added" s_added ["places", "numbers", "first", "second"] (SpD K cl Option false 4 P_sums_added)) (gt_FIRST : GTup K mg "FIRST" [1, 0, 1]) (gt_SECOND : GTup K mg "SECOND" [0, 0, 1, 0, -2, 0, 1, 0, 0]) : FnG P w K mg base CX0 5 f fd ["places", "numbers"] (SpD K cl Option false 2 P_sums_row_of) := by
  refine fng_def (m := Option) (κ := false) (st := s_row_of) (ps := ["places", "numbers"]) (N := ["places", "numbers"]) (O := []) (O' := []) (t := t_row_of K cl) (fs := f_P_sums_row_of) F sc_row_of (fun cdv B out z H E hg hr => ?_) (fun pot => ?_)
  · have nd := sc_row_of.nd
    have hg0 : (B.deeper (envOfC y (defScope s_row_of) z.heap.objs.size f cdv)).guards = some [] := hg
    have hu64 := hr.units
    exact (pss_cons (ps_expr (pe_go F_want_even_places (hr.mono (by decide)) hg0 rfl (pa_cons (pv 0) pa_nil) (fun _ _ _ _ _ _ _ us hl => match us, hl with | [_], _ => rfl))) (pss_cons (ps_expr (pe_go F_want_sum_numbers (hr.mono (by decide)) hg0 rfl (pa_cons (pv 1) (pa_cons (pe_op op_addU (pe_op op_fdivW (pv 0) (pe_gc rfl (gc_of gc_EIGHT))) pe_int) pa_nil)) (fun _ _ _ _ _ _ _ us hl => match us, hl with | [_, _], _ => rfl))) (pss_one (ps_ret (pe_go F_added (hr.mono (by decide)) hg0 rfl (pa_cons (pv 0) (pa_cons (pv 1) (pa_cons (pe_gtup rfl gt_FIRST) (pa_cons (pe_gtup rfl gt_SECOND) pa_nil)))) (fun _ _ _ _ _ _ _ us hl => match us, hl with | [_, _, _, _], _ => rfl))))))
  · exact (ss_seq (ss_drop (sim_go (an_cons (sim_var 0) an_nil)))
  (ss_seq (ss_drop (sim_go (an_cons (sim_var 1) (an_cons (sim_op os_add (sim_op os_div (sim_var 0) (sim_int 8)) (sim_int 1)) an_nil))))
  (ss_ret (sim_go (an_cons (sim_var 0) (an_cons (sim_var 1) (an_cons (sim_gtup gt_FIRST) (an_cons (sim_gtup gt_SECOND) an_nil))))))))
theorem fun_row_of {x y : Str} (D : DefAt K mg x y s_row_of) (F_want_even_places : Fun P w K mg base 3 "want_even_places" s_want_even_places ["value"] (SpD K cl Option false 1 P_sums_want_even_places)) (F_want_sum_numbers : Fun P w K mg base 3 "want_sum_numbers" s_want_sum_numbers ["value", "many"] (SpD K cl Option false 2 P_sums_want_sum_numbers)) (gc_EIGHT : ∃ t, mg "EIGHT" = some (.int 8 t)) (F_added : Fun P w K mg base 4 "added" s_added ["places", "numbers", "first", "second"] (SpD K cl Option false 4 P_sums_added)) (gt_FIRST : GTup K mg "FIRST" [1, 0, 1]) (gt_SECOND : GTup K mg "SECOND" [0, 0, 1, 0, -2, 0, 1, 0, 0]) : Fun P w K mg base 5 x s_row_of ["places", "numbers"] (SpD K cl Option false 2 P_sums_row_of) := let ⟨f, fd, F, hm⟩ := D; ⟨y, f, fd, F, g_row_of F F_want_even_places F_want_sum_numbers gc_EIGHT F_added gt_FIRST gt_SECOND, hm⟩
def tx_row_of (K : PySem.W.Frag) (cl : Cl) : WX → TS := fun W => (tSeq (tDrop (tGoX (SpE K cl Option false 1 P_sums_want_even_places X_sums_want_even_places) (WE W) (tCons (tVar 0) tNil))) (tSeq (tDrop (tGoX (SpE K cl Option false 2 P_sums_want_sum_numbers X_sums_want_sum_numbers) (WE W) (tCons (tVar 1) (tCons (tOp (rAddU K) (tOp (rDivI) (tVar 0) (tC (.int 8))) (tC (.int 1))) tNil)))) (tRet (tGo (SpD K cl Option false 4 P_sums_added) (tCons (tVar 0) (tCons (tVar 1) (tCons (tC (.ref (He.ga K "FIRST"))) (tCons (tC (.ref (He.ga K "SECOND"))) tNil))))))))
theorem gx_row_of {f : Addr} {fd : FuncData} {y : Str} (F : FunD K y y (defArgs s_row_of) (defBody s_row_of) (defScope s_row_of) [] [] f fd) (Y_want_even_places : FunX P w K mg base 3 "want_even_places" s_want_even_places ["value"] (SpE K cl Option false 1 P_sums_want_even_places X_sums_want_even_places)) (Y_want_sum_numbers : FunX P w K mg base 3 "want_sum_numbers" s_want_sum_numbers ["value", "many"] (SpE K cl Option false 2 P_sums_want_sum_numbers X_sums_want_sum_numbers)) (gc_EIGHT : ∃ t, mg "EIGHT" = some (.int 8 t)) (F_added : Fun P w K mg base 4 "added" s_added ["places", "numbers", "first", "second"] (SpD K cl Option false 4 P_sums_added)) (gt_FIRST : GTup K mg "FIRST" [1, 0, 1]) (gt_SECOND : GTup K mg "SECOND" [0, 0, 1, 0, -2, 0, 1, 0, 0]) : FnG P w K mg base (L2.CX P w) 5 f fd ["places", "numbers"] (SpX K cl 2 X_sums_row_of) := by
  refine fng_defX (st := s_row_of) (ps := ["places", "numbers"]) (N := ["places", "numbers"]) (O := []) (t := tx_row_of K cl) (fx := f_X_sums_row_of) F sc_row_of (fun cdv B out z H E hg hr => ?_) (fun pot => ?_)
  · have nd := sc_row_of.nd
    have hg0 : (B.deeper (envOfC y (defScope s_row_of) z.heap.objs.size f cdv)).guards = some [] := hg
    have hu64 := hr.units
    exact (pss_cons (ps_expr (pe_goX Y_want_even_places (hr.mono (by decide)) hg0 (takes_of rfl rfl rfl rfl) rfl (pa_cons (pv 0) pa_nil) (fun _ _ _ _ _ _ _ us hl => match us, hl with | [_], _ => rfl))) (pss_cons (ps_expr (pe_goX Y_want_sum_numbers (hr.mono (by decide)) hg0 (takes_of rfl rfl rfl rfl) rfl (pa_cons (pv 1) (pa_cons (pe_op op_addU (pe_op op_fdivW (pv 0) (pe_gc rfl (gc_of gc_EIGHT))) pe_int) pa_nil)) (fun _ _ _ _ _ _ _ us hl => match us, hl with | [_, _], _ => rfl))) (pss_one (ps_ret (pe_go F_added (hr.mono (by decide)) hg0 rfl (pa_cons (pv 0) (pa_cons (pv 1) (pa_cons (pe_gtup rfl gt_FIRST) (pa_cons (pe_gtup rfl gt_SECOND) pa_nil)))) (fun _ _ _ _ _ _ _ us hl => match us, hl with | [_, _, _, _], _ => rfl))))))
  · exact (xs_two2 (κ := false) (fun W => (ss_drop (sim_goE (an_cons (sim_var 0) an_nil)))) (xs_drop (xe_goE2 (fun W => (an_cons (sim_var 0) an_nil))))
  (xs_fst (t2 := fun W => (tRet (tGo (SpD K cl Option false 4 P_sums_added) (tCons (tVar 0) (tCons (tVar 1) (tCons (tC (.ref (He.ga K "FIRST"))) (tCons (tC (.ref (He.ga K "SECOND"))) tNil))))))) (xs_drop (xe_goE2 (fun W => (an_cons (sim_var 1) (an_cons (sim_op os_add (sim_op os_div (sim_var 0) (sim_int 8)) (sim_int 1)) an_nil)))))))
theorem fune_row_of {x y : Str} (D : DefAt K mg x y s_row_of) (F_want_even_places : Fun P w K mg base 3 "want_even_places" s_want_even_places ["value"] (SpD K cl Option false 1 P_sums_want_even_places)) (F_want_sum_numbers : Fun P w K mg base 3 "want_sum_numbers" s_want_sum_numbers ["value", "many"] (SpD K cl Option false 2 P_sums_want_sum_numbers)) (gc_EIGHT : ∃ t, mg "EIGHT" = some (.int 8 t)) (F_added : Fun P w K mg base 4 "added" s_added ["places", "numbers", "first", "second"] (SpD K cl Option false 4 P_sums_added)) (gt_FIRST : GTup K mg "FIRST" [1, 0, 1]) (gt_SECOND : GTup K mg "SECOND" [0, 0, 1, 0, -2, 0, 1, 0, 0]) (Y_want_even_places : FunX P w K mg base 3 "want_even_places" s_want_even_places ["value"] (SpE K cl Option false 1 P_sums_want_even_places X_sums_want_even_places)) (Y_want_sum_numbers : FunX P w K mg base 3 "want_sum_numbers" s_want_sum_numbers ["value", "many"] (SpE K cl Option false 2 P_sums_want_sum_numbers X_sums_want_sum_numbers)) : FunX P w K mg base 5 x s_row_of ["places", "numbers"] (SpE K cl Option false 2 P_sums_row_of X_sums_row_of) := let ⟨f, fd, F, hm⟩ := D; funE F hm (g_row_of F F_want_even_places F_want_sum_numbers gc_EIGHT F_added gt_FIRST gt_SECOND) (gx_row_of F Y_want_even_places Y_want_sum_numbers gc_EIGHT F_added gt_FIRST gt_SECOND)
def t_fours_sums (K : PySem.W.Frag) (cl : Cl) : TS := (tSeq (tDrop (tGo (SpD K cl Option false 1 P_sums_want_eights) (tCons (tGo (SpD K cl Option false 1 P_sums_want_row_numbers) (tCons (tVar 0) tNil)) tNil))) (tRet (tGo (SpD K cl Option false 3 P_sums_solved) (tCons (tVar 0) (tCons (tC (.ref (He.ga K "FOURS_FIRST"))) (tCons (tC (.ref (He.ga K "FOURS_SECOND"))) tNil))))))
theorem g_fours_sums {f : Addr} {fd : FuncData} {y : Str} (F : FunD K y y (defArgs s_fours_sums) (defBody s_fours_sums) (defScope s_fours_sums) [] [] f fd) (F_want_eights : Fun P w K mg base 1 "want_eights" s_want_eights ["places"] (SpD K cl Option false 1 P_sums_want_eights)) (F_want_row_numbers : Fun P w K mg base 3 "want_row_numbers" s_want_row_numbers ["value"] (SpD K cl Option false 1 P_sums_want_row_numbers)) (F_solved : Fun P w K mg base 4 "solved" s_solved ["numbers", "first", "second"] (SpD K cl Option false 3 P_sums_solved)) (gt_FOURS_FIRST : GTup K mg "FOURS_FIRST" [1, 0, 0, 0, 14, 0, 0, 0, 1]) (gt_FOURS_SECOND : GTup K mg "FOURS_SECOND" [0, 0, 0, 0, 1, 0, 0, 0, -4, 0, 0, 0, 6, 0, 0, 0, -4, 0, 0, 0, 1, 0, 0, 0, 0]) : FnG P w K mg base CX0 5 f fd ["numbers"] (SpD K cl Option false 1 P_sums_fours) := by
  refine fng_def (m := Option) (κ := false) (st := s_fours_sums) (ps := ["numbers"]) (N := ["numbers"]) (O := []) (O' := []) (t := t_fours_sums K cl) (fs := f_P_sums_fours) F sc_fours_sums (fun cdv B out z H E hg hr => ?_) (fun pot => ?_)
  · have nd := sc_fours_sums.nd
    have hg0 : (B.deeper (envOfC y (defScope s_fours_sums) z.heap.objs.size f cdv)).guards = some [] := hg
    have hu64 := hr.units
    exact (pss_cons (ps_expr (pe_go F_want_eights (hr.mono (by decide)) hg0 rfl (pa_cons (pe_go F_want_row_numbers (hr.mono (by decide)) hg0 rfl (pa_cons (pv 0) pa_nil) (fun _ _ _ _ _ _ _ us hl => match us, hl with | [_], _ => rfl)) pa_nil) (fun _ _ _ _ _ _ _ us hl => match us, hl with | [_], _ => rfl))) (pss_one (ps_ret (pe_go F_solved (hr.mono (by decide)) hg0 rfl (pa_cons (pv 0) (pa_cons (pe_gtup rfl gt_FOURS_FIRST) (pa_cons (pe_gtup rfl gt_FOURS_SECOND) pa_nil))) (fun _ _ _ _ _ _ _ us hl => match us, hl with | [_, _, _], _ => rfl)))))
  · exact (ss_seq (ss_drop (sim_go (an_cons (sim_go (an_cons (sim_var 0) an_nil)) an_nil)))
  (ss_ret (sim_go (an_cons (sim_var 0) (an_cons (sim_gtup gt_FOURS_FIRST) (an_cons (sim_gtup gt_FOURS_SECOND) an_nil))))))
theorem fun_fours_sums {x y : Str} (D : DefAt K mg x y s_fours_sums) (F_want_eights : Fun P w K mg base 1 "want_eights" s_want_eights ["places"] (SpD K cl Option false 1 P_sums_want_eights)) (F_want_row_numbers : Fun P w K mg base 3 "want_row_numbers" s_want_row_numbers ["value"] (SpD K cl Option false 1 P_sums_want_row_numbers)) (F_solved : Fun P w K mg base 4 "solved" s_solved ["numbers", "first", "second"] (SpD K cl Option false 3 P_sums_solved)) (gt_FOURS_FIRST : GTup K mg "FOURS_FIRST" [1, 0, 0, 0, 14, 0, 0, 0, 1]) (gt_FOURS_SECOND : GTup K mg "FOURS_SECOND" [0, 0, 0, 0, 1, 0, 0, 0, -4, 0, 0, 0, 6, 0, 0, 0, -4, 0, 0, 0, 1, 0, 0, 0, 0]) : Fun P w K mg base 5 x s_fours_sums ["numbers"] (SpD K cl Option false 1 P_sums_fours) := let ⟨f, fd, F, hm⟩ := D; ⟨y, f, fd, F, g_fours_sums F F_want_eights F_want_row_numbers F_solved gt_FOURS_FIRST gt_FOURS_SECOND, hm⟩
def tx_fours_sums (K : PySem.W.Frag) (cl : Cl) : WX → TS := fun W => (tSeq (tDrop (tGoX (SpE K cl Option false 1 P_sums_want_eights X_sums_want_eights) (WE W) (tCons (tGoX (SpE K cl Option false 1 P_sums_want_row_numbers X_sums_want_row_numbers) (WE W) (tCons (tVar 0) tNil)) tNil))) (tRet (tGo (SpD K cl Option false 3 P_sums_solved) (tCons (tVar 0) (tCons (tC (.ref (He.ga K "FOURS_FIRST"))) (tCons (tC (.ref (He.ga K "FOURS_SECOND"))) tNil))))))
theorem gx_fours_sums {f : Addr} {fd : FuncData} {y : Str} (F : FunD K y y (defArgs s_fours_sums) (defBody s_fours_sums) (defScope s_fours_sums) [] [] f fd) (Y_want_eights : FunX P w K mg base 1 "want_eights" s_want_eights ["places"] (SpE K cl Option false 1 P_sums_want_eights X_sums_want_eights)) (Y_want_row_numbers : FunX P w K mg base 3 "want_row_numbers" s_want_row_numbers ["value"] (SpE K cl Option false 1 P_sums_want_row_numbers X_sums_want_row_numbers)) (F_solved : Fun P w K mg base 4 "solved" s_solved ["numbers", "first", "second"] (SpD K cl Option false 3 P_sums_solved)) (gt_FOURS_FIRST : GTup K mg "FOURS_FIRST" [1, 0, 0, 0, 14, 0, 0, 0, 1]) (gt_FOURS_SECOND : GTup K mg "FOURS_SECOND" [0, 0, 0, 0, 1, 0, 0, 0, -4, 0, 0, 0, 6, 0, 0, 0, -4, 0, 0, 0, 1, 0, 0, 0, 0]) : FnG P w K mg base (L2.CX P w) 5 f fd ["numbers"] (SpX K cl 1 X_sums_fours) := by
  refine fng_defX (st := s_fours_sums) (ps := ["numbers"]) (N := ["numbers"]) (O := []) (t := tx_fours_sums K cl) (fx := f_X_sums_fours) F sc_fours_sums (fun cdv B out z H E hg hr => ?_) (fun pot => ?_)
  · have nd := sc_fours_sums.nd
    have hg0 : (B.deeper (envOfC y (defScope s_fours_sums) z.heap.objs.size f cdv)).guards = some [] := hg
    have hu64 := hr.units
    exact (pss_cons (ps_expr (pe_goX Y_want_eights (hr.mono (by decide)) hg0 (takes_of rfl rfl rfl rfl) rfl (pa_cons (pe_goX Y_want_row_numbers (hr.mono (by decide)) hg0 (takes_of rfl rfl rfl rfl) rfl (pa_cons (pv 0) pa_nil) (fun _ _ _ _ _ _ _ us hl => match us, hl with | [_], _ => rfl)) pa_nil) (fun _ _ _ _ _ _ _ us hl => match us, hl with | [_], _ => rfl))) (pss_one (ps_ret (pe_go F_solved (hr.mono (by decide)) hg0 rfl (pa_cons (pv 0) (pa_cons (pe_gtup rfl gt_FOURS_FIRST) (pa_cons (pe_gtup rfl gt_FOURS_SECOND) pa_nil))) (fun _ _ _ _ _ _ _ us hl => match us, hl with | [_, _, _], _ => rfl)))))
  · exact (xs_fst (t2 := fun W => (tRet (tGo (SpD K cl Option false 3 P_sums_solved) (tCons (tVar 0) (tCons (tC (.ref (He.ga K "FOURS_FIRST"))) (tCons (tC (.ref (He.ga K "FOURS_SECOND"))) tNil)))))) (xs_drop (xe_both (xe_args (xa_cons (fun W => (sim_goE (an_cons (sim_var 0) an_nil))) (xe_goE2 (fun W => (an_cons (sim_var 0) an_nil))) xa_nil)) (xe_goE2 (fun W => (an_cons (sim_goE (an_cons (sim_var 0) an_nil)) an_nil))))))
theorem fune_fours_sums {x y : Str} (D : DefAt K mg x y s_fours_sums) (F_want_eights : Fun P w K mg base 1 "want_eights" s_want_eights ["places"] (SpD K cl Option false 1 P_sums_want_eights)) (F_want_row_numbers : Fun P w K mg base 3 "want_row_numbers" s_want_row_numbers ["value"] (SpD K cl Option false 1 P_sums_want_row_numbers)) (F_solved : Fun P w K mg base 4 "solved" s_solved ["numbers", "first", "second"] (SpD K cl Option false 3 P_sums_solved)) (gt_FOURS_FIRST : GTup K mg "FOURS_FIRST" [1, 0, 0, 0, 14, 0, 0, 0, 1]) (gt_FOURS_SECOND : GTup K mg "FOURS_SECOND" [0, 0, 0, 0, 1, 0, 0, 0, -4, 0, 0, 0, 6, 0, 0, 0, -4, 0, 0, 0, 1, 0, 0, 0, 0]) (Y_want_eights : FunX P w K mg base 1 "want_eights" s_want_eights ["places"] (SpE K cl Option false 1 P_sums_want_eights X_sums_want_eights)) (Y_want_row_numbers : FunX P w K mg base 3 "want_row_numbers" s_want_row_numbers ["value"] (SpE K cl Option false 1 P_sums_want_row_numbers X_sums_want_row_numbers)) : FunX P w K mg base 5 x s_fours_sums ["numbers"] (SpE K cl Option false 1 P_sums_fours X_sums_fours) := let ⟨f, fd, F, hm⟩ := D; funE F hm (g_fours_sums F F_want_eights F_want_row_numbers F_solved gt_FOURS_FIRST gt_FOURS_SECOND) (gx_fours_sums F Y_want_eights Y_want_row_numbers F_solved gt_FOURS_FIRST gt_FOURS_SECOND)
def t_fours_row_of (K : PySem.W.Frag) (cl : Cl) : TS := (tSeq (tDrop (tGo (SpD K cl Option false 1 P_sums_want_even_places) (tCons (tVar 0) tNil))) (tSeq (tDrop (tGo (SpD K cl Option false 2 P_sums_want_sum_numbers) (tCons (tVar 1) (tCons (tOp (rAddU K) (tOp (rDivI) (tVar 0) (tC (.int 24))) (tC (.int 1))) tNil)))) (tSeq (tDrop (tGo (SpD K cl Option false 1 P_sums_want_eights) (tCons (tVar 0) tNil))) (tRet (tGo (SpD K cl Option false 4 P_sums_added) (tCons (tVar 0) (tCons (tVar 1) (tCons (tC (.ref (He.ga K "FOURS_FIRST"))) (tCons (tC (.ref (He.ga K "FOURS_SECOND"))) tNil)))))))))
theorem g_fours_row_of {f : Addr} {fd : FuncData} {y : Str} (F : FunD K y y (defArgs s_fours_row_of) (defBody s_fours_row_of) (defScope s_fours_row_of) [] [] f fd) (F_want_even_places : Fun P w K mg base 3 "want_even_places" s_want_even_places ["value"] (SpD K cl Option false 1 P_sums_want_even_places)) (F_want_sum_numbers : Fun P w K mg base 3 "want_sum_numbers" s_want_sum_numbers ["value", "many"] (SpD K cl Option false 2 P_sums_want_sum_numbers)) (gc_THREES : ∃ t, mg "THREES" = some (.int 24 t)) (F_want_eights : Fun P w K mg base 1 "want_eights" s_want_eights ["places"] (SpD K cl Option false 1 P_sums_want_eights)) (F_added : Fun P w K mg base 4 "added" s_added ["places", "numbers", "first", "second"] (SpD K cl Option false 4 P_sums_added)) (gt_FOURS_FIRST : GTup K mg "FOURS_FIRST" [1, 0, 0, 0, 14, 0, 0, 0, 1]) (gt_FOURS_SECOND : GTup K mg "FOURS_SECOND" [0, 0, 0, 0, 1, 0, 0, 0, -4, 0, 0, 0, 6, 0, 0, 0, -4, 0, 0, 0, 1, 0, 0, 0, 0]) : FnG P w K mg base CX0 5 f fd ["places", "numbers"] (SpD K cl Option false 2 P_sums_fours_row_of) := by
  refine fng_def (m := Option) (κ := false) (st := s_fours_row_of) (ps := ["places", "numbers"]) (N := ["places", "numbers"]) (O := []) (O' := []) (t := t_fours_row_of K cl) (fs := f_P_sums_fours_row_of) F sc_fours_row_of (fun cdv B out z H E hg hr => ?_) (fun pot => ?_)
  · have nd := sc_fours_row_of.nd
    have hg0 : (B.deeper (envOfC y (defScope s_fours_row_of) z.heap.objs.size f cdv)).guards = some [] := hg
    have hu64 := hr.units
    exact (pss_cons (ps_expr (pe_go F_want_even_places (hr.mono (by decide)) hg0 rfl (pa_cons (pv 0) pa_nil) (fun _ _ _ _ _ _ _ us hl => match us, hl with | [_], _ => rfl))) (pss_cons (ps_expr (pe_go F_want_sum_numbers (hr.mono (by decide)) hg0 rfl (pa_cons (pv 1) (pa_cons (pe_op op_addU (pe_op op_fdivW (pv 0) (pe_gc rfl (gc_of gc_THREES))) pe_int) pa_nil)) (fun _ _ _ _ _ _ _ us hl => match us, hl with | [_, _], _ => rfl))) (pss_cons (ps_expr (pe_go F_want_eights (hr.mono (by decide)) hg0 rfl (pa_cons (pv 0) pa_nil) (fun _ _ _ _ _ _ _ us hl => match us, hl with | [_], _ => rfl))) (pss_one (ps_ret (pe_go F_added (hr.mono (by decide)) hg0 rfl (pa_cons (pv 0) (pa_cons (pv 1) (pa_cons (pe_gtup rfl gt_FOURS_FIRST) (pa_cons (pe_gtup rfl gt_FOURS_SECOND) pa_nil)))) (fun _ _ _ _ _ _ _ us hl => match us, hl with | [_, _, _, _], _ => rfl)))))))
  · exact (ss_seq (ss_drop (sim_go (an_cons (sim_var 0) an_nil)))
  (ss_seq (ss_drop (sim_go (an_cons (sim_var 1) (an_cons (sim_op os_add (sim_op os_div (sim_var 0) (sim_int 24)) (sim_int 1)) an_nil))))
  (ss_seq (ss_drop (sim_go (an_cons (sim_var 0) an_nil)))
  (ss_ret (sim_go (an_cons (sim_var 0) (an_cons (sim_var 1) (an_cons (sim_gtup gt_FOURS_FIRST) (an_cons (sim_gtup gt_FOURS_SECOND) an_nil)))))))))
theorem fun_fours_row_of {x y : Str} (D : DefAt K mg x y s_fours_row_of) (F_want_even_places : Fun P w K mg base 3 "want_even_places" s_want_even_places ["value"] (SpD K cl Option false 1 P_sums_want_even_places)) (F_want_sum_numbers : Fun P w K mg base 3 "want_sum_numbers" s_want_sum_numbers ["value", "many"] (SpD K cl Option false 2 P_sums_want_sum_numbers)) (gc_THREES : ∃ t, mg "THREES" = some (.int 24 t)) (F_want_eights : Fun P w K mg base 1 "want_eights" s_want_eights ["places"] (SpD K cl Option false 1 P_sums_want_eights)) (F_added : Fun P w K mg base 4 "added" s_added ["places", "numbers", "first", "second"] (SpD K cl Option false 4 P_sums_added)) (gt_FOURS_FIRST : GTup K mg "FOURS_FIRST" [1, 0, 0, 0, 14, 0, 0, 0, 1]) (gt_FOURS_SECOND : GTup K mg "FOURS_SECOND" [0, 0, 0, 0, 1, 0, 0, 0, -4, 0, 0, 0, 6, 0, 0, 0, -4, 0, 0, 0, 1, 0, 0, 0, 0]) : Fun P w K mg base 5 x s_fours_row_of ["places", "numbers"] (SpD K cl Option false 2 P_sums_fours_row_of) := let ⟨f, fd, F, hm⟩ := D; ⟨y, f, fd, F, g_fours_row_of F F_want_even_places F_want_sum_numbers gc_THREES F_want_eights F_added gt_FOURS_FIRST gt_FOURS_SECOND, hm⟩
def tx_fours_row_of (K : PySem.W.Frag) (cl : Cl) : WX → TS := fun W => (tSeq (tDrop (tGoX (SpE K cl Option false 1 P_sums_want_even_places X_sums_want_even_places) (WE W) (tCons (tVar 0) tNil))) (tSeq (tDrop (tGoX (SpE K cl Option false 2 P_sums_want_sum_numbers X_sums_want_sum_numbers) (WE W) (tCons (tVar 1) (tCons (tOp (rAddU K) (tOp (rDivI) (tVar 0) (tC (.int 24))) (tC (.int 1))) tNil)))) (tSeq (tDrop (tGoX (SpE K cl Option false 1 P_sums_want_eights X_sums_want_eights) (WE W) (tCons (tVar 0) tNil))) (tRet (tGo (SpD K cl Option false 4 P_sums_added) (tCons (tVar 0) (tCons (tVar 1) (tCons (tC (.ref (He.ga K "FOURS_FIRST"))) (tCons (tC (.ref (He.ga K "FOURS_SECOND"))) tNil)))))))))
theorem gx_fours_row_of {f : Addr} {fd : FuncData} {y : Str} (F : FunD K y y (defArgs s_fours_row_of) (defBody s_fours_row_of) (defScope s_fours_row_of) [] [] f fd) (Y_want_even_places : FunX P w K mg base 3 "want_even_places" s_want_even_places ["value"] (SpE K cl Option false 1 P_sums_want_even_places X_sums_want_even_places)) (Y_want_sum_numbers : FunX P w K mg base 3 "want_sum_numbers" s_want_sum_numbers ["value", "many"] (SpE K cl Option false 2 P_sums_want_sum_numbers X_sums_want_sum_numbers)) (gc_THREES : ∃ t, mg "THREES" = some (.int 24 t)) (Y_want_eights : FunX P w K mg base 1 "want_eights" s_want_eights ["places"] (SpE K cl Option false 1 P_sums_want_eights X_sums_want_eights)) (F_added : Fun P w K mg base 4 "added" s_added ["places", "numbers", "first", "second"] (SpD K cl Option false 4 P_sums_added)) (gt_FOURS_FIRST : GTup K mg "FOURS_FIRST" [1, 0, 0, 0, 14, 0, 0, 0, 1]) (gt_FOURS_SECOND : GTup K mg "FOURS_SECOND" [0, 0, 0, 0, 1, 0, 0, 0, -4, 0, 0, 0, 6, 0, 0, 0, -4, 0, 0, 0, 1, 0, 0, 0, 0]) : FnG P w K mg base (L2.CX P w) 5 f fd ["places", "numbers"] (SpX K cl 2 X_sums_fours_row_of) := by
  refine fng_defX (st := s_fours_row_of) (ps := ["places", "numbers"]) (N := ["places", "numbers"]) (O := []) (t := tx_fours_row_of K cl) (fx := f_X_sums_fours_row_of) F sc_fours_row_of (fun cdv B out z H E hg hr => ?_) (fun pot => ?_)
  · have nd := sc_fours_row_of.nd
    have hg0 : (B.deeper (envOfC y (defScope s_fours_row_of) z.heap.objs.size f cdv)).guards = some [] := hg
    have hu64 := hr.units
    exact (pss_cons (ps_expr (pe_goX Y_want_even_places (hr.mono (by decide)) hg0 (takes_of rfl rfl rfl rfl) rfl (pa_cons (pv 0) pa_nil) (fun _ _ _ _ _ _ _ us hl => match us, hl with | [_], _ => rfl))) (pss_cons (ps_expr (pe_goX Y_want_sum_numbers (hr.mono (by decide)) hg0 (takes_of rfl rfl rfl rfl) rfl (pa_cons (pv 1) (pa_cons (pe_op op_addU (pe_op op_fdivW (pv 0) (pe_gc rfl (gc_of gc_THREES))) pe_int) pa_nil)) (fun _ _ _ _ _ _ _ us hl => match us, hl with | [_, _], _ => rfl))) (pss_cons (ps_expr (pe_goX Y_want_eights (hr.mono (by decide)) hg0 (takes_of rfl rfl rfl rfl) rfl (pa_cons (pv 0) pa_nil) (fun _ _ _ _ _ _ _ us hl => match us, hl with | [_], _ => rfl))) (pss_one (ps_ret (pe_go F_added (hr.mono (by decide)) hg0 rfl (pa_cons (pv 0) (pa_cons (pv 1) (pa_cons (pe_gtup rfl gt_FOURS_FIRST) (pa_cons (pe_gtup rfl gt_FOURS_SECOND) pa_nil)))) (fun _ _ _ _ _ _ _ us hl => match us, hl with | [_, _, _, _], _ => rfl)))))))
  · exact (xs_two2 (κ := false) (fun W => (ss_drop (sim_goE (an_cons (sim_var 0) an_nil)))) (xs_drop (xe_goE2 (fun W => (an_cons (sim_var 0) an_nil))))
  (xs_two2 (κ := false) (fun W => (ss_drop (sim_goE (an_cons (sim_var 1) (an_cons (sim_op os_add (sim_op os_div (sim_var 0) (sim_int 24)) (sim_int 1)) an_nil))))) (xs_drop (xe_goE2 (fun W => (an_cons (sim_var 1) (an_cons (sim_op os_add (sim_op os_div (sim_var 0) (sim_int 24)) (sim_int 1)) an_nil)))))
  (xs_fst (t2 := fun W => (tRet (tGo (SpD K cl Option false 4 P_sums_added) (tCons (tVar 0) (tCons (tVar 1) (tCons (tC (.ref (He.ga K "FOURS_FIRST"))) (tCons (tC (.ref (He.ga K "FOURS_SECOND"))) tNil))))))) (xs_drop (xe_goE2 (fun W => (an_cons (sim_var 0) an_nil)))))))
theorem fune_fours_row_of {x y : Str} (D : DefAt K mg x y s_fours_row_of) (F_want_even_places : Fun P w K mg base 3 "want_even_places" s_want_even_places ["value"] (SpD K cl Option false 1 P_sums_want_even_places)) (F_want_sum_numbers : Fun P w K mg base 3 "want_sum_numbers" s_want_sum_numbers ["value", "many"] (SpD K cl Option false 2 P_sums_want_sum_numbers)) (gc_THREES : ∃ t, mg "THREES" = some (.int 24 t)) (F_want_eights : Fun P w K mg base 1 "want_eights" s_want_eights ["places"] (SpD K cl Option false 1 P_sums_want_eights)) (F_added : Fun P w K mg base 4 "added" s_added ["places", "numbers", "first", "second"] (SpD K cl Option false 4 P_sums_added)) (gt_FOURS_FIRST : GTup K mg "FOURS_FIRST" [1, 0, 0, 0, 14, 0, 0, 0, 1]) (gt_FOURS_SECOND : GTup K mg "FOURS_SECOND" [0, 0, 0, 0, 1, 0, 0, 0, -4, 0, 0, 0, 6, 0, 0, 0, -4, 0, 0, 0, 1, 0, 0, 0, 0]) (Y_want_even_places : FunX P w K mg base 3 "want_even_places" s_want_even_places ["value"] (SpE K cl Option false 1 P_sums_want_even_places X_sums_want_even_places)) (Y_want_sum_numbers : FunX P w K mg base 3 "want_sum_numbers" s_want_sum_numbers ["value", "many"] (SpE K cl Option false 2 P_sums_want_sum_numbers X_sums_want_sum_numbers)) (Y_want_eights : FunX P w K mg base 1 "want_eights" s_want_eights ["places"] (SpE K cl Option false 1 P_sums_want_eights X_sums_want_eights)) : FunX P w K mg base 5 x s_fours_row_of ["places", "numbers"] (SpE K cl Option false 2 P_sums_fours_row_of X_sums_fours_row_of) := let ⟨f, fd, F, hm⟩ := D; funE F hm (g_fours_row_of F F_want_even_places F_want_sum_numbers gc_THREES F_want_eights F_added gt_FOURS_FIRST gt_FOURS_SECOND) (gx_fours_row_of F Y_want_even_places Y_want_sum_numbers gc_THREES Y_want_eights F_added gt_FOURS_FIRST gt_FOURS_SECOND)
def t_twos (K : PySem.W.Frag) (cl : Cl) : TS := (tSeq (tAsg (tC (.int 1)) (gName 1)) (tSeq (tFor (iRng1 (tCons (tVar 0) tNil)) (gName 2) (tAsg (tOp (rMulU) (tC (.int 2)) (tVar 1)) (gName 1))) (tRet (tVar 1))))
theorem g_twos {f : Addr} {fd : FuncData} {y : Str} (F : FunD K y y (defArgs s_twos) (defBody s_twos) (defScope s_twos) [] [] f fd) (fr_range : mg "range" = none) : FnG P w K mg base CX0 1 f fd ["many"] (SpD K cl Option false 1 P_limits_twos) := by
  refine fng_def (m := Option) (κ := false) (st := s_twos) (ps := ["many"]) (N := ["many", "found", "turn"]) (O := []) (O' := []) (t := t_twos K cl) (fs := f_P_limits_twos) F sc_twos (fun cdv B out z H E hg hr => ?_) (fun pot => ?_)
  · have nd := sc_twos.nd
    have hg0 : (B.deeper (envOfC y (defScope s_twos) z.heap.objs.size f cdv)).guards = some [] := hg
    have hu64 := hr.units
    exact (pss_cons (ps_set (i := 1) nd rfl (Or.inl rfl) pe_int) (pss_cons (ps_for PassesOwn.never rfl (pi_range1 rfl fr_range (pa_cons (pv 0) pa_nil)) (pg_name (i := 2) nd rfl (Or.inl rfl)) (pss_one (ps_set (i := 1) nd rfl (Or.inl rfl) (pe_op op_mulU pe_int (pv 1))))) (pss_one (ps_ret (pv 1)))))
  · exact (ss_seq (ss_set 1 (sim_int 1))
  (ss_seq (ss_for (si_rg1 (args_cons (sim_var 0) args_nil)) (tg_name 2) (ss_set 1 (sim_op os_mul (sim_int 2) (sim_var 1))))
  (ss_ret (sim_var 1))))
theorem fun_twos {x y : Str} (D : DefAt K mg x y s_twos) (fr_range : mg "range" = none) : Fun P w K mg base 1 x s_twos ["many"] (SpD K cl Option false 1 P_limits_twos) := let ⟨f, fd, F, hm⟩ := D; ⟨y, f, fd, F, g_twos F fr_range, hm⟩
def t_shadow_by (K : PySem.W.Frag) (cl : Cl) : TS := (tSeq (tPar 3 4 (tCons (tOp (rDivI) (tVar 0) (tC (.int 2))) (tCons (tOp (rDivI) (tVar 0) (tC (.int 8))) tNil))) (tSeq (tAsg (tCB rMax2 (tCons (tC (.int 0)) (tCons (tOp (rSubI) (tOp (rMulU) (tC (.int 6)) (tVar 4)) (tVar 3)) tNil))) (gName 2)) (tSeq (tAsg (tTup (tCons (tOp rRep (tLst (tCons (tC (.int 0)) tNil)) (tOp (rAddU K) (tVar 0) (tC (.int 1)))) (tCons (tGo (SpD K cl Option false 1 P_limits_twos) (tCons (tVar 2) tNil)) (tCons (tC (.int 1)) tNil)))) (gTup K 3 (gNames [5, 6, 7]))) (tSeq (tFor (iEnumU K (tVar 1)) (gTup K 2 (gNames [8, 9])) (tSeq (tPar 10 11 (tCons (tOp (rMulU) (tOp (rMulU) (tVar 7) (tVar 9)) (tGo (SpD K cl Option false 1 P_limits_twos) (tCons (tOp (rAddU K) (tOp (rSubI) (tVar 3) (tOp (rMulU) (tC (.int 6)) (tVar 8))) (tVar 2)) tNil))) (tCons (tOp (rSubI) (tVar 3) (tOp (rMulU) (tC (.int 4)) (tVar 8))) tNil))) (tSeq (tFor (iEnumU K (tGo (SpD K cl Option false 2 P_sums_power_of) (tCons (tC (.ref (He.ga K "SQUARE"))) (tCons (tVar 8) tNil)))) (gTup K 2 (gNames [12, 13])) (tAsg (tOp (rAddU K) (tOp (rIx K) (tVar 5) (tOp (rAddU K) (tVar 11) (tVar 12))) (tOp (rMulU) (tVar 10) (tVar 13))) (gSub (tVar 5) (tOp (rAddU K) (tVar 11) (tVar 12)) rSetL))) (tAsg (tOp (rSubI) (tC (.int 0)) (tVar 7)) (gName 7))))) (tSeq (tIfS (tB (tCB (rAny K) (tCons (tLc (iSeq K (tVar 5)) (gName 9) tYes (tOp (rNeU K) (tOp (rMulU) (tOp (rDivI) (tVar 9) (tVar 6)) (tVar 6)) (tVar 9)) [9]) tNil))) (tRet (tC .non)) tNext) (tRet (tLc (iSeq K (tVar 5)) (gName 9) tYes (tOp (rDivI) (tVar 9) (tVar 6)) [9])))))))
theorem g_shadow_by {f : Addr} {fd : FuncData} {y : Str} (F : FunD K y y (defArgs s_shadow_by) (defBody s_shadow_by) (defScope s_shadow_by) [] [] f fd) (gc_EIGHT : ∃ t, mg "EIGHT" = some (.int 8 t)) (fr_max : mg "max" = none) (gc_STEP : ∃ t, mg "STEP" = some (.int 6 t)) (F_twos : Fun P w K mg base 1 "twos" s_twos ["many"] (SpD K cl Option false 1 P_limits_twos)) (fr_enumerate : mg "enumerate" = none) (F_power_of : Fun P w K mg base 2 "power_of" s_power_of ["poly", "many"] (SpD K cl Option false 2 P_sums_power_of)) (gt_SQUARE : GTup K mg "SQUARE" [1, 0, 0, 0, -2, 0, 0, 0, 1]) (fr_any : mg "any" = none) : FnG P w K mg base CX0 3 f fd ["places", "numbers"] (SpD K cl Option false 2 P_limits_shadow_by) := by
  refine fng_def (m := Option) (κ := false) (st := s_shadow_by) (ps := ["places", "numbers"]) (N := ["places", "numbers", "below", "half", "last", "found", "shared", "sign", "many", "number", "factor", "begin", "place", "part"]) (O := [5]) (O' := []) (t := t_shadow_by K cl) (fs := f_P_limits_shadow_by) F sc_shadow_by (fun cdv B out z H E hg hr => ?_) (fun pot => ?_)
  · have nd := sc_shadow_by.nd
    have hg0 : (B.deeper (envOfC y (defScope s_shadow_by) z.heap.objs.size f cdv)).guards = some [] := hg
    have hu64 := hr.units
    exact (pss_cons (ps_par (i := 3) (j := 4) rfl nd rfl rfl (by decide) rfl rfl (pa_cons (pe_op op_fdivW (pv 0) pe_int) (pa_cons (pe_op op_fdivW (pv 0) (pe_gc rfl (gc_of gc_EIGHT))) pa_nil)) rfl) (pss_cons (ps_set (i := 2) nd rfl (Or.inl rfl) (pe_callB (call_max2 rfl) rfl fr_max (by decide +kernel) (pa_cons pe_int (pa_cons (pe_op op_sub (pe_op op_mulU (pe_gc rfl (gc_of gc_STEP)) (pv 4)) (pv 3)) pa_nil)))) (pss_cons (ps_asg (pe_tup (pa_cons (pe_op op_rep (pe_lst (pa_cons pe_int pa_nil)) (pe_op op_addU (pv 0) pe_int)) (pa_cons (pe_go F_twos (hr.mono (by decide)) hg0 rfl (pa_cons (pv 2) pa_nil) (fun _ _ _ _ _ _ _ us hl => match us, hl with | [_], _ => rfl)) (pa_cons pe_int pa_nil)))) (pg_tup rfl (pgs_cons (pg_name (i := 5) nd rfl (Or.inl rfl)) (pgs_cons (pg_name (i := 6) nd rfl (Or.inr rfl)) (pgs_cons (pg_name (i := 7) nd rfl (Or.inl rfl)) pgs_nil))))) (pss_cons (ps_for PassesOwn.never rfl (pi_enumU rfl fr_enumerate (pv 1)) (pg_tup rfl (pgs_cons (pg_name (i := 8) nd rfl (Or.inl rfl)) (pgs_cons (pg_name (i := 9) nd rfl (Or.inl rfl)) pgs_nil))) (pss_cons (ps_par (i := 10) (j := 11) rfl nd rfl rfl (by decide) rfl rfl (pa_cons (pe_op op_mulU (pe_op op_mulU (pv 7) (pv 9)) (pe_go F_twos (hr.mono (by decide)) hg0 rfl (pa_cons (pe_op op_addU (pe_op op_sub (pv 3) (pe_op op_mulU (pe_gc rfl (gc_of gc_STEP)) (pv 8))) (pv 2)) pa_nil) (fun _ _ _ _ _ _ _ us hl => match us, hl with | [_], _ => rfl))) (pa_cons (pe_op op_sub (pv 3) (pe_op op_mulU pe_int (pv 8))) pa_nil)) rfl) (pss_cons (ps_for PassesOwn.never rfl (pi_enumU rfl fr_enumerate (pe_go F_power_of (hr.mono (by decide)) hg0 rfl (pa_cons (pe_gtup rfl gt_SQUARE) (pa_cons (pv 8) pa_nil)) (fun _ _ _ _ _ _ _ us hl => match us, hl with | [_, _], _ => rfl))) (pg_tup rfl (pgs_cons (pg_name (i := 12) nd rfl (Or.inl rfl)) (pgs_cons (pg_name (i := 13) nd rfl (Or.inl rfl)) pgs_nil))) (pss_one (ps_asg (pe_op op_addU (pe_ix ix_seq (pv 5) (pe_op op_addU (pv 11) (pv 12)) (fun _ _ => rfl)) (pe_op op_mulU (pv 10) (pv 13))) (pg_sub (pv 5) (pe_op op_addU (pv 11) (pv 12)) set_list)))) (pss_one (ps_set (i := 7) nd rfl (Or.inl rfl) (pe_op op_sub pe_int (pv 7))))))) (pss_cons (ps_if (pt_val (pe_callB (cr_any rfl) rfl fr_any (by decide +kernel) (pa_cons (pe_lc (own := [("number", 9)]) (g := (gName 9)) (tt := tYes) (te := (tOp (rNeU K) (tOp (rMulU) (tOp (rDivI) (tVar 9) (tVar 6)) (tVar 6)) (tVar 9))) rfl nd (pi_seq (pv 5)) (blkOk_by (N := ["places", "numbers", "below", "half", "last", "found", "shared", "sign", "many", "number", "factor", "begin", "place", "part"]) (sc := defScope s_shadow_by) (by decide +kernel)) (fun _ _ _ _ _ => (pg_name (i := 9) nd rfl (Or.inl rfl))) (fun _ _ _ _ _ => pts_nil) (fun _ _ _ _ _ => (pe_cmpR (op_neU hu64) (pe_op op_mulU (pe_op op_fdivW (pv 9) (pv 6)) (pv 6)) (pv 9) (nomark _)))) pa_nil))) (pss_one (ps_ret pe_non)) pss_nil) (pss_one (ps_ret (pe_lc (own := [("number", 9)]) (g := (gName 9)) (tt := tYes) (te := (tOp (rDivI) (tVar 9) (tVar 6))) rfl nd (pi_seq (pv 5)) (blkOk_by (N := ["places", "numbers", "below", "half", "last", "found", "shared", "sign", "many", "number", "factor", "begin", "place", "part"]) (sc := defScope s_shadow_by) (by decide +kernel)) (fun _ _ _ _ _ => (pg_name (i := 9) nd rfl (Or.inl rfl))) (fun _ _ _ _ _ => pts_nil) (fun _ _ _ _ _ => (pe_op op_fdivW (pv 9) (pv 6)))))))))))
  · exact (ss_seq (ss_par (ak_sh (sim_op os_div (sim_var 0) (sim_int 2)) (ak_sh (sim_op os_div (sim_var 0) (sim_int 8)) ak_nil)))
  (ss_seq (ss_set 2 (sim_cb cs_max2 (args_cons (sim_up (sim_int 0)) (args_cons (sim_up (sim_op os_sub (sim_op os_mul (sim_int 6) (sim_var 4)) (sim_var 3))) args_nil))))
  (ss_seq (ss_tupn (is := [5, 6, 7]) (ak_ow (simL_op os_rep (sim_new (simL_lst (args_cons (sim_int 0) args_nil))) (sim_op os_add (sim_var 0) (sim_int 1))) (ak_sh (sim_go (an_cons (sim_var 2) an_nil)) (ak_sh (sim_int 1) ak_nil))))
  (ss_seq (ss_for (si_enumU (sim_var 1)) (tg_tup [8, 9]) (ss_seq (ss_par (ak_sh (sim_op os_mul (sim_op os_mul (sim_var 7) (sim_var 9)) (sim_go (an_cons (sim_op os_add (sim_op os_sub (sim_var 3) (sim_op os_mul (sim_int 6) (sim_var 8))) (sim_var 2)) an_nil))) (ak_sh (sim_op os_sub (sim_var 3) (sim_op os_mul (sim_int 4) (sim_var 8))) ak_nil)))
  (ss_seq (ss_for (si_enumU (sim_go (an_cons (sim_gtup gt_SQUARE) (an_cons (sim_var 8) an_nil)))) (tg_tup [12, 13]) (ss_put 5 (sim_op os_add (sim_var 11) (sim_var 12)) (sim_op os_add (sim_op os_ix (sim_own 5) (sim_op os_add (sim_var 11) (sim_var 12))) (sim_op os_mul (sim_var 10) (sim_var 13)))))
  (ss_set 7 (sim_op os_sub (sim_int 0) (sim_var 7))))))
  (ss_free (O1 := []) [5] (ss_seq (ss_if (tst_B (sim_cb cs_any (args_cons (sim_up (sim_new (simL_lc (vs := [9]) (si_seq (sim_var 5)) (tg_name 9) tst_yes (sim_op os_ne (sim_op os_mul (sim_op os_div (sim_var 9) (sim_var 6)) (sim_var 6)) (sim_var 9))))) args_nil))) (ss_ret sim_non) ss_next)
  (ss_ret (sim_new (simL_lc (vs := [9]) (si_seq (sim_var 5)) (tg_name 9) tst_yes (sim_op os_div (sim_var 9) (sim_var 6)))))))))))
theorem fun_shadow_by {x y : Str} (D : DefAt K mg x y s_shadow_by) (gc_EIGHT : ∃ t, mg "EIGHT" = some (.int 8 t)) (fr_max : mg "max" = none) (gc_STEP : ∃ t, mg "STEP" = some (.int 6 t)) (F_twos : Fun P w K mg base 1 "twos" s_twos ["many"] (SpD K cl Option false 1 P_limits_twos)) (fr_enumerate : mg "enumerate" = none) (F_power_of : Fun P w K mg base 2 "power_of" s_power_of ["poly", "many"] (SpD K cl Option false 2 P_sums_power_of)) (gt_SQUARE : GTup K mg "SQUARE" [1, 0, 0, 0, -2, 0, 0, 0, 1]) (fr_any : mg "any" = none) : Fun P w K mg base 3 x s_shadow_by ["places", "numbers"] (SpD K cl Option false 2 P_limits_shadow_by) := let ⟨f, fd, F, hm⟩ := D; ⟨y, f, fd, F, g_shadow_by F gc_EIGHT fr_max gc_STEP F_twos fr_enumerate F_power_of gt_SQUARE fr_any, hm⟩
def t_shadow_of (K : PySem.W.Frag) (cl : Cl) : TS := (tSeq (tDrop (tGo (SpD K cl Option false 1 P_sums_want_even_places) (tCons (tVar 0) tNil))) (tSeq (tDrop (tGo (SpD K cl Option false 2 P_sums_want_sum_numbers) (tCons (tVar 1) (tCons (tOp (rAddU K) (tOp (rDivI) (tVar 0) (tC (.int 8))) (tC (.int 1))) tNil)))) (tRet (tGo (SpD K cl Option false 2 P_limits_shadow_by) (tCons (tVar 0) (tCons (tVar 1) tNil))))))
theorem g_shadow_of {f : Addr} {fd : FuncData} {y : Str} (F : FunD K y y (defArgs s_shadow_of) (defBody s_shadow_of) (defScope s_shadow_of) [] [] f fd) (F_want_even_places : Fun P w K mg base 3 "want_even_places" s_want_even_places ["value"] (SpD K cl Option false 1 P_sums_want_even_places)) (F_want_sum_numbers : Fun P w K mg base 3 "want_sum_numbers" s_want_sum_numbers ["value", "many"] (SpD K cl Option false 2 P_sums_want_sum_numbers)) (gc_EIGHT : ∃ t, mg "EIGHT" = some (.int 8 t)) (F_shadow_by : Fun P w K mg base 3 "shadow_by" s_shadow_by ["places", "numbers"] (SpD K cl Option false 2 P_limits_shadow_by)) : FnG P w K mg base CX0 4 f fd ["places", "numbers"] (SpD K cl Option false 2 P_limits_shadow_of) := by
  refine fng_def (m := Option) (κ := false) (st := s_shadow_of) (ps := ["places", "numbers"]) (N := ["places", "numbers"]) (O := []) (O' := []) (t := t_shadow_of K cl) (fs := f_P_limits_shadow_of) F sc_shadow_of (fun cdv B out z H E hg hr => ?_) (fun pot => ?_)
  · have nd := sc_shadow_of.nd
    have hg0 : (B.deeper (envOfC y (defScope s_shadow_of) z.heap.objs.size f cdv)).guards = some [] := hg
    have hu64 := hr.units
    exact (pss_cons (ps_expr (pe_go F_want_even_places (hr.mono (by decide)) hg0 rfl (pa_cons (pv 0) pa_nil) (fun _ _ _ _ _ _ _ us hl => match us, hl with | [_], _ => rfl))) (pss_cons (ps_expr (pe_go F_want_sum_numbers (hr.mono (by decide)) hg0 rfl (pa_cons (pv 1) (pa_cons (pe_op op_addU (pe_op op_fdivW (pv 0) (pe_gc rfl (gc_of gc_EIGHT))) pe_int) pa_nil)) (fun _ _ _ _ _ _ _ us hl => match us, hl with | [_, _], _ => rfl))) (pss_one (ps_ret (pe_go F_shadow_by (hr.mono (by decide)) hg0 rfl (pa_cons (pv 0) (pa_cons (pv 1) pa_nil)) (fun _ _ _ _ _ _ _ us hl => match us, hl with | [_, _], _ => rfl))))))
  · exact (ss_seq (ss_drop (sim_go (an_cons (sim_var 0) an_nil)))
  (ss_seq (ss_drop (sim_go (an_cons (sim_var 1) (an_cons (sim_op os_add (sim_op os_div (sim_var 0) (sim_int 8)) (sim_int 1)) an_nil))))
  (ss_ret (sim_go (an_cons (sim_var 0) (an_cons (sim_var 1) an_nil))))))
theorem fun_shadow_of {x y : Str} (D : DefAt K mg x y s_shadow_of) (F_want_even_places : Fun P w K mg base 3 "want_even_places" s_want_even_places ["value"] (SpD K cl Option false 1 P_sums_want_even_places)) (F_want_sum_numbers : Fun P w K mg base 3 "want_sum_numbers" s_want_sum_numbers ["value", "many"] (SpD K cl Option false 2 P_sums_want_sum_numbers)) (gc_EIGHT : ∃ t, mg "EIGHT" = some (.int 8 t)) (F_shadow_by : Fun P w K mg base 3 "shadow_by" s_shadow_by ["places", "numbers"] (SpD K cl Option false 2 P_limits_shadow_by)) : Fun P w K mg base 4 x s_shadow_of ["places", "numbers"] (SpD K cl Option false 2 P_limits_shadow_of) := let ⟨f, fd, F, hm⟩ := D; ⟨y, f, fd, F, g_shadow_of F F_want_even_places F_want_sum_numbers gc_EIGHT F_shadow_by, hm⟩
def tx_shadow_of (K : PySem.W.Frag) (cl : Cl) : WX → TS := fun W => (tSeq (tDrop (tGoX (SpE K cl Option false 1 P_sums_want_even_places X_sums_want_even_places) (WE W) (tCons (tVar 0) tNil))) (tSeq (tDrop (tGoX (SpE K cl Option false 2 P_sums_want_sum_numbers X_sums_want_sum_numbers) (WE W) (tCons (tVar 1) (tCons (tOp (rAddU K) (tOp (rDivI) (tVar 0) (tC (.int 8))) (tC (.int 1))) tNil)))) (tRet (tGo (SpD K cl Option false 2 P_limits_shadow_by) (tCons (tVar 0) (tCons (tVar 1) tNil))))))
theorem gx_shadow_of {f : Addr} {fd : FuncData} {y : Str} (F : FunD K y y (defArgs s_shadow_of) (defBody s_shadow_of) (defScope s_shadow_of) [] [] f fd) (Y_want_even_places : FunX P w K mg base 3 "want_even_places" s_want_even_places ["value"] (SpE K cl Option false 1 P_sums_want_even_places X_sums_want_even_places)) (Y_want_sum_numbers : FunX P w K mg base 3 "want_sum_numbers" s_want_sum_numbers ["value", "many"] (SpE K cl Option false 2 P_sums_want_sum_numbers X_sums_want_sum_numbers)) (gc_EIGHT : ∃ t, mg "EIGHT" = some (.int 8 t)) (F_shadow_by : Fun P w K mg base 3 "shadow_by" s_shadow_by ["places", "numbers"] (SpD K cl Option false 2 P_limits_shadow_by)) : FnG P w K mg base (L2.CX P w) 4 f fd ["places", "numbers"] (SpX K cl 2 X_limits_shadow_of) := by
  refine fng_defX (st := s_shadow_of) (ps := ["places", "numbers"]) (N := ["places", "numbers"]) (O := []) (t := tx_shadow_of K cl) (fx := f_X_limits_shadow_of) F sc_shadow_of (fun cdv B out z H E hg hr => ?_) (fun pot => ?_)
  · have nd := sc_shadow_of.nd
    have hg0 : (B.deeper (envOfC y (defScope s_shadow_of) z.heap.objs.size f cdv)).guards = some [] := hg
    have hu64 := hr.units
    exact (pss_cons (ps_expr (pe_goX Y_want_even_places (hr.mono (by decide)) hg0 (takes_of rfl rfl rfl rfl) rfl (pa_cons (pv 0) pa_nil) (fun _ _ _ _ _ _ _ us hl => match us, hl with | [_], _ => rfl))) (pss_cons (ps_expr (pe_goX Y_want_sum_numbers (hr.mono (by decide)) hg0 (takes_of rfl rfl rfl rfl) rfl (pa_cons (pv 1) (pa_cons (pe_op op_addU (pe_op op_fdivW (pv 0) (pe_gc rfl (gc_of gc_EIGHT))) pe_int) pa_nil)) (fun _ _ _ _ _ _ _ us hl => match us, hl with | [_, _], _ => rfl))) (pss_one (ps_ret (pe_go F_shadow_by (hr.mono (by decide)) hg0 rfl (pa_cons (pv 0) (pa_cons (pv 1) pa_nil)) (fun _ _ _ _ _ _ _ us hl => match us, hl with | [_, _], _ => rfl))))))
  · exact (xs_two2 (κ := false) (fun W => (ss_drop (sim_goE (an_cons (sim_var 0) an_nil)))) (xs_drop (xe_goE2 (fun W => (an_cons (sim_var 0) an_nil))))
  (xs_fst (t2 := fun W => (tRet (tGo (SpD K cl Option false 2 P_limits_shadow_by) (tCons (tVar 0) (tCons (tVar 1) tNil))))) (xs_drop (xe_goE2 (fun W => (an_cons (sim_var 1) (an_cons (sim_op os_add (sim_op os_div (sim_var 0) (sim_int 8)) (sim_int 1)) an_nil)))))))
theorem fune_shadow_of {x y : Str} (D : DefAt K mg x y s_shadow_of) (F_want_even_places : Fun P w K mg base 3 "want_even_places" s_want_even_places ["value"] (SpD K cl Option false 1 P_sums_want_even_places)) (F_want_sum_numbers : Fun P w K mg base 3 "want_sum_numbers" s_want_sum_numbers ["value", "many"] (SpD K cl Option false 2 P_sums_want_sum_numbers)) (gc_EIGHT : ∃ t, mg "EIGHT" = some (.int 8 t)) (F_shadow_by : Fun P w K mg base 3 "shadow_by" s_shadow_by ["places", "numbers"] (SpD K cl Option false 2 P_limits_shadow_by)) (Y_want_even_places : FunX P w K mg base 3 "want_even_places" s_want_even_places ["value"] (SpE K cl Option false 1 P_sums_want_even_places X_sums_want_even_places)) (Y_want_sum_numbers : FunX P w K mg base 3 "want_sum_numbers" s_want_sum_numbers ["value", "many"] (SpE K cl Option false 2 P_sums_want_sum_numbers X_sums_want_sum_numbers)) : FunX P w K mg base 4 x s_shadow_of ["places", "numbers"] (SpE K cl Option false 2 P_limits_shadow_of X_limits_shadow_of) := let ⟨f, fd, F, hm⟩ := D; funE F hm (g_shadow_of F F_want_even_places F_want_sum_numbers gc_EIGHT F_shadow_by) (gx_shadow_of F Y_want_even_places Y_want_sum_numbers gc_EIGHT F_shadow_by)
def t_limit (K : PySem.W.Frag) (cl : Cl) : TS := (tSeq (tDrop (tGo (SpD K cl Option false 1 P_sums_want_even_places) (tCons (tVar 0) tNil))) (tRet (tOp (rAddU K) (tOp (rMulU) (tOp (rDivI) (tVar 0) (tC (.int 8))) (tC (.int 2))) (tC (.int 2)))))
theorem g_limit {f : Addr} {fd : FuncData} {y : Str} (F : FunD K y y (defArgs s_limit) (defBody s_limit) (defScope s_limit) [] [] f fd) (F_want_even_places : Fun P w K mg base 3 "want_even_places" s_want_even_places ["value"] (SpD K cl Option false 1 P_sums_want_even_places)) (gc_EIGHT : ∃ t, mg "EIGHT" = some (.int 8 t)) : FnG P w K mg base CX0 4 f fd ["places"] (SpD K cl Option false 1 P_limits_limit) := by
  refine fng_def (m := Option) (κ := false) (st := s_limit) (ps := ["places"]) (N := ["places"]) (O := []) (O' := []) (t := t_limit K cl) (fs := f_P_limits_limit) F sc_limit (fun cdv B out z H E hg hr => ?_) (fun pot => ?_)
  · have nd := sc_limit.nd
    have hg0 : (B.deeper (envOfC y (defScope s_limit) z.heap.objs.size f cdv)).guards = some [] := hg
    have hu64 := hr.units
    exact (pss_cons (ps_expr (pe_go F_want_even_places (hr.mono (by decide)) hg0 rfl (pa_cons (pv 0) pa_nil) (fun _ _ _ _ _ _ _ us hl => match us, hl with | [_], _ => rfl))) (pss_one (ps_ret (pe_op op_addU (pe_op op_mulU (pe_op op_fdivW (pv 0) (pe_gc rfl (gc_of gc_EIGHT))) pe_int) pe_int))))
  · exact (ss_seq (ss_drop (sim_go (an_cons (sim_var 0) an_nil)))
  (ss_ret (sim_op os_add (sim_op os_mul (sim_op os_div (sim_var 0) (sim_int 8)) (sim_int 2)) (sim_int 2))))
theorem fun_limit {x y : Str} (D : DefAt K mg x y s_limit) (F_want_even_places : Fun P w K mg base 3 "want_even_places" s_want_even_places ["value"] (SpD K cl Option false 1 P_sums_want_even_places)) (gc_EIGHT : ∃ t, mg "EIGHT" = some (.int 8 t)) : Fun P w K mg base 4 x s_limit ["places"] (SpD K cl Option false 1 P_limits_limit) := let ⟨f, fd, F, hm⟩ := D; ⟨y, f, fd, F, g_limit F F_want_even_places gc_EIGHT, hm⟩
def tx_limit (K : PySem.W.Frag) (cl : Cl) : WX → TS := fun W => (tSeq (tDrop (tGoX (SpE K cl Option false 1 P_sums_want_even_places X_sums_want_even_places) (WE W) (tCons (tVar 0) tNil))) (tRet (tOp (rAddU K) (tOp (rMulU) (tOp (rDivI) (tVar 0) (tC (.int 8))) (tC (.int 2))) (tC (.int 2)))))
theorem gx_limit {f : Addr} {fd : FuncData} {y : Str} (F : FunD K y y (defArgs s_limit) (defBody s_limit) (defScope s_limit) [] [] f fd) (Y_want_even_places : FunX P w K mg base 3 "want_even_places" s_want_even_places ["value"] (SpE K cl Option false 1 P_sums_want_even_places X_sums_want_even_places)) (gc_EIGHT : ∃ t, mg "EIGHT" = some (.int 8 t)) : FnG P w K mg base (L2.CX P w) 4 f fd ["places"] (SpX K cl 1 X_limits_limit) := by
  refine fng_defX (st := s_limit) (ps := ["places"]) (N := ["places"]) (O := []) (t := tx_limit K cl) (fx := f_X_limits_limit) F sc_limit (fun cdv B out z H E hg hr => ?_) (fun pot => ?_)
  · have nd := sc_limit.nd
    have hg0 : (B.deeper (envOfC y (defScope s_limit) z.heap.objs.size f cdv)).guards = some [] := hg
    have hu64 := hr.units
    exact (pss_cons (ps_expr (pe_goX Y_want_even_places (hr.mono (by decide)) hg0 (takes_of rfl rfl rfl rfl) rfl (pa_cons (pv 0) pa_nil) (fun _ _ _ _ _ _ _ us hl => match us, hl with | [_], _ => rfl))) (pss_one (ps_ret (pe_op op_addU (pe_op op_mulU (pe_op op_fdivW (pv 0) (pe_gc rfl (gc_of gc_EIGHT))) pe_int) pe_int))))
  · exact (xs_fst (t2 := fun W => (tRet (tOp (rAddU K) (tOp (rMulU) (tOp (rDivI) (tVar 0) (tC (.int 8))) (tC (.int 2))) (tC (.int 2))))) (xs_drop (xe_goE2 (fun W => (an_cons (sim_var 0) an_nil)))))
theorem fune_limit {x y : Str} (D : DefAt K mg x y s_limit) (F_want_even_places : Fun P w K mg base 3 "want_even_places" s_want_even_places ["value"] (SpD K cl Option false 1 P_sums_want_even_places)) (gc_EIGHT : ∃ t, mg "EIGHT" = some (.int 8 t)) (Y_want_even_places : FunX P w K mg base 3 "want_even_places" s_want_even_places ["value"] (SpE K cl Option false 1 P_sums_want_even_places X_sums_want_even_places)) : FunX P w K mg base 4 x s_limit ["places"] (SpE K cl Option false 1 P_limits_limit X_limits_limit) := let ⟨f, fd, F, hm⟩ := D; funE F hm (g_limit F F_want_even_places gc_EIGHT) (gx_limit F Y_want_even_places gc_EIGHT)
def t_fours_limit (K : PySem.W.Frag) (cl : Cl) : TS := (tSeq (tDrop (tGo (SpD K cl Option false 1 P_sums_want_even_places) (tCons (tVar 0) tNil))) (tSeq (tDrop (tGo (SpD K cl Option false 1 P_sums_want_eights) (tCons (tVar 0) tNil))) (tRet (tOp (rAddU K) (tOp (rMulU) (tOp (rDivI) (tVar 0) (tC (.int 24))) (tC (.int 4))) (tC (.int 4))))))
theorem g_fours_limit {f : Addr} {fd : FuncData} {y : Str} (F : FunD K y y (defArgs s_fours_limit) (defBody s_fours_limit) (defScope s_fours_limit) [] [] f fd) (F_want_even_places : Fun P w K mg base 3 "want_even_places" s_want_even_places ["value"] (SpD K cl Option false 1 P_sums_want_even_places)) (F_want_eights : Fun P w K mg base 1 "want_eights" s_want_eights ["places"] (SpD K cl Option false 1 P_sums_want_eights)) (gc_THREES : ∃ t, mg "THREES" = some (.int 24 t)) : FnG P w K mg base CX0 4 f fd ["places"] (SpD K cl Option false 1 P_limits_fours_limit) := by
  refine fng_def (m := Option) (κ := false) (st := s_fours_limit) (ps := ["places"]) (N := ["places"]) (O := []) (O' := []) (t := t_fours_limit K cl) (fs := f_P_limits_fours_limit) F sc_fours_limit (fun cdv B out z H E hg hr => ?_) (fun pot => ?_)
  · have nd := sc_fours_limit.nd
    have hg0 : (B.deeper (envOfC y (defScope s_fours_limit) z.heap.objs.size f cdv)).guards = some [] := hg
    have hu64 := hr.units
    exact (pss_cons (ps_expr (pe_go F_want_even_places (hr.mono (by decide)) hg0 rfl (pa_cons (pv 0) pa_nil) (fun _ _ _ _ _ _ _ us hl => match us, hl with | [_], _ => rfl))) (pss_cons (ps_expr (pe_go F_want_eights (hr.mono (by decide)) hg0 rfl (pa_cons (pv 0) pa_nil) (fun _ _ _ _ _ _ _ us hl => match us, hl with | [_], _ => rfl))) (pss_one (ps_ret (pe_op op_addU (pe_op op_mulU (pe_op op_fdivW (pv 0) (pe_gc rfl (gc_of gc_THREES))) pe_int) pe_int)))))
  · exact (ss_seq (ss_drop (sim_go (an_cons (sim_var 0) an_nil)))
  (ss_seq (ss_drop (sim_go (an_cons (sim_var 0) an_nil)))
  (ss_ret (sim_op os_add (sim_op os_mul (sim_op os_div (sim_var 0) (sim_int 24)) (sim_int 4)) (sim_int 4)))))
theorem fun_fours_limit {x y : Str} (D : DefAt K mg x y s_fours_limit) (F_want_even_places : Fun P w K mg base 3 "want_even_places" s_want_even_places ["value"] (SpD K cl Option false 1 P_sums_want_even_places)) (F_want_eights : Fun P w K mg base 1 "want_eights" s_want_eights ["places"] (SpD K cl Option false 1 P_sums_want_eights)) (gc_THREES : ∃ t, mg "THREES" = some (.int 24 t)) : Fun P w K mg base 4 x s_fours_limit ["places"] (SpD K cl Option false 1 P_limits_fours_limit) := let ⟨f, fd, F, hm⟩ := D; ⟨y, f, fd, F, g_fours_limit F F_want_even_places F_want_eights gc_THREES, hm⟩
def tx_fours_limit (K : PySem.W.Frag) (cl : Cl) : WX → TS := fun W => (tSeq (tDrop (tGoX (SpE K cl Option false 1 P_sums_want_even_places X_sums_want_even_places) (WE W) (tCons (tVar 0) tNil))) (tSeq (tDrop (tGoX (SpE K cl Option false 1 P_sums_want_eights X_sums_want_eights) (WE W) (tCons (tVar 0) tNil))) (tRet (tOp (rAddU K) (tOp (rMulU) (tOp (rDivI) (tVar 0) (tC (.int 24))) (tC (.int 4))) (tC (.int 4))))))
theorem gx_fours_limit {f : Addr} {fd : FuncData} {y : Str} (F : FunD K y y (defArgs s_fours_limit) (defBody s_fours_limit) (defScope s_fours_limit) [] [] f fd) (Y_want_even_places : FunX P w K mg base 3 "want_even_places" s_want_even_places ["value"] (SpE K cl Option false 1 P_sums_want_even_places X_sums_want_even_places)) (Y_want_eights : FunX P w K mg base 1 "want_eights" s_want_eights ["places"] (SpE K cl Option false 1 P_sums_want_eights X_sums_want_eights)) (gc_THREES : ∃ t, mg "THREES" = some (.int 24 t)) : FnG P w K mg base (L2.CX P w) 4 f fd ["places"] (SpX K cl 1 X_limits_fours_limit) := by
  refine fng_defX (st := s_fours_limit) (ps := ["places"]) (N := ["places"]) (O := []) (t := tx_fours_limit K cl) (fx := f_X_limits_fours_limit) F sc_fours_limit (fun cdv B out z H E hg hr => ?_) (fun pot => ?_)
  · have nd := sc_fours_limit.nd
    have hg0 : (B.deeper (envOfC y (defScope s_fours_limit) z.heap.objs.size f cdv)).guards = some [] := hg
    have hu64 := hr.units
    exact (pss_cons (ps_expr (pe_goX Y_want_even_places (hr.mono (by decide)) hg0 (takes_of rfl rfl rfl rfl) rfl (pa_cons (pv 0) pa_nil) (fun _ _ _ _ _ _ _ us hl => match us, hl with | [_], _ => rfl))) (pss_cons (ps_expr (pe_goX Y_want_eights (hr.mono (by decide)) hg0 (takes_of rfl rfl rfl rfl) rfl (pa_cons (pv 0) pa_nil) (fun _ _ _ _ _ _ _ us hl => match us, hl with | [_], _ => rfl))) (pss_one (ps_ret (pe_op op_addU (pe_op op_mulU (pe_op op_fdivW (pv 0) (pe_gc rfl (gc_of gc_THREES))) pe_int) pe_int)))))
  · exact (xs_two2 (κ := false) (fun W => (ss_drop (sim_goE (an_cons (sim_var 0) an_nil)))) (xs_drop (xe_goE2 (fun W => (an_cons (sim_var 0) an_nil))))
  (xs_fst (t2 := fun W => (tRet (tOp (rAddU K) (tOp (rMulU) (tOp (rDivI) (tVar 0) (tC (.int 24))) (tC (.int 4))) (tC (.int 4))))) (xs_drop (xe_goE2 (fun W => (an_cons (sim_var 0) an_nil))))))
theorem fune_fours_limit {x y : Str} (D : DefAt K mg x y s_fours_limit) (F_want_even_places : Fun P w K mg base 3 "want_even_places" s_want_even_places ["value"] (SpD K cl Option false 1 P_sums_want_even_places)) (F_want_eights : Fun P w K mg base 1 "want_eights" s_want_eights ["places"] (SpD K cl Option false 1 P_sums_want_eights)) (gc_THREES : ∃ t, mg "THREES" = some (.int 24 t)) (Y_want_even_places : FunX P w K mg base 3 "want_even_places" s_want_even_places ["value"] (SpE K cl Option false 1 P_sums_want_even_places X_sums_want_even_places)) (Y_want_eights : FunX P w K mg base 1 "want_eights" s_want_eights ["places"] (SpE K cl Option false 1 P_sums_want_eights X_sums_want_eights)) : FunX P w K mg base 4 x s_fours_limit ["places"] (SpE K cl Option false 1 P_limits_fours_limit X_limits_fours_limit) := let ⟨f, fd, F, hm⟩ := D; funE F hm (g_fours_limit F F_want_even_places F_want_eights gc_THREES) (gx_fours_limit F Y_want_even_places Y_want_eights gc_THREES)
def t_greatest_by (K : PySem.W.Frag) (cl : Cl) : TS := (tSeq (tPar 4 5 (tCons (tLst tNil) (tCons (tOp (rAddU K) (tLst (tCons (tC (.int 1)) tNil)) (tOp (rMulU) (tLst (tCons (tC (.int 0)) tNil)) (tVar 0))) tNil))) (tSeq (tFor (iSeq K (tGo (SpD K cl Option true 3 P_sums_products_by) (tCons (tVar 0) (tCons (tVar 1) (tCons (tVar 2) tNil))))) (gName 3) (tSeq (tAsg (tOp (rIx K) (tLc (iRng1 (tCons (tCB (rLenU K) (tCons (tVar 3) tNil)) tNil)) (gName 8) (tTest (tOp (rNeU K) (tOp (rIx K) (tVar 3) (tVar 8)) (tC (.int 0)))) (tVar 8) [8]) (tC (.int 0))) (gName 6)) (tSeq (tAsg (tIf (tTest (tOp (rEqU K) (tVar 6) (tC (.int 0)))) (tOp (rIx K) (tVar 5) (tVar 6)) (tOp (rSubI) (tC (.int 0)) (tOp (rIx K) (tVar 5) (tVar 6)))) (gName 7)) (tSeq (tDrop (tBM K "list" rAppend (tVar 4) (tCons (tVar 7) tNil))) (tAsg (tIf (tTest (tOp (rEqU K) (tVar 6) (tC (.int 0)))) (tVar 3) (tLc (iZipU K (tVar 5) (tVar 3)) (gTup K 2 (gNames [9, 10])) tYes (tOp (rAddU K) (tVar 9) (tOp (rMulU) (tVar 7) (tVar 10))) [9, 10])) (gName 5)))))) (tRet (tVar 4))))
theorem g_greatest_by {f : Addr} {fd : FuncData} {y : Str} (F : FunD K y y (defArgs s_greatest_by) (defBody s_greatest_by) (defScope s_greatest_by) [] [] f fd) (F_products_by : Fun P w K mg base 3 "products_by" s_products_by ["places", "first", "second"] (SpD K cl Option true 3 P_sums_products_by)) (fr_range : mg "range" = none) (fr_len : mg "len" = none) (fr_zip : mg "zip" = none) : FnG P w K mg base CX0 4 f fd ["places", "first", "second"] (SpD K cl Option true 3 P_limits_greatest_by) := by
  refine fng_def (m := Option) (κ := true) (st := s_greatest_by) (ps := ["places", "first", "second"]) (N := ["places", "first", "second", "product", "found", "here", "lead", "number", "place", "one", "more"]) (O := [4]) (O' := [4]) (t := t_greatest_by K cl) (fs := f_P_limits_greatest_by) F sc_greatest_by (fun cdv B out z H E hg hr => ?_) (fun pot => ?_)
  · have nd := sc_greatest_by.nd
    have hg0 : (B.deeper (envOfC y (defScope s_greatest_by) z.heap.objs.size f cdv)).guards = some [] := hg
    have hu64 := hr.units
    exact (pss_cons (ps_par (i := 4) (j := 5) rfl nd rfl rfl (by decide) rfl rfl (pa_cons (pe_lst pa_nil) (pa_cons (pe_op op_addU (pe_lst (pa_cons pe_int pa_nil)) (pe_op op_mulU (pe_lst (pa_cons pe_int pa_nil)) (pv 0))) pa_nil)) rfl) (pss_cons (ps_for PassesOwn.never rfl (pi_seq (pe_go F_products_by (hr.mono (by decide)) hg0 rfl (pa_cons (pv 0) (pa_cons (pv 1) (pa_cons (pv 2) pa_nil))) (fun _ _ _ _ _ _ _ us hl => match us, hl with | [_, _, _], _ => rfl))) (pg_name (i := 3) nd rfl (Or.inr rfl)) (pss_cons (ps_set (i := 6) nd rfl (Or.inl rfl) (pe_ix ix_seq (pe_lc (own := [("place", 8)]) (g := (gName 8)) (tt := (tTest (tOp (rNeU K) (tOp (rIx K) (tVar 3) (tVar 8)) (tC (.int 0))))) (te := (tVar 8)) rfl nd (pi_range1 rfl fr_range (pa_cons (pe_callB call_lenU rfl fr_len (by decide +kernel) (pa_cons (pv 3) pa_nil)) pa_nil)) (blkOk_by (N := ["places", "first", "second", "product", "found", "here", "lead", "number", "place", "one", "more"]) (sc := defScope s_greatest_by) (by decide +kernel)) (fun _ _ _ _ _ => (pg_name (i := 8) nd rfl (Or.inl rfl))) (fun _ _ _ _ _ => (pts_one (pt_cmpR (op_neU hu64) (pe_ix ix_seq (pv 3) (pv 8) (fun _ _ => rfl)) pe_int (nomark _)))) (fun _ _ _ _ _ => (pv 8))) pe_int (fun _ _ => rfl))) (pss_cons (ps_set (i := 7) nd rfl (Or.inr rfl) (pe_ifExp (pt_cmpR (op_eqU hu64) (pv 6) pe_int (nomark _)) (pe_ix ix_seq (pv 5) (pv 6) (fun _ _ => rfl)) (pe_op op_sub pe_int (pe_ix ix_seq (pv 5) (pv 6) (fun _ _ => rfl))))) (pss_cons (ps_expr (pe_bm PySem.F.plainAttrs_list PySem.F.slot_list_append PySem.F.type_list_append mt_append (pv 4) (pa_cons (pv 7) pa_nil))) (pss_one (ps_set (i := 5) nd rfl (Or.inl rfl) (pe_ifExp (pt_cmpR (op_eqU hu64) (pv 6) pe_int (nomark _)) (pv 3) (pe_lc (own := [("one", 9), ("more", 10)]) (g := (gTup K 2 (gNames [9, 10]))) (tt := tYes) (te := (tOp (rAddU K) (tVar 9) (tOp (rMulU) (tVar 7) (tVar 10)))) rfl nd (pi_zipU rfl fr_zip (pv 5) (pv 3)) (blkOk_by (N := ["places", "first", "second", "product", "found", "here", "lead", "number", "place", "one", "more"]) (sc := defScope s_greatest_by) (by decide +kernel)) (fun _ _ _ _ _ => (pg_tup rfl (pgs_cons (pg_name (i := 9) nd rfl (Or.inl rfl)) (pgs_cons (pg_name (i := 10) nd rfl (Or.inl rfl)) pgs_nil)))) (fun _ _ _ _ _ => pts_nil) (fun _ _ _ _ _ => (pe_op op_addU (pv 9) (pe_op op_mulU (pv 7) (pv 10)))))))))))) (pss_one (ps_ret (pv 4)))))
  · exact (ss_seq (ss_par (ak_ow (simL_lst args_nil) (ak_sh (sim_op os_add (sim_new (simL_lst (args_cons (sim_int 1) args_nil))) (sim_op os_mul (sim_new (simL_lst (args_cons (sim_int 0) args_nil))) (sim_var 0))) ak_nil)))
  (ss_seq (ss_for (si_seq (sim_goN (an_cons (sim_var 0) (an_cons (sim_var 1) (an_cons (sim_var 2) an_nil))))) (tg_name 3) (ss_seq (ss_set 6 (sim_op os_ix (sim_new (simL_lc (vs := [8]) (si_rg1 (args_cons (sim_cb cs_len (args_cons (sim_up (sim_var 3)) args_nil)) args_nil)) (tg_name 8) (tst_test (sim_op os_ne (sim_op os_ix (sim_var 3) (sim_var 8)) (sim_int 0))) (sim_var 8))) (sim_int 0)))
  (ss_seq (ss_set 7 (sim_if (tst_test (sim_op os_eq (sim_var 6) (sim_int 0))) (sim_op os_ix (sim_var 5) (sim_var 6)) (sim_op os_sub (sim_int 0) (sim_op os_ix (sim_var 5) (sim_var 6)))))
  (ss_seq (ss_app 4 (sim_var 7))
  (ss_set 5 (sim_if (tst_test (sim_op os_eq (sim_var 6) (sim_int 0))) (sim_var 3) (sim_new (simL_lc (vs := [9, 10]) (si_zipU (sim_var 5) (sim_var 3)) (tg_tup [9, 10]) tst_yes (sim_op os_add (sim_var 9) (sim_op os_mul (sim_var 7) (sim_var 10)))))))))))
  (ss_retOwn 4)))
theorem fun_greatest_by {x y : Str} (D : DefAt K mg x y s_greatest_by) (F_products_by : Fun P w K mg base 3 "products_by" s_products_by ["places", "first", "second"] (SpD K cl Option true 3 P_sums_products_by)) (fr_range : mg "range" = none) (fr_len : mg "len" = none) (fr_zip : mg "zip" = none) : Fun P w K mg base 4 x s_greatest_by ["places", "first", "second"] (SpD K cl Option true 3 P_limits_greatest_by) := let ⟨f, fd, F, hm⟩ := D; ⟨y, f, fd, F, g_greatest_by F F_products_by fr_range fr_len fr_zip, hm⟩
def t_greatest (K : PySem.W.Frag) (cl : Cl) : TS := (tSeq (tDrop (tGo (SpD K cl Option false 1 P_sums_want_even_places) (tCons (tVar 0) tNil))) (tRet (tGo (SpD K cl Option true 3 P_limits_greatest_by) (tCons (tVar 0) (tCons (tC (.ref (He.ga K "FIRST"))) (tCons (tC (.ref (He.ga K "SECOND"))) tNil))))))
theorem g_greatest {f : Addr} {fd : FuncData} {y : Str} (F : FunD K y y (defArgs s_greatest) (defBody s_greatest) (defScope s_greatest) [] [] f fd) (F_want_even_places : Fun P w K mg base 3 "want_even_places" s_want_even_places ["value"] (SpD K cl Option false 1 P_sums_want_even_places)) (F_greatest_by : Fun P w K mg base 4 "greatest_by" s_greatest_by ["places", "first", "second"] (SpD K cl Option true 3 P_limits_greatest_by)) (gt_FIRST : GTup K mg "FIRST" [1, 0, 1]) (gt_SECOND : GTup K mg "SECOND" [0, 0, 1, 0, -2, 0, 1, 0, 0]) : FnG P w K mg base CX0 5 f fd ["places"] (SpD K cl Option true 1 P_limits_greatest) := by
  refine fng_def (m := Option) (κ := true) (st := s_greatest) (ps := ["places"]) (N := ["places"]) (O := []) (O' := []) (t := t_greatest K cl) (fs := f_P_limits_greatest) F sc_greatest (fun cdv B out z H E hg hr => ?_) (fun pot => ?_)
  · have nd := sc_greatest.nd
    have hg0 : (B.deeper (envOfC y (defScope s_greatest) z.heap.objs.size f cdv)).guards = some [] := hg
    have hu64 := hr.units
    exact (pss_cons (ps_expr (pe_go F_want_even_places (hr.mono (by decide)) hg0 rfl (pa_cons (pv 0) pa_nil) (fun _ _ _ _ _ _ _ us hl => match us, hl with | [_], _ => rfl))) (pss_one (ps_ret (pe_go F_greatest_by (hr.mono (by decide)) hg0 rfl (pa_cons (pv 0) (pa_cons (pe_gtup rfl gt_FIRST) (pa_cons (pe_gtup rfl gt_SECOND) pa_nil))) (fun _ _ _ _ _ _ _ us hl => match us, hl with | [_, _, _], _ => rfl)))))
  · exact (ss_seq (ss_drop (sim_go (an_cons (sim_var 0) an_nil)))
  (ss_retL (simL_go (an_cons (sim_var 0) (an_cons (sim_gtup gt_FIRST) (an_cons (sim_gtup gt_SECOND) an_nil))))))
theorem fun_greatest {x y : Str} (D : DefAt K mg x y s_greatest) (F_want_even_places : Fun P w K mg base 3 "want_even_places" s_want_even_places ["value"] (SpD K cl Option false 1 P_sums_want_even_places)) (F_greatest_by : Fun P w K mg base 4 "greatest_by" s_greatest_by ["places", "first", "second"] (SpD K cl Option true 3 P_limits_greatest_by)) (gt_FIRST : GTup K mg "FIRST" [1, 0, 1]) (gt_SECOND : GTup K mg "SECOND" [0, 0, 1, 0, -2, 0, 1, 0, 0]) : Fun P w K mg base 5 x s_greatest ["places"] (SpD K cl Option true 1 P_limits_greatest) := let ⟨f, fd, F, hm⟩ := D; ⟨y, f, fd, F, g_greatest F F_want_even_places F_greatest_by gt_FIRST gt_SECOND, hm⟩
def tx_greatest (K : PySem.W.Frag) (cl : Cl) : WX → TS := fun W => (tSeq (tDrop (tGoX (SpE K cl Option false 1 P_sums_want_even_places X_sums_want_even_places) (WE W) (tCons (tVar 0) tNil))) (tRet (tGo (SpD K cl Option true 3 P_limits_greatest_by) (tCons (tVar 0) (tCons (tC (.ref (He.ga K "FIRST"))) (tCons (tC (.ref (He.ga K "SECOND"))) tNil))))))
theorem gx_greatest {f : Addr} {fd : FuncData} {y : Str} (F : FunD K y y (defArgs s_greatest) (defBody s_greatest) (defScope s_greatest) [] [] f fd) (Y_want_even_places : FunX P w K mg base 3 "want_even_places" s_want_even_places ["value"] (SpE K cl Option false 1 P_sums_want_even_places X_sums_want_even_places)) (F_greatest_by : Fun P w K mg base 4 "greatest_by" s_greatest_by ["places", "first", "second"] (SpD K cl Option true 3 P_limits_greatest_by)) (gt_FIRST : GTup K mg "FIRST" [1, 0, 1]) (gt_SECOND : GTup K mg "SECOND" [0, 0, 1, 0, -2, 0, 1, 0, 0]) : FnG P w K mg base (L2.CX P w) 5 f fd ["places"] (SpX K cl 1 X_limits_greatest) := by
  refine fng_defX (st := s_greatest) (ps := ["places"]) (N := ["places"]) (O := []) (t := tx_greatest K cl) (fx := f_X_limits_greatest) F sc_greatest (fun cdv B out z H E hg hr => ?_) (fun pot => ?_)
  · have nd := sc_greatest.nd
    have hg0 : (B.deeper (envOfC y (defScope s_greatest) z.heap.objs.size f cdv)).guards = some [] := hg
    have hu64 := hr.units
    exact (pss_cons (ps_expr (pe_goX Y_want_even_places (hr.mono (by decide)) hg0 (takes_of rfl rfl rfl rfl) rfl (pa_cons (pv 0) pa_nil) (fun _ _ _ _ _ _ _ us hl => match us, hl with | [_], _ => rfl))) (pss_one (ps_ret (pe_go F_greatest_by (hr.mono (by decide)) hg0 rfl (pa_cons (pv 0) (pa_cons (pe_gtup rfl gt_FIRST) (pa_cons (pe_gtup rfl gt_SECOND) pa_nil))) (fun _ _ _ _ _ _ _ us hl => match us, hl with | [_, _, _], _ => rfl)))))
  · exact (xs_fst (t2 := fun W => (tRet (tGo (SpD K cl Option true 3 P_limits_greatest_by) (tCons (tVar 0) (tCons (tC (.ref (He.ga K "FIRST"))) (tCons (tC (.ref (He.ga K "SECOND"))) tNil)))))) (xs_drop (xe_goE2 (fun W => (an_cons (sim_var 0) an_nil)))))
theorem fune_greatest {x y : Str} (D : DefAt K mg x y s_greatest) (F_want_even_places : Fun P w K mg base 3 "want_even_places" s_want_even_places ["value"] (SpD K cl Option false 1 P_sums_want_even_places)) (F_greatest_by : Fun P w K mg base 4 "greatest_by" s_greatest_by ["places", "first", "second"] (SpD K cl Option true 3 P_limits_greatest_by)) (gt_FIRST : GTup K mg "FIRST" [1, 0, 1]) (gt_SECOND : GTup K mg "SECOND" [0, 0, 1, 0, -2, 0, 1, 0, 0]) (Y_want_even_places : FunX P w K mg base 3 "want_even_places" s_want_even_places ["value"] (SpE K cl Option false 1 P_sums_want_even_places X_sums_want_even_places)) : FunX P w K mg base 5 x s_greatest ["places"] (SpE K cl Option true 1 P_limits_greatest X_limits_greatest) := let ⟨f, fd, F, hm⟩ := D; funE F hm (g_greatest F F_want_even_places F_greatest_by gt_FIRST gt_SECOND) (gx_greatest F Y_want_even_places F_greatest_by gt_FIRST gt_SECOND)
def t_fours_greatest (K : PySem.W.Frag) (cl : Cl) : TS := (tSeq (tDrop (tGo (SpD K cl Option false 1 P_sums_want_even_places) (tCons (tVar 0) tNil))) (tSeq (tDrop (tGo (SpD K cl Option false 1 P_sums_want_eights) (tCons (tVar 0) tNil))) (tRet (tGo (SpD K cl Option true 3 P_limits_greatest_by) (tCons (tVar 0) (tCons (tC (.ref (He.ga K "FOURS_FIRST"))) (tCons (tC (.ref (He.ga K "FOURS_SECOND"))) tNil)))))))
theorem g_fours_greatest {f : Addr} {fd : FuncData} {y : Str} (F : FunD K y y (defArgs s_fours_greatest) (defBody s_fours_greatest) (defScope s_fours_greatest) [] [] f fd) (F_want_even_places : Fun P w K mg base 3 "want_even_places" s_want_even_places ["value"] (SpD K cl Option false 1 P_sums_want_even_places)) (F_want_eights : Fun P w K mg base 1 "want_eights" s_want_eights ["places"] (SpD K cl Option false 1 P_sums_want_eights)) (F_greatest_by : Fun P w K mg base 4 "greatest_by" s_greatest_by ["places", "first", "second"] (SpD K cl Option true 3 P_limits_greatest_by)) (gt_FOURS_FIRST : GTup K mg "FOURS_FIRST" [1, 0, 0, 0, 14, 0, 0, 0, 1]) (gt_FOURS_SECOND : GTup K mg "FOURS_SECOND" [0, 0, 0, 0, 1, 0, 0, 0, -4, 0, 0, 0, 6, 0, 0, 0, -4, 0, 0, 0, 1, 0, 0, 0, 0]) : FnG P w K mg base CX0 5 f fd ["places"] (SpD K cl Option true 1 P_limits_fours_greatest) := by
  refine fng_def (m := Option) (κ := true) (st := s_fours_greatest) (ps := ["places"]) (N := ["places"]) (O := []) (O' := []) (t := t_fours_greatest K cl) (fs := f_P_limits_fours_greatest) F sc_fours_greatest (fun cdv B out z H E hg hr => ?_) (fun pot => ?_)
  · have nd := sc_fours_greatest.nd
    have hg0 : (B.deeper (envOfC y (defScope s_fours_greatest) z.heap.objs.size f cdv)).guards = some [] := hg
    have hu64 := hr.units
    exact (pss_cons (ps_expr (pe_go F_want_even_places (hr.mono (by decide)) hg0 rfl (pa_cons (pv 0) pa_nil) (fun _ _ _ _ _ _ _ us hl => match us, hl with | [_], _ => rfl))) (pss_cons (ps_expr (pe_go F_want_eights (hr.mono (by decide)) hg0 rfl (pa_cons (pv 0) pa_nil) (fun _ _ _ _ _ _ _ us hl => match us, hl with | [_], _ => rfl))) (pss_one (ps_ret (pe_go F_greatest_by (hr.mono (by decide)) hg0 rfl (pa_cons (pv 0) (pa_cons (pe_gtup rfl gt_FOURS_FIRST) (pa_cons (pe_gtup rfl gt_FOURS_SECOND) pa_nil))) (fun _ _ _ _ _ _ _ us hl => match us, hl with | [_, _, _], _ => rfl))))))
  · exact (ss_seq (ss_drop (sim_go (an_cons (sim_var 0) an_nil)))
  (ss_seq (ss_drop (sim_go (an_cons (sim_var 0) an_nil)))
  (ss_retL (simL_go (an_cons (sim_var 0) (an_cons (sim_gtup gt_FOURS_FIRST) (an_cons (sim_gtup gt_FOURS_SECOND) an_nil)))))))
theorem fun_fours_greatest {x y : Str} (D : DefAt K mg x y s_fours_greatest) (F_want_even_places : Fun P w K mg base 3 "want_even_places" s_want_even_places ["value"] (SpD K cl Option false 1 P_sums_want_even_places)) (F_want_eights : Fun P w K mg base 1 "want_eights" s_want_eights ["places"] (SpD K cl Option false 1 P_sums_want_eights)) (F_greatest_by : Fun P w K mg base 4 "greatest_by" s_greatest_by ["places", "first", "second"] (SpD K cl Option true 3 P_limits_greatest_by)) (gt_FOURS_FIRST : GTup K mg "FOURS_FIRST" [1, 0, 0, 0, 14, 0, 0, 0, 1]) (gt_FOURS_SECOND : GTup K mg "FOURS_SECOND" [0, 0, 0, 0, 1, 0, 0, 0, -4, 0, 0, 0, 6, 0, 0, 0, -4, 0, 0, 0, 1, 0, 0, 0, 0]) : Fun P w K mg base 5 x s_fours_greatest ["places"] (SpD K cl Option true 1 P_limits_fours_greatest) := let ⟨f, fd, F, hm⟩ := D; ⟨y, f, fd, F, g_fours_greatest F F_want_even_places F_want_eights F_greatest_by gt_FOURS_FIRST gt_FOURS_SECOND, hm⟩
def tx_fours_greatest (K : PySem.W.Frag) (cl : Cl) : WX → TS := fun W => (tSeq (tDrop (tGoX (SpE K cl Option false 1 P_sums_want_even_places X_sums_want_even_places) (WE W) (tCons (tVar 0) tNil))) (tSeq (tDrop (tGoX (SpE K cl Option false 1 P_sums_want_eights X_sums_want_eights) (WE W) (tCons (tVar 0) tNil))) (tRet (tGo (SpD K cl Option true 3 P_limits_greatest_by) (tCons (tVar 0) (tCons (tC (.ref (He.ga K "FOURS_FIRST"))) (tCons (tC (.ref (He.ga K "FOURS_SECOND"))) tNil)))))))
theorem gx_fours_greatest {f : Addr} {fd : FuncData} {y : Str} (F : FunD K y y (defArgs s_fours_greatest) (defBody s_fours_greatest) (defScope s_fours_greatest) [] [] f fd) (Y_want_even_places : FunX P w K mg base 3 "want_even_places" s_want_even_places ["value"] (SpE K cl Option false 1 P_sums_want_even_places X_sums_want_even_places)) (Y_want_eights : FunX P w K mg base 1 "want_eights" s_want_eights ["places"] (SpE K cl Option false 1 P_sums_want_eights X_sums_want_eights)) (F_greatest_by : Fun P w K mg base 4 "greatest_by" s_greatest_by ["places", "first", "second"] (SpD K cl Option true 3 P_limits_greatest_by)) (gt_FOURS_FIRST : GTup K mg "FOURS_FIRST" [1, 0, 0, 0, 14, 0, 0, 0, 1]) (gt_FOURS_SECOND : GTup K mg "FOURS_SECOND" [0, 0, 0, 0, 1, 0, 0, 0, -4, 0, 0, 0, 6, 0, 0, 0, -4, 0, 0, 0, 1, 0, 0, 0, 0]) : FnG P w K mg base (L2.CX P w) 5 f fd ["places"] (SpX K cl 1 X_limits_fours_greatest) := by
  refine fng_defX (st := s_fours_greatest) (ps := ["places"]) (N := ["places"]) (O := []) (t := tx_fours_greatest K cl) (fx := f_X_limits_fours_greatest) F sc_fours_greatest (fun cdv B out z H E hg hr => ?_) (fun pot => ?_)
  · have nd := sc_fours_greatest.nd
    have hg0 : (B.deeper (envOfC y (defScope s_fours_greatest) z.heap.objs.size f cdv)).guards = some [] := hg
    have hu64 := hr.units
    exact (pss_cons (ps_expr (pe_goX Y_want_even_places (hr.mono (by decide)) hg0 (takes_of rfl rfl rfl rfl) rfl (pa_cons (pv 0) pa_nil) (fun _ _ _ _ _ _ _ us hl => match us, hl with | [_], _ => rfl))) (pss_cons (ps_expr (pe_goX Y_want_eights (hr.mono (by decide)) hg0 (takes_of rfl rfl rfl rfl) rfl (pa_cons (pv 0) pa_nil) (fun _ _ _ _ _ _ _ us hl => match us, hl with | [_], _ => rfl))) (pss_one (ps_ret (pe_go F_greatest_by (hr.mono (by decide)) hg0 rfl (pa_cons (pv 0) (pa_cons (pe_gtup rfl gt_FOURS_FIRST) (pa_cons (pe_gtup rfl gt_FOURS_SECOND) pa_nil))) (fun _ _ _ _ _ _ _ us hl => match us, hl with | [_, _, _], _ => rfl))))))
  · exact (xs_two2 (κ := false) (fun W => (ss_drop (sim_goE (an_cons (sim_var 0) an_nil)))) (xs_drop (xe_goE2 (fun W => (an_cons (sim_var 0) an_nil))))
  (xs_fst (t2 := fun W => (tRet (tGo (SpD K cl Option true 3 P_limits_greatest_by) (tCons (tVar 0) (tCons (tC (.ref (He.ga K "FOURS_FIRST"))) (tCons (tC (.ref (He.ga K "FOURS_SECOND"))) tNil)))))) (xs_drop (xe_goE2 (fun W => (an_cons (sim_var 0) an_nil))))))
theorem fune_fours_greatest {x y : Str} (D : DefAt K mg x y s_fours_greatest) (F_want_even_places : Fun P w K mg base 3 "want_even_places" s_want_even_places ["value"] (SpD K cl Option false 1 P_sums_want_even_places)) (F_want_eights : Fun P w K mg base 1 "want_eights" s_want_eights ["places"] (SpD K cl Option false 1 P_sums_want_eights)) (F_greatest_by : Fun P w K mg base 4 "greatest_by" s_greatest_by ["places", "first", "second"] (SpD K cl Option true 3 P_limits_greatest_by)) (gt_FOURS_FIRST : GTup K mg "FOURS_FIRST" [1, 0, 0, 0, 14, 0, 0, 0, 1]) (gt_FOURS_SECOND : GTup K mg "FOURS_SECOND" [0, 0, 0, 0, 1, 0, 0, 0, -4, 0, 0, 0, 6, 0, 0, 0, -4, 0, 0, 0, 1, 0, 0, 0, 0]) (Y_want_even_places : FunX P w K mg base 3 "want_even_places" s_want_even_places ["value"] (SpE K cl Option false 1 P_sums_want_even_places X_sums_want_even_places)) (Y_want_eights : FunX P w K mg base 1 "want_eights" s_want_eights ["places"] (SpE K cl Option false 1 P_sums_want_eights X_sums_want_eights)) : FunX P w K mg base 5 x s_fours_greatest ["places"] (SpE K cl Option true 1 P_limits_fours_greatest X_limits_fours_greatest) := let ⟨f, fd, F, hm⟩ := D; funE F hm (g_fours_greatest F F_want_even_places F_want_eights F_greatest_by gt_FOURS_FIRST gt_FOURS_SECOND) (gx_fours_greatest F Y_want_even_places Y_want_eights F_greatest_by gt_FOURS_FIRST gt_FOURS_SECOND)
def t_can_be (K : PySem.W.Frag) (cl : Cl) : TS := (tSeq (tAsg (tGo (SpD K cl Option false 1 P_sums_want_row_numbers) (tCons (tVar 0) tNil)) (gName 1)) (tSeq (tAsg (tGo (SpD K cl Option false 3 P_sums_solved) (tCons (tVar 0) (tCons (tC (.ref (He.ga K "FIRST"))) (tCons (tC (.ref (He.ga K "SECOND"))) tNil)))) (gName 2)) (tSeq (tIfS (tOr (tTest (tOp (rIsN) (tVar 2) (tC .non))) (tTest (tOp (rLtI) (tCB (rMinU K) (tCons (tVar 0) tNil)) (tC (.int 0))))) (tRet (tC (.bl false))) tNext) (tSeq (tAsg (tGo (SpD K cl Option false 2 P_limits_shadow_by) (tCons (tVar 1) (tCons (tVar 2) tNil))) (gName 3)) (tRet (tAndV (tOp (rNotN) (tVar 3) (tC .non)) (tOp (rGeI) (tCB (rMinU K) (tCons (tVar 3) tNil)) (tC (.int 0)))))))))
theorem g_can_be {f : Addr} {fd : FuncData} {y : Str} (F : FunD K y y (defArgs s_can_be) (defBody s_can_be) (defScope s_can_be) [] [] f fd) (F_want_row_numbers : Fun P w K mg base 3 "want_row_numbers" s_want_row_numbers ["value"] (SpD K cl Option false 1 P_sums_want_row_numbers)) (F_solved : Fun P w K mg base 4 "solved" s_solved ["numbers", "first", "second"] (SpD K cl Option false 3 P_sums_solved)) (gt_FIRST : GTup K mg "FIRST" [1, 0, 1]) (gt_SECOND : GTup K mg "SECOND" [0, 0, 1, 0, -2, 0, 1, 0, 0]) (fr_min : mg "min" = none) (F_shadow_by : Fun P w K mg base 3 "shadow_by" s_shadow_by ["places", "numbers"] (SpD K cl Option false 2 P_limits_shadow_by)) : FnG P w K mg base CX0 5 f fd ["numbers"] (SpD K cl Option false 1 P_limits_can_be) := by
  refine fng_def (m := Option) (κ := false) (st := s_can_be) (ps := ["numbers"]) (N := ["numbers", "places", "found", "shadow"]) (O := []) (O' := []) (t := t_can_be K cl) (fs := f_P_limits_can_be) F sc_can_be (fun cdv B out z H E hg hr => ?_) (fun pot => ?_)
  · have nd := sc_can_be.nd
    have hg0 : (B.deeper (envOfC y (defScope s_can_be) z.heap.objs.size f cdv)).guards = some [] := hg
    have hu64 := hr.units
    exact (pss_cons (ps_set (i := 1) nd rfl (Or.inl rfl) (pe_go F_want_row_numbers (hr.mono (by decide)) hg0 rfl (pa_cons (pv 0) pa_nil) (fun _ _ _ _ _ _ _ us hl => match us, hl with | [_], _ => rfl))) (pss_cons (ps_set (i := 2) nd rfl (Or.inl rfl) (pe_go F_solved (hr.mono (by decide)) hg0 rfl (pa_cons (pv 0) (pa_cons (pe_gtup rfl gt_FIRST) (pa_cons (pe_gtup rfl gt_SECOND) pa_nil))) (fun _ _ _ _ _ _ _ us hl => match us, hl with | [_, _, _], _ => rfl))) (pss_cons (ps_if (PW.pt (pw_or (pt_cmpR op_isN (pv 2) pe_non (nomark _)) (pw_or1 (pt_cmpR op_lt (pe_callB (cr_minU rfl) rfl fr_min (by decide +kernel) (pa_cons (pv 0) pa_nil)) pe_int (nomark _))))) (pss_one (ps_ret pe_bl)) pss_nil) (pss_cons (ps_set (i := 3) nd rfl (Or.inl rfl) (pe_go F_shadow_by (hr.mono (by decide)) hg0 rfl (pa_cons (pv 1) (pa_cons (pv 2) pa_nil)) (fun _ _ _ _ _ _ _ us hl => match us, hl with | [_, _], _ => rfl))) (pss_one (ps_ret (pe_and (pe_cmpR op_notN (pv 3) pe_non (nomark _)) (pe_one (pe_cmpR op_ge (pe_callB (cr_minU rfl) rfl fr_min (by decide +kernel) (pa_cons (pv 3) pa_nil)) pe_int (nomark _))))))))))
  · exact (ss_seq (ss_set 1 (sim_go (an_cons (sim_var 0) an_nil)))
  (ss_seq (ss_set 2 (sim_go (an_cons (sim_var 0) (an_cons (sim_gtup gt_FIRST) (an_cons (sim_gtup gt_SECOND) an_nil)))))
  (ss_seq (ss_if (tst_or (tst_test (sim_op os_is (sim_var 2) sim_non)) (tst_test (sim_op os_lt (sim_cb cs_minU (args_cons (sim_up (sim_var 0)) args_nil)) (sim_int 0)))) (ss_ret (sim_bl false)) ss_next)
  (ss_seq (ss_set 3 (sim_go (an_cons (sim_var 1) (an_cons (sim_var 2) an_nil))))
  (ss_ret (sim_andV (sim_op os_isNot (sim_var 3) sim_non) (sim_op os_ge (sim_cb cs_minU (args_cons (sim_up (sim_var 3)) args_nil)) (sim_int 0))))))))
theorem fun_can_be {x y : Str} (D : DefAt K mg x y s_can_be) (F_want_row_numbers : Fun P w K mg base 3 "want_row_numbers" s_want_row_numbers ["value"] (SpD K cl Option false 1 P_sums_want_row_numbers)) (F_solved : Fun P w K mg base 4 "solved" s_solved ["numbers", "first", "second"] (SpD K cl Option false 3 P_sums_solved)) (gt_FIRST : GTup K mg "FIRST" [1, 0, 1]) (gt_SECOND : GTup K mg "SECOND" [0, 0, 1, 0, -2, 0, 1, 0, 0]) (fr_min : mg "min" = none) (F_shadow_by : Fun P w K mg base 3 "shadow_by" s_shadow_by ["places", "numbers"] (SpD K cl Option false 2 P_limits_shadow_by)) : Fun P w K mg base 5 x s_can_be ["numbers"] (SpD K cl Option false 1 P_limits_can_be) := let ⟨f, fd, F, hm⟩ := D; ⟨y, f, fd, F, g_can_be F F_want_row_numbers F_solved gt_FIRST gt_SECOND fr_min F_shadow_by, hm⟩
def tx_can_be (K : PySem.W.Frag) (cl : Cl) : WX → TS := fun W => (tSeq (tAsg (tGoX (SpE K cl Option false 1 P_sums_want_row_numbers X_sums_want_row_numbers) (WE W) (tCons (tVar 0) tNil)) (gName 1)) (tSeq (tAsg (tGo (SpD K cl Option false 3 P_sums_solved) (tCons (tVar 0) (tCons (tC (.ref (He.ga K "FIRST"))) (tCons (tC (.ref (He.ga K "SECOND"))) tNil)))) (gName 2)) (tSeq (tIfS (tOr (tTest (tOp (rIsN) (tVar 2) (tC .non))) (tTest (tOp (rLtI) (tCB (rMinU K) (tCons (tVar 0) tNil)) (tC (.int 0))))) (tRet (tC (.bl false))) tNext) (tSeq (tAsg (tGo (SpD K cl Option false 2 P_limits_shadow_by) (tCons (tVar 1) (tCons (tVar 2) tNil))) (gName 3)) (tRet (tAndV (tOp (rNotN) (tVar 3) (tC .non)) (tOp (rGeI) (tCB (rMinU K) (tCons (tVar 3) tNil)) (tC (.int 0)))))))))
theorem gx_can_be {f : Addr} {fd : FuncData} {y : Str} (F : FunD K y y (defArgs s_can_be) (defBody s_can_be) (defScope s_can_be) [] [] f fd) (Y_want_row_numbers : FunX P w K mg base 3 "want_row_numbers" s_want_row_numbers ["value"] (SpE K cl Option false 1 P_sums_want_row_numbers X_sums_want_row_numbers)) (F_solved : Fun P w K mg base 4 "solved" s_solved ["numbers", "first", "second"] (SpD K cl Option false 3 P_sums_solved)) (gt_FIRST : GTup K mg "FIRST" [1, 0, 1]) (gt_SECOND : GTup K mg "SECOND" [0, 0, 1, 0, -2, 0, 1, 0, 0]) (fr_min : mg "min" = none) (F_shadow_by : Fun P w K mg base 3 "shadow_by" s_shadow_by ["places", "numbers"] (SpD K cl Option false 2 P_limits_shadow_by)) : FnG P w K mg base (L2.CX P w) 5 f fd ["numbers"] (SpX K cl 1 X_limits_can_be) := by
  refine fng_defX (st := s_can_be) (ps := ["numbers"]) (N := ["numbers", "places", "found", "shadow"]) (O := []) (t := tx_can_be K cl) (fx := f_X_limits_can_be) F sc_can_be (fun cdv B out z H E hg hr => ?_) (fun pot => ?_)
  · have nd := sc_can_be.nd
    have hg0 : (B.deeper (envOfC y (defScope s_can_be) z.heap.objs.size f cdv)).guards = some [] := hg
    have hu64 := hr.units
    exact (pss_cons (ps_set (i := 1) nd rfl (Or.inl rfl) (pe_goX Y_want_row_numbers (hr.mono (by decide)) hg0 (takes_of rfl rfl rfl rfl) rfl (pa_cons (pv 0) pa_nil) (fun _ _ _ _ _ _ _ us hl => match us, hl with | [_], _ => rfl))) (pss_cons (ps_set (i := 2) nd rfl (Or.inl rfl) (pe_go F_solved (hr.mono (by decide)) hg0 rfl (pa_cons (pv 0) (pa_cons (pe_gtup rfl gt_FIRST) (pa_cons (pe_gtup rfl gt_SECOND) pa_nil))) (fun _ _ _ _ _ _ _ us hl => match us, hl with | [_, _, _], _ => rfl))) (pss_cons (ps_if (PW.pt (pw_or (pt_cmpR op_isN (pv 2) pe_non (nomark _)) (pw_or1 (pt_cmpR op_lt (pe_callB (cr_minU rfl) rfl fr_min (by decide +kernel) (pa_cons (pv 0) pa_nil)) pe_int (nomark _))))) (pss_one (ps_ret pe_bl)) pss_nil) (pss_cons (ps_set (i := 3) nd rfl (Or.inl rfl) (pe_go F_shadow_by (hr.mono (by decide)) hg0 rfl (pa_cons (pv 1) (pa_cons (pv 2) pa_nil)) (fun _ _ _ _ _ _ _ us hl => match us, hl with | [_, _], _ => rfl))) (pss_one (ps_ret (pe_and (pe_cmpR op_notN (pv 3) pe_non (nomark _)) (pe_one (pe_cmpR op_ge (pe_callB (cr_minU rfl) rfl fr_min (by decide +kernel) (pa_cons (pv 3) pa_nil)) pe_int (nomark _))))))))))
  · exact (xs_fst (t2 := fun W => (tSeq (tAsg (tGo (SpD K cl Option false 3 P_sums_solved) (tCons (tVar 0) (tCons (tC (.ref (He.ga K "FIRST"))) (tCons (tC (.ref (He.ga K "SECOND"))) tNil)))) (gName 2)) (tSeq (tIfS (tOr (tTest (tOp (rIsN) (tVar 2) (tC .non))) (tTest (tOp (rLtI) (tCB (rMinU K) (tCons (tVar 0) tNil)) (tC (.int 0))))) (tRet (tC (.bl false))) tNext) (tSeq (tAsg (tGo (SpD K cl Option false 2 P_limits_shadow_by) (tCons (tVar 1) (tCons (tVar 2) tNil))) (gName 3)) (tRet (tAndV (tOp (rNotN) (tVar 3) (tC .non)) (tOp (rGeI) (tCB (rMinU K) (tCons (tVar 3) tNil)) (tC (.int 0))))))))) (xs_asg (xe_goE2 (fun W => (an_cons (sim_var 0) an_nil)))))
theorem fune_can_be {x y : Str} (D : DefAt K mg x y s_can_be) (F_want_row_numbers : Fun P w K mg base 3 "want_row_numbers" s_want_row_numbers ["value"] (SpD K cl Option false 1 P_sums_want_row_numbers)) (F_solved : Fun P w K mg base 4 "solved" s_solved ["numbers", "first", "second"] (SpD K cl Option false 3 P_sums_solved)) (gt_FIRST : GTup K mg "FIRST" [1, 0, 1]) (gt_SECOND : GTup K mg "SECOND" [0, 0, 1, 0, -2, 0, 1, 0, 0]) (fr_min : mg "min" = none) (F_shadow_by : Fun P w K mg base 3 "shadow_by" s_shadow_by ["places", "numbers"] (SpD K cl Option false 2 P_limits_shadow_by)) (Y_want_row_numbers : FunX P w K mg base 3 "want_row_numbers" s_want_row_numbers ["value"] (SpE K cl Option false 1 P_sums_want_row_numbers X_sums_want_row_numbers)) : FunX P w K mg base 5 x s_can_be ["numbers"] (SpE K cl Option false 1 P_limits_can_be X_limits_can_be) := let ⟨f, fd, F, hm⟩ := D; funE F hm (g_can_be F F_want_row_numbers F_solved gt_FIRST gt_SECOND fr_min F_shadow_by) (gx_can_be F Y_want_row_numbers F_solved gt_FIRST gt_SECOND fr_min F_shadow_by)
def t__law_pot (K : PySem.W.Frag) (cl : Cl) : TS := (tSeq (tAsg (tOp (rAddU K) (tOp (rAddU K) (tOp (rMulU) (tC (.int 311)) (tVar 1)) (tC (.int 241))) (tOp (rModI) (tCB (rSum K) (tCons (tSl (rSlU K) (tVar 0) tNoPart (tPart (tC (.int 1)))) tNil)) (tC (.int 1000003)))) (gName 2)) (tSeq (tIfS (tTest (tOp (rLtI) (tVar 1) (tCB (rLenU K) (tCons (tVar 0) tNil)))) (tAsg (tCB (rAbsI) (tCons (tOp (rIx K) (tVar 0) (tVar 1)) tNil)) (gName 2)) tNext) (tRet (tLst (tCons (tCB rMax2 (tCons (tC (.int 0)) (tCons (tOp (rSubI) (tVar 2) (tOp (rPowI) (tC (.int 10)) (tC (.int 18)))) tNil))) (tCons (tOp (rAddU K) (tOp (rModI) (tOp (rMulU) (tOp (rAddU K) (tOp (rModI) (tVar 2) (tC (.int 2147483549))) (tC (.int 18353))) (tOp (rPowI) (tOp (rAddU K) (tOp (rMulU) (tC (.int 2)) (tVar 1)) (tC (.int 3))) (tC (.int 3)))) (tC (.int 2147483477))) (tC (.int 1))) tNil))))))
theorem g__law_pot {f : Addr} {fd : FuncData} {y : Str} (F : FunD K y y (defArgs s__law_pot) (defBody s__law_pot) (defScope s__law_pot) [] [] f fd) (fr_sum : mg "sum" = none) (fr_len : mg "len" = none) (fr_abs : mg "abs" = none) (fr_max : mg "max" = none) : FnG P w K mg base CX0 1 f fd ["_law_script", "_law_k"] (SpD K cl Option true 2 L_pot_v62) := by
  refine fng_def (m := Option) (κ := true) (st := s__law_pot) (ps := ["_law_script", "_law_k"]) (N := ["_law_script", "_law_k", "_law_cell"]) (O := []) (O' := []) (t := t__law_pot K cl) (fs := f_L_pot_v62) F sc__law_pot (fun cdv B out z H E hg hr => ?_) (fun pot => ?_)
  · have nd := sc__law_pot.nd
    have hg0 : (B.deeper (envOfC y (defScope s__law_pot) z.heap.objs.size f cdv)).guards = some [] := hg
    have hu64 := hr.units
    exact (pss_cons (ps_set (i := 2) nd rfl (Or.inl rfl) (pe_op op_addU (pe_op op_addU (pe_op op_mulU pe_int (pv 1)) pe_int) (pe_op op_mod (pe_callB (cr_sum rfl) rfl fr_sum (by decide +kernel) (pa_cons (pe_slice sl_U (pv 0) po_none (po_some pe_int)) pa_nil)) pe_int))) (pss_cons (ps_if (pt_cmpR op_lt (pv 1) (pe_callB call_lenU rfl fr_len (by decide +kernel) (pa_cons (pv 0) pa_nil)) (nomark _)) (pss_one (ps_set (i := 2) nd rfl (Or.inl rfl) (pe_callB call_abs rfl fr_abs (by decide +kernel) (pa_cons (pe_ix ix_seq (pv 0) (pv 1) (fun _ _ => rfl)) pa_nil)))) pss_nil) (pss_one (ps_ret (pe_lst (pa_cons (pe_callB (call_max2 rfl) rfl fr_max (by decide +kernel) (pa_cons pe_int (pa_cons (pe_op op_sub (pv 2) (pe_op op_pow pe_int pe_int)) pa_nil))) (pa_cons (pe_op op_addU (pe_op op_mod (pe_op op_mulU (pe_op op_addU (pe_op op_mod (pv 2) pe_int) pe_int) (pe_op op_pow (pe_op op_addU (pe_op op_mulU pe_int (pv 1)) pe_int) pe_int)) pe_int) pe_int) pa_nil)))))))
  · exact (ss_seq (ss_set 2 (sim_op os_add (sim_op os_add (sim_op os_mul (sim_int 311) (sim_var 1)) (sim_int 241)) (sim_op os_mod (sim_cb cs_sum (args_cons (sim_up (sim_slU (sim_var 0) prt_none (prt_some (sim_int 1)))) args_nil)) (sim_int 1000003))))
  (ss_seq (ss_if (tst_test (sim_op os_lt (sim_var 1) (sim_cb cs_len (args_cons (sim_up (sim_var 0)) args_nil)))) (ss_set 2 (sim_cb cs_abs (args_cons (sim_up (sim_op os_ix (sim_var 0) (sim_var 1))) args_nil))) ss_next)
  (ss_retL (simL_lst (args_cons (sim_cb cs_max2 (args_cons (sim_up (sim_int 0)) (args_cons (sim_up (sim_op os_sub (sim_var 2) (sim_op os_pow (sim_int 10) (sim_int 18)))) args_nil))) (args_cons (sim_op os_add (sim_op os_mod (sim_op os_mul (sim_op os_add (sim_op os_mod (sim_var 2) (sim_int 2147483549)) (sim_int 18353)) (sim_op os_pow (sim_op os_add (sim_op os_mul (sim_int 2) (sim_var 1)) (sim_int 3)) (sim_int 3))) (sim_int 2147483477)) (sim_int 1)) args_nil))))))
theorem fun__law_pot {x y : Str} (D : DefAt K mg x y s__law_pot) (fr_sum : mg "sum" = none) (fr_len : mg "len" = none) (fr_abs : mg "abs" = none) (fr_max : mg "max" = none) : Fun P w K mg base 1 x s__law_pot ["_law_script", "_law_k"] (SpD K cl Option true 2 L_pot_v62) := let ⟨f, fd, F, hm⟩ := D; ⟨y, f, fd, F, g__law_pot F fr_sum fr_len fr_abs fr_max, hm⟩
theorem g__law_draw {f : Addr} {fd : FuncData} {y : Str} (F : FunD K y y (defArgs s__law_draw) (defBody s__law_draw) (defScope s__law_draw) [] [] f fd) (fr_divmod : mg "divmod" = none) : FnG P w K mg base CX0 1 f fd ["_law_pot_here", "_law_many"] (SpD K cl G false 2 S_draw) := by
  refine fun_draw (st := s__law_draw) (ps := ["_law_pot_here", "_law_many"]) (N := ["_law_pot_here", "_law_many", "_law_digit"]) (t := tDraw2 K 48271 18353 2147483587 2147483549 13) F sc__law_draw (.inr rfl) ⟨by decide, by decide, by decide, by decide, by decide⟩ rfl rfl (fun cdv B out z H E hg hr => ?_)
  have nd := sc__law_draw.nd
  have hg0 : (B.deeper (envOfC y (defScope s__law_draw) z.heap.objs.size f cdv)).guards = some [] := hg
  have hu64 := hr.units
  exact (pss_cons (ps_if (pt_cmpR op_gt (pe_ix ix_seq (pv 0) pe_int (fun _ _ => rfl)) pe_int (nomark _)) (pss_cons (ps_asg (pe_callB call_divmod rfl fr_divmod (by decide +kernel) (pa_cons (pe_ix ix_seq (pv 0) pe_int (fun _ _ => rfl)) (pa_cons (pv 1) pa_nil))) (pg_tup rfl (pgs_cons (pg_sub (pv 0) pe_int set_list) (pgs_cons (pg_name (i := 2) nd rfl (Or.inl rfl)) pgs_nil)))) (pss_one (ps_ret (pv 2)))) pss_nil)
    (pss_cons (ps_asg (pe_op op_mod (pe_op op_addU (pe_op op_mulU (pe_ix ix_seq (pv 0) pe_int (fun _ _ => rfl)) pe_int) pe_int) pe_int) (pg_sub (pv 0) pe_int set_list))
    (pss_one (ps_ret (pe_op op_mod (pe_op op_fdivW (pe_op op_mod (pe_op op_mulU (pe_ix ix_seq (pv 0) pe_int (fun _ _ => rfl)) (pe_ix ix_seq (pv 0) pe_int (fun _ _ => rfl))) pe_int) pe_int) (pv 1))))))
theorem fun__law_draw {x y : Str} (D : DefAt K mg x y s__law_draw) (fr_divmod : mg "divmod" = none) : Fun P w K mg base 1 x s__law_draw ["_law_pot_here", "_law_many"] (SpD K cl G false 2 S_draw) := let ⟨f, fd, F, hm⟩ := D; ⟨y, f, fd, F, g__law_draw F fr_divmod, hm⟩
def t__law_heard (P : Program) (w : World) (K : PySem.W.Frag) (mg : Str → Option Value) (base : Heap) (cl : Cl) (pot : Sh) : TS := (tSeq (tTryM K 1 (fun W => tDrop (tAct ⟨K, cl, pot⟩ 0 W)) [(.ref (cl "InvalidPlaces"), fun a cls dd => (tRet (tLst (tCons (tC (.str "places")) (tCons (tCB (rReprV K) (tCons (tXf a cls dd (cl "InvalidPlaces") "value" (tVar 1)) tNil)) (tCons (tCB (rIsT K cls a) (tCons (tVar 1) (tCons (tC (.ref (cl "WordError"))) tNil))) tNil)))))),
    (.ref (cl "InvalidNumbers"), fun a cls dd => (tRet (tLst (tCons (tC (.str "numbers")) (tCons (tCB (rReprV K) (tCons (tXf a cls dd (cl "InvalidNumbers") "value" (tVar 1)) tNil)) (tCons (tCB (rIsT K cls a) (tCons (tVar 1) (tCons (tC (.ref (cl "WordError"))) tNil))) tNil)))))),
    (.ref (cl "NotEights"), fun a cls dd => (tRet (tLst (tCons (tC (.str "not eights")) (tCons (tCB (rIsT K cls a) (tCons (tVar 1) (tCons (tC (.ref (cl "StateError"))) tNil))) tNil)))))]) (tRet (tLst (tCons (tC (.str "let")) tNil))))
theorem g__law_heard {f : Addr} {fd : FuncData} {y : Str} (F : FunD K y y (defArgs s__law_heard) (defBody s__law_heard) (defScope s__law_heard) [] [] f fd) (XF_InvalidPlaces : XfC K (cl "InvalidPlaces")) (NF_InvalidPlaces__value : PySem.W.findIn K (.ref (cl "InvalidPlaces")) "value" = some none) (fr_repr : mg "repr" = none) (fr_isinstance : mg "isinstance" = none) (gm_WordError : mg "WordError" = some (.ref (cl "WordError"))) (KS_InvalidPlaces__WordError : PySem.W.kitCls K (.ref (cl "InvalidPlaces")) (.ref (cl "WordError")) = some true) (gm_InvalidPlaces : mg "InvalidPlaces" = some (.ref (cl "InvalidPlaces"))) (XF_InvalidNumbers : XfC K (cl "InvalidNumbers")) (NF_InvalidNumbers__value : PySem.W.findIn K (.ref (cl "InvalidNumbers")) "value" = some none) (KS_InvalidNumbers__WordError : PySem.W.kitCls K (.ref (cl "InvalidNumbers")) (.ref (cl "WordError")) = some true) (gm_InvalidNumbers : mg "InvalidNumbers" = some (.ref (cl "InvalidNumbers"))) (gm_StateError : mg "StateError" = some (.ref (cl "StateError"))) (KS_NotEights__StateError : PySem.W.kitCls K (.ref (cl "NotEights")) (.ref (cl "StateError")) = some true) (gm_NotEights : mg "NotEights" = some (.ref (cl "NotEights"))) (XM : ∀ pot, ExmAll ⟨K, cl, pot⟩ ["InvalidPlaces", "InvalidNumbers", "NotEights"]) : FnG P w K mg base CX0 7 f fd ["_law_call"] (SpF P w K mg base cl 6 Option true 1 L_heard) := by
  refine fng_defF (m := Option) (κ := true) (st := s__law_heard) (ps := ["_law_call"]) (N := ["_law_call", "e"]) (O := []) (O' := []) (t := t__law_heard P w K mg base cl) (fs := f_L_heard) F sc__law_heard (fun pot hC cdv B out z H E hg hr => ?_) (fun pot hC => ?_)
  · have nd := sc__law_heard.nd
    have hg0 : (B.deeper (envOfC y (defScope s__law_heard) z.heap.objs.size f cdv)).guards = some [] := hg
    have hu64 := hr.units
    exact (pss_cons (ps_tryM rfl rfl nd rfl rfl (fun W pn xe tk => by exact pss_one (ps_expr (pe_act hC (hr.mono (by decide)) hg0 tk rfl (.inl rfl)))) (by exact (Clauses.cons ⟨rfl, by decide, .inl gm_InvalidPlaces⟩ (fun a oe cls dd pn hz hf => by exact pss_one (ps_ret (pe_lst (pa_cons pe_str (pa_cons (pe_callB (call_reprV hg0 hu64) rfl fr_repr (by decide +kernel) (pa_cons (pe_xf XF_InvalidPlaces NF_InvalidPlaces__value hz hf (pv 1)) pa_nil)) (pa_cons (pe_callB (call_isT hz) rfl fr_isinstance (by decide +kernel) (pa_cons (pv 1) (pa_cons (pe_glob rfl gm_WordError rfl) pa_nil))) pa_nil))))))
    (Clauses.cons ⟨rfl, by decide, .inl gm_InvalidNumbers⟩ (fun a oe cls dd pn hz hf => by exact pss_one (ps_ret (pe_lst (pa_cons pe_str (pa_cons (pe_callB (call_reprV hg0 hu64) rfl fr_repr (by decide +kernel) (pa_cons (pe_xf XF_InvalidNumbers NF_InvalidNumbers__value hz hf (pv 1)) pa_nil)) (pa_cons (pe_callB (call_isT hz) rfl fr_isinstance (by decide +kernel) (pa_cons (pv 1) (pa_cons (pe_glob rfl gm_WordError rfl) pa_nil))) pa_nil))))))
    (Clauses.cons ⟨rfl, by decide, .inl gm_NotEights⟩ (fun a oe cls dd pn hz hf => by exact pss_one (ps_ret (pe_lst (pa_cons pe_str (pa_cons (pe_callB (call_isT hz) rfl fr_isinstance (by decide +kernel) (pa_cons (pv 1) (pa_cons (pe_glob rfl gm_StateError rfl) pa_nil))) pa_nil)))))
    Clauses.nil))))) (pss_one (ps_ret (pe_lst (pa_cons pe_str pa_nil)))))
  · exact (ss_seq (ss_tryP 0 1 (qs := [⟨"InvalidPlaces", fun a cls dd => (tRet (tLst (tCons (tC (.str "places")) (tCons (tCB (rReprV K) (tCons (tXf a cls dd (cl "InvalidPlaces") "value" (tVar 1)) tNil)) (tCons (tCB (rIsT K cls a) (tCons (tVar 1) (tCons (tC (.ref (cl "WordError"))) tNil))) tNil))))), fun er => (sRetL (pLst (aCons (pC (.str "places")) (aCons (pReprG dReprV "value" er) (aCons (pC (.bl true)) aNil)))))⟩,
    ⟨"InvalidNumbers", fun a cls dd => (tRet (tLst (tCons (tC (.str "numbers")) (tCons (tCB (rReprV K) (tCons (tXf a cls dd (cl "InvalidNumbers") "value" (tVar 1)) tNil)) (tCons (tCB (rIsT K cls a) (tCons (tVar 1) (tCons (tC (.ref (cl "WordError"))) tNil))) tNil))))), fun er => (sRetL (pLst (aCons (pC (.str "numbers")) (aCons (pReprG dReprV "value" er) (aCons (pC (.bl true)) aNil)))))⟩,
    ⟨"NotEights", fun a cls dd => (tRet (tLst (tCons (tC (.str "not eights")) (tCons (tCB (rIsT K cls a) (tCons (tVar 1) (tCons (tC (.ref (cl "StateError"))) tNil))) tNil)))), fun er => (sRetL (pLst (aCons (pC (.str "not eights")) (aCons (pC (.bl true)) aNil))))⟩]) (XM pot) rfl (claAll_cons (fun a cls dd er he => by cases er; cases he; exact (sse_retL (ae_cons (se_of (sim_str "places")) (ae_cons (se_reprG cs_reprV "value") (ae_cons (se_isT "WordError" KS_InvalidPlaces__WordError) ae_nil)))))
    (claAll_cons (fun a cls dd er he => by cases er; cases he; exact (sse_retL (ae_cons (se_of (sim_str "numbers")) (ae_cons (se_reprG cs_reprV "value") (ae_cons (se_isT "WordError" KS_InvalidNumbers__WordError) ae_nil)))))
    (claAll_cons (fun a cls dd er he => by cases er; cases he; exact (sse_retL (ae_cons (se_of (sim_str "not eights")) (ae_cons (se_isT "StateError" KS_NotEights__StateError) ae_nil))))
    claAll_nil))))
  (ss_retL (simL_lst (args_cons (sim_str "let") args_nil))))
theorem fun__law_heard {x y : Str} (D : DefAt K mg x y s__law_heard) (XF_InvalidPlaces : XfC K (cl "InvalidPlaces")) (NF_InvalidPlaces__value : PySem.W.findIn K (.ref (cl "InvalidPlaces")) "value" = some none) (fr_repr : mg "repr" = none) (fr_isinstance : mg "isinstance" = none) (gm_WordError : mg "WordError" = some (.ref (cl "WordError"))) (KS_InvalidPlaces__WordError : PySem.W.kitCls K (.ref (cl "InvalidPlaces")) (.ref (cl "WordError")) = some true) (gm_InvalidPlaces : mg "InvalidPlaces" = some (.ref (cl "InvalidPlaces"))) (XF_InvalidNumbers : XfC K (cl "InvalidNumbers")) (NF_InvalidNumbers__value : PySem.W.findIn K (.ref (cl "InvalidNumbers")) "value" = some none) (KS_InvalidNumbers__WordError : PySem.W.kitCls K (.ref (cl "InvalidNumbers")) (.ref (cl "WordError")) = some true) (gm_InvalidNumbers : mg "InvalidNumbers" = some (.ref (cl "InvalidNumbers"))) (gm_StateError : mg "StateError" = some (.ref (cl "StateError"))) (KS_NotEights__StateError : PySem.W.kitCls K (.ref (cl "NotEights")) (.ref (cl "StateError")) = some true) (gm_NotEights : mg "NotEights" = some (.ref (cl "NotEights"))) (XM : ∀ pot, ExmAll ⟨K, cl, pot⟩ ["InvalidPlaces", "InvalidNumbers", "NotEights"]) : Fun P w K mg base 7 x s__law_heard ["_law_call"] (SpF P w K mg base cl 6 Option true 1 L_heard) := let ⟨f, fd, F, hm⟩ := D; ⟨y, f, fd, F, g__law_heard F XF_InvalidPlaces NF_InvalidPlaces__value fr_repr fr_isinstance gm_WordError KS_InvalidPlaces__WordError gm_InvalidPlaces XF_InvalidNumbers NF_InvalidNumbers__value KS_InvalidNumbers__WordError gm_InvalidNumbers gm_StateError KS_NotEights__StateError gm_NotEights XM, hm⟩
def t__law_are (P : Program) (w : World) (K : PySem.W.Frag) (mg : Str → Option Value) (base : Heap) (cl : Cl) (pot : Sh) : TS := (tRet (tOp (rEqU K) (tLc (iSeq K (tVar 0)) (gName 2) (tTest (tOp (rNeU K) (tGo (SpF P w K mg base cl 6 Option true 1 L_heard) (tCons (tVar 2) tNil)) (tVar 1))) (tVar 2) [2]) (tLst tNil)))
theorem g__law_are {f : Addr} {fd : FuncData} {y : Str} (F : FunD K y y (defArgs s__law_are) (defBody s__law_are) (defScope s__law_are) [] [] f fd) (F__law_heard : Fun P w K mg base 7 "_law_heard" s__law_heard ["_law_call"] (SpF P w K mg base cl 6 Option true 1 L_heard)) : FnG P w K mg base CX0 8 f fd ["_law_calls", "_law_due"] (SpF P w K mg base cl 6 Option false 2 L_are) := by
  refine fng_defF (m := Option) (κ := false) (st := s__law_are) (ps := ["_law_calls", "_law_due"]) (N := ["_law_calls", "_law_due", "_law_call"]) (O := []) (O' := []) (t := t__law_are P w K mg base cl) (fs := f_L_are) F sc__law_are (fun pot hC cdv B out z H E hg hr => ?_) (fun pot hC => ?_)
  · have nd := sc__law_are.nd
    have hg0 : (B.deeper (envOfC y (defScope s__law_are) z.heap.objs.size f cdv)).guards = some [] := hg
    have hu64 := hr.units
    exact (pss_one (ps_ret (pe_cmpR (op_eqU hu64) (pe_lc (own := [("_law_call", 2)]) (g := (gName 2)) (tt := (tTest (tOp (rNeU K) (tGo (SpF P w K mg base cl 6 Option true 1 L_heard) (tCons (tVar 2) tNil)) (tVar 1)))) (te := (tVar 2)) rfl nd (pi_seq (pv 0)) (blkOk_by (N := ["_law_calls", "_law_due", "_law_call"]) (sc := defScope s__law_are) (by decide +kernel)) (fun _ _ _ _ _ => (pg_name (i := 2) nd rfl (Or.inl rfl))) (fun _ _ _ _ _ => (pts_one (pt_cmpR (op_neU hu64) (pe_go F__law_heard (hr.mono (by decide)) hg0 rfl (pa_cons (pv 2) pa_nil) (fun _ _ _ _ _ _ _ us hl => match us, hl with | [_], _ => rfl)) (pv 1) (nomark _)))) (fun _ _ _ _ _ => (pv 2))) (pe_lst pa_nil) (nomark _))))
  · exact (ss_ret (sim_op os_eqT (sim_new (simL_lc (vs := [2]) (si_seq (sim_var 0)) (tg_name 2) (tst_test (sim_op os_neT (sim_goFnN hC (an_cons (sim_var 2) an_nil)) (sim_var 1))) (sim_var 2))) (sim_new (simL_lst args_nil))))
theorem fun__law_are {x y : Str} (D : DefAt K mg x y s__law_are) (F__law_heard : Fun P w K mg base 7 "_law_heard" s__law_heard ["_law_call"] (SpF P w K mg base cl 6 Option true 1 L_heard)) : Fun P w K mg base 8 x s__law_are ["_law_calls", "_law_due"] (SpF P w K mg base cl 6 Option false 2 L_are) := let ⟨f, fd, F, hm⟩ := D; ⟨y, f, fd, F, g__law_are F F__law_heard, hm⟩
abbrev lam__law_places_right_0 : LamD := ⟨lamOf ["_law_odd"] (lmE 0 (lmS ((defBody s__law_places_right).getD 0 noS))), oc_P_sums_row_of, [0]⟩
theorem lf__law_places_right_0 : ∀ y ∈ lam__law_places_right_0.L.scope.names, y.2 = .free → (defScope s__law_places_right).names.lookup y.1 = some .cell ∨ (defScope s__law_places_right).names.lookup y.1 = some .free := by decide +kernel
def te__law_places_right_0 (K : PySem.W.Frag) (cl : Cl) : WX → TE := fun W => (tGoX (SpE K cl Option false 2 P_sums_row_of X_sums_row_of) (WE W) (tCons (tVar 0) (tCons (tC .non) tNil)))
theorem lm__law_places_right_0 (Y_row_of : FunX P w K mg base 5 "row_of" s_row_of ["places", "numbers"] (SpE K cl Option false 2 P_sums_row_of X_sums_row_of)) : LamOk P w K mg base cl 5 lam__law_places_right_0.L lam__law_places_right_0.oc := by
  refine ⟨⟨NdefX.nscope_by (by decide +kernel), fun _ _ _ _ _ => rfl⟩, fun E => te__law_places_right_0 K cl fun cls d _ H => E cls d H, fun q cs c f A out z H E hg hr => ?_, fun pot => oc_of (b := true) (te := te__law_places_right_0 K cl) (x := (xGo X_sums_row_of (aCons (pVar 0) (aCons (pC .non) aNil)))) (f := (pGo P_sums_row_of (aCons (pVar 0) (aCons (pC .non) aNil)))) (fun W => ?_) ?_⟩
  · have hg0 := hg
    have hu64 := hr.units
    exact (pe_goX Y_row_of (hr.mono (by decide)) hg0 (takes_of rfl rfl rfl rfl) rfl (pa_cons (pv 0) (pa_cons pe_non pa_nil)) (fun _ _ _ _ _ _ _ us hl => match us, hl with | [_, _], _ => rfl))
  · exact (sim_goE (an_cons (sim_var 0) (an_cons sim_non an_nil)))
  · exact (xe_goE2 (fun W => (an_cons (sim_var 0) (an_cons sim_non an_nil))))
abbrev lam__law_places_right_1 : LamD := ⟨lamOf ["_law_odd"] (lmE 0 (lmS ((defBody s__law_places_right).getD 1 noS))), oc_P_sums_row_of_v2, [0]⟩
theorem lf__law_places_right_1 : ∀ y ∈ lam__law_places_right_1.L.scope.names, y.2 = .free → (defScope s__law_places_right).names.lookup y.1 = some .cell ∨ (defScope s__law_places_right).names.lookup y.1 = some .free := by decide +kernel
def te__law_places_right_1 (K : PySem.W.Frag) (cl : Cl) : WX → TE := fun W => (tGoX (SpE K cl Option false 2 P_sums_row_of X_sums_row_of) (WE W) (tKws 2 [1, 0] (tCons (tLst (tCons (tC (.int 1)) tNil)) (tCons (tVar 0) tNil))))
theorem lm__law_places_right_1 (Y_row_of : FunX P w K mg base 5 "row_of" s_row_of ["places", "numbers"] (SpE K cl Option false 2 P_sums_row_of X_sums_row_of)) : LamOk P w K mg base cl 5 lam__law_places_right_1.L lam__law_places_right_1.oc := by
  refine ⟨⟨NdefX.nscope_by (by decide +kernel), fun _ _ _ _ _ => rfl⟩, fun E => te__law_places_right_1 K cl fun cls d _ H => E cls d H, fun q cs c f A out z H E hg hr => ?_, fun pot => oc_of (b := true) (te := te__law_places_right_1 K cl) (x := (xGo X_sums_row_of (aKws [1, 0] (aCons (pOf (pLst (aCons (pC (.int 1)) aNil))) (aCons (pVar 0) aNil))))) (f := (pGo P_sums_row_of (aKws [1, 0] (aCons (pOf (pLst (aCons (pC (.int 1)) aNil))) (aCons (pVar 0) aNil))))) (fun W => ?_) ?_⟩
  · have hg0 := hg
    have hu64 := hr.units
    exact (pe_goXK0 ["numbers", "places"] [1, 0] Y_row_of (hr.mono (by decide)) hg0 (takes_of rfl rfl rfl rfl) rfl (pk_cons (pe_lst (pa_cons pe_int pa_nil)) (pk_cons (pv 0) pk_nil)) (fun _ _ _ _ _ _ _ us ws h1 h2 => match us, h1, ws, h2 with | [], _, [_, _], _ => rfl))
  · exact (sim_goE (an_kws [1, 0] (an_cons (sim_new (simL_lst (args_cons (sim_int 1) args_nil))) (an_cons (sim_var 0) an_nil))))
  · exact (xe_goE2 (fun W => (an_kws [1, 0] (an_cons (sim_new (simL_lst (args_cons (sim_int 1) args_nil))) (an_cons (sim_var 0) an_nil)))))
abbrev lam__law_places_right_2 : LamD := ⟨lamOf ["_law_odd"] (lmE 0 (lmS ((defBody s__law_places_right).getD 2 noS))), oc_P_sums_fours_row_of, [0]⟩
theorem lf__law_places_right_2 : ∀ y ∈ lam__law_places_right_2.L.scope.names, y.2 = .free → (defScope s__law_places_right).names.lookup y.1 = some .cell ∨ (defScope s__law_places_right).names.lookup y.1 = some .free := by decide +kernel
def te__law_places_right_2 (K : PySem.W.Frag) (cl : Cl) : WX → TE := fun W => (tGoX (SpE K cl Option false 2 P_sums_fours_row_of X_sums_fours_row_of) (WE W) (tCons (tVar 0) (tCons (tLst (tCons (tC (.int 1)) tNil)) tNil)))
theorem lm__law_places_right_2 (Y_fours_row_of : FunX P w K mg base 5 "fours_row_of" s_fours_row_of ["places", "numbers"] (SpE K cl Option false 2 P_sums_fours_row_of X_sums_fours_row_of)) : LamOk P w K mg base cl 5 lam__law_places_right_2.L lam__law_places_right_2.oc := by
  refine ⟨⟨NdefX.nscope_by (by decide +kernel), fun _ _ _ _ _ => rfl⟩, fun E => te__law_places_right_2 K cl fun cls d _ H => E cls d H, fun q cs c f A out z H E hg hr => ?_, fun pot => oc_of (b := true) (te := te__law_places_right_2 K cl) (x := (xGo X_sums_fours_row_of (aCons (pVar 0) (aCons (pOf (pLst (aCons (pC (.int 1)) aNil))) aNil)))) (f := (pGo P_sums_fours_row_of (aCons (pVar 0) (aCons (pOf (pLst (aCons (pC (.int 1)) aNil))) aNil)))) (fun W => ?_) ?_⟩
  · have hg0 := hg
    have hu64 := hr.units
    exact (pe_goX Y_fours_row_of (hr.mono (by decide)) hg0 (takes_of rfl rfl rfl rfl) rfl (pa_cons (pv 0) (pa_cons (pe_lst (pa_cons pe_int pa_nil)) pa_nil)) (fun _ _ _ _ _ _ _ us hl => match us, hl with | [_, _], _ => rfl))
  · exact (sim_goE (an_cons (sim_var 0) (an_cons (sim_new (simL_lst (args_cons (sim_int 1) args_nil))) an_nil)))
  · exact (xe_goE2 (fun W => (an_cons (sim_var 0) (an_cons (sim_new (simL_lst (args_cons (sim_int 1) args_nil))) an_nil))))
abbrev lam__law_places_right_3 : LamD := ⟨lamOf ["_law_odd"] (lmE 0 (lmS ((defBody s__law_places_right).getD 3 noS))), oc_P_sums_fours_row_of_v2, [0]⟩
theorem lf__law_places_right_3 : ∀ y ∈ lam__law_places_right_3.L.scope.names, y.2 = .free → (defScope s__law_places_right).names.lookup y.1 = some .cell ∨ (defScope s__law_places_right).names.lookup y.1 = some .free := by decide +kernel
def te__law_places_right_3 (K : PySem.W.Frag) (cl : Cl) : WX → TE := fun W => (tGoX (SpE K cl Option false 2 P_sums_fours_row_of X_sums_fours_row_of) (WE W) (tKws 2 [1, 0] (tCons (tC (.int 0)) (tCons (tVar 0) tNil))))
theorem lm__law_places_right_3 (Y_fours_row_of : FunX P w K mg base 5 "fours_row_of" s_fours_row_of ["places", "numbers"] (SpE K cl Option false 2 P_sums_fours_row_of X_sums_fours_row_of)) : LamOk P w K mg base cl 5 lam__law_places_right_3.L lam__law_places_right_3.oc := by
  refine ⟨⟨NdefX.nscope_by (by decide +kernel), fun _ _ _ _ _ => rfl⟩, fun E => te__law_places_right_3 K cl fun cls d _ H => E cls d H, fun q cs c f A out z H E hg hr => ?_, fun pot => oc_of (b := true) (te := te__law_places_right_3 K cl) (x := (xGo X_sums_fours_row_of (aKws [1, 0] (aCons (pC (.int 0)) (aCons (pVar 0) aNil))))) (f := (pGo P_sums_fours_row_of (aKws [1, 0] (aCons (pC (.int 0)) (aCons (pVar 0) aNil))))) (fun W => ?_) ?_⟩
  · have hg0 := hg
    have hu64 := hr.units
    exact (pe_goXK0 ["numbers", "places"] [1, 0] Y_fours_row_of (hr.mono (by decide)) hg0 (takes_of rfl rfl rfl rfl) rfl (pk_cons pe_int (pk_cons (pv 0) pk_nil)) (fun _ _ _ _ _ _ _ us ws h1 h2 => match us, h1, ws, h2 with | [], _, [_, _], _ => rfl))
  · exact (sim_goE (an_kws [1, 0] (an_cons (sim_int 0) (an_cons (sim_var 0) an_nil))))
  · exact (xe_goE2 (fun W => (an_kws [1, 0] (an_cons (sim_int 0) (an_cons (sim_var 0) an_nil)))))
abbrev lam__law_places_right_4 : LamD := ⟨lamOf ["_law_odd"] (lmE 0 (lmS ((defBody s__law_places_right).getD 4 noS))), oc_P_limits_shadow_of, [0]⟩
theorem lf__law_places_right_4 : ∀ y ∈ lam__law_places_right_4.L.scope.names, y.2 = .free → (defScope s__law_places_right).names.lookup y.1 = some .cell ∨ (defScope s__law_places_right).names.lookup y.1 = some .free := by decide +kernel
def te__law_places_right_4 (K : PySem.W.Frag) (cl : Cl) : WX → TE := fun W => (tGoX (SpE K cl Option false 2 P_limits_shadow_of X_limits_shadow_of) (WE W) (tCons (tVar 0) (tCons (tLst (tCons (tC (.int 1)) tNil)) tNil)))
theorem lm__law_places_right_4 (Y_shadow_of : FunX P w K mg base 4 "shadow_of" s_shadow_of ["places", "numbers"] (SpE K cl Option false 2 P_limits_shadow_of X_limits_shadow_of)) : LamOk P w K mg base cl 5 lam__law_places_right_4.L lam__law_places_right_4.oc := by
  refine ⟨⟨NdefX.nscope_by (by decide +kernel), fun _ _ _ _ _ => rfl⟩, fun E => te__law_places_right_4 K cl fun cls d _ H => E cls d H, fun q cs c f A out z H E hg hr => ?_, fun pot => oc_of (b := true) (te := te__law_places_right_4 K cl) (x := (xGo X_limits_shadow_of (aCons (pVar 0) (aCons (pOf (pLst (aCons (pC (.int 1)) aNil))) aNil)))) (f := (pGo P_limits_shadow_of (aCons (pVar 0) (aCons (pOf (pLst (aCons (pC (.int 1)) aNil))) aNil)))) (fun W => ?_) ?_⟩
  · have hg0 := hg
    have hu64 := hr.units
    exact (pe_goX Y_shadow_of (hr.mono (by decide)) hg0 (takes_of rfl rfl rfl rfl) rfl (pa_cons (pv 0) (pa_cons (pe_lst (pa_cons pe_int pa_nil)) pa_nil)) (fun _ _ _ _ _ _ _ us hl => match us, hl with | [_, _], _ => rfl))
  · exact (sim_goE (an_cons (sim_var 0) (an_cons (sim_new (simL_lst (args_cons (sim_int 1) args_nil))) an_nil)))
  · exact (xe_goE2 (fun W => (an_cons (sim_var 0) (an_cons (sim_new (simL_lst (args_cons (sim_int 1) args_nil))) an_nil))))
abbrev lam__law_places_right_5 : LamD := ⟨lamOf ["_law_odd"] (lmE 0 (lmS ((defBody s__law_places_right).getD 5 noS))), oc_P_limits_shadow_of_v2, [0]⟩
theorem lf__law_places_right_5 : ∀ y ∈ lam__law_places_right_5.L.scope.names, y.2 = .free → (defScope s__law_places_right).names.lookup y.1 = some .cell ∨ (defScope s__law_places_right).names.lookup y.1 = some .free := by decide +kernel
def te__law_places_right_5 (K : PySem.W.Frag) (cl : Cl) : WX → TE := fun W => (tGoX (SpE K cl Option false 2 P_limits_shadow_of X_limits_shadow_of) (WE W) (tKws 2 [1, 0] (tCons (tC .non) (tCons (tVar 0) tNil))))
theorem lm__law_places_right_5 (Y_shadow_of : FunX P w K mg base 4 "shadow_of" s_shadow_of ["places", "numbers"] (SpE K cl Option false 2 P_limits_shadow_of X_limits_shadow_of)) : LamOk P w K mg base cl 5 lam__law_places_right_5.L lam__law_places_right_5.oc := by
  refine ⟨⟨NdefX.nscope_by (by decide +kernel), fun _ _ _ _ _ => rfl⟩, fun E => te__law_places_right_5 K cl fun cls d _ H => E cls d H, fun q cs c f A out z H E hg hr => ?_, fun pot => oc_of (b := true) (te := te__law_places_right_5 K cl) (x := (xGo X_limits_shadow_of (aKws [1, 0] (aCons (pC .non) (aCons (pVar 0) aNil))))) (f := (pGo P_limits_shadow_of (aKws [1, 0] (aCons (pC .non) (aCons (pVar 0) aNil))))) (fun W => ?_) ?_⟩
  · have hg0 := hg
    have hu64 := hr.units
    exact (pe_goXK0 ["numbers", "places"] [1, 0] Y_shadow_of (hr.mono (by decide)) hg0 (takes_of rfl rfl rfl rfl) rfl (pk_cons pe_non (pk_cons (pv 0) pk_nil)) (fun _ _ _ _ _ _ _ us ws h1 h2 => match us, h1, ws, h2 with | [], _, [_, _], _ => rfl))
  · exact (sim_goE (an_kws [1, 0] (an_cons sim_non (an_cons (sim_var 0) an_nil))))
  · exact (xe_goE2 (fun W => (an_kws [1, 0] (an_cons sim_non (an_cons (sim_var 0) an_nil)))))
abbrev lam__law_places_right_6 : LamD := ⟨lamOf ["_law_odd"] (lmE 0 (lmS ((defBody s__law_places_right).getD 6 noS))), oc_P_limits_limit, [0]⟩
theorem lf__law_places_right_6 : ∀ y ∈ lam__law_places_right_6.L.scope.names, y.2 = .free → (defScope s__law_places_right).names.lookup y.1 = some .cell ∨ (defScope s__law_places_right).names.lookup y.1 = some .free := by decide +kernel
def te__law_places_right_6 (K : PySem.W.Frag) (cl : Cl) : WX → TE := fun W => (tGoX (SpE K cl Option false 1 P_limits_limit X_limits_limit) (WE W) (tCons (tVar 0) tNil))
theorem lm__law_places_right_6 (Y_limit : FunX P w K mg base 4 "limit" s_limit ["places"] (SpE K cl Option false 1 P_limits_limit X_limits_limit)) : LamOk P w K mg base cl 5 lam__law_places_right_6.L lam__law_places_right_6.oc := by
  refine ⟨⟨NdefX.nscope_by (by decide +kernel), fun _ _ _ _ _ => rfl⟩, fun E => te__law_places_right_6 K cl fun cls d _ H => E cls d H, fun q cs c f A out z H E hg hr => ?_, fun pot => oc_of (b := true) (te := te__law_places_right_6 K cl) (x := (xGo X_limits_limit (aCons (pVar 0) aNil))) (f := (pGo P_limits_limit (aCons (pVar 0) aNil))) (fun W => ?_) ?_⟩
  · have hg0 := hg
    have hu64 := hr.units
    exact (pe_goX Y_limit (hr.mono (by decide)) hg0 (takes_of rfl rfl rfl rfl) rfl (pa_cons (pv 0) pa_nil) (fun _ _ _ _ _ _ _ us hl => match us, hl with | [_], _ => rfl))
  · exact (sim_goE (an_cons (sim_var 0) an_nil))
  · exact (xe_goE2 (fun W => (an_cons (sim_var 0) an_nil)))
abbrev lam__law_places_right_7 : LamD := ⟨lamOf ["_law_odd"] (lmE 0 (lmS ((defBody s__law_places_right).getD 7 noS))), oc_P_limits_fours_limit, [0]⟩
theorem lf__law_places_right_7 : ∀ y ∈ lam__law_places_right_7.L.scope.names, y.2 = .free → (defScope s__law_places_right).names.lookup y.1 = some .cell ∨ (defScope s__law_places_right).names.lookup y.1 = some .free := by decide +kernel
def te__law_places_right_7 (K : PySem.W.Frag) (cl : Cl) : WX → TE := fun W => (tGoX (SpE K cl Option false 1 P_limits_fours_limit X_limits_fours_limit) (WE W) (tKws 1 [0] (tCons (tVar 0) tNil)))
theorem lm__law_places_right_7 (Y_fours_limit : FunX P w K mg base 4 "fours_limit" s_fours_limit ["places"] (SpE K cl Option false 1 P_limits_fours_limit X_limits_fours_limit)) : LamOk P w K mg base cl 5 lam__law_places_right_7.L lam__law_places_right_7.oc := by
  refine ⟨⟨NdefX.nscope_by (by decide +kernel), fun _ _ _ _ _ => rfl⟩, fun E => te__law_places_right_7 K cl fun cls d _ H => E cls d H, fun q cs c f A out z H E hg hr => ?_, fun pot => oc_of (b := true) (te := te__law_places_right_7 K cl) (x := (xGo X_limits_fours_limit (aKws [0] (aCons (pVar 0) aNil)))) (f := (pGo P_limits_fours_limit (aKws [0] (aCons (pVar 0) aNil)))) (fun W => ?_) ?_⟩
  · have hg0 := hg
    have hu64 := hr.units
    exact (pe_goXK0 ["places"] [0] Y_fours_limit (hr.mono (by decide)) hg0 (takes_of rfl rfl rfl rfl) rfl (pk_cons (pv 0) pk_nil) (fun _ _ _ _ _ _ _ us ws h1 h2 => match us, h1, ws, h2 with | [], _, [_], _ => rfl))
  · exact (sim_goE (an_kws [0] (an_cons (sim_var 0) an_nil)))
  · exact (xe_goE2 (fun W => (an_kws [0] (an_cons (sim_var 0) an_nil))))
abbrev lam__law_places_right_8 : LamD := ⟨lamOf ["_law_odd"] (lmE 0 (lmS ((defBody s__law_places_right).getD 8 noS))), oc_P_limits_greatest, [0]⟩
theorem lf__law_places_right_8 : ∀ y ∈ lam__law_places_right_8.L.scope.names, y.2 = .free → (defScope s__law_places_right).names.lookup y.1 = some .cell ∨ (defScope s__law_places_right).names.lookup y.1 = some .free := by decide +kernel
def te__law_places_right_8 (K : PySem.W.Frag) (cl : Cl) : WX → TE := fun W => (tGoX (SpE K cl Option true 1 P_limits_greatest X_limits_greatest) (WE W) (tCons (tVar 0) tNil))
theorem lm__law_places_right_8 (Y_greatest : FunX P w K mg base 5 "greatest" s_greatest ["places"] (SpE K cl Option true 1 P_limits_greatest X_limits_greatest)) : LamOk P w K mg base cl 5 lam__law_places_right_8.L lam__law_places_right_8.oc := by
  refine ⟨⟨NdefX.nscope_by (by decide +kernel), fun _ _ _ _ _ => rfl⟩, fun E => te__law_places_right_8 K cl fun cls d _ H => E cls d H, fun q cs c f A out z H E hg hr => ?_, fun pot => oc_of (b := true) (te := te__law_places_right_8 K cl) (x := (xGo X_limits_greatest (aCons (pVar 0) aNil))) (f := (pOf (pGoL P_limits_greatest (aCons (pVar 0) aNil)))) (fun W => ?_) ?_⟩
  · have hg0 := hg
    have hu64 := hr.units
    exact (pe_goX Y_greatest (hr.mono (by decide)) hg0 (takes_of rfl rfl rfl rfl) rfl (pa_cons (pv 0) pa_nil) (fun _ _ _ _ _ _ _ us hl => match us, hl with | [_], _ => rfl))
  · exact (sim_goEN (an_cons (sim_var 0) an_nil))
  · exact (xe_goE2 (fun W => (an_cons (sim_var 0) an_nil)))
abbrev lam__law_places_right_9 : LamD := ⟨lamOf ["_law_odd"] (lmE 0 (lmS ((defBody s__law_places_right).getD 9 noS))), oc_P_limits_fours_greatest, [0]⟩
theorem lf__law_places_right_9 : ∀ y ∈ lam__law_places_right_9.L.scope.names, y.2 = .free → (defScope s__law_places_right).names.lookup y.1 = some .cell ∨ (defScope s__law_places_right).names.lookup y.1 = some .free := by decide +kernel
def te__law_places_right_9 (K : PySem.W.Frag) (cl : Cl) : WX → TE := fun W => (tGoX (SpE K cl Option true 1 P_limits_fours_greatest X_limits_fours_greatest) (WE W) (tCons (tVar 0) tNil))
theorem lm__law_places_right_9 (Y_fours_greatest : FunX P w K mg base 5 "fours_greatest" s_fours_greatest ["places"] (SpE K cl Option true 1 P_limits_fours_greatest X_limits_fours_greatest)) : LamOk P w K mg base cl 5 lam__law_places_right_9.L lam__law_places_right_9.oc := by
  refine ⟨⟨NdefX.nscope_by (by decide +kernel), fun _ _ _ _ _ => rfl⟩, fun E => te__law_places_right_9 K cl fun cls d _ H => E cls d H, fun q cs c f A out z H E hg hr => ?_, fun pot => oc_of (b := true) (te := te__law_places_right_9 K cl) (x := (xGo X_limits_fours_greatest (aCons (pVar 0) aNil))) (f := (pOf (pGoL P_limits_fours_greatest (aCons (pVar 0) aNil)))) (fun W => ?_) ?_⟩
  · have hg0 := hg
    have hu64 := hr.units
    exact (pe_goX Y_fours_greatest (hr.mono (by decide)) hg0 (takes_of rfl rfl rfl rfl) rfl (pa_cons (pv 0) pa_nil) (fun _ _ _ _ _ _ _ us hl => match us, hl with | [_], _ => rfl))
  · exact (sim_goEN (an_cons (sim_var 0) an_nil))
  · exact (xe_goE2 (fun W => (an_cons (sim_var 0) an_nil)))
theorem cys__law_places_right_0 : ∀ y ∈ (["_law_odd"] : List Str), (defScope s__law_places_right).names.lookup y = some .cell := by decide +kernel
def t__law_places_right (P : Program) (w : World) (K : PySem.W.Frag) (mg : Str → Option Value) (base : Heap) (cl : Cl) (lq : Str) (cells : List (Str × Addr)) : TS := (tSeq (tAsg (tLst (tLams cl.T cells lq [lam__law_places_right_0])) (gName 1)) (tSeq (tDrop (tBM K "list" rAppend (tVar 1) (tCons (tLam cl.T cells lq lam__law_places_right_1.L) tNil))) (tSeq (tDrop (tBM K "list" rAppend (tVar 1) (tCons (tLam cl.T cells lq lam__law_places_right_2.L) tNil))) (tSeq (tDrop (tBM K "list" rAppend (tVar 1) (tCons (tLam cl.T cells lq lam__law_places_right_3.L) tNil))) (tSeq (tDrop (tBM K "list" rAppend (tVar 1) (tCons (tLam cl.T cells lq lam__law_places_right_4.L) tNil))) (tSeq (tDrop (tBM K "list" rAppend (tVar 1) (tCons (tLam cl.T cells lq lam__law_places_right_5.L) tNil))) (tSeq (tDrop (tBM K "list" rAppend (tVar 1) (tCons (tLam cl.T cells lq lam__law_places_right_6.L) tNil))) (tSeq (tDrop (tBM K "list" rAppend (tVar 1) (tCons (tLam cl.T cells lq lam__law_places_right_7.L) tNil))) (tSeq (tDrop (tBM K "list" rAppend (tVar 1) (tCons (tLam cl.T cells lq lam__law_places_right_8.L) tNil))) (tSeq (tDrop (tBM K "list" rAppend (tVar 1) (tCons (tLam cl.T cells lq lam__law_places_right_9.L) tNil))) (tRet (tGoC (SpF P w K mg base cl 6 Option false 2 L_are) cells ["_law_odd"] [0] (tCons (tVar 1) (tCons (tLst (tCons (tC (.str "places")) (tCons (tCB (rReprV K) (tCons (tVar 0) tNil)) (tCons (tC (.bl true)) tNil)))) tNil))))))))))))))
theorem g__law_places_right {f c PT : Addr} {fd : FuncData} {y : Str} (F : FunD K y y (defArgs s__law_places_right) (defBody s__law_places_right) (defScope s__law_places_right) [] [] f fd) (hcode : fd.code = .ref c) (TX : TabX mg base cl c PT ((y ++ ".<locals>.") ++ "<lambda>")) (LM__law_places_right_0 : LamOk P w K mg base cl 5 lam__law_places_right_0.L lam__law_places_right_0.oc) (LM__law_places_right_1 : LamOk P w K mg base cl 5 lam__law_places_right_1.L lam__law_places_right_1.oc) (LM__law_places_right_2 : LamOk P w K mg base cl 5 lam__law_places_right_2.L lam__law_places_right_2.oc) (LM__law_places_right_3 : LamOk P w K mg base cl 5 lam__law_places_right_3.L lam__law_places_right_3.oc) (LM__law_places_right_4 : LamOk P w K mg base cl 5 lam__law_places_right_4.L lam__law_places_right_4.oc) (LM__law_places_right_5 : LamOk P w K mg base cl 5 lam__law_places_right_5.L lam__law_places_right_5.oc) (LM__law_places_right_6 : LamOk P w K mg base cl 5 lam__law_places_right_6.L lam__law_places_right_6.oc) (LM__law_places_right_7 : LamOk P w K mg base cl 5 lam__law_places_right_7.L lam__law_places_right_7.oc) (LM__law_places_right_8 : LamOk P w K mg base cl 5 lam__law_places_right_8.L lam__law_places_right_8.oc) (LM__law_places_right_9 : LamOk P w K mg base cl 5 lam__law_places_right_9.L lam__law_places_right_9.oc) (fr_repr : mg "repr" = none) (F__law_are : Fun P w K mg base 8 "_law_are" s__law_are ["_law_calls", "_law_due"] (SpF P w K mg base cl 6 Option false 2 L_are)) : FnG P w K mg base CX0 9 f fd ["_law_odd"] (SpD K cl Option false 1 L_places_right) := by
  refine fng_defC (m := Option) (κ := false) (st := s__law_places_right) (ps := ["_law_odd"]) (N := ["_law_odd", "_law_calls"]) (O := []) (O' := []) (t := t__law_places_right P w K mg base cl ((y ++ ".<locals>.") ++ "<lambda>")) (fs := f_L_places_right) F sc__law_places_right (fun cdv B out z H E hcd hg hr => ?_) (fun pot cells hcl => ?_)
  · have nd := sc__law_places_right.nd
    have hg0 : (B.deeper (envOfC y (defScope s__law_places_right) z.heap.objs.size f cdv)).guards = some [] := hg
    have hu64 := hr.units
    have hcode2 : cdv = .ref c := hcd.symm.trans hcode
    exact (pss_cons (ps_set (i := 1) nd rfl (Or.inl rfl) (pe_lst (pa_cons (pe_lam (L := lam__law_places_right_0.L) TX.tb (by first | exact hcode2 | (show cdv = _; exact hcode2)) TX.mem TX.uniq rfl lf__law_places_right_0) pa_nil))) (pss_cons (ps_expr (pe_bm PySem.F.plainAttrs_list PySem.F.slot_list_append PySem.F.type_list_append mt_append (pv 1) (pa_cons (pe_lam (L := lam__law_places_right_1.L) TX.tb (by first | exact hcode2 | (show cdv = _; exact hcode2)) TX.mem TX.uniq rfl lf__law_places_right_1) pa_nil))) (pss_cons (ps_expr (pe_bm PySem.F.plainAttrs_list PySem.F.slot_list_append PySem.F.type_list_append mt_append (pv 1) (pa_cons (pe_lam (L := lam__law_places_right_2.L) TX.tb (by first | exact hcode2 | (show cdv = _; exact hcode2)) TX.mem TX.uniq rfl lf__law_places_right_2) pa_nil))) (pss_cons (ps_expr (pe_bm PySem.F.plainAttrs_list PySem.F.slot_list_append PySem.F.type_list_append mt_append (pv 1) (pa_cons (pe_lam (L := lam__law_places_right_3.L) TX.tb (by first | exact hcode2 | (show cdv = _; exact hcode2)) TX.mem TX.uniq rfl lf__law_places_right_3) pa_nil))) (pss_cons (ps_expr (pe_bm PySem.F.plainAttrs_list PySem.F.slot_list_append PySem.F.type_list_append mt_append (pv 1) (pa_cons (pe_lam (L := lam__law_places_right_4.L) TX.tb (by first | exact hcode2 | (show cdv = _; exact hcode2)) TX.mem TX.uniq rfl lf__law_places_right_4) pa_nil))) (pss_cons (ps_expr (pe_bm PySem.F.plainAttrs_list PySem.F.slot_list_append PySem.F.type_list_append mt_append (pv 1) (pa_cons (pe_lam (L := lam__law_places_right_5.L) TX.tb (by first | exact hcode2 | (show cdv = _; exact hcode2)) TX.mem TX.uniq rfl lf__law_places_right_5) pa_nil))) (pss_cons (ps_expr (pe_bm PySem.F.plainAttrs_list PySem.F.slot_list_append PySem.F.type_list_append mt_append (pv 1) (pa_cons (pe_lam (L := lam__law_places_right_6.L) TX.tb (by first | exact hcode2 | (show cdv = _; exact hcode2)) TX.mem TX.uniq rfl lf__law_places_right_6) pa_nil))) (pss_cons (ps_expr (pe_bm PySem.F.plainAttrs_list PySem.F.slot_list_append PySem.F.type_list_append mt_append (pv 1) (pa_cons (pe_lam (L := lam__law_places_right_7.L) TX.tb (by first | exact hcode2 | (show cdv = _; exact hcode2)) TX.mem TX.uniq rfl lf__law_places_right_7) pa_nil))) (pss_cons (ps_expr (pe_bm PySem.F.plainAttrs_list PySem.F.slot_list_append PySem.F.type_list_append mt_append (pv 1) (pa_cons (pe_lam (L := lam__law_places_right_8.L) TX.tb (by first | exact hcode2 | (show cdv = _; exact hcode2)) TX.mem TX.uniq rfl lf__law_places_right_8) pa_nil))) (pss_cons (ps_expr (pe_bm PySem.F.plainAttrs_list PySem.F.slot_list_append PySem.F.type_list_append mt_append (pv 1) (pa_cons (pe_lam (L := lam__law_places_right_9.L) TX.tb (by first | exact hcode2 | (show cdv = _; exact hcode2)) TX.mem TX.uniq rfl lf__law_places_right_9) pa_nil))) (pss_one (ps_ret (pe_goC (js := [0]) F__law_are (hr.mono (by decide)) hg0 rfl (pa_cons (pv 1) (pa_cons (pe_lst (pa_cons pe_str (pa_cons (pe_callB (call_reprV hg0 hu64) rfl fr_repr (by decide +kernel) (pa_cons (pv 0) pa_nil)) (pa_cons pe_bl pa_nil)))) pa_nil)) rfl rfl rfl cys__law_places_right_0 (fun _ _ _ _ _ _ _ us hl => match us, hl with | [_, _], _ => rfl))))))))))))))
  · exact (sf_start 1
  (sf_app (l := lam__law_places_right_1)
  (sf_app (l := lam__law_places_right_2)
  (sf_app (l := lam__law_places_right_3)
  (sf_app (l := lam__law_places_right_4)
  (sf_app (l := lam__law_places_right_5)
  (sf_app (l := lam__law_places_right_6)
  (sf_app (l := lam__law_places_right_7)
  (sf_app (l := lam__law_places_right_8)
  (sf_app (l := lam__law_places_right_9)
  (sf_ret (sf_areP (lamsOk_cons (l := lam__law_places_right_0) LM__law_places_right_0 rfl (by decide +kernel) (lam_free (L := lam__law_places_right_0.L) hcl (by decide +kernel)) (lamsOk_cons (l := lam__law_places_right_1) LM__law_places_right_1 rfl (by decide +kernel) (lam_free (L := lam__law_places_right_1.L) hcl (by decide +kernel)) (lamsOk_cons (l := lam__law_places_right_2) LM__law_places_right_2 rfl (by decide +kernel) (lam_free (L := lam__law_places_right_2.L) hcl (by decide +kernel)) (lamsOk_cons (l := lam__law_places_right_3) LM__law_places_right_3 rfl (by decide +kernel) (lam_free (L := lam__law_places_right_3.L) hcl (by decide +kernel)) (lamsOk_cons (l := lam__law_places_right_4) LM__law_places_right_4 rfl (by decide +kernel) (lam_free (L := lam__law_places_right_4.L) hcl (by decide +kernel)) (lamsOk_cons (l := lam__law_places_right_5) LM__law_places_right_5 rfl (by decide +kernel) (lam_free (L := lam__law_places_right_5.L) hcl (by decide +kernel)) (lamsOk_cons (l := lam__law_places_right_6) LM__law_places_right_6 rfl (by decide +kernel) (lam_free (L := lam__law_places_right_6.L) hcl (by decide +kernel)) (lamsOk_cons (l := lam__law_places_right_7) LM__law_places_right_7 rfl (by decide +kernel) (lam_free (L := lam__law_places_right_7.L) hcl (by decide +kernel)) (lamsOk_cons (l := lam__law_places_right_8) LM__law_places_right_8 rfl (by decide +kernel) (lam_free (L := lam__law_places_right_8.L) hcl (by decide +kernel)) (lamsOk_cons (l := lam__law_places_right_9) LM__law_places_right_9 rfl (by decide +kernel) (lam_free (L := lam__law_places_right_9.L) hcl (by decide +kernel)) lamsOk_nil)))))))))) (sim_new (simL_lst (args_cons (sim_str "places") (args_cons (sim_cb cs_reprV (args_cons (sim_up (sim_var 0)) args_nil)) (args_cons (sim_bl true) args_nil)))))))))))))))))
abbrev lam__law_lists_right_0 : LamD := ⟨lamOf ["_law_odd"] (lmE 0 (lmS ((defBody s__law_lists_right).getD 0 noS))), oc_P_sums_sums, [0]⟩
theorem lf__law_lists_right_0 : ∀ y ∈ lam__law_lists_right_0.L.scope.names, y.2 = .free → (defScope s__law_lists_right).names.lookup y.1 = some .cell ∨ (defScope s__law_lists_right).names.lookup y.1 = some .free := by decide +kernel
def te__law_lists_right_0 (K : PySem.W.Frag) (cl : Cl) : WX → TE := fun W => (tGoX (SpE K cl Option false 1 P_sums_sums X_sums_sums) (WE W) (tCons (tVar 0) tNil))
theorem lm__law_lists_right_0 (Y_sums : FunX P w K mg base 5 "sums" s_sums ["numbers"] (SpE K cl Option false 1 P_sums_sums X_sums_sums)) : LamOk P w K mg base cl 5 lam__law_lists_right_0.L lam__law_lists_right_0.oc := by
  refine ⟨⟨NdefX.nscope_by (by decide +kernel), fun _ _ _ _ _ => rfl⟩, fun E => te__law_lists_right_0 K cl fun cls d _ H => E cls d H, fun q cs c f A out z H E hg hr => ?_, fun pot => oc_of (b := true) (te := te__law_lists_right_0 K cl) (x := (xGo X_sums_sums (aCons (pVar 0) aNil))) (f := (pGo P_sums_sums (aCons (pVar 0) aNil))) (fun W => ?_) ?_⟩
  · have hg0 := hg
    have hu64 := hr.units
    exact (pe_goX Y_sums (hr.mono (by decide)) hg0 (takes_of rfl rfl rfl rfl) rfl (pa_cons (pv 0) pa_nil) (fun _ _ _ _ _ _ _ us hl => match us, hl with | [_], _ => rfl))
  · exact (sim_goE (an_cons (sim_var 0) an_nil))
  · exact (xe_goE2 (fun W => (an_cons (sim_var 0) an_nil)))
abbrev lam__law_lists_right_1 : LamD := ⟨lamOf ["_law_odd"] (lmE 0 (lmS ((defBody s__law_lists_right).getD 1 noS))), oc_P_sums_sums_v2, [0]⟩
theorem lf__law_lists_right_1 : ∀ y ∈ lam__law_lists_right_1.L.scope.names, y.2 = .free → (defScope s__law_lists_right).names.lookup y.1 = some .cell ∨ (defScope s__law_lists_right).names.lookup y.1 = some .free := by decide +kernel
def te__law_lists_right_1 (K : PySem.W.Frag) (cl : Cl) : WX → TE := fun W => (tGoX (SpE K cl Option false 1 P_sums_sums X_sums_sums) (WE W) (tKws 1 [0] (tCons (tVar 0) tNil)))
theorem lm__law_lists_right_1 (Y_sums : FunX P w K mg base 5 "sums" s_sums ["numbers"] (SpE K cl Option false 1 P_sums_sums X_sums_sums)) : LamOk P w K mg base cl 5 lam__law_lists_right_1.L lam__law_lists_right_1.oc := by
  refine ⟨⟨NdefX.nscope_by (by decide +kernel), fun _ _ _ _ _ => rfl⟩, fun E => te__law_lists_right_1 K cl fun cls d _ H => E cls d H, fun q cs c f A out z H E hg hr => ?_, fun pot => oc_of (b := true) (te := te__law_lists_right_1 K cl) (x := (xGo X_sums_sums (aKws [0] (aCons (pVar 0) aNil)))) (f := (pGo P_sums_sums (aKws [0] (aCons (pVar 0) aNil)))) (fun W => ?_) ?_⟩
  · have hg0 := hg
    have hu64 := hr.units
    exact (pe_goXK0 ["numbers"] [0] Y_sums (hr.mono (by decide)) hg0 (takes_of rfl rfl rfl rfl) rfl (pk_cons (pv 0) pk_nil) (fun _ _ _ _ _ _ _ us ws h1 h2 => match us, h1, ws, h2 with | [], _, [_], _ => rfl))
  · exact (sim_goE (an_kws [0] (an_cons (sim_var 0) an_nil)))
  · exact (xe_goE2 (fun W => (an_kws [0] (an_cons (sim_var 0) an_nil))))
abbrev lam__law_lists_right_2 : LamD := ⟨lamOf ["_law_odd"] (lmE 0 (lmS ((defBody s__law_lists_right).getD 2 noS))), oc_P_sums_fours, [0]⟩
theorem lf__law_lists_right_2 : ∀ y ∈ lam__law_lists_right_2.L.scope.names, y.2 = .free → (defScope s__law_lists_right).names.lookup y.1 = some .cell ∨ (defScope s__law_lists_right).names.lookup y.1 = some .free := by decide +kernel
def te__law_lists_right_2 (K : PySem.W.Frag) (cl : Cl) : WX → TE := fun W => (tGoX (SpE K cl Option false 1 P_sums_fours X_sums_fours) (WE W) (tCons (tVar 0) tNil))
theorem lm__law_lists_right_2 (Y_fours_sums : FunX P w K mg base 5 "fours_sums" s_fours_sums ["numbers"] (SpE K cl Option false 1 P_sums_fours X_sums_fours)) : LamOk P w K mg base cl 5 lam__law_lists_right_2.L lam__law_lists_right_2.oc := by
  refine ⟨⟨NdefX.nscope_by (by decide +kernel), fun _ _ _ _ _ => rfl⟩, fun E => te__law_lists_right_2 K cl fun cls d _ H => E cls d H, fun q cs c f A out z H E hg hr => ?_, fun pot => oc_of (b := true) (te := te__law_lists_right_2 K cl) (x := (xGo X_sums_fours (aCons (pVar 0) aNil))) (f := (pGo P_sums_fours (aCons (pVar 0) aNil))) (fun W => ?_) ?_⟩
  · have hg0 := hg
    have hu64 := hr.units
    exact (pe_goX Y_fours_sums (hr.mono (by decide)) hg0 (takes_of rfl rfl rfl rfl) rfl (pa_cons (pv 0) pa_nil) (fun _ _ _ _ _ _ _ us hl => match us, hl with | [_], _ => rfl))
  · exact (sim_goE (an_cons (sim_var 0) an_nil))
  · exact (xe_goE2 (fun W => (an_cons (sim_var 0) an_nil)))
abbrev lam__law_lists_right_3 : LamD := ⟨lamOf ["_law_odd"] (lmE 0 (lmS ((defBody s__law_lists_right).getD 3 noS))), oc_P_limits_can_be, [0]⟩
theorem lf__law_lists_right_3 : ∀ y ∈ lam__law_lists_right_3.L.scope.names, y.2 = .free → (defScope s__law_lists_right).names.lookup y.1 = some .cell ∨ (defScope s__law_lists_right).names.lookup y.1 = some .free := by decide +kernel
def te__law_lists_right_3 (K : PySem.W.Frag) (cl : Cl) : WX → TE := fun W => (tGoX (SpE K cl Option false 1 P_limits_can_be X_limits_can_be) (WE W) (tCons (tVar 0) tNil))
theorem lm__law_lists_right_3 (Y_can_be : FunX P w K mg base 5 "can_be" s_can_be ["numbers"] (SpE K cl Option false 1 P_limits_can_be X_limits_can_be)) : LamOk P w K mg base cl 5 lam__law_lists_right_3.L lam__law_lists_right_3.oc := by
  refine ⟨⟨NdefX.nscope_by (by decide +kernel), fun _ _ _ _ _ => rfl⟩, fun E => te__law_lists_right_3 K cl fun cls d _ H => E cls d H, fun q cs c f A out z H E hg hr => ?_, fun pot => oc_of (b := true) (te := te__law_lists_right_3 K cl) (x := (xGo X_limits_can_be (aCons (pVar 0) aNil))) (f := (pGo P_limits_can_be (aCons (pVar 0) aNil))) (fun W => ?_) ?_⟩
  · have hg0 := hg
    have hu64 := hr.units
    exact (pe_goX Y_can_be (hr.mono (by decide)) hg0 (takes_of rfl rfl rfl rfl) rfl (pa_cons (pv 0) pa_nil) (fun _ _ _ _ _ _ _ us hl => match us, hl with | [_], _ => rfl))
  · exact (sim_goE (an_cons (sim_var 0) an_nil))
  · exact (xe_goE2 (fun W => (an_cons (sim_var 0) an_nil)))
abbrev lam__law_lists_right_4 : LamD := ⟨lamOf ["_law_odd"] (lmE 0 (lmS ((defBody s__law_lists_right).getD 4 noS))), oc_P_limits_can_be_v2, [0]⟩
theorem lf__law_lists_right_4 : ∀ y ∈ lam__law_lists_right_4.L.scope.names, y.2 = .free → (defScope s__law_lists_right).names.lookup y.1 = some .cell ∨ (defScope s__law_lists_right).names.lookup y.1 = some .free := by decide +kernel
def te__law_lists_right_4 (K : PySem.W.Frag) (cl : Cl) : WX → TE := fun W => (tGoX (SpE K cl Option false 1 P_limits_can_be X_limits_can_be) (WE W) (tKws 1 [0] (tCons (tVar 0) tNil)))
theorem lm__law_lists_right_4 (Y_can_be : FunX P w K mg base 5 "can_be" s_can_be ["numbers"] (SpE K cl Option false 1 P_limits_can_be X_limits_can_be)) : LamOk P w K mg base cl 5 lam__law_lists_right_4.L lam__law_lists_right_4.oc := by
  refine ⟨⟨NdefX.nscope_by (by decide +kernel), fun _ _ _ _ _ => rfl⟩, fun E => te__law_lists_right_4 K cl fun cls d _ H => E cls d H, fun q cs c f A out z H E hg hr => ?_, fun pot => oc_of (b := true) (te := te__law_lists_right_4 K cl) (x := (xGo X_limits_can_be (aKws [0] (aCons (pVar 0) aNil)))) (f := (pGo P_limits_can_be (aKws [0] (aCons (pVar 0) aNil)))) (fun W => ?_) ?_⟩
  · have hg0 := hg
    have hu64 := hr.units
    exact (pe_goXK0 ["numbers"] [0] Y_can_be (hr.mono (by decide)) hg0 (takes_of rfl rfl rfl rfl) rfl (pk_cons (pv 0) pk_nil) (fun _ _ _ _ _ _ _ us ws h1 h2 => match us, h1, ws, h2 with | [], _, [_], _ => rfl))
  · exact (sim_goE (an_kws [0] (an_cons (sim_var 0) an_nil)))
  · exact (xe_goE2 (fun W => (an_kws [0] (an_cons (sim_var 0) an_nil))))
theorem cys__law_lists_right_0 : ∀ y ∈ (["_law_odd"] : List Str), (defScope s__law_lists_right).names.lookup y = some .cell := by decide +kernel
def t__law_lists_right (P : Program) (w : World) (K : PySem.W.Frag) (mg : Str → Option Value) (base : Heap) (cl : Cl) (lq : Str) (cells : List (Str × Addr)) : TS := (tSeq (tAsg (tLst (tLams cl.T cells lq [lam__law_lists_right_0])) (gName 1)) (tSeq (tDrop (tBM K "list" rAppend (tVar 1) (tCons (tLam cl.T cells lq lam__law_lists_right_1.L) tNil))) (tSeq (tDrop (tBM K "list" rAppend (tVar 1) (tCons (tLam cl.T cells lq lam__law_lists_right_2.L) tNil))) (tSeq (tDrop (tBM K "list" rAppend (tVar 1) (tCons (tLam cl.T cells lq lam__law_lists_right_3.L) tNil))) (tSeq (tDrop (tBM K "list" rAppend (tVar 1) (tCons (tLam cl.T cells lq lam__law_lists_right_4.L) tNil))) (tRet (tGoC (SpF P w K mg base cl 6 Option false 2 L_are) cells ["_law_odd"] [0] (tCons (tVar 1) (tCons (tLst (tCons (tC (.str "numbers")) (tCons (tCB (rReprV K) (tCons (tVar 0) tNil)) (tCons (tC (.bl true)) tNil)))) tNil)))))))))
theorem g__law_lists_right {f c PT : Addr} {fd : FuncData} {y : Str} (F : FunD K y y (defArgs s__law_lists_right) (defBody s__law_lists_right) (defScope s__law_lists_right) [] [] f fd) (hcode : fd.code = .ref c) (TX : TabX mg base cl c PT ((y ++ ".<locals>.") ++ "<lambda>")) (LM__law_lists_right_0 : LamOk P w K mg base cl 5 lam__law_lists_right_0.L lam__law_lists_right_0.oc) (LM__law_lists_right_1 : LamOk P w K mg base cl 5 lam__law_lists_right_1.L lam__law_lists_right_1.oc) (LM__law_lists_right_2 : LamOk P w K mg base cl 5 lam__law_lists_right_2.L lam__law_lists_right_2.oc) (LM__law_lists_right_3 : LamOk P w K mg base cl 5 lam__law_lists_right_3.L lam__law_lists_right_3.oc) (LM__law_lists_right_4 : LamOk P w K mg base cl 5 lam__law_lists_right_4.L lam__law_lists_right_4.oc) (fr_repr : mg "repr" = none) (F__law_are : Fun P w K mg base 8 "_law_are" s__law_are ["_law_calls", "_law_due"] (SpF P w K mg base cl 6 Option false 2 L_are)) : FnG P w K mg base CX0 9 f fd ["_law_odd"] (SpD K cl Option false 1 L_lists_right_v3) := by
  refine fng_defC (m := Option) (κ := false) (st := s__law_lists_right) (ps := ["_law_odd"]) (N := ["_law_odd", "_law_calls"]) (O := []) (O' := []) (t := t__law_lists_right P w K mg base cl ((y ++ ".<locals>.") ++ "<lambda>")) (fs := f_L_lists_right_v3) F sc__law_lists_right (fun cdv B out z H E hcd hg hr => ?_) (fun pot cells hcl => ?_)
  · have nd := sc__law_lists_right.nd
    have hg0 : (B.deeper (envOfC y (defScope s__law_lists_right) z.heap.objs.size f cdv)).guards = some [] := hg
    have hu64 := hr.units
    have hcode2 : cdv = .ref c := hcd.symm.trans hcode
    exact (pss_cons (ps_set (i := 1) nd rfl (Or.inl rfl) (pe_lst (pa_cons (pe_lam (L := lam__law_lists_right_0.L) TX.tb (by first | exact hcode2 | (show cdv = _; exact hcode2)) TX.mem TX.uniq rfl lf__law_lists_right_0) pa_nil))) (pss_cons (ps_expr (pe_bm PySem.F.plainAttrs_list PySem.F.slot_list_append PySem.F.type_list_append mt_append (pv 1) (pa_cons (pe_lam (L := lam__law_lists_right_1.L) TX.tb (by first | exact hcode2 | (show cdv = _; exact hcode2)) TX.mem TX.uniq rfl lf__law_lists_right_1) pa_nil))) (pss_cons (ps_expr (pe_bm PySem.F.plainAttrs_list PySem.F.slot_list_append PySem.F.type_list_append mt_append (pv 1) (pa_cons (pe_lam (L := lam__law_lists_right_2.L) TX.tb (by first | exact hcode2 | (show cdv = _; exact hcode2)) TX.mem TX.uniq rfl lf__law_lists_right_2) pa_nil))) (pss_cons (ps_expr (pe_bm PySem.F.plainAttrs_list PySem.F.slot_list_append PySem.F.type_list_append mt_append (pv 1) (pa_cons (pe_lam (L := lam__law_lists_right_3.L) TX.tb (by first | exact hcode2 | (show cdv = _; exact hcode2)) TX.mem TX.uniq rfl lf__law_lists_right_3) pa_nil))) (pss_cons (ps_expr (pe_bm PySem.F.plainAttrs_list PySem.F.slot_list_append PySem.F.type_list_append mt_append (pv 1) (pa_cons (pe_lam (L := lam__law_lists_right_4.L) TX.tb (by first | exact hcode2 | (show cdv = _; exact hcode2)) TX.mem TX.uniq rfl lf__law_lists_right_4) pa_nil))) (pss_one (ps_ret (pe_goC (js := [0]) F__law_are (hr.mono (by decide)) hg0 rfl (pa_cons (pv 1) (pa_cons (pe_lst (pa_cons pe_str (pa_cons (pe_callB (call_reprV hg0 hu64) rfl fr_repr (by decide +kernel) (pa_cons (pv 0) pa_nil)) (pa_cons pe_bl pa_nil)))) pa_nil)) rfl rfl rfl cys__law_lists_right_0 (fun _ _ _ _ _ _ _ us hl => match us, hl with | [_, _], _ => rfl)))))))))
  · exact (sf_start 1
  (sf_app (l := lam__law_lists_right_1)
  (sf_app (l := lam__law_lists_right_2)
  (sf_app (l := lam__law_lists_right_3)
  (sf_app (l := lam__law_lists_right_4)
  (sf_ret (sf_areP (lamsOk_cons (l := lam__law_lists_right_0) LM__law_lists_right_0 rfl (by decide +kernel) (lam_free (L := lam__law_lists_right_0.L) hcl (by decide +kernel)) (lamsOk_cons (l := lam__law_lists_right_1) LM__law_lists_right_1 rfl (by decide +kernel) (lam_free (L := lam__law_lists_right_1.L) hcl (by decide +kernel)) (lamsOk_cons (l := lam__law_lists_right_2) LM__law_lists_right_2 rfl (by decide +kernel) (lam_free (L := lam__law_lists_right_2.L) hcl (by decide +kernel)) (lamsOk_cons (l := lam__law_lists_right_3) LM__law_lists_right_3 rfl (by decide +kernel) (lam_free (L := lam__law_lists_right_3.L) hcl (by decide +kernel)) (lamsOk_cons (l := lam__law_lists_right_4) LM__law_lists_right_4 rfl (by decide +kernel) (lam_free (L := lam__law_lists_right_4.L) hcl (by decide +kernel)) lamsOk_nil))))) (sim_new (simL_lst (args_cons (sim_str "numbers") (args_cons (sim_cb cs_reprV (args_cons (sim_up (sim_var 0)) args_nil)) (args_cons (sim_bl true) args_nil))))))))))))
abbrev lam__law_numbers_right_0 : LamD := ⟨lamOf ["_law_places", "_law_odd"] (lmE 0 (lmS ((defBody s__law_numbers_right).getD 0 noS))), oc_P_sums_row_of_v3, [0, 1]⟩
theorem lf__law_numbers_right_0 : ∀ y ∈ lam__law_numbers_right_0.L.scope.names, y.2 = .free → (defScope s__law_numbers_right).names.lookup y.1 = some .cell ∨ (defScope s__law_numbers_right).names.lookup y.1 = some .free := by decide +kernel
def te__law_numbers_right_0 (K : PySem.W.Frag) (cl : Cl) : WX → TE := fun W => (tGoX (SpE K cl Option false 2 P_sums_row_of X_sums_row_of) (WE W) (tCons (tVar 0) (tCons (tVar 1) tNil)))
theorem lm__law_numbers_right_0 (Y_row_of : FunX P w K mg base 5 "row_of" s_row_of ["places", "numbers"] (SpE K cl Option false 2 P_sums_row_of X_sums_row_of)) : LamOk P w K mg base cl 5 lam__law_numbers_right_0.L lam__law_numbers_right_0.oc := by
  refine ⟨⟨NdefX.nscope_by (by decide +kernel), fun _ _ _ _ _ => rfl⟩, fun E => te__law_numbers_right_0 K cl fun cls d _ H => E cls d H, fun q cs c f A out z H E hg hr => ?_, fun pot => oc_of (b := true) (te := te__law_numbers_right_0 K cl) (x := (xGo X_sums_row_of (aCons (pVar 0) (aCons (pVar 1) aNil)))) (f := (pGo P_sums_row_of (aCons (pVar 0) (aCons (pVar 1) aNil)))) (fun W => ?_) ?_⟩
  · have hg0 := hg
    have hu64 := hr.units
    exact (pe_goX Y_row_of (hr.mono (by decide)) hg0 (takes_of rfl rfl rfl rfl) rfl (pa_cons (pv 0) (pa_cons (pv 1) pa_nil)) (fun _ _ _ _ _ _ _ us hl => match us, hl with | [_, _], _ => rfl))
  · exact (sim_goE (an_cons (sim_var 0) (an_cons (sim_var 1) an_nil)))
  · exact (xe_goE2 (fun W => (an_cons (sim_var 0) (an_cons (sim_var 1) an_nil))))
abbrev lam__law_numbers_right_1 : LamD := ⟨lamOf ["_law_odd", "_law_places"] (lmE 0 (lmS ((defBody s__law_numbers_right).getD 1 noS))), oc_P_sums_row_of_v4, [1, 0]⟩
theorem lf__law_numbers_right_1 : ∀ y ∈ lam__law_numbers_right_1.L.scope.names, y.2 = .free → (defScope s__law_numbers_right).names.lookup y.1 = some .cell ∨ (defScope s__law_numbers_right).names.lookup y.1 = some .free := by decide +kernel
def te__law_numbers_right_1 (K : PySem.W.Frag) (cl : Cl) : WX → TE := fun W => (tGoX (SpE K cl Option false 2 P_sums_row_of X_sums_row_of) (WE W) (tKws 2 [1, 0] (tCons (tVar 0) (tCons (tVar 1) tNil))))
theorem lm__law_numbers_right_1 (Y_row_of : FunX P w K mg base 5 "row_of" s_row_of ["places", "numbers"] (SpE K cl Option false 2 P_sums_row_of X_sums_row_of)) : LamOk P w K mg base cl 5 lam__law_numbers_right_1.L lam__law_numbers_right_1.oc := by
  refine ⟨⟨NdefX.nscope_by (by decide +kernel), fun _ _ _ _ _ => rfl⟩, fun E => te__law_numbers_right_1 K cl fun cls d _ H => E cls d H, fun q cs c f A out z H E hg hr => ?_, fun pot => oc_of (b := true) (te := te__law_numbers_right_1 K cl) (x := (xGo X_sums_row_of (aKws [1, 0] (aCons (pVar 0) (aCons (pVar 1) aNil))))) (f := (pGo P_sums_row_of (aKws [1, 0] (aCons (pVar 0) (aCons (pVar 1) aNil))))) (fun W => ?_) ?_⟩
  · have hg0 := hg
    have hu64 := hr.units
    exact (pe_goXK0 ["numbers", "places"] [1, 0] Y_row_of (hr.mono (by decide)) hg0 (takes_of rfl rfl rfl rfl) rfl (pk_cons (pv 0) (pk_cons (pv 1) pk_nil)) (fun _ _ _ _ _ _ _ us ws h1 h2 => match us, h1, ws, h2 with | [], _, [_, _], _ => rfl))
  · exact (sim_goE (an_kws [1, 0] (an_cons (sim_var 0) (an_cons (sim_var 1) an_nil))))
  · exact (xe_goE2 (fun W => (an_kws [1, 0] (an_cons (sim_var 0) (an_cons (sim_var 1) an_nil)))))
abbrev lam__law_numbers_right_2 : LamD := ⟨lamOf ["_law_places", "_law_odd"] (lmE 0 (lmS ((defBody s__law_numbers_right).getD 2 noS))), oc_P_limits_shadow_of_v3, [0, 1]⟩
theorem lf__law_numbers_right_2 : ∀ y ∈ lam__law_numbers_right_2.L.scope.names, y.2 = .free → (defScope s__law_numbers_right).names.lookup y.1 = some .cell ∨ (defScope s__law_numbers_right).names.lookup y.1 = some .free := by decide +kernel
def te__law_numbers_right_2 (K : PySem.W.Frag) (cl : Cl) : WX → TE := fun W => (tGoX (SpE K cl Option false 2 P_limits_shadow_of X_limits_shadow_of) (WE W) (tCons (tVar 0) (tCons (tVar 1) tNil)))
theorem lm__law_numbers_right_2 (Y_shadow_of : FunX P w K mg base 4 "shadow_of" s_shadow_of ["places", "numbers"] (SpE K cl Option false 2 P_limits_shadow_of X_limits_shadow_of)) : LamOk P w K mg base cl 5 lam__law_numbers_right_2.L lam__law_numbers_right_2.oc := by
  refine ⟨⟨NdefX.nscope_by (by decide +kernel), fun _ _ _ _ _ => rfl⟩, fun E => te__law_numbers_right_2 K cl fun cls d _ H => E cls d H, fun q cs c f A out z H E hg hr => ?_, fun pot => oc_of (b := true) (te := te__law_numbers_right_2 K cl) (x := (xGo X_limits_shadow_of (aCons (pVar 0) (aCons (pVar 1) aNil)))) (f := (pGo P_limits_shadow_of (aCons (pVar 0) (aCons (pVar 1) aNil)))) (fun W => ?_) ?_⟩
  · have hg0 := hg
    have hu64 := hr.units
    exact (pe_goX Y_shadow_of (hr.mono (by decide)) hg0 (takes_of rfl rfl rfl rfl) rfl (pa_cons (pv 0) (pa_cons (pv 1) pa_nil)) (fun _ _ _ _ _ _ _ us hl => match us, hl with | [_, _], _ => rfl))
  · exact (sim_goE (an_cons (sim_var 0) (an_cons (sim_var 1) an_nil)))
  · exact (xe_goE2 (fun W => (an_cons (sim_var 0) (an_cons (sim_var 1) an_nil))))
theorem cys__law_numbers_right_0 : ∀ y ∈ (["_law_places", "_law_odd"] : List Str), (defScope s__law_numbers_right).names.lookup y = some .cell := by decide +kernel
def t__law_numbers_right (P : Program) (w : World) (K : PySem.W.Frag) (mg : Str → Option Value) (base : Heap) (cl : Cl) (lq : Str) (cells : List (Str × Addr)) : TS := (tSeq (tAsg (tLst (tLams cl.T cells lq [lam__law_numbers_right_0])) (gName 2)) (tSeq (tDrop (tBM K "list" rAppend (tVar 2) (tCons (tLam cl.T cells lq lam__law_numbers_right_1.L) tNil))) (tSeq (tDrop (tBM K "list" rAppend (tVar 2) (tCons (tLam cl.T cells lq lam__law_numbers_right_2.L) tNil))) (tRet (tGoC (SpF P w K mg base cl 6 Option false 2 L_are) cells ["_law_places", "_law_odd"] [0, 1] (tCons (tVar 2) (tCons (tLst (tCons (tC (.str "numbers")) (tCons (tCB (rReprV K) (tCons (tVar 1) tNil)) (tCons (tC (.bl true)) tNil)))) tNil)))))))
theorem g__law_numbers_right {f c PT : Addr} {fd : FuncData} {y : Str} (F : FunD K y y (defArgs s__law_numbers_right) (defBody s__law_numbers_right) (defScope s__law_numbers_right) [] [] f fd) (hcode : fd.code = .ref c) (TX : TabX mg base cl c PT ((y ++ ".<locals>.") ++ "<lambda>")) (LM__law_numbers_right_0 : LamOk P w K mg base cl 5 lam__law_numbers_right_0.L lam__law_numbers_right_0.oc) (LM__law_numbers_right_1 : LamOk P w K mg base cl 5 lam__law_numbers_right_1.L lam__law_numbers_right_1.oc) (LM__law_numbers_right_2 : LamOk P w K mg base cl 5 lam__law_numbers_right_2.L lam__law_numbers_right_2.oc) (fr_repr : mg "repr" = none) (F__law_are : Fun P w K mg base 8 "_law_are" s__law_are ["_law_calls", "_law_due"] (SpF P w K mg base cl 6 Option false 2 L_are)) : FnG P w K mg base CX0 9 f fd ["_law_places", "_law_odd"] (SpD K cl Option false 2 L_numbers_right_v2) := by
  refine fng_defC (m := Option) (κ := false) (st := s__law_numbers_right) (ps := ["_law_places", "_law_odd"]) (N := ["_law_places", "_law_odd", "_law_calls"]) (O := []) (O' := []) (t := t__law_numbers_right P w K mg base cl ((y ++ ".<locals>.") ++ "<lambda>")) (fs := f_L_numbers_right_v2) F sc__law_numbers_right (fun cdv B out z H E hcd hg hr => ?_) (fun pot cells hcl => ?_)
  · have nd := sc__law_numbers_right.nd
    have hg0 : (B.deeper (envOfC y (defScope s__law_numbers_right) z.heap.objs.size f cdv)).guards = some [] := hg
    have hu64 := hr.units
    have hcode2 : cdv = .ref c := hcd.symm.trans hcode
    exact (pss_cons (ps_set (i := 2) nd rfl (Or.inl rfl) (pe_lst (pa_cons (pe_lam (L := lam__law_numbers_right_0.L) TX.tb (by first | exact hcode2 | (show cdv = _; exact hcode2)) TX.mem TX.uniq rfl lf__law_numbers_right_0) pa_nil))) (pss_cons (ps_expr (pe_bm PySem.F.plainAttrs_list PySem.F.slot_list_append PySem.F.type_list_append mt_append (pv 2) (pa_cons (pe_lam (L := lam__law_numbers_right_1.L) TX.tb (by first | exact hcode2 | (show cdv = _; exact hcode2)) TX.mem TX.uniq rfl lf__law_numbers_right_1) pa_nil))) (pss_cons (ps_expr (pe_bm PySem.F.plainAttrs_list PySem.F.slot_list_append PySem.F.type_list_append mt_append (pv 2) (pa_cons (pe_lam (L := lam__law_numbers_right_2.L) TX.tb (by first | exact hcode2 | (show cdv = _; exact hcode2)) TX.mem TX.uniq rfl lf__law_numbers_right_2) pa_nil))) (pss_one (ps_ret (pe_goC (js := [0, 1]) F__law_are (hr.mono (by decide)) hg0 rfl (pa_cons (pv 2) (pa_cons (pe_lst (pa_cons pe_str (pa_cons (pe_callB (call_reprV hg0 hu64) rfl fr_repr (by decide +kernel) (pa_cons (pv 1) pa_nil)) (pa_cons pe_bl pa_nil)))) pa_nil)) rfl rfl rfl cys__law_numbers_right_0 (fun _ _ _ _ _ _ _ us hl => match us, hl with | [_, _], _ => rfl)))))))
  · exact (sf_start 2
  (sf_app (l := lam__law_numbers_right_1)
  (sf_app (l := lam__law_numbers_right_2)
  (sf_ret (sf_areP (lamsOk_cons (l := lam__law_numbers_right_0) LM__law_numbers_right_0 rfl (by decide +kernel) (lam_free (L := lam__law_numbers_right_0.L) hcl (by decide +kernel)) (lamsOk_cons (l := lam__law_numbers_right_1) LM__law_numbers_right_1 rfl (by decide +kernel) (lam_free (L := lam__law_numbers_right_1.L) hcl (by decide +kernel)) (lamsOk_cons (l := lam__law_numbers_right_2) LM__law_numbers_right_2 rfl (by decide +kernel) (lam_free (L := lam__law_numbers_right_2.L) hcl (by decide +kernel)) lamsOk_nil))) (sim_new (simL_lst (args_cons (sim_str "numbers") (args_cons (sim_cb cs_reprV (args_cons (sim_up (sim_var 1)) args_nil)) (args_cons (sim_bl true) args_nil))))))))))
abbrev lam__law_eights_right_0 : LamD := ⟨lamOf ["_law_row"] (lmE 0 (lmS ((defBody s__law_eights_right).getD 1 noS))), oc_P_sums_fours, [1]⟩
theorem lf__law_eights_right_0 : ∀ y ∈ lam__law_eights_right_0.L.scope.names, y.2 = .free → (defScope s__law_eights_right).names.lookup y.1 = some .cell ∨ (defScope s__law_eights_right).names.lookup y.1 = some .free := by decide +kernel
def te__law_eights_right_0 (K : PySem.W.Frag) (cl : Cl) : WX → TE := fun W => (tGoX (SpE K cl Option false 1 P_sums_fours X_sums_fours) (WE W) (tCons (tVar 0) tNil))
theorem lm__law_eights_right_0 (Y_fours_sums : FunX P w K mg base 5 "fours_sums" s_fours_sums ["numbers"] (SpE K cl Option false 1 P_sums_fours X_sums_fours)) : LamOk P w K mg base cl 5 lam__law_eights_right_0.L lam__law_eights_right_0.oc := by
  refine ⟨⟨NdefX.nscope_by (by decide +kernel), fun _ _ _ _ _ => rfl⟩, fun E => te__law_eights_right_0 K cl fun cls d _ H => E cls d H, fun q cs c f A out z H E hg hr => ?_, fun pot => oc_of (b := true) (te := te__law_eights_right_0 K cl) (x := (xGo X_sums_fours (aCons (pVar 0) aNil))) (f := (pGo P_sums_fours (aCons (pVar 0) aNil))) (fun W => ?_) ?_⟩
  · have hg0 := hg
    have hu64 := hr.units
    exact (pe_goX Y_fours_sums (hr.mono (by decide)) hg0 (takes_of rfl rfl rfl rfl) rfl (pa_cons (pv 0) pa_nil) (fun _ _ _ _ _ _ _ us hl => match us, hl with | [_], _ => rfl))
  · exact (sim_goE (an_cons (sim_var 0) an_nil))
  · exact (xe_goE2 (fun W => (an_cons (sim_var 0) an_nil)))
abbrev lam__law_eights_right_1 : LamD := ⟨lamOf [] (lmE 0 (lmS ((defBody s__law_eights_right).getD 2 noS))), oc_P_sums_fours_row_of_v3, []⟩
theorem lf__law_eights_right_1 : ∀ y ∈ lam__law_eights_right_1.L.scope.names, y.2 = .free → (defScope s__law_eights_right).names.lookup y.1 = some .cell ∨ (defScope s__law_eights_right).names.lookup y.1 = some .free := by decide +kernel
def te__law_eights_right_1 (K : PySem.W.Frag) (cl : Cl) : WX → TE := fun W => (tGoX (SpE K cl Option false 2 P_sums_fours_row_of X_sums_fours_row_of) (WE W) (tCons (tC (.int 12)) (tCons (tLst (tCons (tC (.int 1)) tNil)) tNil)))
theorem lm__law_eights_right_1 (Y_fours_row_of : FunX P w K mg base 5 "fours_row_of" s_fours_row_of ["places", "numbers"] (SpE K cl Option false 2 P_sums_fours_row_of X_sums_fours_row_of)) : LamOk P w K mg base cl 5 lam__law_eights_right_1.L lam__law_eights_right_1.oc := by
  refine ⟨⟨NdefX.nscope_by (by decide +kernel), fun _ _ _ _ _ => rfl⟩, fun E => te__law_eights_right_1 K cl fun cls d _ H => E cls d H, fun q cs c f A out z H E hg hr => ?_, fun pot => oc_of (b := true) (te := te__law_eights_right_1 K cl) (x := (xGo X_sums_fours_row_of (aCons (pC (.int 12)) (aCons (pOf (pLst (aCons (pC (.int 1)) aNil))) aNil)))) (f := (pGo P_sums_fours_row_of (aCons (pC (.int 12)) (aCons (pOf (pLst (aCons (pC (.int 1)) aNil))) aNil)))) (fun W => ?_) ?_⟩
  · have hg0 := hg
    have hu64 := hr.units
    exact (pe_goX Y_fours_row_of (hr.mono (by decide)) hg0 (takes_of rfl rfl rfl rfl) rfl (pa_cons pe_int (pa_cons (pe_lst (pa_cons pe_int pa_nil)) pa_nil)) (fun _ _ _ _ _ _ _ us hl => match us, hl with | [_, _], _ => rfl))
  · exact (sim_goE (an_cons (sim_int 12) (an_cons (sim_new (simL_lst (args_cons (sim_int 1) args_nil))) an_nil)))
  · exact (xe_goE2 (fun W => (an_cons (sim_int 12) (an_cons (sim_new (simL_lst (args_cons (sim_int 1) args_nil))) an_nil))))
abbrev lam__law_eights_right_2 : LamD := ⟨lamOf [] (lmE 0 (lmS ((defBody s__law_eights_right).getD 3 noS))), oc_P_limits_fours_limit_v2, []⟩
theorem lf__law_eights_right_2 : ∀ y ∈ lam__law_eights_right_2.L.scope.names, y.2 = .free → (defScope s__law_eights_right).names.lookup y.1 = some .cell ∨ (defScope s__law_eights_right).names.lookup y.1 = some .free := by decide +kernel
def te__law_eights_right_2 (K : PySem.W.Frag) (cl : Cl) : WX → TE := fun W => (tGoX (SpE K cl Option false 1 P_limits_fours_limit X_limits_fours_limit) (WE W) (tCons (tC (.int 2)) tNil))
theorem lm__law_eights_right_2 (Y_fours_limit : FunX P w K mg base 4 "fours_limit" s_fours_limit ["places"] (SpE K cl Option false 1 P_limits_fours_limit X_limits_fours_limit)) : LamOk P w K mg base cl 5 lam__law_eights_right_2.L lam__law_eights_right_2.oc := by
  refine ⟨⟨NdefX.nscope_by (by decide +kernel), fun _ _ _ _ _ => rfl⟩, fun E => te__law_eights_right_2 K cl fun cls d _ H => E cls d H, fun q cs c f A out z H E hg hr => ?_, fun pot => oc_of (b := true) (te := te__law_eights_right_2 K cl) (x := (xGo X_limits_fours_limit (aCons (pC (.int 2)) aNil))) (f := (pGo P_limits_fours_limit (aCons (pC (.int 2)) aNil))) (fun W => ?_) ?_⟩
  · have hg0 := hg
    have hu64 := hr.units
    exact (pe_goX Y_fours_limit (hr.mono (by decide)) hg0 (takes_of rfl rfl rfl rfl) rfl (pa_cons pe_int pa_nil) (fun _ _ _ _ _ _ _ us hl => match us, hl with | [_], _ => rfl))
  · exact (sim_goE (an_cons (sim_int 2) an_nil))
  · exact (xe_goE2 (fun W => (an_cons (sim_int 2) an_nil)))
abbrev lam__law_eights_right_3 : LamD := ⟨lamOf [] (lmE 0 (lmS ((defBody s__law_eights_right).getD 4 noS))), oc_P_limits_fours_limit_v3, []⟩
theorem lf__law_eights_right_3 : ∀ y ∈ lam__law_eights_right_3.L.scope.names, y.2 = .free → (defScope s__law_eights_right).names.lookup y.1 = some .cell ∨ (defScope s__law_eights_right).names.lookup y.1 = some .free := by decide +kernel
def te__law_eights_right_3 (K : PySem.W.Frag) (cl : Cl) : WX → TE := fun W => (tGoX (SpE K cl Option false 1 P_limits_fours_limit X_limits_fours_limit) (WE W) (tKws 1 [0] (tCons (tC (.int 22)) tNil)))
theorem lm__law_eights_right_3 (Y_fours_limit : FunX P w K mg base 4 "fours_limit" s_fours_limit ["places"] (SpE K cl Option false 1 P_limits_fours_limit X_limits_fours_limit)) : LamOk P w K mg base cl 5 lam__law_eights_right_3.L lam__law_eights_right_3.oc := by
  refine ⟨⟨NdefX.nscope_by (by decide +kernel), fun _ _ _ _ _ => rfl⟩, fun E => te__law_eights_right_3 K cl fun cls d _ H => E cls d H, fun q cs c f A out z H E hg hr => ?_, fun pot => oc_of (b := true) (te := te__law_eights_right_3 K cl) (x := (xGo X_limits_fours_limit (aKws [0] (aCons (pC (.int 22)) aNil)))) (f := (pGo P_limits_fours_limit (aKws [0] (aCons (pC (.int 22)) aNil)))) (fun W => ?_) ?_⟩
  · have hg0 := hg
    have hu64 := hr.units
    exact (pe_goXK0 ["places"] [0] Y_fours_limit (hr.mono (by decide)) hg0 (takes_of rfl rfl rfl rfl) rfl (pk_cons pe_int pk_nil) (fun _ _ _ _ _ _ _ us ws h1 h2 => match us, h1, ws, h2 with | [], _, [_], _ => rfl))
  · exact (sim_goE (an_kws [0] (an_cons (sim_int 22) an_nil)))
  · exact (xe_goE2 (fun W => (an_kws [0] (an_cons (sim_int 22) an_nil))))
abbrev lam__law_eights_right_4 : LamD := ⟨lamOf [] (lmE 0 (lmS ((defBody s__law_eights_right).getD 5 noS))), oc_P_limits_fours_greatest_v2, []⟩
theorem lf__law_eights_right_4 : ∀ y ∈ lam__law_eights_right_4.L.scope.names, y.2 = .free → (defScope s__law_eights_right).names.lookup y.1 = some .cell ∨ (defScope s__law_eights_right).names.lookup y.1 = some .free := by decide +kernel
def te__law_eights_right_4 (K : PySem.W.Frag) (cl : Cl) : WX → TE := fun W => (tGoX (SpE K cl Option true 1 P_limits_fours_greatest X_limits_fours_greatest) (WE W) (tCons (tC (.int 20)) tNil))
theorem lm__law_eights_right_4 (Y_fours_greatest : FunX P w K mg base 5 "fours_greatest" s_fours_greatest ["places"] (SpE K cl Option true 1 P_limits_fours_greatest X_limits_fours_greatest)) : LamOk P w K mg base cl 5 lam__law_eights_right_4.L lam__law_eights_right_4.oc := by
  refine ⟨⟨NdefX.nscope_by (by decide +kernel), fun _ _ _ _ _ => rfl⟩, fun E => te__law_eights_right_4 K cl fun cls d _ H => E cls d H, fun q cs c f A out z H E hg hr => ?_, fun pot => oc_of (b := true) (te := te__law_eights_right_4 K cl) (x := (xGo X_limits_fours_greatest (aCons (pC (.int 20)) aNil))) (f := (pOf (pGoL P_limits_fours_greatest (aCons (pC (.int 20)) aNil)))) (fun W => ?_) ?_⟩
  · have hg0 := hg
    have hu64 := hr.units
    exact (pe_goX Y_fours_greatest (hr.mono (by decide)) hg0 (takes_of rfl rfl rfl rfl) rfl (pa_cons pe_int pa_nil) (fun _ _ _ _ _ _ _ us hl => match us, hl with | [_], _ => rfl))
  · exact (sim_goEN (an_cons (sim_int 20) an_nil))
  · exact (xe_goE2 (fun W => (an_cons (sim_int 20) an_nil)))
theorem cys__law_eights_right_0 : ∀ y ∈ (["_law_row"] : List Str), (defScope s__law_eights_right).names.lookup y = some .cell := by decide +kernel
def t__law_eights_right (P : Program) (w : World) (K : PySem.W.Frag) (mg : Str → Option Value) (base : Heap) (cl : Cl) (lq : Str) (cells : List (Str × Addr)) : TS := (tSeq (tAsg (tOp (rAddU K) (tLst (tCons (tC (.int 1)) tNil)) (tOp (rMulU) (tLst (tCons (tC (.int 0)) tNil)) (tIf (tTest (tOp (rNeU K) (tOp (rModI) (tOp (rMulU) (tC (.int 2)) (tVar 0)) (tC (.int 8))) (tC (.int 0)))) (tOp (rMulU) (tC (.int 2)) (tVar 0)) (tC (.int 10))))) (gName 1)) (tSeq (tAsg (tLst (tLams cl.T cells lq [lam__law_eights_right_0])) (gName 2)) (tSeq (tDrop (tBM K "list" rAppend (tVar 2) (tCons (tLam cl.T cells lq lam__law_eights_right_1.L) tNil))) (tSeq (tDrop (tBM K "list" rAppend (tVar 2) (tCons (tLam cl.T cells lq lam__law_eights_right_2.L) tNil))) (tSeq (tDrop (tBM K "list" rAppend (tVar 2) (tCons (tLam cl.T cells lq lam__law_eights_right_3.L) tNil))) (tSeq (tDrop (tBM K "list" rAppend (tVar 2) (tCons (tLam cl.T cells lq lam__law_eights_right_4.L) tNil))) (tRet (tGoC (SpF P w K mg base cl 6 Option false 2 L_are) cells ["_law_row"] [1] (tCons (tVar 2) (tCons (tLst (tCons (tC (.str "not eights")) (tCons (tC (.bl true)) tNil))) tNil))))))))))
theorem g__law_eights_right {f c PT : Addr} {fd : FuncData} {y : Str} (F : FunD K y y (defArgs s__law_eights_right) (defBody s__law_eights_right) (defScope s__law_eights_right) [] [] f fd) (hcode : fd.code = .ref c) (TX : TabX mg base cl c PT ((y ++ ".<locals>.") ++ "<lambda>")) (LM__law_eights_right_0 : LamOk P w K mg base cl 5 lam__law_eights_right_0.L lam__law_eights_right_0.oc) (LM__law_eights_right_1 : LamOk P w K mg base cl 5 lam__law_eights_right_1.L lam__law_eights_right_1.oc) (LM__law_eights_right_2 : LamOk P w K mg base cl 5 lam__law_eights_right_2.L lam__law_eights_right_2.oc) (LM__law_eights_right_3 : LamOk P w K mg base cl 5 lam__law_eights_right_3.L lam__law_eights_right_3.oc) (LM__law_eights_right_4 : LamOk P w K mg base cl 5 lam__law_eights_right_4.L lam__law_eights_right_4.oc) (F__law_are : Fun P w K mg base 8 "_law_are" s__law_are ["_law_calls", "_law_due"] (SpF P w K mg base cl 6 Option false 2 L_are)) : FnG P w K mg base CX0 9 f fd ["_law_many"] (SpD K cl Option false 1 L_eights_right) := by
  refine fng_defC (m := Option) (κ := false) (st := s__law_eights_right) (ps := ["_law_many"]) (N := ["_law_many", "_law_row", "_law_calls"]) (O := []) (O' := []) (t := t__law_eights_right P w K mg base cl ((y ++ ".<locals>.") ++ "<lambda>")) (fs := f_L_eights_right) F sc__law_eights_right (fun cdv B out z H E hcd hg hr => ?_) (fun pot cells hcl => ?_)
  · have nd := sc__law_eights_right.nd
    have hg0 : (B.deeper (envOfC y (defScope s__law_eights_right) z.heap.objs.size f cdv)).guards = some [] := hg
    have hu64 := hr.units
    have hcode2 : cdv = .ref c := hcd.symm.trans hcode
    exact (pss_cons (ps_set (i := 1) nd rfl (Or.inr rfl) (pe_op op_addU (pe_lst (pa_cons pe_int pa_nil)) (pe_op op_mulU (pe_lst (pa_cons pe_int pa_nil)) (pe_ifExp (pt_cmpR (op_neU hu64) (pe_op op_mod (pe_op op_mulU pe_int (pv 0)) pe_int) pe_int (nomark _)) (pe_op op_mulU pe_int (pv 0)) pe_int)))) (pss_cons (ps_set (i := 2) nd rfl (Or.inl rfl) (pe_lst (pa_cons (pe_lam (L := lam__law_eights_right_0.L) TX.tb (by first | exact hcode2 | (show cdv = _; exact hcode2)) TX.mem TX.uniq rfl lf__law_eights_right_0) pa_nil))) (pss_cons (ps_expr (pe_bm PySem.F.plainAttrs_list PySem.F.slot_list_append PySem.F.type_list_append mt_append (pv 2) (pa_cons (pe_lam (L := lam__law_eights_right_1.L) TX.tb (by first | exact hcode2 | (show cdv = _; exact hcode2)) TX.mem TX.uniq rfl lf__law_eights_right_1) pa_nil))) (pss_cons (ps_expr (pe_bm PySem.F.plainAttrs_list PySem.F.slot_list_append PySem.F.type_list_append mt_append (pv 2) (pa_cons (pe_lam (L := lam__law_eights_right_2.L) TX.tb (by first | exact hcode2 | (show cdv = _; exact hcode2)) TX.mem TX.uniq rfl lf__law_eights_right_2) pa_nil))) (pss_cons (ps_expr (pe_bm PySem.F.plainAttrs_list PySem.F.slot_list_append PySem.F.type_list_append mt_append (pv 2) (pa_cons (pe_lam (L := lam__law_eights_right_3.L) TX.tb (by first | exact hcode2 | (show cdv = _; exact hcode2)) TX.mem TX.uniq rfl lf__law_eights_right_3) pa_nil))) (pss_cons (ps_expr (pe_bm PySem.F.plainAttrs_list PySem.F.slot_list_append PySem.F.type_list_append mt_append (pv 2) (pa_cons (pe_lam (L := lam__law_eights_right_4.L) TX.tb (by first | exact hcode2 | (show cdv = _; exact hcode2)) TX.mem TX.uniq rfl lf__law_eights_right_4) pa_nil))) (pss_one (ps_ret (pe_goC (js := [1]) F__law_are (hr.mono (by decide)) hg0 rfl (pa_cons (pv 2) (pa_cons (pe_lst (pa_cons pe_str (pa_cons pe_bl pa_nil))) pa_nil)) rfl rfl rfl cys__law_eights_right_0 (fun _ _ _ _ _ _ _ us hl => match us, hl with | [_, _], _ => rfl))))))))))
  · exact (ss_seq (ss_set 1 (sim_op os_add (sim_new (simL_lst (args_cons (sim_int 1) args_nil))) (sim_op os_mul (sim_new (simL_lst (args_cons (sim_int 0) args_nil))) (sim_if (tst_test (sim_op os_ne (sim_op os_mod (sim_op os_mul (sim_int 2) (sim_var 0)) (sim_int 8)) (sim_int 0))) (sim_op os_mul (sim_int 2) (sim_var 0)) (sim_int 10)))))
  (sf_start 2
  (sf_app (l := lam__law_eights_right_1)
  (sf_app (l := lam__law_eights_right_2)
  (sf_app (l := lam__law_eights_right_3)
  (sf_app (l := lam__law_eights_right_4)
  (sf_ret (sf_areP (lamsOk_cons (l := lam__law_eights_right_0) LM__law_eights_right_0 rfl (by decide +kernel) (lam_free (L := lam__law_eights_right_0.L) hcl (by decide +kernel)) (lamsOk_cons (l := lam__law_eights_right_1) LM__law_eights_right_1 rfl (by decide +kernel) (lam_free (L := lam__law_eights_right_1.L) hcl (by decide +kernel)) (lamsOk_cons (l := lam__law_eights_right_2) LM__law_eights_right_2 rfl (by decide +kernel) (lam_free (L := lam__law_eights_right_2.L) hcl (by decide +kernel)) (lamsOk_cons (l := lam__law_eights_right_3) LM__law_eights_right_3 rfl (by decide +kernel) (lam_free (L := lam__law_eights_right_3.L) hcl (by decide +kernel)) (lamsOk_cons (l := lam__law_eights_right_4) LM__law_eights_right_4 rfl (by decide +kernel) (lam_free (L := lam__law_eights_right_4.L) hcl (by decide +kernel)) lamsOk_nil))))) (sim_new (simL_lst (args_cons (sim_str "not eights") (args_cons (sim_bl true) args_nil))))))))))))
abbrev lam__law_right_0 : LamD := ⟨lamOf ["_law_places", "_law_odd"] (lmE 0 (lmS (lmB 0 ((defBody s__law_right).getD 6 noS)))), oc_P_sums_fours_row_of_v4, [3, 1]⟩
theorem lf__law_right_0 : ∀ y ∈ lam__law_right_0.L.scope.names, y.2 = .free → (defScope s__law_right).names.lookup y.1 = some .cell ∨ (defScope s__law_right).names.lookup y.1 = some .free := by decide +kernel
def te__law_right_0 (K : PySem.W.Frag) (cl : Cl) : WX → TE := fun W => (tGoX (SpE K cl Option false 2 P_sums_fours_row_of X_sums_fours_row_of) (WE W) (tCons (tVar 0) (tCons (tVar 1) tNil)))
theorem lm__law_right_0 (Y_fours_row_of : FunX P w K mg base 5 "fours_row_of" s_fours_row_of ["places", "numbers"] (SpE K cl Option false 2 P_sums_fours_row_of X_sums_fours_row_of)) : LamOk P w K mg base cl 5 lam__law_right_0.L lam__law_right_0.oc := by
  refine ⟨⟨NdefX.nscope_by (by decide +kernel), fun _ _ _ _ _ => rfl⟩, fun E => te__law_right_0 K cl fun cls d _ H => E cls d H, fun q cs c f A out z H E hg hr => ?_, fun pot => oc_of (b := true) (te := te__law_right_0 K cl) (x := (xGo X_sums_fours_row_of (aCons (pVar 0) (aCons (pVar 1) aNil)))) (f := (pGo P_sums_fours_row_of (aCons (pVar 0) (aCons (pVar 1) aNil)))) (fun W => ?_) ?_⟩
  · have hg0 := hg
    have hu64 := hr.units
    exact (pe_goX Y_fours_row_of (hr.mono (by decide)) hg0 (takes_of rfl rfl rfl rfl) rfl (pa_cons (pv 0) (pa_cons (pv 1) pa_nil)) (fun _ _ _ _ _ _ _ us hl => match us, hl with | [_, _], _ => rfl))
  · exact (sim_goE (an_cons (sim_var 0) (an_cons (sim_var 1) an_nil)))
  · exact (xe_goE2 (fun W => (an_cons (sim_var 0) (an_cons (sim_var 1) an_nil))))
abbrev lam__law_right_1 : LamD := ⟨lamOf ["_law_odd", "_law_places"] (lmE 0 (lmS (lmB 1 ((defBody s__law_right).getD 6 noS)))), oc_P_sums_fours_row_of_v5, [1, 3]⟩
theorem lf__law_right_1 : ∀ y ∈ lam__law_right_1.L.scope.names, y.2 = .free → (defScope s__law_right).names.lookup y.1 = some .cell ∨ (defScope s__law_right).names.lookup y.1 = some .free := by decide +kernel
def te__law_right_1 (K : PySem.W.Frag) (cl : Cl) : WX → TE := fun W => (tGoX (SpE K cl Option false 2 P_sums_fours_row_of X_sums_fours_row_of) (WE W) (tKws 2 [1, 0] (tCons (tVar 0) (tCons (tVar 1) tNil))))
theorem lm__law_right_1 (Y_fours_row_of : FunX P w K mg base 5 "fours_row_of" s_fours_row_of ["places", "numbers"] (SpE K cl Option false 2 P_sums_fours_row_of X_sums_fours_row_of)) : LamOk P w K mg base cl 5 lam__law_right_1.L lam__law_right_1.oc := by
  refine ⟨⟨NdefX.nscope_by (by decide +kernel), fun _ _ _ _ _ => rfl⟩, fun E => te__law_right_1 K cl fun cls d _ H => E cls d H, fun q cs c f A out z H E hg hr => ?_, fun pot => oc_of (b := true) (te := te__law_right_1 K cl) (x := (xGo X_sums_fours_row_of (aKws [1, 0] (aCons (pVar 0) (aCons (pVar 1) aNil))))) (f := (pGo P_sums_fours_row_of (aKws [1, 0] (aCons (pVar 0) (aCons (pVar 1) aNil))))) (fun W => ?_) ?_⟩
  · have hg0 := hg
    have hu64 := hr.units
    exact (pe_goXK0 ["numbers", "places"] [1, 0] Y_fours_row_of (hr.mono (by decide)) hg0 (takes_of rfl rfl rfl rfl) rfl (pk_cons (pv 0) (pk_cons (pv 1) pk_nil)) (fun _ _ _ _ _ _ _ us ws h1 h2 => match us, h1, ws, h2 with | [], _, [_, _], _ => rfl))
  · exact (sim_goE (an_kws [1, 0] (an_cons (sim_var 0) (an_cons (sim_var 1) an_nil))))
  · exact (xe_goE2 (fun W => (an_kws [1, 0] (an_cons (sim_var 0) (an_cons (sim_var 1) an_nil)))))
abbrev lam__law_right_2 : LamD := ⟨lamOf ["_law_short"] (lmE 0 (lmS ((defBody s__law_right).getD 8 noS))), oc_P_sums_sums, [2]⟩
theorem lf__law_right_2 : ∀ y ∈ lam__law_right_2.L.scope.names, y.2 = .free → (defScope s__law_right).names.lookup y.1 = some .cell ∨ (defScope s__law_right).names.lookup y.1 = some .free := by decide +kernel
def te__law_right_2 (K : PySem.W.Frag) (cl : Cl) : WX → TE := fun W => (tGoX (SpE K cl Option false 1 P_sums_sums X_sums_sums) (WE W) (tCons (tVar 0) tNil))
theorem lm__law_right_2 (Y_sums : FunX P w K mg base 5 "sums" s_sums ["numbers"] (SpE K cl Option false 1 P_sums_sums X_sums_sums)) : LamOk P w K mg base cl 5 lam__law_right_2.L lam__law_right_2.oc := by
  refine ⟨⟨NdefX.nscope_by (by decide +kernel), fun _ _ _ _ _ => rfl⟩, fun E => te__law_right_2 K cl fun cls d _ H => E cls d H, fun q cs c f A out z H E hg hr => ?_, fun pot => oc_of (b := true) (te := te__law_right_2 K cl) (x := (xGo X_sums_sums (aCons (pVar 0) aNil))) (f := (pGo P_sums_sums (aCons (pVar 0) aNil))) (fun W => ?_) ?_⟩
  · have hg0 := hg
    have hu64 := hr.units
    exact (pe_goX Y_sums (hr.mono (by decide)) hg0 (takes_of rfl rfl rfl rfl) rfl (pa_cons (pv 0) pa_nil) (fun _ _ _ _ _ _ _ us hl => match us, hl with | [_], _ => rfl))
  · exact (sim_goE (an_cons (sim_var 0) an_nil))
  · exact (xe_goE2 (fun W => (an_cons (sim_var 0) an_nil)))
abbrev lam__law_right_3 : LamD := ⟨lamOf [] (lmE 0 (lmS ((defBody s__law_right).getD 9 noS))), oc_P_sums_fours_v2, []⟩
theorem lf__law_right_3 : ∀ y ∈ lam__law_right_3.L.scope.names, y.2 = .free → (defScope s__law_right).names.lookup y.1 = some .cell ∨ (defScope s__law_right).names.lookup y.1 = some .free := by decide +kernel
def te__law_right_3 (K : PySem.W.Frag) (cl : Cl) : WX → TE := fun W => (tGoX (SpE K cl Option false 1 P_sums_fours X_sums_fours) (WE W) (tCons (tOp (rAddU K) (tTup (tCons (tC (.int 1)) tNil)) (tOp (rMulT K) (tTup (tCons (tC (.int 0)) tNil)) (tC (.int 24)))) tNil))
theorem lm__law_right_3 (Y_fours_sums : FunX P w K mg base 5 "fours_sums" s_fours_sums ["numbers"] (SpE K cl Option false 1 P_sums_fours X_sums_fours)) : LamOk P w K mg base cl 5 lam__law_right_3.L lam__law_right_3.oc := by
  refine ⟨⟨NdefX.nscope_by (by decide +kernel), fun _ _ _ _ _ => rfl⟩, fun E => te__law_right_3 K cl fun cls d _ H => E cls d H, fun q cs c f A out z H E hg hr => ?_, fun pot => oc_of (b := true) (te := te__law_right_3 K cl) (x := (xGo X_sums_fours (aCons (p2 dAdd (pTup (aCons (pC (.int 1)) aNil)) (p2 dMulT (pTup (aCons (pC (.int 0)) aNil)) (pC (.int 24)))) aNil))) (f := (pGo P_sums_fours (aCons (p2 dAdd (pTup (aCons (pC (.int 1)) aNil)) (p2 dMulT (pTup (aCons (pC (.int 0)) aNil)) (pC (.int 24)))) aNil))) (fun W => ?_) ?_⟩
  · have hg0 := hg
    have hu64 := hr.units
    exact (pe_goX Y_fours_sums (hr.mono (by decide)) hg0 (takes_of rfl rfl rfl rfl) rfl (pa_cons (pe_op op_addU (pe_tup (pa_cons pe_int pa_nil)) (pe_op op_mulT (pe_tup (pa_cons pe_int pa_nil)) pe_int)) pa_nil) (fun _ _ _ _ _ _ _ us hl => match us, hl with | [_], _ => rfl))
  · exact (sim_goE (an_cons (sim_op os_add (sim_tup (args_cons (sim_int 1) args_nil)) (sim_op os_mulT (sim_tup (args_cons (sim_int 0) args_nil)) (sim_int 24))) an_nil))
  · exact (xe_goE2 (fun W => (an_cons (sim_op os_add (sim_tup (args_cons (sim_int 1) args_nil)) (sim_op os_mulT (sim_tup (args_cons (sim_int 0) args_nil)) (sim_int 24))) an_nil)))
abbrev lam__law_right_4 : LamD := ⟨lamOf ["_law_places", "_law_many"] (lmE 0 (lmS ((defBody s__law_right).getD 10 noS))), oc_P_sums_row_of_v5, [3, 4]⟩
theorem lf__law_right_4 : ∀ y ∈ lam__law_right_4.L.scope.names, y.2 = .free → (defScope s__law_right).names.lookup y.1 = some .cell ∨ (defScope s__law_right).names.lookup y.1 = some .free := by decide +kernel
def te__law_right_4 (K : PySem.W.Frag) (cl : Cl) : WX → TE := fun W => (tGoX (SpE K cl Option false 2 P_sums_row_of X_sums_row_of) (WE W) (tCons (tVar 0) (tCons (tOp (rMulT K) (tTup (tCons (tC (.int 0)) tNil)) (tVar 1)) tNil)))
theorem lm__law_right_4 (Y_row_of : FunX P w K mg base 5 "row_of" s_row_of ["places", "numbers"] (SpE K cl Option false 2 P_sums_row_of X_sums_row_of)) : LamOk P w K mg base cl 5 lam__law_right_4.L lam__law_right_4.oc := by
  refine ⟨⟨NdefX.nscope_by (by decide +kernel), fun _ _ _ _ _ => rfl⟩, fun E => te__law_right_4 K cl fun cls d _ H => E cls d H, fun q cs c f A out z H E hg hr => ?_, fun pot => oc_of (b := true) (te := te__law_right_4 K cl) (x := (xGo X_sums_row_of (aCons (pVar 0) (aCons (p2 dMulT (pTup (aCons (pC (.int 0)) aNil)) (pVar 1)) aNil)))) (f := (pGo P_sums_row_of (aCons (pVar 0) (aCons (p2 dMulT (pTup (aCons (pC (.int 0)) aNil)) (pVar 1)) aNil)))) (fun W => ?_) ?_⟩
  · have hg0 := hg
    have hu64 := hr.units
    exact (pe_goX Y_row_of (hr.mono (by decide)) hg0 (takes_of rfl rfl rfl rfl) rfl (pa_cons (pv 0) (pa_cons (pe_op op_mulT (pe_tup (pa_cons pe_int pa_nil)) (pv 1)) pa_nil)) (fun _ _ _ _ _ _ _ us hl => match us, hl with | [_, _], _ => rfl))
  · exact (sim_goE (an_cons (sim_var 0) (an_cons (sim_op os_mulT (sim_tup (args_cons (sim_int 0) args_nil)) (sim_var 1)) an_nil)))
  · exact (xe_goE2 (fun W => (an_cons (sim_var 0) (an_cons (sim_op os_mulT (sim_tup (args_cons (sim_int 0) args_nil)) (sim_var 1)) an_nil))))
abbrev lam__law_right_5 : LamD := ⟨lamOf [] (lmE 0 (lmS ((defBody s__law_right).getD 11 noS))), oc_P_limits_fours_limit_v4, []⟩
theorem lf__law_right_5 : ∀ y ∈ lam__law_right_5.L.scope.names, y.2 = .free → (defScope s__law_right).names.lookup y.1 = some .cell ∨ (defScope s__law_right).names.lookup y.1 = some .free := by decide +kernel
def te__law_right_5 (K : PySem.W.Frag) (cl : Cl) : WX → TE := fun W => (tGoX (SpE K cl Option false 1 P_limits_fours_limit X_limits_fours_limit) (WE W) (tCons (tC (.int 24)) tNil))
theorem lm__law_right_5 (Y_fours_limit : FunX P w K mg base 4 "fours_limit" s_fours_limit ["places"] (SpE K cl Option false 1 P_limits_fours_limit X_limits_fours_limit)) : LamOk P w K mg base cl 5 lam__law_right_5.L lam__law_right_5.oc := by
  refine ⟨⟨NdefX.nscope_by (by decide +kernel), fun _ _ _ _ _ => rfl⟩, fun E => te__law_right_5 K cl fun cls d _ H => E cls d H, fun q cs c f A out z H E hg hr => ?_, fun pot => oc_of (b := true) (te := te__law_right_5 K cl) (x := (xGo X_limits_fours_limit (aCons (pC (.int 24)) aNil))) (f := (pGo P_limits_fours_limit (aCons (pC (.int 24)) aNil))) (fun W => ?_) ?_⟩
  · have hg0 := hg
    have hu64 := hr.units
    exact (pe_goX Y_fours_limit (hr.mono (by decide)) hg0 (takes_of rfl rfl rfl rfl) rfl (pa_cons pe_int pa_nil) (fun _ _ _ _ _ _ _ us hl => match us, hl with | [_], _ => rfl))
  · exact (sim_goE (an_cons (sim_int 24) an_nil))
  · exact (xe_goE2 (fun W => (an_cons (sim_int 24) an_nil)))
abbrev lam__law_right_6 : LamD := ⟨lamOf [] (lmE 0 (lmS ((defBody s__law_right).getD 12 noS))), oc_P_limits_can_be_v3, []⟩
theorem lf__law_right_6 : ∀ y ∈ lam__law_right_6.L.scope.names, y.2 = .free → (defScope s__law_right).names.lookup y.1 = some .cell ∨ (defScope s__law_right).names.lookup y.1 = some .free := by decide +kernel
def te__law_right_6 (K : PySem.W.Frag) (cl : Cl) : WX → TE := fun W => (tGoX (SpE K cl Option false 1 P_limits_can_be X_limits_can_be) (WE W) (tCons (tOp (rMulU) (tLst (tCons (tUn rNegI (tC (.int 1))) tNil)) (tC (.int 25))) tNil))
theorem lm__law_right_6 (Y_can_be : FunX P w K mg base 5 "can_be" s_can_be ["numbers"] (SpE K cl Option false 1 P_limits_can_be X_limits_can_be)) : LamOk P w K mg base cl 5 lam__law_right_6.L lam__law_right_6.oc := by
  refine ⟨⟨NdefX.nscope_by (by decide +kernel), fun _ _ _ _ _ => rfl⟩, fun E => te__law_right_6 K cl fun cls d _ H => E cls d H, fun q cs c f A out z H E hg hr => ?_, fun pot => oc_of (b := true) (te := te__law_right_6 K cl) (x := (xGo X_limits_can_be (aCons (p2 dMul (pOf (pLst (aCons (p1 dNeg (pC (.int 1))) aNil))) (pC (.int 25))) aNil))) (f := (pGo P_limits_can_be (aCons (p2 dMul (pOf (pLst (aCons (p1 dNeg (pC (.int 1))) aNil))) (pC (.int 25))) aNil))) (fun W => ?_) ?_⟩
  · have hg0 := hg
    have hu64 := hr.units
    exact (pe_goX Y_can_be (hr.mono (by decide)) hg0 (takes_of rfl rfl rfl rfl) rfl (pa_cons (pe_op op_mulU (pe_lst (pa_cons (pe_un un_neg pe_int) pa_nil)) pe_int) pa_nil) (fun _ _ _ _ _ _ _ us hl => match us, hl with | [_], _ => rfl))
  · exact (sim_goE (an_cons (sim_op os_mul (sim_new (simL_lst (args_cons (sim_un us_neg (sim_int 1)) args_nil))) (sim_int 25)) an_nil))
  · exact (xe_goE2 (fun W => (an_cons (sim_op os_mul (sim_new (simL_lst (args_cons (sim_un us_neg (sim_int 1)) args_nil))) (sim_int 25)) an_nil)))
theorem cys__law_right_0 : ∀ y ∈ (["_law_places", "_law_odd"] : List Str), (defScope s__law_right).names.lookup y = some .cell := by decide +kernel
theorem cys__law_right_1 : ∀ y ∈ (["_law_short", "_law_places", "_law_many"] : List Str), (defScope s__law_right).names.lookup y = some .cell := by decide +kernel
def t__law_right (P : Program) (w : World) (K : PySem.W.Frag) (mg : Str → Option Value) (base : Heap) (cl : Cl) (lq : Str) (cells : List (Str × Addr)) : TS := (tSeq (tFor (iSeq K (tLst (tCons (tC .non) (tCons (tC (.bl true)) (tCons (tC (.int 0)) (tCons (tUn rNegI (tC (.int 2))) (tCons (tC (.int 1)) (tCons (tC (.int 3)) (tCons (tC (.int 23)) (tCons (tC (.int 25)) (tCons (tC (.int 26)) (tCons (tC (.int 999998)) (tCons (tC (.str "4")) (tCons (tLst (tCons (tC (.int 4)) tNil)) (tCons (tTup tNil) (tCons tDNewK tNil)))))))))))))))) (gName 1) (tIfS (tNot (tB (tGo (SpD K cl Option false 1 L_places_right) (tCons (tVar 1) tNil)))) (tRet (tC (.bl false))) tNext)) (tSeq (tAsg (tLst (tCons (tC (.int 1)) (tCons (tC (.int 0)) (tCons (tGo (SpD K cl G false 2 S_draw) (tCons (tVar 0) (tCons (tC (.int 5)) tNil))) tNil)))) (gName 2)) (tSeq (tFor (iSeq K (tLst (tCons (tC .non) (tCons (tC (.int 0)) (tCons (tC (.bl true)) (tCons (tC (.str "101")) (tCons tDNewK (tCons (tLst tNil) (tCons (tTup tNil) (tCons (tLst (tCons (tC (.int 1)) tNil)) (tCons (tLst (tCons (tC (.int 1)) (tCons (tC (.int 0)) tNil))) (tCons (tLst (tCons (tC (.int 1)) (tCons (tC (.int 0)) (tCons (tC (.int 0)) (tCons (tC (.int 1)) tNil))))) (tCons (tLst (tCons (tC (.int 1)) (tCons (tC (.bl true)) (tCons (tC (.int 1)) tNil)))) (tCons (tLst (tCons (tC (.int 1)) (tCons (tC (.str "0")) (tCons (tC (.int 1)) tNil)))) (tCons (tLst (tCons (tC (.int 1)) (tCons (tC .non) (tCons (tC (.int 1)) tNil)))) (tCons (tLst (tCons (tLst (tCons (tC (.int 1)) tNil)) (tCons (tC (.int 0)) (tCons (tC (.int 1)) tNil)))) (tCons (tOp (rMulU) (tLst (tCons (tC (.int 0)) tNil)) (tC (.int 27))) (tCons (tOp (rAddU K) (tVar 2) (tLst (tCons (tC (.bl false)) (tCons (tC (.int 1)) tNil)))) tNil)))))))))))))))))) (gName 1) (tIfS (tNot (tB (tGo (SpD K cl Option false 1 L_lists_right_v3) (tCons (tVar 1) tNil)))) (tRet (tC (.bl false))) tNext)) (tSeq (tAsg (tOp (rMulU) (tC (.int 2)) (tOp (rAddU K) (tC (.int 1)) (tGo (SpD K cl G false 2 S_draw) (tCons (tVar 0) (tCons (tC (.int 12)) tNil))))) (gName 3)) (tSeq (tAsg (tOp (rAddU K) (tOp (rDivI) (tVar 3) (tC (.int 8))) (tC (.int 1))) (gName 4)) (tSeq (tFor (iSeq K (tLst (tCons (tC .non) (tCons (tC (.int 0)) (tCons (tC (.bl true)) (tCons (tC (.str "1")) (tCons tDNewK (tCons (tLst tNil) (tCons (tOp (rMulU) (tLst (tCons (tC (.int 1)) tNil)) (tOp (rAddU K) (tVar 4) (tC (.int 1)))) (tCons (tOp (rAddU K) (tOp (rMulU) (tLst (tCons (tC (.int 0)) tNil)) (tOp (rSubI) (tVar 4) (tC (.int 1)))) (tLst (tCons (tC (.bl true)) tNil))) (tCons (tOp (rAddU K) (tOp (rMulU) (tLst (tCons (tC (.int 1)) tNil)) (tOp (rSubI) (tVar 4) (tC (.int 1)))) (tLst (tCons (tC .non) tNil))) (tCons (tOp (rMulU) (tLst (tCons (tLst (tCons (tC (.int 1)) tNil)) tNil)) (tVar 4)) (tCons (tOp (rMulU) (tLst (tCons (tC (.int 1)) tNil)) (tC (.int 13))) tNil))))))))))))) (gName 1) (tIfS (tNot (tB (tGo (SpD K cl Option false 2 L_numbers_right_v2) (tCons (tVar 3) (tCons (tVar 1) tNil))))) (tRet (tC (.bl false))) tNext)) (tSeq (tFor (iSeq K (tLst (tCons (tC .non) (tCons (tLst tNil) (tCons (tLst (tCons (tC (.int 1)) (tCons (tC (.int 2)) (tCons (tC (.int 3)) tNil)))) (tCons (tLst (tCons (tC (.bl true)) tNil)) (tCons (tOp (rMulU) (tLst (tCons (tC (.int 1)) tNil)) (tC (.int 4))) tNil))))))) (gName 1) (tSeq (tAsg (tLst (tLams cl.T cells lq [lam__law_right_0])) (gName 5)) (tSeq (tDrop (tBM K "list" rAppend (tVar 5) (tCons (tLam cl.T cells lq lam__law_right_1.L) tNil))) (tIfS (tNot (tB (tGoC (SpF P w K mg base cl 6 Option false 2 L_are) cells ["_law_places", "_law_odd"] [3, 1] (tCons (tVar 5) (tCons (tLst (tCons (tC (.str "numbers")) (tCons (tCB (rReprV K) (tCons (tVar 1) tNil)) (tCons (tC (.bl true)) tNil)))) tNil))))) (tRet (tC (.bl false))) tNext)))) (tSeq (tIfS (tNot (tB (tGo (SpD K cl Option false 1 L_eights_right) (tCons (tOp (rAddU K) (tC (.int 1)) (tGo (SpD K cl G false 2 S_draw) (tCons (tVar 0) (tCons (tC (.int 12)) tNil)))) tNil)))) (tRet (tC (.bl false))) tNext) (tSeq (tAsg (tLst (tLams cl.T cells lq [lam__law_right_2])) (gName 5)) (tSeq (tDrop (tBM K "list" rAppend (tVar 5) (tCons (tLam cl.T cells lq lam__law_right_3.L) tNil))) (tSeq (tDrop (tBM K "list" rAppend (tVar 5) (tCons (tLam cl.T cells lq lam__law_right_4.L) tNil))) (tSeq (tDrop (tBM K "list" rAppend (tVar 5) (tCons (tLam cl.T cells lq lam__law_right_5.L) tNil))) (tSeq (tDrop (tBM K "list" rAppend (tVar 5) (tCons (tLam cl.T cells lq lam__law_right_6.L) tNil))) (tRet (tGoC (SpF P w K mg base cl 6 Option false 2 L_are) cells ["_law_short", "_law_places", "_law_many"] [2, 3, 4] (tCons (tVar 5) (tCons (tLst (tCons (tC (.str "let")) tNil)) tNil)))))))))))))))))
theorem g__law_right {f c PT : Addr} {fd : FuncData} {y : Str} (F : FunD K y y (defArgs s__law_right) (defBody s__law_right) (defScope s__law_right) [] [] f fd) (hcode : fd.code = .ref c) (TX : TabX mg base cl c PT ((y ++ ".<locals>.") ++ "<lambda>")) (F__law_places_right : Fun P w K mg base 9 "_law_places_right" s__law_places_right ["_law_odd"] (SpD K cl Option false 1 L_places_right)) (F__law_draw : Fun P w K mg base 1 "_law_draw" s__law_draw ["_law_pot_here", "_law_many"] (SpD K cl G false 2 S_draw)) (F__law_lists_right : Fun P w K mg base 9 "_law_lists_right" s__law_lists_right ["_law_odd"] (SpD K cl Option false 1 L_lists_right_v3)) (F__law_numbers_right : Fun P w K mg base 9 "_law_numbers_right" s__law_numbers_right ["_law_places", "_law_odd"] (SpD K cl Option false 2 L_numbers_right_v2)) (LM__law_right_0 : LamOk P w K mg base cl 5 lam__law_right_0.L lam__law_right_0.oc) (LM__law_right_1 : LamOk P w K mg base cl 5 lam__law_right_1.L lam__law_right_1.oc) (fr_repr : mg "repr" = none) (F__law_are : Fun P w K mg base 8 "_law_are" s__law_are ["_law_calls", "_law_due"] (SpF P w K mg base cl 6 Option false 2 L_are)) (F__law_eights_right : Fun P w K mg base 9 "_law_eights_right" s__law_eights_right ["_law_many"] (SpD K cl Option false 1 L_eights_right)) (LM__law_right_2 : LamOk P w K mg base cl 5 lam__law_right_2.L lam__law_right_2.oc) (LM__law_right_3 : LamOk P w K mg base cl 5 lam__law_right_3.L lam__law_right_3.oc) (LM__law_right_4 : LamOk P w K mg base cl 5 lam__law_right_4.L lam__law_right_4.oc) (LM__law_right_5 : LamOk P w K mg base cl 5 lam__law_right_5.L lam__law_right_5.oc) (LM__law_right_6 : LamOk P w K mg base cl 5 lam__law_right_6.L lam__law_right_6.oc) : FnG P w K mg base CX0 10 f fd ["_law_pot_here"] (SpD K cl G false 1 L_right_v76) := by
  refine fng_defC (m := G) (κ := false) (st := s__law_right) (ps := ["_law_pot_here"]) (N := ["_law_pot_here", "_law_odd", "_law_short", "_law_places", "_law_many", "_law_calls"]) (O := []) (O' := []) (t := t__law_right P w K mg base cl ((y ++ ".<locals>.") ++ "<lambda>")) (fs := f_L_right_v76) F sc__law_right (fun cdv B out z H E hcd hg hr => ?_) (fun pot cells hcl => ?_)
  · have nd := sc__law_right.nd
    have hg0 : (B.deeper (envOfC y (defScope s__law_right) z.heap.objs.size f cdv)).guards = some [] := hg
    have hu64 := hr.units
    have hcode2 : cdv = .ref c := hcd.symm.trans hcode
    exact (pss_cons (ps_for PassesOwn.never rfl (pi_seq (pe_lst (pa_cons pe_non (pa_cons pe_bl (pa_cons pe_int (pa_cons (pe_un un_neg pe_int) (pa_cons pe_int (pa_cons pe_int (pa_cons pe_int (pa_cons pe_int (pa_cons pe_int (pa_cons pe_int (pa_cons pe_str (pa_cons (pe_lst (pa_cons pe_int pa_nil)) (pa_cons (pe_tup pa_nil) (pa_cons pe_dnewK pa_nil)))))))))))))))) (pg_name (i := 1) nd rfl (Or.inr rfl)) (pss_one (ps_if (pt_not (pt_val (pe_go F__law_places_right (hr.mono (by decide)) hg0 rfl (pa_cons (pv 1) pa_nil) (fun _ _ _ _ _ _ _ us hl => match us, hl with | [_], _ => rfl)))) (pss_one (ps_ret pe_bl)) pss_nil))) (pss_cons (ps_set (i := 2) nd rfl (Or.inr rfl) (pe_lst (pa_cons pe_int (pa_cons pe_int (pa_cons (pe_go F__law_draw (hr.mono (by decide)) hg0 rfl (pa_cons (pv 0) (pa_cons pe_int pa_nil)) (fun _ _ _ _ _ _ _ us hl => match us, hl with | [_, _], _ => rfl)) pa_nil))))) (pss_cons (ps_for PassesOwn.never rfl (pi_seq (pe_lst (pa_cons pe_non (pa_cons pe_int (pa_cons pe_bl (pa_cons pe_str (pa_cons pe_dnewK (pa_cons (pe_lst pa_nil) (pa_cons (pe_tup pa_nil) (pa_cons (pe_lst (pa_cons pe_int pa_nil)) (pa_cons (pe_lst (pa_cons pe_int (pa_cons pe_int pa_nil))) (pa_cons (pe_lst (pa_cons pe_int (pa_cons pe_int (pa_cons pe_int (pa_cons pe_int pa_nil))))) (pa_cons (pe_lst (pa_cons pe_int (pa_cons pe_bl (pa_cons pe_int pa_nil)))) (pa_cons (pe_lst (pa_cons pe_int (pa_cons pe_str (pa_cons pe_int pa_nil)))) (pa_cons (pe_lst (pa_cons pe_int (pa_cons pe_non (pa_cons pe_int pa_nil)))) (pa_cons (pe_lst (pa_cons (pe_lst (pa_cons pe_int pa_nil)) (pa_cons pe_int (pa_cons pe_int pa_nil)))) (pa_cons (pe_op op_mulU (pe_lst (pa_cons pe_int pa_nil)) pe_int) (pa_cons (pe_op op_addU (pv 2) (pe_lst (pa_cons pe_bl (pa_cons pe_int pa_nil)))) pa_nil)))))))))))))))))) (pg_name (i := 1) nd rfl (Or.inr rfl)) (pss_one (ps_if (pt_not (pt_val (pe_go F__law_lists_right (hr.mono (by decide)) hg0 rfl (pa_cons (pv 1) pa_nil) (fun _ _ _ _ _ _ _ us hl => match us, hl with | [_], _ => rfl)))) (pss_one (ps_ret pe_bl)) pss_nil))) (pss_cons (ps_set (i := 3) nd rfl (Or.inr rfl) (pe_op op_mulU pe_int (pe_op op_addU pe_int (pe_go F__law_draw (hr.mono (by decide)) hg0 rfl (pa_cons (pv 0) (pa_cons pe_int pa_nil)) (fun _ _ _ _ _ _ _ us hl => match us, hl with | [_, _], _ => rfl))))) (pss_cons (ps_set (i := 4) nd rfl (Or.inr rfl) (pe_op op_addU (pe_op op_fdivW (pv 3) pe_int) pe_int)) (pss_cons (ps_for PassesOwn.never rfl (pi_seq (pe_lst (pa_cons pe_non (pa_cons pe_int (pa_cons pe_bl (pa_cons pe_str (pa_cons pe_dnewK (pa_cons (pe_lst pa_nil) (pa_cons (pe_op op_mulU (pe_lst (pa_cons pe_int pa_nil)) (pe_op op_addU (pv 4) pe_int)) (pa_cons (pe_op op_addU (pe_op op_mulU (pe_lst (pa_cons pe_int pa_nil)) (pe_op op_sub (pv 4) pe_int)) (pe_lst (pa_cons pe_bl pa_nil))) (pa_cons (pe_op op_addU (pe_op op_mulU (pe_lst (pa_cons pe_int pa_nil)) (pe_op op_sub (pv 4) pe_int)) (pe_lst (pa_cons pe_non pa_nil))) (pa_cons (pe_op op_mulU (pe_lst (pa_cons (pe_lst (pa_cons pe_int pa_nil)) pa_nil)) (pv 4)) (pa_cons (pe_op op_mulU (pe_lst (pa_cons pe_int pa_nil)) pe_int) pa_nil))))))))))))) (pg_name (i := 1) nd rfl (Or.inr rfl)) (pss_one (ps_if (pt_not (pt_val (pe_go F__law_numbers_right (hr.mono (by decide)) hg0 rfl (pa_cons (pv 3) (pa_cons (pv 1) pa_nil)) (fun _ _ _ _ _ _ _ us hl => match us, hl with | [_, _], _ => rfl)))) (pss_one (ps_ret pe_bl)) pss_nil))) (pss_cons (ps_for PassesOwn.never rfl (pi_seq (pe_lst (pa_cons pe_non (pa_cons (pe_lst pa_nil) (pa_cons (pe_lst (pa_cons pe_int (pa_cons pe_int (pa_cons pe_int pa_nil)))) (pa_cons (pe_lst (pa_cons pe_bl pa_nil)) (pa_cons (pe_op op_mulU (pe_lst (pa_cons pe_int pa_nil)) pe_int) pa_nil))))))) (pg_name (i := 1) nd rfl (Or.inr rfl)) (pss_cons (ps_set (i := 5) nd rfl (Or.inl rfl) (pe_lst (pa_cons (pe_lam (L := lam__law_right_0.L) TX.tb (by first | exact hcode2 | (show cdv = _; exact hcode2)) TX.mem TX.uniq rfl lf__law_right_0) pa_nil))) (pss_cons (ps_expr (pe_bm PySem.F.plainAttrs_list PySem.F.slot_list_append PySem.F.type_list_append mt_append (pv 5) (pa_cons (pe_lam (L := lam__law_right_1.L) TX.tb (by first | exact hcode2 | (show cdv = _; exact hcode2)) TX.mem TX.uniq rfl lf__law_right_1) pa_nil))) (pss_one (ps_if (pt_not (pt_val (pe_goC (js := [3, 1]) F__law_are (hr.mono (by decide)) hg0 rfl (pa_cons (pv 5) (pa_cons (pe_lst (pa_cons pe_str (pa_cons (pe_callB (call_reprV hg0 hu64) rfl fr_repr (by decide +kernel) (pa_cons (pv 1) pa_nil)) (pa_cons pe_bl pa_nil)))) pa_nil)) rfl rfl rfl cys__law_right_0 (fun _ _ _ _ _ _ _ us hl => match us, hl with | [_, _], _ => rfl)))) (pss_one (ps_ret pe_bl)) pss_nil))))) (pss_cons (ps_if (pt_not (pt_val (pe_go F__law_eights_right (hr.mono (by decide)) hg0 rfl (pa_cons (pe_op op_addU pe_int (pe_go F__law_draw (hr.mono (by decide)) hg0 rfl (pa_cons (pv 0) (pa_cons pe_int pa_nil)) (fun _ _ _ _ _ _ _ us hl => match us, hl with | [_, _], _ => rfl))) pa_nil) (fun _ _ _ _ _ _ _ us hl => match us, hl with | [_], _ => rfl)))) (pss_one (ps_ret pe_bl)) pss_nil) (pss_cons (ps_set (i := 5) nd rfl (Or.inl rfl) (pe_lst (pa_cons (pe_lam (L := lam__law_right_2.L) TX.tb (by first | exact hcode2 | (show cdv = _; exact hcode2)) TX.mem TX.uniq rfl lf__law_right_2) pa_nil))) (pss_cons (ps_expr (pe_bm PySem.F.plainAttrs_list PySem.F.slot_list_append PySem.F.type_list_append mt_append (pv 5) (pa_cons (pe_lam (L := lam__law_right_3.L) TX.tb (by first | exact hcode2 | (show cdv = _; exact hcode2)) TX.mem TX.uniq rfl lf__law_right_3) pa_nil))) (pss_cons (ps_expr (pe_bm PySem.F.plainAttrs_list PySem.F.slot_list_append PySem.F.type_list_append mt_append (pv 5) (pa_cons (pe_lam (L := lam__law_right_4.L) TX.tb (by first | exact hcode2 | (show cdv = _; exact hcode2)) TX.mem TX.uniq rfl lf__law_right_4) pa_nil))) (pss_cons (ps_expr (pe_bm PySem.F.plainAttrs_list PySem.F.slot_list_append PySem.F.type_list_append mt_append (pv 5) (pa_cons (pe_lam (L := lam__law_right_5.L) TX.tb (by first | exact hcode2 | (show cdv = _; exact hcode2)) TX.mem TX.uniq rfl lf__law_right_5) pa_nil))) (pss_cons (ps_expr (pe_bm PySem.F.plainAttrs_list PySem.F.slot_list_append PySem.F.type_list_append mt_append (pv 5) (pa_cons (pe_lam (L := lam__law_right_6.L) TX.tb (by first | exact hcode2 | (show cdv = _; exact hcode2)) TX.mem TX.uniq rfl lf__law_right_6) pa_nil))) (pss_one (ps_ret (pe_goC (js := [2, 3, 4]) F__law_are (hr.mono (by decide)) hg0 rfl (pa_cons (pv 5) (pa_cons (pe_lst (pa_cons pe_str pa_nil)) pa_nil)) rfl rfl rfl cys__law_right_1 (fun _ _ _ _ _ _ _ us hl => match us, hl with | [_, _], _ => rfl)))))))))))))))))
  · exact (ss_seq (ss_for (si_seq (sim_new (simL_lst (args_cons sim_non (args_cons (sim_bl true) (args_cons (sim_int 0) (args_cons (sim_un us_neg (sim_int 2)) (args_cons (sim_int 1) (args_cons (sim_int 3) (args_cons (sim_int 23) (args_cons (sim_int 25) (args_cons (sim_int 26) (args_cons (sim_int 999998) (args_cons (sim_str "4") (args_cons (sim_new (simL_lst (args_cons (sim_int 4) args_nil))) (args_cons (sim_tup args_nil) (args_cons sim_dic0 args_nil))))))))))))))))) (tg_name 1) (ss_if (tst_not (tst_B (sim_go (an_cons (sim_var 1) an_nil)))) (ss_ret (sim_bl false)) ss_next))
  (ss_seq (ss_set 2 (sim_new (simL_lst (args_cons (sim_int 1) (args_cons (sim_int 0) (args_cons (sim_go (an_cons (sim_var 0) (an_cons (sim_int 5) an_nil))) args_nil))))))
  (ss_seq (ss_for (si_seq (sim_new (simL_lst (args_cons sim_non (args_cons (sim_int 0) (args_cons (sim_bl true) (args_cons (sim_str "101") (args_cons sim_dic0 (args_cons (sim_new (simL_lst args_nil)) (args_cons (sim_tup args_nil) (args_cons (sim_new (simL_lst (args_cons (sim_int 1) args_nil))) (args_cons (sim_new (simL_lst (args_cons (sim_int 1) (args_cons (sim_int 0) args_nil)))) (args_cons (sim_new (simL_lst (args_cons (sim_int 1) (args_cons (sim_int 0) (args_cons (sim_int 0) (args_cons (sim_int 1) args_nil)))))) (args_cons (sim_new (simL_lst (args_cons (sim_int 1) (args_cons (sim_bl true) (args_cons (sim_int 1) args_nil))))) (args_cons (sim_new (simL_lst (args_cons (sim_int 1) (args_cons (sim_str "0") (args_cons (sim_int 1) args_nil))))) (args_cons (sim_new (simL_lst (args_cons (sim_int 1) (args_cons sim_non (args_cons (sim_int 1) args_nil))))) (args_cons (sim_new (simL_lst (args_cons (sim_new (simL_lst (args_cons (sim_int 1) args_nil))) (args_cons (sim_int 0) (args_cons (sim_int 1) args_nil))))) (args_cons (sim_op os_mul (sim_new (simL_lst (args_cons (sim_int 0) args_nil))) (sim_int 27)) (args_cons (sim_op os_add (sim_var 2) (sim_new (simL_lst (args_cons (sim_bl false) (args_cons (sim_int 1) args_nil))))) args_nil))))))))))))))))))) (tg_name 1) (ss_if (tst_not (tst_B (sim_go (an_cons (sim_var 1) an_nil)))) (ss_ret (sim_bl false)) ss_next))
  (ss_seq (ss_set 3 (sim_op os_mul (sim_int 2) (sim_op os_add (sim_int 1) (sim_go (an_cons (sim_var 0) (an_cons (sim_int 12) an_nil))))))
  (ss_seq (ss_set 4 (sim_op os_add (sim_op os_div (sim_var 3) (sim_int 8)) (sim_int 1)))
  (ss_seq (ss_for (si_seq (sim_new (simL_lst (args_cons sim_non (args_cons (sim_int 0) (args_cons (sim_bl true) (args_cons (sim_str "1") (args_cons sim_dic0 (args_cons (sim_new (simL_lst args_nil)) (args_cons (sim_op os_mul (sim_new (simL_lst (args_cons (sim_int 1) args_nil))) (sim_op os_add (sim_var 4) (sim_int 1))) (args_cons (sim_op os_add (sim_op os_mul (sim_new (simL_lst (args_cons (sim_int 0) args_nil))) (sim_op os_sub (sim_var 4) (sim_int 1))) (sim_new (simL_lst (args_cons (sim_bl true) args_nil)))) (args_cons (sim_op os_add (sim_op os_mul (sim_new (simL_lst (args_cons (sim_int 1) args_nil))) (sim_op os_sub (sim_var 4) (sim_int 1))) (sim_new (simL_lst (args_cons sim_non args_nil)))) (args_cons (sim_op os_mul (sim_new (simL_lst (args_cons (sim_new (simL_lst (args_cons (sim_int 1) args_nil))) args_nil))) (sim_var 4)) (args_cons (sim_op os_mul (sim_new (simL_lst (args_cons (sim_int 1) args_nil))) (sim_int 13)) args_nil)))))))))))))) (tg_name 1) (ss_if (tst_not (tst_B (sim_go (an_cons (sim_var 3) (an_cons (sim_var 1) an_nil))))) (ss_ret (sim_bl false)) ss_next))
  (ss_seq (ss_for (si_seq (sim_new (simL_lst (args_cons sim_non (args_cons (sim_new (simL_lst args_nil)) (args_cons (sim_new (simL_lst (args_cons (sim_int 1) (args_cons (sim_int 2) (args_cons (sim_int 3) args_nil))))) (args_cons (sim_new (simL_lst (args_cons (sim_bl true) args_nil))) (args_cons (sim_op os_mul (sim_new (simL_lst (args_cons (sim_int 1) args_nil))) (sim_int 4)) args_nil)))))))) (tg_name 1) (sf_start 5
  (sf_app (l := lam__law_right_1)
  (sf_if (tf_not (tf_B (sf_areP (lamsOk_cons (l := lam__law_right_0) LM__law_right_0 rfl (by decide +kernel) (lam_free (L := lam__law_right_0.L) hcl (by decide +kernel)) (lamsOk_cons (l := lam__law_right_1) LM__law_right_1 rfl (by decide +kernel) (lam_free (L := lam__law_right_1.L) hcl (by decide +kernel)) lamsOk_nil)) (sim_new (simL_lst (args_cons (sim_str "numbers") (args_cons (sim_cb cs_reprV (args_cons (sim_up (sim_var 1)) args_nil)) (args_cons (sim_bl true) args_nil)))))))) (ss_ret (sim_bl false)) ss_next))))
  (ss_seq (ss_if (tst_not (tst_B (sim_go (an_cons (sim_op os_add (sim_int 1) (sim_go (an_cons (sim_var 0) (an_cons (sim_int 12) an_nil)))) an_nil)))) (ss_ret (sim_bl false)) ss_next)
  (sf_start 5
  (sf_app (l := lam__law_right_3)
  (sf_app (l := lam__law_right_4)
  (sf_app (l := lam__law_right_5)
  (sf_app (l := lam__law_right_6)
  (sf_ret (sf_areP (lamsOk_cons (l := lam__law_right_2) LM__law_right_2 rfl (by decide +kernel) (lam_free (L := lam__law_right_2.L) hcl (by decide +kernel)) (lamsOk_cons (l := lam__law_right_3) LM__law_right_3 rfl (by decide +kernel) (lam_free (L := lam__law_right_3.L) hcl (by decide +kernel)) (lamsOk_cons (l := lam__law_right_4) LM__law_right_4 rfl (by decide +kernel) (lam_free (L := lam__law_right_4.L) hcl (by decide +kernel)) (lamsOk_cons (l := lam__law_right_5) LM__law_right_5 rfl (by decide +kernel) (lam_free (L := lam__law_right_5.L) hcl (by decide +kernel)) (lamsOk_cons (l := lam__law_right_6) LM__law_right_6 rfl (by decide +kernel) (lam_free (L := lam__law_right_6.L) hcl (by decide +kernel)) lamsOk_nil))))) (sim_new (simL_lst (args_cons (sim_str "let") args_nil))))))))))))))))))
def t_law (K : PySem.W.Frag) (cl : Cl) : TS := (tRet (tGo (SpD K cl G false 1 L_right_v76) (tCons (tGo (SpD K cl Option true 2 L_pot_v62) (tCons (tVar 0) (tCons (tC (.int 0)) tNil))) tNil)))
theorem g_law {f : Addr} {fd : FuncData} {y : Str} (F : FunD K y y (defArgs s_law) (defBody s_law) (defScope s_law) [] [] f fd) (F__law_pot : Fun P w K mg base 1 "_law_pot" s__law_pot ["_law_script", "_law_k"] (SpD K cl Option true 2 L_pot_v62)) (F__law_right : Fun P w K mg base 10 "_law_right" s__law_right ["_law_pot_here"] (SpD K cl G false 1 L_right_v76)) : FnG P w K mg base CX0 11 f fd ["_law_script"] (SpD K cl G false 1 L_law_v76) := by
  refine fng_def (m := G) (κ := false) (st := s_law) (ps := ["_law_script"]) (N := ["_law_script"]) (O := []) (O' := []) (t := t_law K cl) (fs := f_L_law_v76) F sc_law (fun cdv B out z H E hg hr => ?_) (fun pot => ?_)
  · have nd := sc_law.nd
    have hg0 : (B.deeper (envOfC y (defScope s_law) z.heap.objs.size f cdv)).guards = some [] := hg
    have hu64 := hr.units
    exact (pss_one (ps_ret (pe_go F__law_right (hr.mono (by decide)) hg0 rfl (pa_cons (pe_go F__law_pot (hr.mono (by decide)) hg0 rfl (pa_cons (pv 0) (pa_cons pe_int pa_nil)) (fun _ _ _ _ _ _ _ us hl => match us, hl with | [_, _], _ => rfl)) pa_nil) (fun _ _ _ _ _ _ _ us hl => match us, hl with | [_], _ => rfl))))
  · exact (ss_ret (sim_goPot (simL_go (an_cons (sim_var 0) (an_cons (sim_int 0) an_nil)))))
end
theorem facts {P : Program} {w : World} {K : PySem.W.Frag} {h : Heap} {mg : Str → Option Value} {f : Addr} (X : K.In h) (GN : h.Ns mainGlobals mg) (hfa : mg ("law" : Str) = some (.ref f)) (c : SaysQ fa fn pr ex K) (cx : ex K = true) (TT : TabK K xs h) :
    ∃ fd : FuncData, (∀ (s : Shared) (v : Value), BindsTo s fd ⟨[v], []⟩ [("_law_script", v)]) ∧ ∀ base : Heap, K.In base → base.Ns mainGlobals mg → (∀ y ∈ xs, LamX.TabB base mg (codeA K y) (tabA K y)) → FnG P w K mg base CX0 11 f fd ["_law_script"] (SpD K (clT K) G false 1 L_law_v76) := by
  have D_is_integer : DefAt K mg "is_integer" "is_integer" s_is_integer := by
    obtain ⟨fd, F⟩ := c.1.def_ 0 (d := d_is_integer) rfl
    exact ⟨_, fd, F, He.glo_ok X GN (c.1.fact 0 (f := .glo "is_integer") rfl)⟩
  have D_is_list : DefAt K mg "is_list" "is_list" s_is_list := by
    obtain ⟨fd, F⟩ := c.1.def_ 1 (d := d_is_list) rfl
    exact ⟨_, fd, F, He.glo_ok X GN (c.1.fact 1 (f := .glo "is_list") rfl)⟩
  have D_want_even_places : DefAt K mg "want_even_places" "want_even_places" s_want_even_places := by
    obtain ⟨fd, F⟩ := c.1.def_ 2 (d := d_want_even_places) rfl
    exact ⟨_, fd, F, He.glo_ok X GN (c.1.fact 2 (f := .glo "want_even_places") rfl)⟩
  have D_want_eights : DefAt K mg "want_eights" "want_eights" s_want_eights := by
    obtain ⟨fd, F⟩ := c.1.def_ 3 (d := d_want_eights) rfl
    exact ⟨_, fd, F, He.glo_ok X GN (c.1.fact 3 (f := .glo "want_eights") rfl)⟩
  have D_are_integers : DefAt K mg "are_integers" "are_integers" s_are_integers := by
    obtain ⟨fd, F⟩ := c.1.def_ 4 (d := d_are_integers) rfl
    exact ⟨_, fd, F, He.glo_ok X GN (c.1.fact 4 (f := .glo "are_integers") rfl)⟩
  have D_want_row_numbers : DefAt K mg "want_row_numbers" "want_row_numbers" s_want_row_numbers := by
    obtain ⟨fd, F⟩ := c.1.def_ 5 (d := d_want_row_numbers) rfl
    exact ⟨_, fd, F, He.glo_ok X GN (c.1.fact 5 (f := .glo "want_row_numbers") rfl)⟩
  have D_want_sum_numbers : DefAt K mg "want_sum_numbers" "want_sum_numbers" s_want_sum_numbers := by
    obtain ⟨fd, F⟩ := c.1.def_ 6 (d := d_want_sum_numbers) rfl
    exact ⟨_, fd, F, He.glo_ok X GN (c.1.fact 6 (f := .glo "want_sum_numbers") rfl)⟩
  have D_product_of : DefAt K mg "product_of" "product_of" s_product_of := by
    obtain ⟨fd, F⟩ := c.1.def_ 7 (d := d_product_of) rfl
    exact ⟨_, fd, F, He.glo_ok X GN (c.1.fact 7 (f := .glo "product_of") rfl)⟩
  have D_power_of : DefAt K mg "power_of" "power_of" s_power_of := by
    obtain ⟨fd, F⟩ := c.1.def_ 8 (d := d_power_of) rfl
    exact ⟨_, fd, F, He.glo_ok X GN (c.1.fact 8 (f := .glo "power_of") rfl)⟩
  have D_products_by : DefAt K mg "products_by" "products_by" s_products_by := by
    obtain ⟨fd, F⟩ := c.1.def_ 9 (d := d_products_by) rfl
    exact ⟨_, fd, F, He.glo_ok X GN (c.1.fact 9 (f := .glo "products_by") rfl)⟩
  have D_added : DefAt K mg "added" "added" s_added := by
    obtain ⟨fd, F⟩ := c.1.def_ 10 (d := d_added) rfl
    exact ⟨_, fd, F, He.glo_ok X GN (c.1.fact 10 (f := .glo "added") rfl)⟩
  have D_solved : DefAt K mg "solved" "solved" s_solved := by
    obtain ⟨fd, F⟩ := c.1.def_ 11 (d := d_solved) rfl
    exact ⟨_, fd, F, He.glo_ok X GN (c.1.fact 11 (f := .glo "solved") rfl)⟩
  have D_sums : DefAt K mg "sums" "sums" s_sums := by
    obtain ⟨fd, F⟩ := c.1.def_ 12 (d := d_sums) rfl
    exact ⟨_, fd, F, He.glo_ok X GN (c.1.fact 12 (f := .glo "sums") rfl)⟩
  have D_row_of : DefAt K mg "row_of" "row_of" s_row_of := by
    obtain ⟨fd, F⟩ := c.1.def_ 13 (d := d_row_of) rfl
    exact ⟨_, fd, F, He.glo_ok X GN (c.1.fact 13 (f := .glo "row_of") rfl)⟩
  have D_fours_sums : DefAt K mg "fours_sums" "fours_sums" s_fours_sums := by
    obtain ⟨fd, F⟩ := c.1.def_ 14 (d := d_fours_sums) rfl
    exact ⟨_, fd, F, He.glo_ok X GN (c.1.fact 14 (f := .glo "fours_sums") rfl)⟩
  have D_fours_row_of : DefAt K mg "fours_row_of" "fours_row_of" s_fours_row_of := by
    obtain ⟨fd, F⟩ := c.1.def_ 15 (d := d_fours_row_of) rfl
    exact ⟨_, fd, F, He.glo_ok X GN (c.1.fact 15 (f := .glo "fours_row_of") rfl)⟩
  have D_twos : DefAt K mg "twos" "twos" s_twos := by
    obtain ⟨fd, F⟩ := c.1.def_ 16 (d := d_twos) rfl
    exact ⟨_, fd, F, He.glo_ok X GN (c.1.fact 16 (f := .glo "twos") rfl)⟩
  have D_shadow_by : DefAt K mg "shadow_by" "shadow_by" s_shadow_by := by
    obtain ⟨fd, F⟩ := c.1.def_ 17 (d := d_shadow_by) rfl
    exact ⟨_, fd, F, He.glo_ok X GN (c.1.fact 17 (f := .glo "shadow_by") rfl)⟩
  have D_shadow_of : DefAt K mg "shadow_of" "shadow_of" s_shadow_of := by
    obtain ⟨fd, F⟩ := c.1.def_ 18 (d := d_shadow_of) rfl
    exact ⟨_, fd, F, He.glo_ok X GN (c.1.fact 18 (f := .glo "shadow_of") rfl)⟩
  have D_limit : DefAt K mg "limit" "limit" s_limit := by
    obtain ⟨fd, F⟩ := c.1.def_ 19 (d := d_limit) rfl
    exact ⟨_, fd, F, He.glo_ok X GN (c.1.fact 19 (f := .glo "limit") rfl)⟩
  have D_fours_limit : DefAt K mg "fours_limit" "fours_limit" s_fours_limit := by
    obtain ⟨fd, F⟩ := c.1.def_ 20 (d := d_fours_limit) rfl
    exact ⟨_, fd, F, He.glo_ok X GN (c.1.fact 20 (f := .glo "fours_limit") rfl)⟩
  have D_greatest_by : DefAt K mg "greatest_by" "greatest_by" s_greatest_by := by
    obtain ⟨fd, F⟩ := c.1.def_ 21 (d := d_greatest_by) rfl
    exact ⟨_, fd, F, He.glo_ok X GN (c.1.fact 21 (f := .glo "greatest_by") rfl)⟩
  have D_greatest : DefAt K mg "greatest" "greatest" s_greatest := by
    obtain ⟨fd, F⟩ := c.1.def_ 22 (d := d_greatest) rfl
    exact ⟨_, fd, F, He.glo_ok X GN (c.1.fact 22 (f := .glo "greatest") rfl)⟩
  have D_fours_greatest : DefAt K mg "fours_greatest" "fours_greatest" s_fours_greatest := by
    obtain ⟨fd, F⟩ := c.1.def_ 23 (d := d_fours_greatest) rfl
    exact ⟨_, fd, F, He.glo_ok X GN (c.1.fact 23 (f := .glo "fours_greatest") rfl)⟩
  have D_can_be : DefAt K mg "can_be" "can_be" s_can_be := by
    obtain ⟨fd, F⟩ := c.1.def_ 24 (d := d_can_be) rfl
    exact ⟨_, fd, F, He.glo_ok X GN (c.1.fact 24 (f := .glo "can_be") rfl)⟩
  have D__law_pot : DefAt K mg "_law_pot" "_law_pot" s__law_pot := by
    obtain ⟨fd, F⟩ := c.1.def_ 25 (d := d__law_pot) rfl
    exact ⟨_, fd, F, He.glo_ok X GN (c.1.fact 25 (f := .glo "_law_pot") rfl)⟩
  have D__law_draw : DefAt K mg "_law_draw" "_law_draw" s__law_draw := by
    obtain ⟨fd, F⟩ := c.1.def_ 26 (d := d__law_draw) rfl
    exact ⟨_, fd, F, He.glo_ok X GN (c.1.fact 26 (f := .glo "_law_draw") rfl)⟩
  have D__law_heard : DefAt K mg "_law_heard" "_law_heard" s__law_heard := by
    obtain ⟨fd, F⟩ := c.1.def_ 27 (d := d__law_heard) rfl
    exact ⟨_, fd, F, He.glo_ok X GN (c.1.fact 27 (f := .glo "_law_heard") rfl)⟩
  have D__law_are : DefAt K mg "_law_are" "_law_are" s__law_are := by
    obtain ⟨fd, F⟩ := c.1.def_ 28 (d := d__law_are) rfl
    exact ⟨_, fd, F, He.glo_ok X GN (c.1.fact 28 (f := .glo "_law_are") rfl)⟩
  have D__law_places_right : DefAt K mg "_law_places_right" "_law_places_right" s__law_places_right := by
    obtain ⟨fd, F⟩ := c.1.def_ 29 (d := d__law_places_right) rfl
    exact ⟨_, fd, F, He.glo_ok X GN (c.1.fact 29 (f := .glo "_law_places_right") rfl)⟩
  have D__law_lists_right : DefAt K mg "_law_lists_right" "_law_lists_right" s__law_lists_right := by
    obtain ⟨fd, F⟩ := c.1.def_ 30 (d := d__law_lists_right) rfl
    exact ⟨_, fd, F, He.glo_ok X GN (c.1.fact 30 (f := .glo "_law_lists_right") rfl)⟩
  have D__law_numbers_right : DefAt K mg "_law_numbers_right" "_law_numbers_right" s__law_numbers_right := by
    obtain ⟨fd, F⟩ := c.1.def_ 31 (d := d__law_numbers_right) rfl
    exact ⟨_, fd, F, He.glo_ok X GN (c.1.fact 31 (f := .glo "_law_numbers_right") rfl)⟩
  have D__law_eights_right : DefAt K mg "_law_eights_right" "_law_eights_right" s__law_eights_right := by
    obtain ⟨fd, F⟩ := c.1.def_ 32 (d := d__law_eights_right) rfl
    exact ⟨_, fd, F, He.glo_ok X GN (c.1.fact 32 (f := .glo "_law_eights_right") rfl)⟩
  have D__law_right : DefAt K mg "_law_right" "_law_right" s__law_right := by
    obtain ⟨fd, F⟩ := c.1.def_ 33 (d := d__law_right) rfl
    exact ⟨_, fd, F, He.glo_ok X GN (c.1.fact 33 (f := .glo "_law_right") rfl)⟩
  have D_law : DefAt K mg "law" "law" s_law := by
    obtain ⟨fd, F⟩ := c.1.def_ 34 (d := d_law) rfl
    exact ⟨_, fd, F, He.glo_ok X GN (c.1.fact 34 (f := .glo "law") rfl)⟩
  have gm_WordError : mg "WordError" = some (.ref (He.ga K "WordError")) := He.glo_ok X GN (c.1.fact 35 (f := .glo "WordError") rfl)
  have gm_InvalidPlaces : mg "InvalidPlaces" = some (.ref (He.ga K "InvalidPlaces")) := He.glo_ok X GN (c.1.fact 36 (f := .glo "InvalidPlaces") rfl)
  have gm_InvalidNumbers : mg "InvalidNumbers" = some (.ref (He.ga K "InvalidNumbers")) := He.glo_ok X GN (c.1.fact 37 (f := .glo "InvalidNumbers") rfl)
  have gm_StateError : mg "StateError" = some (.ref (He.ga K "StateError")) := He.glo_ok X GN (c.1.fact 38 (f := .glo "StateError") rfl)
  have gm_NotEights : mg "NotEights" = some (.ref (He.ga K "NotEights")) := He.glo_ok X GN (c.1.fact 39 (f := .glo "NotEights") rfl)
  obtain ⟨fd_InvalidNumbers__init, D_InvalidNumbers__init⟩ := c.1.def_ 35 (d := d_InvalidNumbers__init) rfl
  obtain ⟨fd_InvalidPlaces__init, D_InvalidPlaces__init⟩ := c.1.def_ 36 (d := d_InvalidPlaces__init) rfl
  have z_InvalidPlaces := z1B_ok (ex_Z_InvalidPlaces cx)
  have T0_NotEights : Ex0 K mg "NotEights" (He.ga K "NotEights") := ex0_ok (by decide) (He.glo_ok X GN (c.1.fact 39 (f := .glo "NotEights") rfl)) (ex_T0_NotEights cx)
  have z_InvalidNumbers := z1B_ok (ex_Z_InvalidNumbers cx)
  have XF_InvalidPlaces : XfC K (He.ga K "InvalidPlaces") := xfB_ok (ex_XF_InvalidPlaces cx)
  have NF_InvalidPlaces__value : PySem.W.findIn K (.ref (He.ga K "InvalidPlaces")) "value" = some none := nofB_ok (ex_NF_InvalidPlaces__value cx)
  have KS_InvalidPlaces__WordError : PySem.W.kitCls K (.ref (He.ga K "InvalidPlaces")) (.ref (He.ga K "WordError")) = some true := kitB_ok (ex_KS_InvalidPlaces__WordError cx)
  have XF_InvalidNumbers : XfC K (He.ga K "InvalidNumbers") := xfB_ok (ex_XF_InvalidNumbers cx)
  have NF_InvalidNumbers__value : PySem.W.findIn K (.ref (He.ga K "InvalidNumbers")) "value" = some none := nofB_ok (ex_NF_InvalidNumbers__value cx)
  have KS_InvalidNumbers__WordError : PySem.W.kitCls K (.ref (He.ga K "InvalidNumbers")) (.ref (He.ga K "WordError")) = some true := kitB_ok (ex_KS_InvalidNumbers__WordError cx)
  have KS_NotEights__StateError : PySem.W.kitCls K (.ref (He.ga K "NotEights")) (.ref (He.ga K "StateError")) = some true := kitB_ok (ex_KS_NotEights__StateError cx)
  have XM : ∀ pot, ExmAll ⟨K, (clT K), pot⟩ ["InvalidPlaces", "InvalidNumbers", "NotEights"] := exmAll_ok (ex_XM cx)
  have fr_isinstance := He.free_ok X GN (c.1.fact 40 (f := .free "isinstance") rfl)
  have fr_int := He.free_ok X GN (c.1.fact 41 (f := .free "int") rfl)
  have fr_bool := He.free_ok X GN (c.1.fact 42 (f := .free "bool") rfl)
  have fr_list := He.free_ok X GN (c.1.fact 43 (f := .free "list") rfl)
  have fr_tuple := He.free_ok X GN (c.1.fact 44 (f := .free "tuple") rfl)
  have gc_MOST_PLACES := He.int_ok X GN (c.1.fact 45 (f := .int "MOST_PLACES" 24) rfl)
  have gc_EIGHT := He.int_ok X GN (c.1.fact 46 (f := .int "EIGHT" 8) rfl)
  have fr_all := He.free_ok X GN (c.1.fact 47 (f := .free "all") rfl)
  have fr_len := He.free_ok X GN (c.1.fact 48 (f := .free "len") rfl)
  have fr_enumerate := He.free_ok X GN (c.1.fact 49 (f := .free "enumerate") rfl)
  have fr_range := He.free_ok X GN (c.1.fact 50 (f := .free "range") rfl)
  have fr_zip := He.free_ok X GN (c.1.fact 51 (f := .free "zip") rfl)
  have gt_FIRST : GTup K mg "FIRST" [1, 0, 1] := gtup_of (He.glo_ok X GN (c.1.fact 52 (f := .glo "FIRST") rfl)) (ex_FIRST cx)
  have gt_SECOND : GTup K mg "SECOND" [0, 0, 1, 0, -2, 0, 1, 0, 0] := gtup_of (He.glo_ok X GN (c.1.fact 53 (f := .glo "SECOND") rfl)) (ex_SECOND cx)
  have gt_FOURS_FIRST : GTup K mg "FOURS_FIRST" [1, 0, 0, 0, 14, 0, 0, 0, 1] := gtup_of (He.glo_ok X GN (c.1.fact 54 (f := .glo "FOURS_FIRST") rfl)) (ex_FOURS_FIRST cx)
  have gt_FOURS_SECOND : GTup K mg "FOURS_SECOND" [0, 0, 0, 0, 1, 0, 0, 0, -4, 0, 0, 0, 6, 0, 0, 0, -4, 0, 0, 0, 1, 0, 0, 0, 0] := gtup_of (He.glo_ok X GN (c.1.fact 55 (f := .glo "FOURS_SECOND") rfl)) (ex_FOURS_SECOND cx)
  have gc_THREES := He.int_ok X GN (c.1.fact 56 (f := .int "THREES" 24) rfl)
  have fr_max := He.free_ok X GN (c.1.fact 57 (f := .free "max") rfl)
  have gc_STEP := He.int_ok X GN (c.1.fact 58 (f := .int "STEP" 6) rfl)
  have gt_SQUARE : GTup K mg "SQUARE" [1, 0, 0, 0, -2, 0, 0, 0, 1] := gtup_of (He.glo_ok X GN (c.1.fact 59 (f := .glo "SQUARE") rfl)) (ex_SQUARE cx)
  have fr_any := He.free_ok X GN (c.1.fact 60 (f := .free "any") rfl)
  have fr_min := He.free_ok X GN (c.1.fact 61 (f := .free "min") rfl)
  have fr_sum := He.free_ok X GN (c.1.fact 62 (f := .free "sum") rfl)
  have fr_abs := He.free_ok X GN (c.1.fact 63 (f := .free "abs") rfl)
  have fr_divmod := He.free_ok X GN (c.1.fact 64 (f := .free "divmod") rfl)
  have fr_repr := He.free_ok X GN (c.1.fact 65 (f := .free "repr") rfl)
  obtain ⟨f2, fd, F, hm⟩ := D_law
  have e := hfa.symm.trans hm
  cases e
  have b := FunD.bindsA (ps := ["_law_script"]) F fun _ _ _ _ _ _ us hl => match us, hl with | [_], _ => rfl
  refine ⟨fd, fun s v => b s [v] rfl, fun base _ _ TB => ?_⟩
  have Z_InvalidPlaces : Ex1 P w K mg base 1 "InvalidPlaces" "value" (He.ga K "InvalidPlaces") := ex1_of (qual := "InvalidPlaces.__init__") (st := s_InvalidPlaces__init) (N := ["self", "value"]) (ps := ["self", "value"]) z_InvalidPlaces.1 z_InvalidPlaces.2 (He.glo_ok X GN (c.1.fact 36 (f := .glo "InvalidPlaces") rfl)) D_InvalidPlaces__init sc_InvalidPlaces__init rfl (fun _ _ _ _ _ _ us hl => match us, hl with | [_, _], _ => rfl) (fun cdv B out z H E fI hr => pss_one (ps_ost (pv 0) (pv 1)))
  have Z_InvalidNumbers : Ex1 P w K mg base 1 "InvalidNumbers" "value" (He.ga K "InvalidNumbers") := ex1_of (qual := "InvalidNumbers.__init__") (st := s_InvalidNumbers__init) (N := ["self", "value"]) (ps := ["self", "value"]) z_InvalidNumbers.1 z_InvalidNumbers.2 (He.glo_ok X GN (c.1.fact 37 (f := .glo "InvalidNumbers") rfl)) D_InvalidNumbers__init sc_InvalidNumbers__init rfl (fun _ _ _ _ _ _ us hl => match us, hl with | [_, _], _ => rfl) (fun cdv B out z H E fI hr => pss_one (ps_ost (pv 0) (pv 1)))
  have F_is_integer : Fun P w K mg base 1 "is_integer" s_is_integer ["value"] (SpD K (clT K) Option false 1 P_basics_is_integer) := fun_is_integer D_is_integer fr_isinstance fr_int fr_bool
  have F_is_list : Fun P w K mg base 1 "is_list" s_is_list ["value"] (SpD K (clT K) Option false 1 P_basics_is_list) := fun_is_list D_is_list fr_isinstance fr_list fr_tuple
  have F_want_even_places : Fun P w K mg base 3 "want_even_places" s_want_even_places ["value"] (SpD K (clT K) Option false 1 P_sums_want_even_places) := fun_want_even_places D_want_even_places F_is_integer gc_MOST_PLACES
  have Y_want_even_places : FunX P w K mg base 3 "want_even_places" s_want_even_places ["value"] (SpE K (clT K) Option false 1 P_sums_want_even_places X_sums_want_even_places) := fune_want_even_places D_want_even_places F_is_integer gc_MOST_PLACES Z_InvalidPlaces
  have F_want_eights : Fun P w K mg base 1 "want_eights" s_want_eights ["places"] (SpD K (clT K) Option false 1 P_sums_want_eights) := fun_want_eights D_want_eights gc_EIGHT
  have Y_want_eights : FunX P w K mg base 1 "want_eights" s_want_eights ["places"] (SpE K (clT K) Option false 1 P_sums_want_eights X_sums_want_eights) := fune_want_eights D_want_eights gc_EIGHT T0_NotEights
  have F_are_integers : Fun P w K mg base 2 "are_integers" s_are_integers ["value"] (SpD K (clT K) Option false 1 P_sums_are_integers) := fun_are_integers D_are_integers F_is_list fr_all F_is_integer
  have F_want_row_numbers : Fun P w K mg base 3 "want_row_numbers" s_want_row_numbers ["value"] (SpD K (clT K) Option false 1 P_sums_want_row_numbers) := fun_want_row_numbers D_want_row_numbers F_are_integers fr_len gc_MOST_PLACES
  have Y_want_row_numbers : FunX P w K mg base 3 "want_row_numbers" s_want_row_numbers ["value"] (SpE K (clT K) Option false 1 P_sums_want_row_numbers X_sums_want_row_numbers) := fune_want_row_numbers D_want_row_numbers F_are_integers fr_len gc_MOST_PLACES Z_InvalidNumbers
  have F_want_sum_numbers : Fun P w K mg base 3 "want_sum_numbers" s_want_sum_numbers ["value", "many"] (SpD K (clT K) Option false 2 P_sums_want_sum_numbers) := fun_want_sum_numbers D_want_sum_numbers F_are_integers fr_len
  have Y_want_sum_numbers : FunX P w K mg base 3 "want_sum_numbers" s_want_sum_numbers ["value", "many"] (SpE K (clT K) Option false 2 P_sums_want_sum_numbers X_sums_want_sum_numbers) := fune_want_sum_numbers D_want_sum_numbers F_are_integers fr_len Z_InvalidNumbers
  have F_product_of : Fun P w K mg base 1 "product_of" s_product_of ["one", "other"] (SpD K (clT K) Option true 2 P_sums_product_of) := fun_product_of D_product_of fr_len fr_enumerate
  have F_power_of : Fun P w K mg base 2 "power_of" s_power_of ["poly", "many"] (SpD K (clT K) Option false 2 P_sums_power_of) := fun_power_of D_power_of fr_range F_product_of
  have F_products_by : Fun P w K mg base 3 "products_by" s_products_by ["places", "first", "second"] (SpD K (clT K) Option true 3 P_sums_products_by) := fun_products_by D_products_by fr_range fr_len F_product_of F_power_of
  have F_added : Fun P w K mg base 4 "added" s_added ["places", "numbers", "first", "second"] (SpD K (clT K) Option false 4 P_sums_added) := fun_added D_added fr_zip F_products_by
  have F_solved : Fun P w K mg base 4 "solved" s_solved ["numbers", "first", "second"] (SpD K (clT K) Option false 3 P_sums_solved) := fun_solved D_solved fr_list F_products_by fr_len fr_range fr_zip
  have F_sums : Fun P w K mg base 5 "sums" s_sums ["numbers"] (SpD K (clT K) Option false 1 P_sums_sums) := fun_sums D_sums F_want_row_numbers F_solved gt_FIRST gt_SECOND
  have Y_sums : FunX P w K mg base 5 "sums" s_sums ["numbers"] (SpE K (clT K) Option false 1 P_sums_sums X_sums_sums) := fune_sums D_sums F_want_row_numbers F_solved gt_FIRST gt_SECOND Y_want_row_numbers
  have F_row_of : Fun P w K mg base 5 "row_of" s_row_of ["places", "numbers"] (SpD K (clT K) Option false 2 P_sums_row_of) := fun_row_of D_row_of F_want_even_places F_want_sum_numbers gc_EIGHT F_added gt_FIRST gt_SECOND
  have Y_row_of : FunX P w K mg base 5 "row_of" s_row_of ["places", "numbers"] (SpE K (clT K) Option false 2 P_sums_row_of X_sums_row_of) := fune_row_of D_row_of F_want_even_places F_want_sum_numbers gc_EIGHT F_added gt_FIRST gt_SECOND Y_want_even_places Y_want_sum_numbers
  have F_fours_sums : Fun P w K mg base 5 "fours_sums" s_fours_sums ["numbers"] (SpD K (clT K) Option false 1 P_sums_fours) := fun_fours_sums D_fours_sums F_want_eights F_want_row_numbers F_solved gt_FOURS_FIRST gt_FOURS_SECOND
  have Y_fours_sums : FunX P w K mg base 5 "fours_sums" s_fours_sums ["numbers"] (SpE K (clT K) Option false 1 P_sums_fours X_sums_fours) := fune_fours_sums D_fours_sums F_want_eights F_want_row_numbers F_solved gt_FOURS_FIRST gt_FOURS_SECOND Y_want_eights Y_want_row_numbers
  have F_fours_row_of : Fun P w K mg base 5 "fours_row_of" s_fours_row_of ["places", "numbers"] (SpD K (clT K) Option false 2 P_sums_fours_row_of) := fun_fours_row_of D_fours_row_of F_want_even_places F_want_sum_numbers gc_THREES F_want_eights F_added gt_FOURS_FIRST gt_FOURS_SECOND
  have Y_fours_row_of : FunX P w K mg base 5 "fours_row_of" s_fours_row_of ["places", "numbers"] (SpE K (clT K) Option false 2 P_sums_fours_row_of X_sums_fours_row_of) := fune_fours_row_of D_fours_row_of F_want_even_places F_want_sum_numbers gc_THREES F_want_eights F_added gt_FOURS_FIRST gt_FOURS_SECOND Y_want_even_places Y_want_sum_numbers Y_want_eights
  have F_twos : Fun P w K mg base 1 "twos" s_twos ["many"] (SpD K (clT K) Option false 1 P_limits_twos) := fun_twos D_twos fr_range
  have F_shadow_by : Fun P w K mg base 3 "shadow_by" s_shadow_by ["places", "numbers"] (SpD K (clT K) Option false 2 P_limits_shadow_by) := fun_shadow_by D_shadow_by gc_EIGHT fr_max gc_STEP F_twos fr_enumerate F_power_of gt_SQUARE fr_any
  have F_shadow_of : Fun P w K mg base 4 "shadow_of" s_shadow_of ["places", "numbers"] (SpD K (clT K) Option false 2 P_limits_shadow_of) := fun_shadow_of D_shadow_of F_want_even_places F_want_sum_numbers gc_EIGHT F_shadow_by
  have Y_shadow_of : FunX P w K mg base 4 "shadow_of" s_shadow_of ["places", "numbers"] (SpE K (clT K) Option false 2 P_limits_shadow_of X_limits_shadow_of) := fune_shadow_of D_shadow_of F_want_even_places F_want_sum_numbers gc_EIGHT F_shadow_by Y_want_even_places Y_want_sum_numbers
  have F_limit : Fun P w K mg base 4 "limit" s_limit ["places"] (SpD K (clT K) Option false 1 P_limits_limit) := fun_limit D_limit F_want_even_places gc_EIGHT
  have Y_limit : FunX P w K mg base 4 "limit" s_limit ["places"] (SpE K (clT K) Option false 1 P_limits_limit X_limits_limit) := fune_limit D_limit F_want_even_places gc_EIGHT Y_want_even_places
  have F_fours_limit : Fun P w K mg base 4 "fours_limit" s_fours_limit ["places"] (SpD K (clT K) Option false 1 P_limits_fours_limit) := fun_fours_limit D_fours_limit F_want_even_places F_want_eights gc_THREES
  have Y_fours_limit : FunX P w K mg base 4 "fours_limit" s_fours_limit ["places"] (SpE K (clT K) Option false 1 P_limits_fours_limit X_limits_fours_limit) := fune_fours_limit D_fours_limit F_want_even_places F_want_eights gc_THREES Y_want_even_places Y_want_eights
  have F_greatest_by : Fun P w K mg base 4 "greatest_by" s_greatest_by ["places", "first", "second"] (SpD K (clT K) Option true 3 P_limits_greatest_by) := fun_greatest_by D_greatest_by F_products_by fr_range fr_len fr_zip
  have F_greatest : Fun P w K mg base 5 "greatest" s_greatest ["places"] (SpD K (clT K) Option true 1 P_limits_greatest) := fun_greatest D_greatest F_want_even_places F_greatest_by gt_FIRST gt_SECOND
  have Y_greatest : FunX P w K mg base 5 "greatest" s_greatest ["places"] (SpE K (clT K) Option true 1 P_limits_greatest X_limits_greatest) := fune_greatest D_greatest F_want_even_places F_greatest_by gt_FIRST gt_SECOND Y_want_even_places
  have F_fours_greatest : Fun P w K mg base 5 "fours_greatest" s_fours_greatest ["places"] (SpD K (clT K) Option true 1 P_limits_fours_greatest) := fun_fours_greatest D_fours_greatest F_want_even_places F_want_eights F_greatest_by gt_FOURS_FIRST gt_FOURS_SECOND
  have Y_fours_greatest : FunX P w K mg base 5 "fours_greatest" s_fours_greatest ["places"] (SpE K (clT K) Option true 1 P_limits_fours_greatest X_limits_fours_greatest) := fune_fours_greatest D_fours_greatest F_want_even_places F_want_eights F_greatest_by gt_FOURS_FIRST gt_FOURS_SECOND Y_want_even_places Y_want_eights
  have F_can_be : Fun P w K mg base 5 "can_be" s_can_be ["numbers"] (SpD K (clT K) Option false 1 P_limits_can_be) := fun_can_be D_can_be F_want_row_numbers F_solved gt_FIRST gt_SECOND fr_min F_shadow_by
  have Y_can_be : FunX P w K mg base 5 "can_be" s_can_be ["numbers"] (SpE K (clT K) Option false 1 P_limits_can_be X_limits_can_be) := fune_can_be D_can_be F_want_row_numbers F_solved gt_FIRST gt_SECOND fr_min F_shadow_by Y_want_row_numbers
  have F__law_pot : Fun P w K mg base 1 "_law_pot" s__law_pot ["_law_script", "_law_k"] (SpD K (clT K) Option true 2 L_pot_v62) := fun__law_pot D__law_pot fr_sum fr_len fr_abs fr_max
  have F__law_draw : Fun P w K mg base 1 "_law_draw" s__law_draw ["_law_pot_here", "_law_many"] (SpD K (clT K) G false 2 S_draw) := fun__law_draw D__law_draw fr_divmod
  have F__law_heard : Fun P w K mg base 7 "_law_heard" s__law_heard ["_law_call"] (SpF P w K mg base (clT K) 6 Option true 1 L_heard) := fun__law_heard D__law_heard XF_InvalidPlaces NF_InvalidPlaces__value fr_repr fr_isinstance gm_WordError KS_InvalidPlaces__WordError gm_InvalidPlaces XF_InvalidNumbers NF_InvalidNumbers__value KS_InvalidNumbers__WordError gm_InvalidNumbers gm_StateError KS_NotEights__StateError gm_NotEights XM
  have F__law_are : Fun P w K mg base 8 "_law_are" s__law_are ["_law_calls", "_law_due"] (SpF P w K mg base (clT K) 6 Option false 2 L_are) := fun__law_are D__law_are F__law_heard
  have LM__law_places_right_0 : LamOk P w K mg base (clT K) 5 lam__law_places_right_0.L lam__law_places_right_0.oc := lm__law_places_right_0 Y_row_of
  have LM__law_places_right_1 : LamOk P w K mg base (clT K) 5 lam__law_places_right_1.L lam__law_places_right_1.oc := lm__law_places_right_1 Y_row_of
  have LM__law_places_right_2 : LamOk P w K mg base (clT K) 5 lam__law_places_right_2.L lam__law_places_right_2.oc := lm__law_places_right_2 Y_fours_row_of
  have LM__law_places_right_3 : LamOk P w K mg base (clT K) 5 lam__law_places_right_3.L lam__law_places_right_3.oc := lm__law_places_right_3 Y_fours_row_of
  have LM__law_places_right_4 : LamOk P w K mg base (clT K) 5 lam__law_places_right_4.L lam__law_places_right_4.oc := lm__law_places_right_4 Y_shadow_of
  have LM__law_places_right_5 : LamOk P w K mg base (clT K) 5 lam__law_places_right_5.L lam__law_places_right_5.oc := lm__law_places_right_5 Y_shadow_of
  have LM__law_places_right_6 : LamOk P w K mg base (clT K) 5 lam__law_places_right_6.L lam__law_places_right_6.oc := lm__law_places_right_6 Y_limit
  have LM__law_places_right_7 : LamOk P w K mg base (clT K) 5 lam__law_places_right_7.L lam__law_places_right_7.oc := lm__law_places_right_7 Y_fours_limit
  have LM__law_places_right_8 : LamOk P w K mg base (clT K) 5 lam__law_places_right_8.L lam__law_places_right_8.oc := lm__law_places_right_8 Y_greatest
  have LM__law_places_right_9 : LamOk P w K mg base (clT K) 5 lam__law_places_right_9.L lam__law_places_right_9.oc := lm__law_places_right_9 Y_fours_greatest
  have F__law_places_right : Fun P w K mg base 9 "_law_places_right" s__law_places_right ["_law_odd"] (SpD K (clT K) Option false 1 L_places_right) := by
    obtain ⟨f2, fd2, F2, hm2⟩ := D__law_places_right
    have e : f2 = He.ga K "_law_places_right" := by
      have q := hm2.symm.trans (He.glo_ok X GN (c.1.fact 29 (f := .glo "_law_places_right") rfl))
      cases q
      rfl
    exact ⟨_, f2, fd2, F2, g__law_places_right F2 (code_of F2 e (TT.code _ (by decide))) (tabx_of (nm := nm) TT TB (by decide)) LM__law_places_right_0 LM__law_places_right_1 LM__law_places_right_2 LM__law_places_right_3 LM__law_places_right_4 LM__law_places_right_5 LM__law_places_right_6 LM__law_places_right_7 LM__law_places_right_8 LM__law_places_right_9 fr_repr F__law_are, hm2⟩
  have LM__law_lists_right_0 : LamOk P w K mg base (clT K) 5 lam__law_lists_right_0.L lam__law_lists_right_0.oc := lm__law_lists_right_0 Y_sums
  have LM__law_lists_right_1 : LamOk P w K mg base (clT K) 5 lam__law_lists_right_1.L lam__law_lists_right_1.oc := lm__law_lists_right_1 Y_sums
  have LM__law_lists_right_2 : LamOk P w K mg base (clT K) 5 lam__law_lists_right_2.L lam__law_lists_right_2.oc := lm__law_lists_right_2 Y_fours_sums
  have LM__law_lists_right_3 : LamOk P w K mg base (clT K) 5 lam__law_lists_right_3.L lam__law_lists_right_3.oc := lm__law_lists_right_3 Y_can_be
  have LM__law_lists_right_4 : LamOk P w K mg base (clT K) 5 lam__law_lists_right_4.L lam__law_lists_right_4.oc := lm__law_lists_right_4 Y_can_be
  have F__law_lists_right : Fun P w K mg base 9 "_law_lists_right" s__law_lists_right ["_law_odd"] (SpD K (clT K) Option false 1 L_lists_right_v3) := by
    obtain ⟨f2, fd2, F2, hm2⟩ := D__law_lists_right
    have e : f2 = He.ga K "_law_lists_right" := by
      have q := hm2.symm.trans (He.glo_ok X GN (c.1.fact 30 (f := .glo "_law_lists_right") rfl))
      cases q
      rfl
    exact ⟨_, f2, fd2, F2, g__law_lists_right F2 (code_of F2 e (TT.code _ (by decide))) (tabx_of (nm := nm) TT TB (by decide)) LM__law_lists_right_0 LM__law_lists_right_1 LM__law_lists_right_2 LM__law_lists_right_3 LM__law_lists_right_4 fr_repr F__law_are, hm2⟩
  have LM__law_numbers_right_0 : LamOk P w K mg base (clT K) 5 lam__law_numbers_right_0.L lam__law_numbers_right_0.oc := lm__law_numbers_right_0 Y_row_of
  have LM__law_numbers_right_1 : LamOk P w K mg base (clT K) 5 lam__law_numbers_right_1.L lam__law_numbers_right_1.oc := lm__law_numbers_right_1 Y_row_of
  have LM__law_numbers_right_2 : LamOk P w K mg base (clT K) 5 lam__law_numbers_right_2.L lam__law_numbers_right_2.oc := lm__law_numbers_right_2 Y_shadow_of
  have F__law_numbers_right : Fun P w K mg base 9 "_law_numbers_right" s__law_numbers_right ["_law_places", "_law_odd"] (SpD K (clT K) Option false 2 L_numbers_right_v2) := by
    obtain ⟨f2, fd2, F2, hm2⟩ := D__law_numbers_right
    have e : f2 = He.ga K "_law_numbers_right" := by
      have q := hm2.symm.trans (He.glo_ok X GN (c.1.fact 31 (f := .glo "_law_numbers_right") rfl))
      cases q
      rfl
    exact ⟨_, f2, fd2, F2, g__law_numbers_right F2 (code_of F2 e (TT.code _ (by decide))) (tabx_of (nm := nm) TT TB (by decide)) LM__law_numbers_right_0 LM__law_numbers_right_1 LM__law_numbers_right_2 fr_repr F__law_are, hm2⟩
  have LM__law_eights_right_0 : LamOk P w K mg base (clT K) 5 lam__law_eights_right_0.L lam__law_eights_right_0.oc := lm__law_eights_right_0 Y_fours_sums
  have LM__law_eights_right_1 : LamOk P w K mg base (clT K) 5 lam__law_eights_right_1.L lam__law_eights_right_1.oc := lm__law_eights_right_1 Y_fours_row_of
  have LM__law_eights_right_2 : LamOk P w K mg base (clT K) 5 lam__law_eights_right_2.L lam__law_eights_right_2.oc := lm__law_eights_right_2 Y_fours_limit
  have LM__law_eights_right_3 : LamOk P w K mg base (clT K) 5 lam__law_eights_right_3.L lam__law_eights_right_3.oc := lm__law_eights_right_3 Y_fours_limit
  have LM__law_eights_right_4 : LamOk P w K mg base (clT K) 5 lam__law_eights_right_4.L lam__law_eights_right_4.oc := lm__law_eights_right_4 Y_fours_greatest
  have F__law_eights_right : Fun P w K mg base 9 "_law_eights_right" s__law_eights_right ["_law_many"] (SpD K (clT K) Option false 1 L_eights_right) := by
    obtain ⟨f2, fd2, F2, hm2⟩ := D__law_eights_right
    have e : f2 = He.ga K "_law_eights_right" := by
      have q := hm2.symm.trans (He.glo_ok X GN (c.1.fact 32 (f := .glo "_law_eights_right") rfl))
      cases q
      rfl
    exact ⟨_, f2, fd2, F2, g__law_eights_right F2 (code_of F2 e (TT.code _ (by decide))) (tabx_of (nm := nm) TT TB (by decide)) LM__law_eights_right_0 LM__law_eights_right_1 LM__law_eights_right_2 LM__law_eights_right_3 LM__law_eights_right_4 F__law_are, hm2⟩
  have LM__law_right_0 : LamOk P w K mg base (clT K) 5 lam__law_right_0.L lam__law_right_0.oc := lm__law_right_0 Y_fours_row_of
  have LM__law_right_1 : LamOk P w K mg base (clT K) 5 lam__law_right_1.L lam__law_right_1.oc := lm__law_right_1 Y_fours_row_of
  have LM__law_right_2 : LamOk P w K mg base (clT K) 5 lam__law_right_2.L lam__law_right_2.oc := lm__law_right_2 Y_sums
  have LM__law_right_3 : LamOk P w K mg base (clT K) 5 lam__law_right_3.L lam__law_right_3.oc := lm__law_right_3 Y_fours_sums
  have LM__law_right_4 : LamOk P w K mg base (clT K) 5 lam__law_right_4.L lam__law_right_4.oc := lm__law_right_4 Y_row_of
  have LM__law_right_5 : LamOk P w K mg base (clT K) 5 lam__law_right_5.L lam__law_right_5.oc := lm__law_right_5 Y_fours_limit
  have LM__law_right_6 : LamOk P w K mg base (clT K) 5 lam__law_right_6.L lam__law_right_6.oc := lm__law_right_6 Y_can_be
  have F__law_right : Fun P w K mg base 10 "_law_right" s__law_right ["_law_pot_here"] (SpD K (clT K) G false 1 L_right_v76) := by
    obtain ⟨f2, fd2, F2, hm2⟩ := D__law_right
    have e : f2 = He.ga K "_law_right" := by
      have q := hm2.symm.trans (He.glo_ok X GN (c.1.fact 33 (f := .glo "_law_right") rfl))
      cases q
      rfl
    exact ⟨_, f2, fd2, F2, g__law_right F2 (code_of F2 e (TT.code _ (by decide))) (tabx_of (nm := nm) TT TB (by decide)) F__law_places_right F__law_draw F__law_lists_right F__law_numbers_right LM__law_right_0 LM__law_right_1 fr_repr F__law_are F__law_eights_right LM__law_right_2 LM__law_right_3 LM__law_right_4 LM__law_right_5 LM__law_right_6, hm2⟩
  exact g_law F F__law_pot F__law_right
end Wk60
open PySem PySem.W PySem.Calls PyProof.Rows
theorem Wk60.holds (good : ∀ ns : List Int, ns.length ≤ 63 → Pw.Md.wp (Pw.L_law_v76 [.scr ns]) fun d => d = .bl true) : PySem.Challenge.rw_owncontraries_k60_sums_refused.Holds := by
  w_on; o_law
  refine HandSHeadRun.head_any (r := OpenLaw.row PySem.Challenge.rw_owncontraries_k60_sums_refused) (q := view (OpenLaw.row PySem.Challenge.rw_owncontraries_k60_sums_refused).prog [53]) (H := Wk60.hk) (ob := Wk60.ob) (M := 20000) (loose := Wk60.loose) (d := HandSHeadRun.topDef (OpenLaw.row PySem.Challenge.rw_owncontraries_k60_sums_refused).prog 53) (kwd := []) Wk60.ob_eq
    (by kernel_rfl) (fun s => by kernel_rfl) Wk60.run (by kernel_rfl) (by kernel_rfl) (by kernel_rfl) (by rfl) (by first | assumption | decide +kernel) (by decide +kernel) ⟨rfl, rfl, rfl, rfl, rfl, by decide +kernel⟩ ?hw ?hc
  case hw => w_witness2
  case hc =>
    refine Pw.walk_endT (xs := Wk60.xs) (nm := Wk60.nm) (l := PySem.Challenge.rw_owncontraries_k60_sums_refused) (k := 11) (x := "_law_script") rfl (by kernel_rfl) ⟨rfl, by decide, by decide⟩ ?F good
    intro w mg fa h Y G hmg0
    obtain ⟨K, KX, c⟩ := Y
    have cx := c.1.ex_
    have hmg : mg ("law" : PySem.Str) = some (.ref fa) := by
      have e : (HandSHeadRun.topDef (OpenLaw.row PySem.Challenge.rw_owncontraries_k60_sums_refused).prog 53).name = ("law" : PySem.Str) := by kernel_rfl
      rw [← e]
      exact hmg0
    obtain ⟨fd, hb, hF⟩ := Wk60.facts (P := (PySem.Challenge.rw_owncontraries_k60_sums_refused).prog) (w := w) KX G hmg c.1 cx c.2
    exact ⟨K, fd, He.ga K, KX, c.2, hb, hF⟩
end
set_option linter.all false
set_option maxRecDepth 100000
/-! Q0: evaluation of what defs compute (rules for simp). -/
namespace Pw
open PySem PySem.Spec PyProof.Rows L2
section
variable {α β γ : Type}
@[simp] theorem o_bind_some (a : α) (f : α → Option β) : Md.bind (some a) f = f a := rfl
@[simp] theorem o_bind_none (f : α → Option β) : Md.bind (none : Option α) f = none := rfl
@[simp] theorem o_ret (a : α) : (Md.ret a : Option α) = some a := rfl
@[simp] theorem o_lift (a : Option α) : (Md.lift a : Option α) = a := rfl
@[simp] theorem o_wp (a : Option α) (Q : α → Prop) : Md.wp a Q = ∃ x, a = some x ∧ Q x := rfl
@[simp] theorem g_bind (x : G α) (f : α → G β) (Q : β → Prop) : Md.wp (Md.bind x f) Q = Md.wp x fun a => Md.wp (f a) Q := rfl
@[simp] theorem g_ret (a : α) (Q : α → Prop) : Md.wp (Md.ret a : G α) Q = Q a := rfl
@[simp] theorem g_lift_some (a : α) (Q : α → Prop) : Md.wp (Md.lift (some a) : G α) Q = Q a := by
  show (∃ b, some a = some b ∧ Q b) = Q a
  simp
@[simp] theorem up_oo (x : Option α) : (Up.up x : Option α) = x := rfl
@[simp] theorem up_og (x : Option α) : (Up.up x : G α) = Md.lift x := rfl
@[simp] theorem up_gg (x : G α) : (Up.up x : G α) = x := rfl
@[simp] theorem g_bind_lift (a : α) (f : α → G β) : Md.bind (Md.lift (some a) : G α) f = f a := by
  show G.mk _ _ = f a
  cases h : f a with
  | mk r m =>
    congr 1
    funext Q
    show (∃ b, some a = some b ∧ (f b).run Q) = r Q
    simp [h]
@[simp] theorem g_bind_ret (a : α) (f : α → G β) : Md.bind (Md.ret a : G α) f = f a := rfl
@[simp] theorem g_bind_assoc (x : G α) (f : α → G β) (g : β → G γ) : Md.bind (Md.bind x f) g = Md.bind x fun a => Md.bind (f a) g := rfl
end
section
variable {m : Type → Type} [Md m] (ρ : Env)
@[simp] theorem ev_pVar (i : Nat) : (pVar i ρ : m D) = Md.lift (gG ρ i) := rfl
@[simp] theorem ev_pC (d : D) : (pC d ρ : m D) = Md.ret d := rfl
@[simp] theorem ev_p1 {α : Type} (g : D → Option α) (f : Env → m D) : p1 g f ρ = Md.bind (f ρ) fun x => Md.lift (g x) := rfl
@[simp] theorem ev_p2 {α : Type} (g : D → D → Option α) (f h : Env → m D) : p2 g f h ρ = Md.bind (f ρ) fun x => Md.bind (h ρ) fun y => Md.lift (g x y) := rfl
@[simp] theorem ev_pA {α : Type} (g : List D → Option α) (f : Env → m (List D)) : pA g f ρ = Md.bind (f ρ) fun xs => Md.lift (g xs) := rfl
@[simp] theorem ev_aNil : (aNil ρ : m (List D)) = Md.ret [] := rfl
@[simp] theorem ev_aCons (f : Env → m D) (g : Env → m (List D)) : aCons f g ρ = Md.bind (f ρ) fun x => Md.bind (g ρ) fun xs => Md.ret (x :: xs) := rfl
@[simp] theorem ev_aConsL (f g : Env → m (List D)) : aConsL f g ρ = Md.bind (f ρ) fun x => Md.bind (g ρ) fun xs => Md.ret (.lst x :: xs) := rfl
@[simp] theorem ev_pLst (f : Env → m (List D)) : pLst f ρ = Md.bind (f ρ) fun ds => Md.lift (okL ds) := rfl
@[simp] theorem ev_pOf (f : Env → m (List D)) : pOf f ρ = Md.bind (f ρ) fun ds => Md.ret (.lst ds) := rfl
@[simp] theorem ev_pTup (f : Env → m (List D)) : pTup f ρ = Md.bind (f ρ) fun ds => Md.lift (okT ds) := rfl
@[simp] theorem ev_pNoL (f : Env → m D) : pNoL f ρ = Md.bind (f ρ) fun d => Md.lift (match d.noL with
  | true => some d
  | false => none) := rfl
@[simp] theorem ev_bNot (f : Env → m Bool) : bNot f ρ = Md.bind (f ρ) fun c => Md.ret (!c) := rfl
@[simp] theorem ev_bAnd (f g : Env → m Bool) : bAnd f g ρ = Md.bind (f ρ) fun c => match c with
  | true => g ρ
  | false => Md.ret false := rfl
@[simp] theorem ev_bOr (f g : Env → m Bool) : bOr f g ρ = Md.bind (f ρ) fun c => match c with
  | true => Md.ret true
  | false => g ρ := rfl
@[simp] theorem ev_pIf (c : Env → m Bool) (f g : Env → m D) : pIf c f g ρ = Md.bind (c ρ) fun c => match c with
  | true => f ρ
  | false => g ρ := rfl
@[simp] theorem ev_pAndV (f g : Env → m D) : pAndV f g ρ = Md.bind (f ρ) fun x => Md.bind (Md.lift (dBl x)) fun c => match c with
  | true => g ρ
  | false => Md.ret (.bl false) := rfl
@[simp] theorem ev_pOrV (f g : Env → m D) : pOrV f g ρ = Md.bind (f ρ) fun x => Md.bind (Md.lift (dBl x)) fun c => match c with
  | true => Md.ret (.bl true)
  | false => g ρ := rfl
@[simp] theorem ev_p3c (g h : D → D → Option D) (a b c : Env → m D) : p3c g h a b c ρ = Md.bind (a ρ) fun x => Md.bind (b ρ) fun y => Md.bind (Md.lift (g x y)) fun z => Md.bind (Md.lift (dBl z)) fun k => match k with
  | true => Md.bind (c ρ) fun u => Md.lift (h y u)
  | false => Md.ret (.bl false) := rfl
@[simp] theorem ev_pSl {α : Type} (g : D → Option Int → Option Int → Option α) (f : Env → m D) (l h : Env → m (Option Int)) : pSl g f l h ρ = Md.bind (f ρ) fun x => Md.bind (l ρ) fun lo => Md.bind (h ρ) fun hi => Md.lift (g x lo hi) := rfl
@[simp] theorem ev_sNext : (sNext ρ : m Rs) = Md.ret (.nx ρ) := rfl
@[simp] theorem ev_sNone : (sNone ρ : m Rs) = Md.lift none := rfl
@[simp] theorem ev_sSeq (f g : Env → m Rs) : sSeq f g ρ = Md.bind (f ρ) fun r => match r with
  | .nx ρ' => g ρ'
  | r => Md.ret r := rfl
@[simp] theorem ev_sDrop (f : Env → m D) : sDrop f ρ = Md.bind (f ρ) fun _ => Md.ret (.nx ρ) := rfl
@[simp] theorem ev_sIf (c : Env → m Bool) (f g : Env → m Rs) : sIf c f g ρ = Md.bind (c ρ) fun c => match c with
  | true => f ρ
  | false => g ρ := rfl
@[simp] theorem ev_sRet (f : Env → m D) : sRet f ρ = Md.bind (f ρ) fun d => Md.ret (.rt d) := rfl
@[simp] theorem ev_sRetL (f : Env → m (List D)) : sRetL f ρ = Md.bind (f ρ) fun ds => Md.ret (.rt (.lst ds)) := rfl
@[simp] theorem ev_sRetN : (sRetN ρ : m Rs) = Md.ret (.rt .non) := rfl
@[simp] theorem ev_sBk : (sBk ρ : m Rs) = Md.ret (.bk ρ) := rfl
@[simp] theorem ev_sCt : (sCt ρ : m Rs) = Md.ret (.ct ρ) := rfl
@[simp] theorem ev_sSet (i : Nat) (f : Env → m D) : sSet i f ρ = Md.bind (f ρ) fun d => Md.ret (.nx (ρ.set i (some d))) := rfl
@[simp] theorem ev_sSetL (i : Nat) (f : Env → m (List D)) : sSetL i f ρ = Md.bind (f ρ) fun ds => Md.ret (.nx (ρ.set i (some (.lst ds)))) := rfl
@[simp] theorem ev_sMany (is : List Nat) (f : Env → m (List D)) : sMany is f ρ = Md.bind (f ρ) fun ds => Md.ret (.nx (setMany ρ is ds)) := rfl
@[simp] theorem ev_sUn (is : List Nat) (f : Env → m D) : sUn is f ρ = Md.bind (f ρ) fun d => Md.bind (Md.lift (dUn is.length d)) fun ds => Md.ret (.nx (setMany ρ is ds)) := rfl
@[simp] theorem ev_sApp (i : Nat) (f : Env → m D) : sApp i f ρ = Md.bind (Md.lift (gLs ρ i)) fun ds => Md.bind (f ρ) fun d => Md.bind (Md.lift (okL (ds ++ [d]))) fun es => Md.ret (.nx (ρ.set i (some (.lst es)))) := rfl
@[simp] theorem ev_sAppPop (i j : Nat) (f : Env → m D) : sAppPop i j f ρ = Md.bind (Md.lift (gLs ρ i)) fun ds => Md.bind (Md.lift (gLs ρ j)) fun es => Md.bind (f ρ) fun x => Md.bind (Md.lift (okL es)) fun _ => Md.bind (Md.lift (popAt es x)) fun de => Md.bind (Md.lift (okL (ds ++ [de.1]))) fun ds2 => Md.ret (.nx ((ρ.set j (some (.lst de.2))).set i (some (.lst ds2)))) := rfl
@[simp] theorem ev_sFor (fi : Env → m (List D)) (tg : Env → D → Option Env) (fb : Env → m Rs) : sFor fi tg fb ρ = Md.bind (fi ρ) fun xs => loopF tg fb xs ρ := rfl
@[simp] theorem ev_sWhile (n : Env → Nat) (t : Env → m Bool) (fb : Env → m Rs) : sWhile n t fb ρ = loopW t fb (n ρ) ρ := rfl
@[simp] theorem ev_pLc (fi : Env → m (List D)) (tg : Env → D → Option Env) (t : Env → m Bool) (e : Env → m D) (vs : List Nat) : pLc fi tg t e vs ρ = Md.bind (fi ρ) fun xs => Md.bind (Md.lift (okL xs)) fun _ => lcF tg t e (wipeD ρ vs) xs := rfl
@[simp] theorem ev_tgName (i : Nat) (d : D) : tgName i ρ d = some (ρ.set i (some d)) := rfl
@[simp] theorem ev_tgTup (is : List Nat) (d : D) : tgTup is ρ d = (dUn is.length d).map fun ds => setMany ρ is ds := rfl
variable {n : Type → Type} [Md n] [Up n m]
@[simp] theorem ev_pGo (s : List D → n D) (f : Env → m (List D)) : pGo s f ρ = Md.bind (f ρ) fun ds => Up.up (s ds) := rfl
@[simp] theorem ev_pGoL (s : List D → n D) (f : Env → m (List D)) : pGoL s f ρ = Md.bind (f ρ) fun ds => Md.bind (Up.up (s ds)) fun d => Md.lift (dList d) := rfl
@[simp] theorem ev_pGoW (s : List D → n D) (f : Env → m (List D)) : pGoW s f ρ = Md.bind (f ρ) fun ds => Md.bind (Up.up (s ds)) fun d => Md.lift (dFlat d) := rfl
@[simp] theorem ev_pGoWL (s : List D → n D) (f : Env → m (List D)) : pGoWL s f ρ = Md.bind (f ρ) fun ds => Md.bind (Up.up (s ds)) fun d => Md.lift (dFlatL d) := rfl
@[simp] theorem ev_pGoPot (s : List D → n D) (f : Env → m (List D)) : pGoPot s f ρ = Md.bind (f ρ) fun ds => Md.bind (Md.lift (isPot ds)) fun _ => Md.bind (Up.up (s [.pot])) fun d => Md.bind (Md.lift (dBl d)) fun c => Md.ret (.bl c) := rfl
@[simp] theorem ev_aBoth (π : List Nat) (f g : Env → m (List D)) : aBoth π f g ρ = Md.bind (f ρ) fun ds => Md.bind (g ρ) fun es => Md.ret (pick π (ds ++ es)) := rfl
@[simp] theorem ev_aKws (π : List Nat) (g : Env → m (List D)) : aKws π g ρ = Md.bind (g ρ) fun es => Md.ret (pick π es) := rfl
end
theorem ev_runD {m : Type → Type} [Md m] (κ : Bool) (n : Nat) (f : Env → m Rs) (ds : List D) : runD κ n f ds = Md.bind (f (startD n ds)) fun r => match r with
  | .rt d => Md.ret d
  | .nx _ => match κ with
    | true => Md.lift none
    | false => Md.ret .non
  | _ => Md.lift none := rfl
/-! env -/
@[simp] theorem gG_nil (i : Nat) : gG [] i = none := by simp [gG]
@[simp] theorem gG_zero (a : D) (l : Env) : gG (some a :: l) 0 = some a := rfl
@[simp] theorem gG_succ (a : Option D) (l : Env) (i : Nat) : gG (a :: l) (i + 1) = gG l i := rfl
@[simp] theorem gLs_zero (a : List D) (l : Env) : gLs (some (.lst a) :: l) 0 = some a := rfl
@[simp] theorem gLs_succ (a : Option D) (l : Env) (i : Nat) : gLs (a :: l) (i + 1) = gLs l i := rfl
@[simp] theorem setMany_nil {α : Type} (l : List (Option α)) (xs : List α) : setMany l [] xs = l := by unfold setMany; rfl
@[simp] theorem setMany_cons {α : Type} (l : List (Option α)) (i : Nat) (is : List Nat) (x : α) (xs : List α) : setMany l (i :: is) (x :: xs) = setMany (l.set i (some x)) is xs := by rw [setMany]
@[simp] theorem startD_def (n : Nat) (ds : List D) : startD n ds = ds.map some ++ List.replicate (n - ds.length) none := rfl
@[simp] theorem wipeD_nil (ρ : Env) : wipeD ρ [] = ρ := rfl
@[simp] theorem wipeD_cons (ρ : Env) (v : Nat) (vs : List Nat) : wipeD ρ (v :: vs) = (wipeD ρ vs).set v none := rfl
@[simp] theorem pick_nil {α : Type} (l : List α) : pick [] l = [] := rfl
@[simp] theorem pick_cons {α : Type} (i : Nat) (π : List Nat) (l : List α) : pick (i :: π) l = (l[i]?).toList ++ pick π l := by
  unfold pick
  rw [List.filterMap_cons]
  cases l[i]? <;> rfl
/-! ints -/
/-- a natural number as a datum -/
def dN (n : Nat) : D := .int (n : Int)
@[simp] theorem dBl_bl (b : Bool) : dBl (.bl b) = some b := rfl
@[simp] theorem dNot_bl (b : Bool) : dNot (.bl b) = some (.bl (!b)) := rfl
@[simp] theorem dAdd_int (i j : Int) : dAdd (.int i) (.int j) = some (.int (i + j)) := rfl
@[simp] theorem dSub_int (i j : Int) : dSub (.int i) (.int j) = some (.int (i - j)) := rfl
@[simp] theorem dMul_int (i j : Int) : dMul (.int i) (.int j) = (gMul i j).map .int := rfl
@[simp] theorem dI2_int (g : Int → Int → Option Int) (i j : Int) : dI2 g (.int i) (.int j) = (g i j).map .int := rfl
@[simp] theorem dNeg_int (i : Int) : dNeg (.int i) = some (.int (-i)) := rfl
@[simp] theorem dLt_int (i j : Int) : dLt (.int i) (.int j) = some (.bl (decide (i < j))) := rfl
@[simp] theorem dLe_int (i j : Int) : dLe (.int i) (.int j) = some (.bl (decide (i ≤ j))) := rfl
@[simp] theorem dGt_int (i j : Int) : dGt (.int i) (.int j) = some (.bl (decide (j < i))) := rfl
@[simp] theorem dGe_int (i j : Int) : dGe (.int i) (.int j) = some (.bl (decide (j ≤ i))) := rfl
@[simp] theorem dEq_int (i j : Int) : dEq (.int i) (.int j) = some (.bl (decide (i = j))) := rfl
@[simp] theorem dNe_int (i j : Int) : dNe (.int i) (.int j) = some (.bl (!decide (i = j))) := rfl
@[simp] theorem dIs_non (x : D) : dIs x .non = some (.bl x.isNon) := by cases x <;> rfl
@[simp] theorem dIsNot_non (x : D) : dIsNot x .non = some (.bl (!x.isNon)) := by cases x <;> rfl
@[simp] theorem dIsB_bl (a b : Bool) : dIsB (.bl a) (.bl b) = some (.bl (a == b)) := rfl
@[simp] theorem isNon_non : D.isNon .non = true := rfl
@[simp] theorem isNon_int (i : Int) : D.isNon (.int i) = false := rfl
@[simp] theorem isNon_bl (i : Bool) : D.isNon (.bl i) = false := rfl
@[simp] theorem isNon_lst (i : List D) : D.isNon (.lst i) = false := rfl
@[simp] theorem isNon_tup (i : List D) : D.isNon (.tup i) = false := rfl
@[simp] theorem dList_lst (ds : List D) : dList (.lst ds) = some ds := rfl
@[simp] theorem dLs_lst (ds : List D) : dLs (.lst ds) = some ds := rfl
@[simp] theorem items_lst (ds : List D) : D.items (.lst ds) = some ds := rfl
@[simp] theorem items_tup (ds : List D) : D.items (.tup ds) = some ds := rfl
@[simp] theorem dInt_int (i : Int) : dInt (.int i) = some (some i) := rfl
@[simp] theorem dLen_lst (ds : List D) : dLen [.lst ds] = some (dN ds.length) := rfl
@[simp] theorem dLen_tup (ds : List D) : dLen [.tup ds] = some (dN ds.length) := rfl
@[simp] theorem dLen_scr (ns : List Int) : dLen [.scr ns] = some (dN ns.length) := rfl
@[simp] theorem dAbs_int (i : Int) : dAbs [.int i] = some (.int (gAbs i)) := rfl
@[simp] theorem dIntC_int (i : Int) : dIntC [.int i] = some (.int i) := rfl
@[simp] theorem dMax2_int (i j : Int) : dMax2 [.int i, .int j] = some (.int (gMax i j)) := rfl
@[simp] theorem dMin2_int (i j : Int) : dMin2 [.int i, .int j] = some (.int (gMin i j)) := rfl
@[simp] theorem dListOf_lst (ds : List D) : dListOf [.lst ds] = some ds := rfl
@[simp] theorem dListOf_tup (ds : List D) : dListOf [.tup ds] = some ds := rfl
@[simp] theorem dTupleOf_lst (ds : List D) : dTupleOf [.lst ds] = some (.tup ds) := rfl
@[simp] theorem dTupleOf_tup (ds : List D) : dTupleOf [.tup ds] = some (.tup ds) := rfl
@[simp] theorem dUn_tup (n : Nat) (ds : List D) (h : ds.length = n) : dUn n (.tup ds) = some ds := by
  subst h
  simp [dUn]
@[simp] theorem dSlU_lst (ds : List D) (l h : Option Int) : dSlU (.lst ds) l h = some (.lst (cutD ds l h)) := rfl
@[simp] theorem dSlU_tup (ds : List D) (l h : Option Int) : dSlU (.tup ds) l h = some (.tup (cutD ds l h)) := rfl
@[simp] theorem dSlL_lst (ds : List D) (l h : Option Int) : dSlL (.lst ds) l h = some (cutD ds l h) := rfl
@[simp] theorem dIx_lst (ds : List D) (i : Int) : dIx (.lst ds) (.int i) = atI ds i := rfl
@[simp] theorem dIx_tup (ds : List D) (i : Int) : dIx (.tup ds) (.int i) = atI ds i := rfl
@[simp] theorem dIx_scr (ns : List Int) (i : Int) : dIx (.scr ns) (.int i) = (atI ns i).map .int := rfl
theorem okL_ok {ds : List D} (h : ds.length ≤ 1000000) : okL ds = some ds := by
  unfold okL lenOk
  rw [Nat.ble_eq_true_of_le h]
@[simp] theorem okL_nil : okL [] = some [] := rfl
@[simp] theorem okL_1 (a : D) : okL [a] = some [a] := rfl
@[simp] theorem okL_2 (a b : D) : okL [a, b] = some [a, b] := rfl
@[simp] theorem okL_3 (a b c : D) : okL [a, b, c] = some [a, b, c] := rfl
@[simp] theorem okL_4 (a b c d : D) : okL [a, b, c, d] = some [a, b, c, d] := rfl
@[simp] theorem okL_5 (a b c d e : D) : okL [a, b, c, d, e] = some [a, b, c, d, e] := rfl
@[simp] theorem okL_6 (a b c d e f : D) : okL [a, b, c, d, e, f] = some [a, b, c, d, e, f] := rfl
@[simp] theorem okL_7 (a b c d e f g : D) : okL [a, b, c, d, e, f, g] = some [a, b, c, d, e, f, g] := rfl
@[simp] theorem okT_1 (a : D) : okT [a] = some (.tup [a]) := rfl
@[simp] theorem okT_2 (a b : D) : okT [a, b] = some (.tup [a, b]) := rfl
@[simp] theorem okT_3 (a b c : D) : okT [a, b, c] = some (.tup [a, b, c]) := rfl
/-! natural numbers -/
@[simp] theorem int_lit (n : Nat) : D.int (no_index (OfNat.ofNat n)) = dN n := rfl
theorem dN_int (n : Nat) : dN n = .int (n : Int) := rfl
theorem gBit_nat (f : Nat → Nat → Nat) (a b : Nat) : gBit f a b = some ((f a b : Nat) : Int) := by
  unfold gBit
  rw [decide_eq_true (Int.natCast_nonneg a), decide_eq_true (Int.natCast_nonneg b)]
  rfl
@[simp] theorem nBit (f : Nat → Nat → Nat) (a b : Nat) : dI2 (gBit f) (dN a) (dN b) = some (dN (f a b)) := by
  show (gBit f a b).map D.int = _
  rw [gBit_nat f a b]
  rfl
@[simp] theorem nAdd (a b : Nat) : dAdd (dN a) (dN b) = some (dN (a + b)) := rfl
theorem nSub {a b : Nat} (h : b ≤ a) : dSub (dN a) (dN b) = some (dN (a - b)) := by
  show some (D.int ((a : Int) - (b : Int))) = _
  rw [dN_int]
  congr 2
  omega
@[simp] theorem nLt (a b : Nat) : dLt (dN a) (dN b) = some (.bl (decide (a < b))) := by
  show some (D.bl (decide ((a : Int) < (b : Int)))) = _
  congr 2
  exact decide_eq_decide.mpr Int.ofNat_lt
@[simp] theorem nLe (a b : Nat) : dLe (dN a) (dN b) = some (.bl (decide (a ≤ b))) := by
  show some (D.bl (decide ((a : Int) ≤ (b : Int)))) = _
  congr 2
  exact decide_eq_decide.mpr Int.ofNat_le
@[simp] theorem nGt (a b : Nat) : dGt (dN a) (dN b) = some (.bl (decide (b < a))) := by
  show some (D.bl (decide ((b : Int) < (a : Int)))) = _
  congr 2
  exact decide_eq_decide.mpr Int.ofNat_lt
@[simp] theorem nGe (a b : Nat) : dGe (dN a) (dN b) = some (.bl (decide (b ≤ a))) := by
  show some (D.bl (decide ((b : Int) ≤ (a : Int)))) = _
  congr 2
  exact decide_eq_decide.mpr Int.ofNat_le
@[simp] theorem nEq (a b : Nat) : dEq (dN a) (dN b) = some (.bl (decide (a = b))) := by
  show some (D.bl (decide ((a : Int) = (b : Int)))) = _
  congr 2
  exact decide_eq_decide.mpr Int.ofNat_inj
@[simp] theorem nNe (a b : Nat) : dNe (dN a) (dN b) = some (.bl (!decide (a = b))) := by
  show some (D.bl (!decide ((a : Int) = (b : Int)))) = _
  congr 3
  exact decide_eq_decide.mpr Int.ofNat_inj
@[simp] theorem nNon (n : Nat) : (dN n).isNon = false := rfl
@[simp] theorem nInt (n : Nat) : dInt (dN n) = some (some (n : Int)) := rfl
@[simp] theorem nIntC (n : Nat) : dIntC [dN n] = some (dN n) := rfl
@[simp] theorem nMax2 (a b : Nat) : dMax2 [dN a, dN b] = some (dN (max a b)) := by
  show some (D.int (gMax a b)) = _
  unfold gMax dN
  congr 2
  split <;> omega
@[simp] theorem nMin2 (a b : Nat) : dMin2 [dN a, dN b] = some (dN (min a b)) := by
  show some (D.int (gMin a b)) = _
  unfold gMin dN
  congr 2
  split <;> omega
@[simp] theorem nMod (a b : Nat) : dI2 gMod (dN a) (dN (b + 1)) = some (dN (a % (b + 1))) := by
  show (gMod a ((b + 1 : Nat) : Int)).map D.int = _
  unfold gMod
  rw [decide_eq_true (show (0 : Int) < ((b + 1 : Nat) : Int) by omega)]
  rfl
@[simp] theorem nIx_lst (ds : List D) (i : Nat) : dIx (.lst ds) (dN i) = ds[i]? := by
  show atI ds (i : Int) = _
  by_cases h : i < ds.length
  · exact (atI_nat (List.getElem?_eq_getElem h)).trans (List.getElem?_eq_getElem h).symm
  · rw [List.getElem?_eq_none (by omega)]
    unfold atI ixN
    rw [if_pos (Int.natCast_nonneg i), if_neg (by omega)]
    rfl
@[simp] theorem nIx_tup (ds : List D) (i : Nat) : dIx (.tup ds) (dN i) = ds[i]? := nIx_lst ds i
theorem gMul_ok {i j : Int} (h : i.natAbs < 2 ^ 400000) (h2 : j.natAbs < 2 ^ 400000) : gMul i j = some (i * j) := by
  unfold gMul
  have l : ∀ x : Nat, x < 2 ^ 400000 → x.log2 ≤ 400000 := fun x hx => by
    by_cases z : x = 0
    · rw [z]; exact Nat.zero_le _
    · exact Nat.le_of_lt ((Nat.log2_lt z).mpr hx)
  have a := l _ h
  have b := l _ h2
  have : Nat.ble (i.natAbs.log2 + j.natAbs.log2) 900000 = true := Nat.ble_eq_true_of_le (by omega)
  rw [this]
theorem gMul_small {i j : Int} (h : i.natAbs < 2 ^ 64) (h2 : j.natAbs < 2 ^ 64) : gMul i j = some (i * j) := by
  unfold gMul
  have l : ∀ x : Nat, x < 2 ^ 64 → x.log2 ≤ 64 := fun x hx => by
    by_cases z : x = 0
    · rw [z]; exact Nat.zero_le _
    · exact Nat.le_of_lt ((Nat.log2_lt z).mpr hx)
  have a := l _ h
  have b := l _ h2
  have : Nat.ble (i.natAbs.log2 + j.natAbs.log2) 900000 = true := Nat.ble_eq_true_of_le (by omega)
  rw [this]
theorem gMod_ok {i j : Int} (h : 0 < j) : gMod i j = some (i % j) := by
  unfold gMod
  rw [decide_eq_true h]
/-! lists out of lists -/
end Pw
set_option linter.all false
set_option maxRecDepth 100000
/-! Q0b: lists of numbers as data: ==, in, repr, sums. -/
namespace Pw
open PySem PySem.Spec PyProof.Rows L2
/-! what can be shown and compared -/
mutual
def tiny : PyData → Bool
  | .none | .bool _ => true
  | .int i => decide (i.natAbs < 10 ^ 500)
  | .list xs | .tuple xs => tinyAll xs
  | .str _ | .dict _ => false
def tinyAll : List PyData → Bool
  | [] => true
  | x :: xs => tiny x && tinyAll xs
end
theorem log2_tiny {n : Nat} (h : n < 10 ^ 500) : n.log2 < 1920 := by
  by_cases z : n = 0
  · rw [z]; decide
  · exact (Nat.log2_lt z).mpr (Nat.lt_trans h (by decide +kernel))
mutual
theorem tiny_ok : ∀ p : PyData, tiny p = true → p.showable = true ∧ p.hasDict = false ∧ p.leavesShort 700 = true ∧ p.canLay0 = true
  | .none, _ => ⟨by unfold PyData.showable; rfl, by unfold PyData.hasDict; rfl, by unfold PyData.leavesShort; rfl, by unfold PyData.canLay0; rfl⟩
  | .bool b, _ => ⟨by unfold PyData.showable; rfl, by unfold PyData.hasDict; rfl, by unfold PyData.leavesShort; rfl, by unfold PyData.canLay0; rfl⟩
  | .int i, h => by
    unfold tiny at h
    have h := of_decide_eq_true h
    refine ⟨by unfold PyData.showable; exact decide_eq_true (log2_tiny h), by unfold PyData.hasDict; rfl, ?_, by unfold PyData.canLay0; rfl⟩
    unfold PyData.leavesShort
    refine decide_eq_true ?_
    have := int_text_length_le10 (a := i) (k := 500) (by decide) h
    have e : (PyData.shown (.int i)).length = (toString i).length := by
      unfold PyData.shown
      show (Str.ofString (toString i)).length = _
      rw [PySem.ofString_length]
    rw [e]
    omega
  | .list xs, h => by
    unfold tiny at h
    obtain ⟨a, b, c, d⟩ := tinyAll_ok xs h
    exact ⟨by unfold PyData.showable; exact a, by unfold PyData.hasDict; exact b, by unfold PyData.leavesShort; exact c, by unfold PyData.canLay0; exact d⟩
  | .tuple xs, h => by
    unfold tiny at h
    obtain ⟨a, b, c, d⟩ := tinyAll_ok xs h
    exact ⟨by unfold PyData.showable; exact a, by unfold PyData.hasDict; exact b, by unfold PyData.leavesShort; exact c, by unfold PyData.canLay0; exact d⟩
  | .str _, h => by unfold tiny at h; cases h
  | .dict _, h => by unfold tiny at h; cases h
theorem tinyAll_ok : ∀ ps : List PyData, tinyAll ps = true → PyData.showableAll ps = true ∧ PyData.hasDictAll ps = false ∧ PyData.leavesShortAll 700 ps = true ∧ PyData.canLayAll0 ps = true
  | [], _ => ⟨by unfold PyData.showableAll; rfl, by unfold PyData.hasDictAll; rfl, by unfold PyData.leavesShortAll; rfl, by unfold PyData.canLayAll0; rfl⟩
  | p :: ps, h => by
    unfold tinyAll at h
    obtain ⟨h1, h2⟩ := Bool.and_eq_true_iff.mp h
    obtain ⟨a, b, c, d⟩ := tiny_ok p h1
    obtain ⟨a', b', c', d'⟩ := tinyAll_ok ps h2
    exact ⟨by unfold PyData.showableAll; rw [a, a']; rfl, by unfold PyData.hasDictAll; rw [b, b']; rfl, by unfold PyData.leavesShortAll; rw [c, c']; rfl, by unfold PyData.canLayAll0; rw [d, d']; rfl⟩
end
/-! lists of numbers -/
/-! repr -/
mutual
theorem pySame_refl : ∀ p : PyData, tiny p = true → pySame p p = true
  | .none, _ => by unfold pySame; rfl
  | .bool b, _ => by unfold pySame; exact beq_self_eq_true b
  | .int i, _ => by unfold pySame; exact decide_eq_true rfl
  | .list xs, h => by unfold tiny at h; unfold pySame; exact pySameAll_refl xs h
  | .tuple xs, h => by unfold tiny at h; unfold pySame; exact pySameAll_refl xs h
  | .str _, h => by unfold tiny at h; cases h
  | .dict _, h => by unfold tiny at h; cases h
theorem pySameAll_refl : ∀ ps : List PyData, tinyAll ps = true → pySameAll ps ps = true
  | [], _ => by unfold pySameAll; rfl
  | p :: ps, h => by
    unfold tinyAll at h
    obtain ⟨h1, h2⟩ := Bool.and_eq_true_iff.mp h
    unfold pySameAll
    rw [pySame_refl p h1, pySameAll_refl ps h2]
    rfl
end
/-! sum, sorted -/
theorem intsOf_ints : ∀ l : List Int, intsOf (l.map D.int) = some l
  | [] => rfl
  | i :: l => by
    rw [List.map_cons, intsOf, intsOf_ints l]
    rfl
theorem dSum_ints (l : List Int) : dSum [.lst (l.map D.int)] = some (.int l.sum) := by
  unfold dSum dInts
  simp only [intsOf_ints, Option.map_some, sumI_eq]
/-! in -/
end Pw
set_option linter.all false
set_option maxRecDepth 100000
/-! Q1: words: weights, places. -/
namespace Pw
open PySem PySem.Spec PyProof.Rows L2
/-! ### the mathematics -/
def wt (n : Nat) : Nat := if h : n = 0 then 0 else n % 2 + wt (n / 2)
termination_by n
decreasing_by omega
theorem wt_zero : wt 0 = 0 := by unfold wt; simp
theorem wt_step (n : Nat) : wt n = n % 2 + wt (n / 2) := by
  by_cases h : n = 0
  · subst h
    simp [wt_zero]
  · rw [wt, dif_neg h]
theorem wt_xor_and (a : Nat) : ∀ b : Nat, wt a + wt b = wt (a ^^^ b) + 2 * wt (a &&& b) := by
  induction a using Nat.strongRecOn with
  | ind a ih =>
    intro b
    by_cases ha : a = 0
    · subst ha
      simp [wt_zero]
    · rw [wt_step a, wt_step b, wt_step (a ^^^ b), wt_step (a &&& b)]
      have := ih (a / 2) (by omega) (b / 2)
      rw [Nat.xor_div_two, Nat.and_div_two]
      have e1 : (a ^^^ b) % 2 + 2 * ((a &&& b) % 2) = a % 2 + b % 2 := by
        have m2 : ∀ x : Nat, x % 2 = (x.testBit 0).toNat := fun x => by rw [Nat.toNat_testBit]; simp
        rw [m2 a, m2 b, m2 (a ^^^ b), m2 (a &&& b), Nat.testBit_xor, Nat.testBit_and]
        cases a.testBit 0 <;> cases b.testBit 0 <;> rfl
      omega
theorem par_xor (a b : Nat) : wt (a ^^^ b) % 2 = (wt a + wt b) % 2 := by
  have := wt_xor_and a b
  omega
theorem par_meet (a b c : Nat) : wt ((a ^^^ b) &&& c) % 2 = (wt (a &&& c) + wt (b &&& c)) % 2 := by
  rw [Nat.and_xor_distrib_right, par_xor]
/-- the places of a word, below k -/
def spk (k n : Nat) : List Nat := (List.range k).filter fun i => n.testBit i
abbrev spots (n : Nat) : List Nat := spk 24 n
/-! ### the defs -/
def half (n : Nat) : Nat := [0, 1, 1, 2, 1, 2, 2, 3, 1, 2, 2, 3, 2, 3, 3, 4].getD n 0
/-! ### the law's own helpers -/
end Pw
set_option linter.all false
set_option maxRecDepth 100000
set_option maxHeartbeats 1000000
/-! Q30: sums of words: spans, plain bases, in plain Lean. -/
namespace Pw
/-- x is a sum of some of the words -/
def Spn : List Nat → Nat → Prop
  | [], x => x = 0
  | w :: l, x => Spn l x ∨ Spn l (x ^^^ w)
instance decSpn : ∀ (l : List Nat) (x : Nat), Decidable (Spn l x)
  | [], x => inferInstanceAs (Decidable (x = 0))
  | w :: l, x => @instDecidableOr _ _ (decSpn l x) (decSpn l (x ^^^ w))
theorem xor_xor_cancel (a b : Nat) : a ^^^ b ^^^ b = a := by rw [Nat.xor_assoc, Nat.xor_self, Nat.xor_zero]
theorem xor_right (a b c : Nat) : a ^^^ b ^^^ c = a ^^^ c ^^^ b := by rw [Nat.xor_assoc, Nat.xor_comm b c, ← Nat.xor_assoc]
theorem xor_eq_zero {a b : Nat} (h : a ^^^ b = 0) : a = b := by
  have := xor_xor_cancel a b
  rw [h, Nat.zero_xor] at this
  exact this.symm
theorem spn_zero : ∀ l : List Nat, Spn l 0
  | [] => rfl
  | _ :: l => .inl (spn_zero l)
theorem spn_xor : ∀ {l : List Nat} {x y : Nat}, Spn l x → Spn l y → Spn l (x ^^^ y)
  | [], x, y, h, k => by
    have h : x = 0 := h
    have k : y = 0 := k
    subst h k
    rfl
  | w :: l, x, y, h, k => by
    rcases h with h | h <;> rcases k with k | k
    · exact .inl (spn_xor h k)
    · refine .inr ?_
      rw [Nat.xor_assoc]
      exact spn_xor h k
    · refine .inr ?_
      rw [xor_right]
      exact spn_xor h k
    · refine .inl ?_
      have := spn_xor h k
      rwa [xor_right, ← Nat.xor_assoc, xor_xor_cancel] at this
theorem spn_mem : ∀ {l : List Nat} {w : Nat}, w ∈ l → Spn l w
  | v :: l, w, h => by
    rcases List.mem_cons.mp h with rfl | h
    · refine .inr ?_
      rw [Nat.xor_self]
      exact spn_zero l
    · exact .inl (spn_mem h)
theorem spn_least {P : Nat → Prop} (p0 : P 0) (px : ∀ x y, P x → P y → P (x ^^^ y)) : ∀ {l : List Nat}, (∀ w ∈ l, P w) → ∀ {x : Nat}, Spn l x → P x
  | [], _, x, h => by
    have h : x = 0 := h
    subst h
    exact p0
  | w :: l, k, x, h => by
    rcases h with h | h
    · exact spn_least p0 px (fun v hv => k v (.tail _ hv)) h
    · have := px _ _ (spn_least p0 px (fun v hv => k v (.tail _ hv)) h) (k w (.head _))
      rwa [xor_xor_cancel] at this
theorem spn_lt {l : List Nat} {n : Nat} (h : ∀ w ∈ l, w < 2 ^ n) {x : Nat} (hx : Spn l x) : x < 2 ^ n :=
  spn_least (P := fun x => x < 2 ^ n) (Nat.two_pow_pos n) (fun _ _ => Nat.xor_lt_two_pow) h hx
/-! ### highest places -/
theorem testBit_lt {w i : Nat} (h : w.log2 < i) (hw : w ≠ 0) : w.testBit i = false := Nat.testBit_lt_two_pow ((Nat.log2_lt hw).mp h)
theorem lt_of_testBit {x y : Nat} (i : Nat) (hx : x.testBit i = false) (hy : y.testBit i = true) (h : ∀ j, i < j → x.testBit j = y.testBit j) : x < y := by
  have e : x / 2 ^ (i + 1) = y / 2 ^ (i + 1) := Nat.eq_of_testBit_eq fun j => by
    rw [Nat.testBit_div_two_pow, Nat.testBit_div_two_pow]
    exact h _ (by omega)
  rw [Nat.testBit_eq_decide_div_mod_eq] at hx hy
  have hx : ¬ x / 2 ^ i % 2 = 1 := of_decide_eq_false hx
  have hy : y / 2 ^ i % 2 = 1 := of_decide_eq_true hy
  have ex : x / 2 ^ (i + 1) = x / 2 ^ i / 2 := by rw [Nat.pow_succ, Nat.div_div_eq_div_mul]
  have ey : y / 2 ^ (i + 1) = y / 2 ^ i / 2 := by rw [Nat.pow_succ, Nat.div_div_eq_div_mul]
  rw [ex, ey] at e
  have : x / 2 ^ i < y / 2 ^ i := by omega
  refine Nat.lt_of_not_le fun z => ?_
  have := Nat.div_le_div_right (c := 2 ^ i) z
  omega
/-- the highest places of unlike words are off in one another -/
abbrev Off (a b : Nat) : Prop := a.testBit b.log2 = false ∧ b.testBit a.log2 = false
structure Red (l : List Nat) : Prop where
  pos : ∀ w ∈ l, w ≠ 0
  off : l.Pairwise Off
theorem Red.nil : Red [] := ⟨fun _ h => (List.not_mem_nil h).elim, List.Pairwise.nil⟩
theorem Red.tail {w : Nat} {l : List Nat} (h : Red (w :: l)) : Red l := ⟨fun v hv => h.pos v (.tail _ hv), (List.pairwise_cons.mp h.off).2⟩
theorem Red.head {w : Nat} {l : List Nat} (h : Red (w :: l)) : w ≠ 0 ∧ ∀ v ∈ l, Off w v := ⟨h.pos w (.head _), (List.pairwise_cons.mp h.off).1⟩
/-- taken off one behind the other -/
def lft : List Nat → Nat → Nat
  | [], x => x
  | w :: l, x => lft l (min x (x ^^^ w))
/-! ### one word more -/
def put (l : List Nat) (y : Nat) : List Nat := l.map (fun a => min a (a ^^^ y)) ++ [y]
/-! ### plain bases -/
structure Pl (l : List Nat) : Prop where
  rd : Red l
  srt : l.Pairwise fun a b => b < a
theorem Pl.nil : Pl [] := ⟨Red.nil, List.Pairwise.nil⟩
/-- the highest place of a sum is one of the highest places -/
theorem Pl.high : ∀ {l : List Nat}, Pl l → ∀ {x : Nat}, Spn l x → x ≠ 0 → ∃ b ∈ l, x.log2 = b.log2 ∧ x.testBit b.log2 = true
  | [], _, x, h, n => absurd h n
  | w :: l, p, x, h, n => by
    obtain ⟨hw, ho⟩ := p.rd.head
    have pt : Pl l := ⟨p.rd.tail, (List.pairwise_cons.mp p.srt).2⟩
    have sml : ∀ y, Spn l y → y < 2 ^ w.log2 := fun y hy => spn_lt (fun v hv => by
      have h1 := (List.pairwise_cons.mp p.srt).1 v hv
      have hv0 := p.rd.pos v (.tail _ hv)
      refine (Nat.log2_lt hv0).mp ?_
      have h2 : v.log2 ≠ w.log2 := fun z => by
        have := (ho v hv).1
        rw [z, Nat.testBit_log2 hw] at this
        cases this
      have h3 : ¬ w.log2 < v.log2 := fun z => by
        have a := (Nat.log2_lt hw).mp z
        have b := Nat.log2_self_le hv0
        omega
      omega) hy
    rcases h with h | h
    · obtain ⟨b, hb, e⟩ := Pl.high pt h n
      exact ⟨b, .tail _ hb, e⟩
    · have h1 := sml _ h
      have t : x.testBit w.log2 = true := by
        have := Nat.testBit_lt_two_pow h1
        rw [Nat.testBit_xor, Nat.testBit_log2 hw] at this
        cases q : x.testBit w.log2 with
        | true => rfl
        | false => rw [q] at this; cases this
      refine ⟨w, .head _, ?_, t⟩
      have e : x = (x ^^^ w) ^^^ w := (xor_xor_cancel x w).symm
      have h2 : x < 2 ^ (w.log2 + 1) := by
        rw [e]
        exact Nat.xor_lt_two_pow (Nat.lt_trans h1 (Nat.pow_lt_pow_right (by decide) (by omega))) ((Nat.log2_lt hw).mp (by omega))
      have h3 := (Nat.log2_lt n).mpr h2
      have h4 : w.log2 ≤ x.log2 := Nat.le_of_not_lt fun q => by rw [testBit_lt q n] at t; cases t
      omega
theorem Pl.off_of {l : List Nat} (p : Pl l) {a b : Nat} (ha : a ∈ l) (hb : b ∈ l) (n : a ≠ b) : a.testBit b.log2 = false := by
  have : ∀ {l : List Nat}, l.Pairwise Off → ∀ a ∈ l, ∀ b ∈ l, a ≠ b → a.testBit b.log2 = false := by
    intro l
    induction l with
    | nil => exact fun _ _ h => nomatch h
    | cons w l ih =>
      intro h a ha b hb n
      obtain ⟨h1, h2⟩ := List.pairwise_cons.mp h
      rcases List.mem_cons.mp ha with rfl | ha <;> rcases List.mem_cons.mp hb with rfl | hb
      · exact absurd rfl n
      · exact (h1 b hb).1
      · exact (h1 _ ‹a ∈ l›).2
      · exact ih h2 a ha b hb n
  exact this p.rd.off a ha b hb n
/-- the words of a plain basis: of each highest place the least -/
theorem Pl.mem_iff {l : List Nat} (p : Pl l) {w : Nat} : w ∈ l ↔ (Spn l w ∧ w ≠ 0 ∧ ∀ x, Spn l x → x ≠ 0 → x.log2 = w.log2 → w ≤ x) := by
  have least : ∀ w ∈ l, ∀ x, Spn l x → x ≠ 0 → x.log2 = w.log2 → w ≤ x := by
    intro w hw x hx n e
    by_cases q : x = w
    · exact Nat.le_of_eq q.symm
    have hw0 := p.rd.pos w hw
    have d0 : x ^^^ w ≠ 0 := fun z => q (xor_eq_zero z)
    obtain ⟨b, hb, e2, t⟩ := p.high (spn_xor hx (spn_mem hw)) d0
    have hlt : (x ^^^ w).log2 < w.log2 := by
      have : x ^^^ w < 2 ^ w.log2 := by
        have h1 : x ^^^ w < 2 ^ (w.log2 + 1) := Nat.xor_lt_two_pow (by rw [← e]; exact (Nat.log2_lt n).mp (by omega)) ((Nat.log2_lt hw0).mp (by omega))
        have h2 : (x ^^^ w).testBit w.log2 = false := by rw [Nat.testBit_xor, Nat.testBit_log2 hw0, ← e, Nat.testBit_log2 n]; rfl
        refine Nat.lt_of_not_le fun z => ?_
        have : (x ^^^ w).log2 = w.log2 := (Nat.log2_eq_iff d0).mpr ⟨z, h1⟩
        rw [← this, Nat.testBit_log2 d0] at h2
        cases h2
      exact (Nat.log2_lt d0).mpr this
    have nb : w ≠ b := fun z => by rw [e2, z] at hlt; omega
    have off := p.off_of hw hb nb
    refine Nat.le_of_lt (lt_of_testBit b.log2 off ?_ fun j hj => ?_)
    · rw [Nat.testBit_xor, off] at t
      simpa using t
    · have : (x ^^^ w).testBit j = false := testBit_lt (by omega) d0
      rw [Nat.testBit_xor] at this
      cases q1 : w.testBit j <;> cases q2 : x.testBit j <;> simp_all
  refine ⟨fun hw => ⟨spn_mem hw, p.rd.pos w hw, least w hw⟩, fun ⟨h1, h2, h3⟩ => ?_⟩
  obtain ⟨b, hb, e, _⟩ := p.high h1 h2
  have a1 := h3 b (spn_mem hb) (p.rd.pos b hb) e.symm
  have a2 := least b hb w h1 h2 e
  have : w = b := by omega
  rw [this]
  exact hb
theorem falling_ext : ∀ {l k : List Nat}, l.Pairwise (fun a b => b < a) → k.Pairwise (fun a b => b < a) → (∀ w, w ∈ l ↔ w ∈ k) → l = k
  | [], [], _, _, _ => rfl
  | [], b :: k, _, _, h => nomatch (h b).mpr (.head _)
  | a :: l, [], _, _, h => nomatch (h a).mp (.head _)
  | a :: l, b :: k, p, q, h => by
    obtain ⟨p1, p2⟩ := List.pairwise_cons.mp p
    obtain ⟨q1, q2⟩ := List.pairwise_cons.mp q
    have e : a = b := by
      rcases List.mem_cons.mp ((h a).mp (.head _)) with e | e
      · exact e
      · rcases List.mem_cons.mp ((h b).mpr (.head _)) with e2 | e2
        · exact e2.symm
        · have := q1 a e
          have := p1 b e2
          omega
    subst e
    have : l = k := falling_ext p2 q2 fun w => ⟨fun hw => by
      rcases List.mem_cons.mp ((h w).mp (.tail _ hw)) with e | e
      · have := p1 w hw; omega
      · exact e, fun hw => by
      rcases List.mem_cons.mp ((h w).mpr (.tail _ hw)) with e | e
      · have := q1 w hw; omega
      · exact e⟩
    rw [this]
/-- a plain basis is told by its sums -/
theorem Pl.ext {l k : List Nat} (p : Pl l) (q : Pl k) (h : ∀ x, Spn l x ↔ Spn k x) : l = k := falling_ext p.srt q.srt fun w => by
  rw [p.mem_iff, q.mem_iff, h w]
  exact and_congr_right fun _ => and_congr_right fun _ => ⟨fun a x hx => a x ((h x).mpr hx), fun a x hx => a x ((h x).mp hx)⟩
/-! ### sorting -/
def insN (x : Nat) : List Nat → List Nat
  | [] => [x]
  | y :: ys => if x ≤ y then x :: y :: ys else y :: insN x ys
def sortN : List Nat → List Nat
  | [] => []
  | x :: xs => insN x (sortN xs)
/-- falling -/
def fallN (l : List Nat) : List Nat := (sortN l).reverse
/-! ### the plain basis of words -/
def addW (l : List Nat) (w : Nat) : List Nat := if lft l w = 0 then l else fallN (put l (lft l w))
def pbF (l : List Nat) : List Nat → List Nat
  | [] => l
  | w :: ws => pbF (addW l w) ws
def pb (ws : List Nat) : List Nat := pbF [] ws
end Pw
set_option linter.all false
set_option maxRecDepth 100000
set_option maxHeartbeats 1000000
/-! Q33: contraries: words even to all words of a plain basis. -/
namespace Pw
/-- whether two words meet oddly: 0 or 1 -/
def pr (a b : Nat) : Nat := wt (a &&& b) % 2
theorem pr_comm (a b : Nat) : pr a b = pr b a := by unfold pr; rw [Nat.and_comm]
theorem pr_xor (a b c : Nat) : pr (a ^^^ b) c = (pr a c + pr b c) % 2 := by
  unfold pr
  rw [par_meet]
  omega
theorem pr_xor_r (a b c : Nat) : pr c (a ^^^ b) = (pr c a + pr c b) % 2 := by rw [pr_comm, pr_xor, pr_comm a, pr_comm b]
theorem pr_zero (c : Nat) : pr 0 c = 0 := by unfold pr; rw [Nat.zero_and, wt_zero]
/-- even to all words of a list, to all their sums -/
def Ev (l : List Nat) (x : Nat) : Prop := ∀ b ∈ l, pr x b = 0
instance (l : List Nat) (x : Nat) : Decidable (Ev l x) := inferInstanceAs (Decidable (∀ b ∈ l, pr x b = 0))
theorem Ev.zero {l : List Nat} : Ev l 0 := fun b _ => pr_zero b
theorem Ev.spn {l : List Nat} {x : Nat} (h : Ev l x) {y : Nat} (hy : Spn l y) : pr x y = 0 :=
  spn_least (P := fun y => pr x y = 0) (by rw [pr_comm]; exact pr_zero x) (fun a b ha hb => by rw [pr_xor_r, ha, hb]) h hy
theorem Ev.congr {l k : List Nat} (h : ∀ x, Spn l x ↔ Spn k x) {x : Nat} : Ev l x ↔ Ev k x :=
  ⟨fun e b hb => e.spn ((h b).mpr (spn_mem hb)), fun e b hb => e.spn ((h b).mp (spn_mem hb))⟩
/-! ### sums of places -/
/-- the word of some places -/
def wd (es : List Nat) : Nat := (es.map (2 ^ ·)).sum
/-! ### the contrary's words -/
def pivs (l : List Nat) : List Nat := l.map Nat.log2
theorem Red.pivs {l : List Nat} (r : Red l) : (pivs l).Nodup := by
  unfold Pw.pivs
  rw [List.Nodup, List.pairwise_map]
  refine List.Pairwise.imp_of_mem (fun {a b} ha hb hab e => ?_) r.off
  have := hab.1
  rw [← e, Nat.testBit_log2 (r.pos a ha)] at this
  cases this
/-- the places of the contrary's word at p -/
def ctE (l : List Nat) (p : Nat) : List Nat := (l.filter fun w => w.testBit p).map Nat.log2 ++ [p]
def ctW (l : List Nat) (p : Nat) : Nat := wd (ctE l p)
def frees (n : Nat) (l : List Nat) : List Nat := (List.range n).filter fun p => decide (p ∉ pivs l)
def ct (n : Nat) (l : List Nat) : List Nat := (frees n l).map (ctW l)
/-- words that are told at places of their own -/
def redP (c : Nat → Nat) : List Nat → Nat → Nat
  | [], x => x
  | p :: ps, x => redP c ps (if x.testBit p then x ^^^ c p else x)
/-! ### dimensions -/
/-- the contrary's plain basis -/
def cb (n : Nat) (l : List Nat) : List Nat := pb (ct n l)
end Pw
set_option linter.all false
set_option maxRecDepth 100000
set_option maxHeartbeats 1000000
/-! Q35: all sums, listed; a basis that is not sorted. -/
namespace Pw
def spanF (f : List Nat) (l : List Nat) : List Nat := l.foldl (fun f w => f ++ f.map (· ^^^ w)) f
/-- no word is a sum of those behind it -/
def Ind : List Nat → Prop
  | [] => True
  | w :: l => ¬ Spn l w ∧ Ind l
theorem Red.ind : ∀ {l : List Nat}, Red l → Ind l
  | [], _ => trivial
  | w :: l, r => by
    obtain ⟨hw, ho⟩ := r.head
    refine ⟨fun z => ?_, r.tail.ind⟩
    have := spn_least (P := fun y => y.testBit w.log2 = false) (Nat.zero_testBit _) (fun a b ha hb => by rw [Nat.testBit_xor, ha, hb]; rfl) (fun v hv => (ho v hv).2) z
    rw [Nat.testBit_log2 hw] at this
    cases this
/-- a basis in which the words stand as they came -/
def addR (f : List Nat) (w : Nat) : List Nat := if 0 < lft f w then put f (lft f w) else f
end Pw
set_option linter.all false
set_option maxRecDepth 100000
set_option maxHeartbeats 1000000
/-! Q31: steps of evaluation, one by one. -/
namespace Pw
open PySem PySem.Spec PyProof.Rows L2
section
variable {ρ ρ' : Env} {r : Option Rs} {f g fa fb : Env → Option D} {fl gl : Env → Option (List D)} {fs gs : Env → Option Rs} {c c2 : Env → Option Bool} {d x y : D} {ds es xs : List D} {i n : Nat}
end
def lastD {α : Type} (u : α → D) (z : Option D) : List α → Option D
  | [] => z
  | x :: xs => lastD u (some (u x)) xs
/-- the parts of a walked pair -/
def tup0 : Option D → Option D
  | some (.tup (a :: _)) => some a
  | _ => none
def tup1 : Option D → Option D
  | some (.tup (_ :: a :: _)) => some a
  | _ => none
/-! lists of counts -/
end Pw
set_option linter.all false
set_option maxRecDepth 100000
/-! Q1b: draws, pots, mixed lists. -/
namespace Pw
open PySem PySem.Spec PyProof.Rows L2
theorem g_draw {n : Nat} {Q : D → Prop} (h : 0 < n) (h2 : n < 1073741824) (hq : ∀ d, d < n → Q (dN d)) : Md.wp (S_draw [.pot, dN n]) Q := by
  show (0 : Int) < (n : Int) ∧ (n : Int) < 1073741824 ∧ ∀ d : Int, 0 ≤ d → d < (n : Int) → Q (.int d)
  refine ⟨by omega, by omega, fun d h0 h1 => ?_⟩
  have := hq d.toNat (by omega)
  rw [dN_int, Int.toNat_of_nonneg h0] at this
  exact this
theorem g_mono {α : Type} {x : G α} {P Q : α → Prop} (h : Md.wp x P) (k : ∀ a, P a → Q a) : Md.wp x Q := Md.wp_mono k h
theorem pow18 : gPow 10 18 = some 1000000000000000000 := by
  unfold gPow
  have : okPow 10 18 = true := by decide +kernel
  rw [this]
  rfl
theorem gAbs_nonneg (i : Int) : 0 ≤ gAbs i := by
  unfold gAbs
  split <;> omega
theorem gMax_nonneg (i : Int) : 0 ≤ gMax 0 i := by
  unfold gMax
  split <;> omega
theorem atI_scr {ns : List Int} {k : Nat} (h : k < ns.length) : atI ns (k : Int) = some ns[k] := atI_nat (List.getElem?_eq_getElem h)
theorem isPot_ok {a b : Int} (h : 0 ≤ a) (h1 : 0 ≤ b) (h2 : b < 2147483648) : isPot [.int a, .int b] = some () := by
  unfold isPot
  simp [h, h1, h2]
end Pw
set_option linter.all false
set_option maxRecDepth 100000
set_option maxHeartbeats 1000000
/-! Q39: steps of evaluation where a def draws: what is sure (u_), what is wanted of draws (w_). -/
namespace Pw
open PySem PySem.Spec PyProof.Rows L2
theorem g_lift_ret {α : Type} (a : α) : (Md.lift (some a) : G α) = Md.ret a := by
  show (⟨_, _⟩ : G α) = ⟨_, _⟩
  congr 1
  funext Q
  exact propext ⟨fun ⟨b, e, q⟩ => by cases e; exact q, fun q => ⟨a, rfl, q⟩⟩
section
variable {ρ ρ' : Env} {f g fa fb : Env → G D} {fl gl : Env → G (List D)} {fs gs : Env → G Rs} {c c2 : Env → G Bool} {d x y : D} {ds es xs : List D} {i n : Nat} {r : G Rs}
theorem u_var (h : gG ρ i = some d) : (pVar i ρ : G D) = Md.ret d := by rw [ev_pVar, h, g_lift_ret]
theorem u_C : (pC d ρ : G D) = Md.ret d := rfl
theorem u_p2 {α : Type} {q : D → D → Option α} {z : α} (h : f ρ = Md.ret x) (h2 : g ρ = Md.ret y) (k : q x y = some z) : (p2 q f g ρ : G α) = Md.ret z := by rw [ev_p2, h, g_bind_ret, h2, g_bind_ret, k, g_lift_ret]
theorem u_nil : (aNil ρ : G (List D)) = Md.ret [] := rfl
theorem u_cons (h : f ρ = Md.ret d) (k : fl ρ = Md.ret ds) : (aCons f fl ρ : G (List D)) = Md.ret (d :: ds) := by rw [ev_aCons, h, g_bind_ret, k, g_bind_ret]
theorem u_of (h : fl ρ = Md.ret ds) : (pOf fl ρ : G D) = Md.ret (.lst ds) := by rw [ev_pOf, h, g_bind_ret]
theorem u_lst (h : fl ρ = Md.ret ds) (h2 : ds.length ≤ 1000000) : (pLst fl ρ : G (List D)) = Md.ret ds := by rw [ev_pLst, h, g_bind_ret, okL_ok h2, g_lift_ret]
/-! what is wanted -/
theorem w_det {α : Type} {x : G α} {a : α} {Q : α → Prop} (h : x = Md.ret a) (q : Q a) : Md.wp x Q := by rw [h]; exact q
theorem w_seqd {Q : Rs → Prop} (h : Md.wp (fs ρ) fun r => ∃ ρ', r = .nx ρ' ∧ Md.wp (gs ρ') Q) : Md.wp (sSeq fs gs ρ) Q := by
  rw [ev_sSeq, g_bind]
  exact g_mono h fun r ⟨ρ', e, k⟩ => by subst e; exact k
theorem w_set {Q : Rs → Prop} (h : Md.wp (f ρ) fun d => Q (.nx (ρ.set i (some d)))) : Md.wp (sSet i f ρ) Q := by rw [ev_sSet, g_bind]; exact h
theorem w_ret {Q : Rs → Prop} (h : Md.wp (f ρ) fun d => Q (.rt d)) : Md.wp (sRet f ρ) Q := by rw [ev_sRet, g_bind]; exact h
theorem w_p2 {α : Type} {q : D → D → Option α} {Q : α → Prop} (h : Md.wp (f ρ) fun x => Md.wp (g ρ) fun y => ∃ z, q x y = some z ∧ Q z) : Md.wp (p2 q f g ρ) Q := by rw [ev_p2, g_bind]; exact h
theorem w_cons {Q : List D → Prop} (h : Md.wp (f ρ) fun d => Md.wp (fl ρ) fun ds => Q (d :: ds)) : Md.wp (aCons f fl ρ) Q := by rw [ev_aCons, g_bind]; exact h
theorem w_of {Q : D → Prop} (h : Md.wp (fl ρ) fun ds => Q (.lst ds)) : Md.wp (pOf fl ρ) Q := by rw [ev_pOf, g_bind]; exact h
theorem w_lst {Q : List D → Prop} (h : Md.wp (fl ρ) fun ds => ds.length ≤ 1000000 ∧ Q ds) : Md.wp (pLst fl ρ) Q := by
  rw [ev_pLst, g_bind]
  exact g_mono h fun ds ⟨a, b⟩ => by rw [okL_ok a, g_lift_ret]; exact b
theorem w_go {spec : List D → G D} {Q : D → Prop} (h : fl ρ = Md.ret ds) (k : Md.wp (spec ds) Q) : Md.wp (pGo spec fl ρ) Q := by rw [ev_pGo, h, g_bind_ret, up_gg]; exact k
theorem w_run {n : Nat} {f : Env → G Rs} {ds : List D} {Q : D → Prop} (h : Md.wp (f (startD n ds)) fun r => ∃ d, r = .rt d ∧ Q d) : Md.wp (runD false n f ds) Q := by
  rw [ev_runD, g_bind]
  exact g_mono h fun r ⟨d, e, q⟩ => by subst e; exact q
theorem w_draw {Q : D → Prop} {fa fb : Env → G D} {n : Nat} (h1 : fa ρ = Md.ret .pot) (h2 : fb ρ = Md.ret (dN n)) (h : 0 < n) (h3 : n < 1073741824) (q : ∀ d, d < n → Q (dN d)) : Md.wp (pGo S_draw (aCons fa (aCons fb aNil)) ρ) Q :=
  w_go (u_cons h1 (u_cons h2 u_nil)) (g_draw h h3 q)
end
end Pw
set_option linter.all false
set_option maxRecDepth 1000000
set_option maxHeartbeats 4000000
/-! Q148: all outcomes of a drawing text, told by the kernel (the base of F_k82), for laws with lambdas too. -/
namespace Pw
open PySem PySem.Spec PyProof.Rows L2
/-! ### all outcomes -/
def NL (α : Type) : Type := Option (List α)
def nlBind {α β : Type} (f : α → NL β) : List α → NL β
  | [] => some []
  | a :: as => match f a, nlBind f as with
    | some bs, some cs => some (bs ++ cs)
    | _, _ => none
theorem nlBind_all {α β : Type} {f : α → NL β} {Q : β → Prop} : ∀ (as : List α) (cs : List β), nlBind f as = some cs → (∀ c ∈ cs, Q c) → ∀ a ∈ as, ∃ bs, f a = some bs ∧ ∀ b ∈ bs, Q b
  | [], _, _, _, a, h => by cases h
  | x :: as, cs, e, q, a, h => by
    unfold nlBind at e
    cases e1 : f x with
    | none => rw [e1] at e; cases e
    | some bs =>
      cases e2 : nlBind f as with
      | none => rw [e1, e2] at e; cases e
      | some ds =>
        rw [e1, e2] at e
        cases e
        rcases List.mem_cons.mp h with rfl | h
        · exact ⟨bs, e1, fun b hb => q b (List.mem_append_left _ hb)⟩
        · exact nlBind_all as ds e2 (fun c hc => q c (List.mem_append_right _ hc)) a h
instance instMdNL : Md NL where
  ret := fun a => some [a]
  bind := fun x f => match x with
    | some as => nlBind f as
    | none => none
  lift := fun o => match o with
    | some a => some [a]
    | none => none
  wp := fun x Q => ∃ as, x = some as ∧ ∀ a ∈ as, Q a
  wp_ret := fun ⟨as, e, q⟩ => by cases e; exact q _ (List.mem_singleton.mpr rfl)
  wp_bind := fun {α β x f Q} ⟨cs, e, q⟩ => by
    cases x with
    | none => cases e
    | some as => exact ⟨as, rfl, fun a ha => nlBind_all as cs e q a ha⟩
  wp_lift := fun {α o Q} ⟨as, e, q⟩ => by
    cases o with
    | none => cases e
    | some a => cases e; exact ⟨a, rfl, q _ (List.mem_singleton.mpr rfl)⟩
  wp_mono := fun k ⟨as, e, q⟩ => ⟨as, e, fun a ha => k a (q a ha)⟩
instance instUpONL : Up Option NL := ⟨fun x => Md.lift x, fun h => Md.wp_lift (m := NL) h⟩
instance instUpNLNL : Up NL NL := ⟨fun x => x, fun h => h⟩
/-- what all outcomes bear, the drawing one bears -/
def Rn {α : Type} (g : G α) (l : NL α) : Prop := ∀ Q : α → Prop, Md.wp l Q → Md.wp g Q
theorem rn_ret {α : Type} {a : α} : Rn (Md.ret a) (Md.ret a) := fun Q h => show Q a from Md.wp_ret (m := NL) h
theorem rn_lift {α : Type} {o : Option α} : Rn (Md.lift o) (Md.lift o) := fun Q h => Md.wp_lift (m := NL) h
theorem rn_bind {α β : Type} {x : G α} {y : NL α} {f : α → G β} {h : α → NL β} (h1 : Rn x y) (h2 : ∀ a, Rn (f a) (h a)) : Rn (Md.bind x f) (Md.bind y h) := fun Q q =>
  h1 _ (Md.wp_mono (fun a z => h2 a Q z) (Md.wp_bind (m := NL) q))
def potN : List D → Option Int
  | [.pot, .int n] => some n
  | _ => none
theorem potN_eq {ds : List D} {n : Int} (h : potN ds = some n) : ds = [.pot, .int n] := by
  unfold potN at h
  split at h
  · cases h; rfl
  · cases h
def drN (n : Int) : NL D := match decide (0 < n ∧ n < 1000) with
  | true => some ((List.range n.toNat).map fun d : Nat => D.int (d : Int))
  | false => none
def S_drawN (ds : List D) : NL D := match potN ds with
  | some n => drN n
  | none => none
theorem rn_draw (ds : List D) : Rn (S_draw ds) (S_drawN ds) := fun Q z => by
  obtain ⟨as, e, q⟩ := z
  unfold S_drawN at e
  cases h : potN ds with
  | none => rw [h] at e; cases e
  | some n =>
    rw [h] at e
    have hd := potN_eq h
    subst hd
    by_cases hz : 0 < n ∧ n < 1000
    · have e2 : drN n = some ((List.range n.toNat).map fun d : Nat => D.int (d : Int)) := by
        unfold drN
        rw [decide_eq_true hz]
      have e : drN n = some as := e
      rw [e2] at e
      cases e
      have z := g_draw (n := n.toNat) (Q := Q) (by omega) (by omega) fun d hd => q _ (List.mem_map.mpr ⟨d, List.mem_range.mpr hd, rfl⟩)
      rw [dN_int, Int.toNat_of_nonneg (by omega)] at z
      exact z
    · have e2 : drN n = none := by
        unfold drN
        rw [decide_eq_false hz]
      have e : drN n = some as := e
      rw [e2] at e
      cases e
def RN {α : Type} (f : Env → G α) (h : Env → NL α) : Prop := ∀ ρ, Rn (f ρ) (h ρ)
section
variable {α : Type} {f f2 f3 : Env → G D} {h h2 h3 : Env → NL D} {fl : Env → G (List D)} {hl : Env → NL (List D)} {c c2 : Env → G Bool} {k k2 : Env → NL Bool} {s s2 : Env → G Rs} {t t2 : Env → NL Rs}
theorem rn_pVar (i : Nat) : RN (pVar i) (pVar i) := fun _ => rn_lift
theorem rn_pC (d : D) : RN (pC d) (pC d) := fun _ => rn_ret
theorem rn_p1 {q : D → Option α} (e : RN f h) : RN (p1 q f) (p1 q h) := fun ρ => rn_bind (e ρ) fun _ => rn_lift
theorem rn_p2 {q : D → D → Option α} (e : RN f h) (e2 : RN f2 h2) : RN (p2 q f f2) (p2 q h h2) := fun ρ => rn_bind (e ρ) fun _ => rn_bind (e2 ρ) fun _ => rn_lift
theorem rn_pA {q : List D → Option α} (e : RN fl hl) : RN (pA q fl) (pA q hl) := fun ρ => rn_bind (e ρ) fun _ => rn_lift
theorem rn_nil : RN aNil aNil := fun _ => rn_ret
theorem rn_cons (e : RN f h) (e2 : RN fl hl) : RN (aCons f fl) (aCons h hl) := fun ρ => rn_bind (e ρ) fun _ => rn_bind (e2 ρ) fun _ => rn_ret
theorem rn_consL {fl2 : Env → G (List D)} {hl2 : Env → NL (List D)} (e : RN fl2 hl2) (e2 : RN fl hl) : RN (aConsL fl2 fl) (aConsL hl2 hl) := fun ρ => rn_bind (e ρ) fun _ => rn_bind (e2 ρ) fun _ => rn_ret
theorem rn_of (e : RN fl hl) : RN (pOf fl) (pOf hl) := fun ρ => rn_bind (e ρ) fun _ => rn_ret
theorem rn_lst (e : RN fl hl) : RN (pLst fl) (pLst hl) := fun ρ => rn_bind (e ρ) fun _ => rn_lift
theorem rn_tup (e : RN fl hl) : RN (pTup fl) (pTup hl) := fun ρ => rn_bind (e ρ) fun _ => rn_lift
theorem rn_kws {π : List Nat} (e : RN fl hl) : RN (aKws π fl) (aKws π hl) := fun ρ => rn_bind (e ρ) fun _ => rn_ret
theorem rn_go {sp : List D → Option D} (e : RN fl hl) : RN (pGo sp fl) (pGo sp hl) := fun ρ => rn_bind (e ρ) fun _ => rn_lift
theorem rn_goG {sp : List D → G D} {sn : List D → NL D} (z : ∀ ds, Rn (sp ds) (sn ds)) (e : RN fl hl) : RN (pGo sp fl) (pGo sn hl) := fun ρ => rn_bind (e ρ) fun ds => z ds
theorem rn_goL {sp : List D → Option D} (e : RN fl hl) : RN (pGoL sp fl) (pGoL sp hl) := fun ρ => rn_bind (e ρ) fun _ => rn_bind rn_lift fun _ => rn_lift
theorem rn_not (e : RN c k) : RN (bNot c) (bNot k) := fun ρ => rn_bind (e ρ) fun _ => rn_ret
theorem rn_or (e : RN c k) (e2 : RN c2 k2) : RN (bOr c c2) (bOr k k2) := fun ρ => rn_bind (e ρ) fun b => by cases b with
  | true => exact rn_ret
  | false => exact e2 ρ
theorem rn_sl {q : D → Option Int → Option Int → Option α} {lo hi : Env → G (Option Int)} {lo2 hi2 : Env → NL (Option Int)} (e : RN f h) (e1 : RN lo lo2) (e2 : RN hi hi2) : RN (pSl q f lo hi) (pSl q h lo2 hi2) := fun ρ => rn_bind (e ρ) fun _ => rn_bind (e1 ρ) fun _ => rn_bind (e2 ρ) fun _ => rn_lift
theorem rn_part : RN (fun _ => (Md.ret none : G (Option Int))) (fun _ => (Md.ret none : NL (Option Int))) := fun _ => rn_ret
theorem rn_yes : RN (fun _ => (Md.ret true : G Bool)) (fun _ => (Md.ret true : NL Bool)) := fun _ => rn_ret
theorem rn_lcF {tg : Env → D → Option Env} (e : RN c k) (e2 : RN f h) (ρ : Env) : ∀ xs : List D, Rn (lcF tg c f ρ xs) (lcF tg k h ρ xs)
  | [] => rn_ret
  | d :: ds => rn_bind rn_lift fun ρ1 => rn_bind (e ρ1) fun b => by cases b with
    | true => exact rn_bind (e2 ρ1) fun _ => rn_bind (rn_lcF e e2 ρ ds) fun _ => rn_ret
    | false => exact rn_lcF e e2 ρ ds
theorem rn_lc {tg : Env → D → Option Env} {vs : List Nat} (e0 : RN fl hl) (e : RN c k) (e2 : RN f h) : RN (pLc fl tg c f vs) (pLc hl tg k h vs) := fun ρ => rn_bind (e0 ρ) fun xs => rn_bind rn_lift fun _ => rn_lcF e e2 _ xs
theorem rn_next : RN sNext sNext := fun _ => rn_ret
theorem rn_seq (e : RN s t) (e2 : RN s2 t2) : RN (sSeq s s2) (sSeq t t2) := fun ρ => rn_bind (e ρ) fun r => by cases r with
  | nx ρ' => exact e2 ρ'
  | _ => exact rn_ret
theorem rn_if (e : RN c k) (e1 : RN s t) (e2 : RN s2 t2) : RN (sIf c s s2) (sIf k t t2) := fun ρ => rn_bind (e ρ) fun b => by cases b with
  | true => exact e1 ρ
  | false => exact e2 ρ
theorem rn_sret (e : RN f h) : RN (sRet f) (sRet h) := fun ρ => rn_bind (e ρ) fun _ => rn_ret
theorem rn_set {i : Nat} (e : RN f h) : RN (sSet i f) (sSet i h) := fun ρ => rn_bind (e ρ) fun _ => rn_ret
theorem rn_setL {i : Nat} (e : RN fl hl) : RN (sSetL i fl) (sSetL i hl) := fun ρ => rn_bind (e ρ) fun _ => rn_ret
theorem rn_many {is : List Nat} (e : RN fl hl) : RN (sMany is fl) (sMany is hl) := fun ρ => rn_bind (e ρ) fun _ => rn_ret
theorem rn_loopF {tg : Env → D → Option Env} (e : RN s t) : ∀ (xs : List D) (ρ : Env), Rn (loopF tg s xs ρ) (loopF tg t xs ρ)
  | [], _ => rn_ret
  | d :: ds, ρ => rn_bind rn_lift fun ρ1 => rn_bind (e ρ1) fun r => by cases r with
    | nx ρ2 => exact rn_loopF e ds ρ2
    | ct ρ2 => exact rn_loopF e ds ρ2
    | bk ρ2 => exact rn_ret
    | rt d => exact rn_ret
theorem rn_for {tg : Env → D → Option Env} (e0 : RN fl hl) (e : RN s t) : RN (sFor fl tg s) (sFor hl tg t) := fun ρ => rn_bind (e0 ρ) fun xs => rn_loopF e xs ρ
theorem rn_app {i : Nat} (e : RN f h) : RN (sApp i f) (sApp i h) := fun ρ => rn_bind rn_lift fun _ => rn_bind (e ρ) fun _ => rn_bind rn_lift fun _ => rn_ret
theorem rn_put {i : Nat} (e : RN f h) (e2 : RN f2 h2) : RN (sPut i f f2) (sPut i h h2) := fun ρ => rn_bind rn_lift fun _ => rn_bind (e2 ρ) fun _ => rn_bind (e ρ) fun _ => rn_bind rn_lift fun _ => rn_ret
end
section
variable {fe : Env → G D} {he : Env → NL D} {s : Env → G Rs} {t : Env → NL Rs}
theorem rn_sF {c : Nat} (e : RN s t) : RN (sF c s) (sF c t) := fun ρ => rn_bind rn_lift fun _ => e _
theorem rn_areP {os : List LamP} {spec : List D → Option D} (e : RN fe he) : RN (pAreP os spec fe) (pAreP os spec he) := fun ρ => rn_bind (e ρ) fun _ => rn_bind rn_lift fun _ => rn_bind rn_lift fun _ => rn_bind rn_lift fun _ => rn_lift
theorem rn_heardP {o : LamP} {spec : List D → Option D} : RN (pHeardP o spec) (pHeardP o spec) := fun ρ => rn_bind rn_lift fun _ => rn_bind rn_lift fun _ => rn_lift
theorem w_nl {ρ : Env} {r : Rs} {g : Env → G Rs} {n : Env → NL Rs} {Q : Rs → Prop} (R : RN g n) (e : n ρ = some [r]) (q : Q r) : Md.wp (g ρ) Q := R ρ Q ⟨[r], e, fun a ha => by
  rw [List.mem_singleton.mp ha]
  exact q⟩
theorem w_nls {ρ : Env} {as : List Rs} {g : Env → G Rs} {n : Env → NL Rs} {Q : Rs → Prop} (R : RN g n) (e : n ρ = some as) (q : ∀ a ∈ as, Q a) : Md.wp (g ρ) Q := R ρ Q ⟨as, e, q⟩
theorem w_sF {c : Nat} {gs : Env → G Rs} {ρ : Env} {Q : Rs → Prop} (hc : c < ρ.length) (h : Md.wp (gs (ρ.set c none)) Q) : Md.wp (sF c gs ρ) Q := by
  unfold sF
  rw [if_pos hc, g_lift_ret, g_bind_ret]
  exact h
/-- a call that lets -/
abbrev letD : D := .fn "" [] []
theorem ocsP_cons {ρ : Env} {l : LamP} {ls : List LamP} {es : List D} (h : l.2 (capE l.1 ρ) = some letD) (t : ocsP ρ ls = some es) : ocsP ρ (l :: ls) = some (letD :: es) := by
  unfold ocsP
  rw [h, t]
  rfl
theorem u_areP {os : List LamP} {spec : List D → Option D} {fe : Env → G D} {ρ : Env} {due d : D} {ocs : List D} (h1 : fe ρ = Md.ret due) (h2 : noF1 due = some ()) (h3 : ocsP ρ os = some ocs) (h4 : spec [.lst ocs, due] = some d) (h5 : dFlat2 d = some d) : (pAreP os spec fe ρ : G D) = Md.ret d := by
  unfold pAreP
  rw [h1, g_bind_ret, h2, g_lift_ret, g_bind_ret, h3, g_lift_ret, g_bind_ret, h4]
  show Md.bind (Md.lift (some d) : G D) _ = _
  rw [g_lift_ret, g_bind_ret, h5, g_lift_ret]
end
end Pw
set_option linter.all false
set_option maxRecDepth 1000000
set_option maxHeartbeats 4000000
/-! F_k60: the law k60. -/
namespace Pw
open PySem PySem.Spec PyProof.Rows L2
def gA60_0 : Env → G Rs := (sFor (p1 D.items (pOf (pLst (aCons (pC .non) (aCons (pC (.bl true)) (aCons (pC (.int 0)) (aCons (p1 dNeg (pC (.int 2))) (aCons (pC (.int 1)) (aCons (pC (.int 3)) (aCons (pC (.int 23)) (aCons (pC (.int 25)) (aCons (pC (.int 26)) (aCons (pC (.int 999998)) (aCons (pC (.str "4")) (aCons (pOf (pLst (aCons (pC (.int 4)) aNil))) (aCons (pTup aNil) (aCons (pC (.dic [])) aNil))))))))))))))))) (tgName 1)
  (sIf (bNot (p1 dBl (pGo L_places_right (aCons (pVar 1) aNil))))
  (sRet (pC (.bl false)))
  sNext))
def nA60_0 : Env → NL Rs := (sFor (p1 D.items (pOf (pLst (aCons (pC .non) (aCons (pC (.bl true)) (aCons (pC (.int 0)) (aCons (p1 dNeg (pC (.int 2))) (aCons (pC (.int 1)) (aCons (pC (.int 3)) (aCons (pC (.int 23)) (aCons (pC (.int 25)) (aCons (pC (.int 26)) (aCons (pC (.int 999998)) (aCons (pC (.str "4")) (aCons (pOf (pLst (aCons (pC (.int 4)) aNil))) (aCons (pTup aNil) (aCons (pC (.dic [])) aNil))))))))))))))))) (tgName 1)
  (sIf (bNot (p1 dBl (pGo L_places_right (aCons (pVar 1) aNil))))
  (sRet (pC (.bl false)))
  sNext))
theorem rn60_0 : RN gA60_0 nA60_0 := by
  unfold gA60_0 nA60_0
  (repeat' (first   | exact rn_pVar _ | exact rn_pC _ | exact rn_nil | exact rn_next | exact rn_part | exact rn_yes | exact rn_heardP   | apply rn_seq | apply rn_if | apply rn_for | apply rn_set | apply rn_setL | apply rn_many | apply rn_sret | apply rn_app | apply rn_put | apply rn_sF | apply rn_areP   | apply rn_p1 | apply rn_p2 | apply rn_pA | apply rn_cons | apply rn_consL | apply rn_of | apply rn_lst | apply rn_tup | apply rn_kws | apply rn_go | apply rn_goL | apply rn_not | apply rn_or | apply rn_sl | apply rn_lc))
def gA60_2 : Env → G Rs := (sFor (p1 D.items (pOf (pLst (aCons (pC .non) (aCons (pC (.int 0)) (aCons (pC (.bl true)) (aCons (pC (.str "101")) (aCons (pC (.dic [])) (aCons (pOf (pLst aNil)) (aCons (pTup aNil) (aCons (pOf (pLst (aCons (pC (.int 1)) aNil))) (aCons (pOf (pLst (aCons (pC (.int 1)) (aCons (pC (.int 0)) aNil)))) (aCons (pOf (pLst (aCons (pC (.int 1)) (aCons (pC (.int 0)) (aCons (pC (.int 0)) (aCons (pC (.int 1)) aNil)))))) (aCons (pOf (pLst (aCons (pC (.int 1)) (aCons (pC (.bl true)) (aCons (pC (.int 1)) aNil))))) (aCons (pOf (pLst (aCons (pC (.int 1)) (aCons (pC (.str "0")) (aCons (pC (.int 1)) aNil))))) (aCons (pOf (pLst (aCons (pC (.int 1)) (aCons (pC .non) (aCons (pC (.int 1)) aNil))))) (aCons (pOf (pLst (aCons (pOf (pLst (aCons (pC (.int 1)) aNil))) (aCons (pC (.int 0)) (aCons (pC (.int 1)) aNil))))) (aCons (p2 dMul (pOf (pLst (aCons (pC (.int 0)) aNil))) (pC (.int 27))) (aCons (p2 dAdd (pVar 2) (pOf (pLst (aCons (pC (.bl false)) (aCons (pC (.int 1)) aNil))))) aNil))))))))))))))))))) (tgName 1)
  (sIf (bNot (p1 dBl (pGo L_lists_right_v3 (aCons (pVar 1) aNil))))
  (sRet (pC (.bl false)))
  sNext))
def nA60_2 : Env → NL Rs := (sFor (p1 D.items (pOf (pLst (aCons (pC .non) (aCons (pC (.int 0)) (aCons (pC (.bl true)) (aCons (pC (.str "101")) (aCons (pC (.dic [])) (aCons (pOf (pLst aNil)) (aCons (pTup aNil) (aCons (pOf (pLst (aCons (pC (.int 1)) aNil))) (aCons (pOf (pLst (aCons (pC (.int 1)) (aCons (pC (.int 0)) aNil)))) (aCons (pOf (pLst (aCons (pC (.int 1)) (aCons (pC (.int 0)) (aCons (pC (.int 0)) (aCons (pC (.int 1)) aNil)))))) (aCons (pOf (pLst (aCons (pC (.int 1)) (aCons (pC (.bl true)) (aCons (pC (.int 1)) aNil))))) (aCons (pOf (pLst (aCons (pC (.int 1)) (aCons (pC (.str "0")) (aCons (pC (.int 1)) aNil))))) (aCons (pOf (pLst (aCons (pC (.int 1)) (aCons (pC .non) (aCons (pC (.int 1)) aNil))))) (aCons (pOf (pLst (aCons (pOf (pLst (aCons (pC (.int 1)) aNil))) (aCons (pC (.int 0)) (aCons (pC (.int 1)) aNil))))) (aCons (p2 dMul (pOf (pLst (aCons (pC (.int 0)) aNil))) (pC (.int 27))) (aCons (p2 dAdd (pVar 2) (pOf (pLst (aCons (pC (.bl false)) (aCons (pC (.int 1)) aNil))))) aNil))))))))))))))))))) (tgName 1)
  (sIf (bNot (p1 dBl (pGo L_lists_right_v3 (aCons (pVar 1) aNil))))
  (sRet (pC (.bl false)))
  sNext))
theorem rn60_2 : RN gA60_2 nA60_2 := by
  unfold gA60_2 nA60_2
  (repeat' (first   | exact rn_pVar _ | exact rn_pC _ | exact rn_nil | exact rn_next | exact rn_part | exact rn_yes | exact rn_heardP   | apply rn_seq | apply rn_if | apply rn_for | apply rn_set | apply rn_setL | apply rn_many | apply rn_sret | apply rn_app | apply rn_put | apply rn_sF | apply rn_areP   | apply rn_p1 | apply rn_p2 | apply rn_pA | apply rn_cons | apply rn_consL | apply rn_of | apply rn_lst | apply rn_tup | apply rn_kws | apply rn_go | apply rn_goL | apply rn_not | apply rn_or | apply rn_sl | apply rn_lc))
def gA60_5 : Env → G Rs := (sFor (p1 D.items (pOf (pLst (aCons (pC .non) (aCons (pC (.int 0)) (aCons (pC (.bl true)) (aCons (pC (.str "1")) (aCons (pC (.dic [])) (aCons (pOf (pLst aNil)) (aCons (p2 dMul (pOf (pLst (aCons (pC (.int 1)) aNil))) (p2 dAdd (pVar 4) (pC (.int 1)))) (aCons (p2 dAdd (p2 dMul (pOf (pLst (aCons (pC (.int 0)) aNil))) (p2 dSub (pVar 4) (pC (.int 1)))) (pOf (pLst (aCons (pC (.bl true)) aNil)))) (aCons (p2 dAdd (p2 dMul (pOf (pLst (aCons (pC (.int 1)) aNil))) (p2 dSub (pVar 4) (pC (.int 1)))) (pOf (pLst (aCons (pC .non) aNil)))) (aCons (p2 dMul (pOf (pLst (aCons (pOf (pLst (aCons (pC (.int 1)) aNil))) aNil))) (pVar 4)) (aCons (p2 dMul (pOf (pLst (aCons (pC (.int 1)) aNil))) (pC (.int 13))) aNil)))))))))))))) (tgName 1)
  (sIf (bNot (p1 dBl (pGo L_numbers_right_v2 (aCons (pVar 3) (aCons (pVar 1) aNil)))))
  (sRet (pC (.bl false)))
  sNext))
def nA60_5 : Env → NL Rs := (sFor (p1 D.items (pOf (pLst (aCons (pC .non) (aCons (pC (.int 0)) (aCons (pC (.bl true)) (aCons (pC (.str "1")) (aCons (pC (.dic [])) (aCons (pOf (pLst aNil)) (aCons (p2 dMul (pOf (pLst (aCons (pC (.int 1)) aNil))) (p2 dAdd (pVar 4) (pC (.int 1)))) (aCons (p2 dAdd (p2 dMul (pOf (pLst (aCons (pC (.int 0)) aNil))) (p2 dSub (pVar 4) (pC (.int 1)))) (pOf (pLst (aCons (pC (.bl true)) aNil)))) (aCons (p2 dAdd (p2 dMul (pOf (pLst (aCons (pC (.int 1)) aNil))) (p2 dSub (pVar 4) (pC (.int 1)))) (pOf (pLst (aCons (pC .non) aNil)))) (aCons (p2 dMul (pOf (pLst (aCons (pOf (pLst (aCons (pC (.int 1)) aNil))) aNil))) (pVar 4)) (aCons (p2 dMul (pOf (pLst (aCons (pC (.int 1)) aNil))) (pC (.int 13))) aNil)))))))))))))) (tgName 1)
  (sIf (bNot (p1 dBl (pGo L_numbers_right_v2 (aCons (pVar 3) (aCons (pVar 1) aNil)))))
  (sRet (pC (.bl false)))
  sNext))
theorem rn60_5 : RN gA60_5 nA60_5 := by
  unfold gA60_5 nA60_5
  (repeat' (first   | exact rn_pVar _ | exact rn_pC _ | exact rn_nil | exact rn_next | exact rn_part | exact rn_yes | exact rn_heardP   | apply rn_seq | apply rn_if | apply rn_for | apply rn_set | apply rn_setL | apply rn_many | apply rn_sret | apply rn_app | apply rn_put | apply rn_sF | apply rn_areP   | apply rn_p1 | apply rn_p2 | apply rn_pA | apply rn_cons | apply rn_consL | apply rn_of | apply rn_lst | apply rn_tup | apply rn_kws | apply rn_go | apply rn_goL | apply rn_not | apply rn_or | apply rn_sl | apply rn_lc))
def gA60_6 : Env → G Rs := (sFor (p1 D.items (pOf (pLst (aCons (pC .non) (aCons (pOf (pLst aNil)) (aCons (pOf (pLst (aCons (pC (.int 1)) (aCons (pC (.int 2)) (aCons (pC (.int 3)) aNil))))) (aCons (pOf (pLst (aCons (pC (.bl true)) aNil))) (aCons (p2 dMul (pOf (pLst (aCons (pC (.int 1)) aNil))) (pC (.int 4))) aNil)))))))) (tgName 1)
  (sF 5 (sIf (bNot (p1 dBl (pAreP [([3, 1], oc_P_sums_fours_row_of_v4), ([1, 3], oc_P_sums_fours_row_of_v5)] L_are (pOf (pLst (aCons (pC (.str "numbers")) (aCons (pA dReprV (aCons (pVar 1) aNil)) (aCons (pC (.bl true)) aNil))))))))
  (sRet (pC (.bl false)))
  sNext)))
def nA60_6 : Env → NL Rs := (sFor (p1 D.items (pOf (pLst (aCons (pC .non) (aCons (pOf (pLst aNil)) (aCons (pOf (pLst (aCons (pC (.int 1)) (aCons (pC (.int 2)) (aCons (pC (.int 3)) aNil))))) (aCons (pOf (pLst (aCons (pC (.bl true)) aNil))) (aCons (p2 dMul (pOf (pLst (aCons (pC (.int 1)) aNil))) (pC (.int 4))) aNil)))))))) (tgName 1)
  (sF 5 (sIf (bNot (p1 dBl (pAreP [([3, 1], oc_P_sums_fours_row_of_v4), ([1, 3], oc_P_sums_fours_row_of_v5)] L_are (pOf (pLst (aCons (pC (.str "numbers")) (aCons (pA dReprV (aCons (pVar 1) aNil)) (aCons (pC (.bl true)) aNil))))))))
  (sRet (pC (.bl false)))
  sNext)))
theorem rn60_6 : RN gA60_6 nA60_6 := by
  unfold gA60_6 nA60_6
  (repeat' (first   | exact rn_pVar _ | exact rn_pC _ | exact rn_nil | exact rn_next | exact rn_part | exact rn_yes | exact rn_heardP   | apply rn_seq | apply rn_if | apply rn_for | apply rn_set | apply rn_setL | apply rn_many | apply rn_sret | apply rn_app | apply rn_put | apply rn_sF | apply rn_areP   | apply rn_p1 | apply rn_p2 | apply rn_pA | apply rn_cons | apply rn_consL | apply rn_of | apply rn_lst | apply rn_tup | apply rn_kws | apply rn_go | apply rn_goL | apply rn_not | apply rn_or | apply rn_sl | apply rn_lc))
def E60 (x1 x2 x3 x4 : Option D) : Env := [some .pot, x1, x2, x3, x4, none]
theorem k60_0 : nA60_0 (E60 none none none none) = some [.nx (E60 (some (.dic [])) none none none)] := by kernel_rfl
theorem k60_2_0 : nA60_2 (E60 (some (.dic [])) (some (.lst [.int 1, .int 0, .int 0])) none none) = some [.nx (E60 (some (.lst [.int 1, .int 0, .int 0, .bl false, .int 1])) (some (.lst [.int 1, .int 0, .int 0])) none none)] := by kernel_rfl
theorem k60_8_0 : oc_P_sums_sums [some (.lst [.int 1, .int 0, .int 0])] = some (.fn "" [] []) := by kernel_rfl
theorem k60_2_1 : nA60_2 (E60 (some (.dic [])) (some (.lst [.int 1, .int 0, .int 1])) none none) = some [.nx (E60 (some (.lst [.int 1, .int 0, .int 1, .bl false, .int 1])) (some (.lst [.int 1, .int 0, .int 1])) none none)] := by kernel_rfl
theorem k60_8_1 : oc_P_sums_sums [some (.lst [.int 1, .int 0, .int 1])] = some (.fn "" [] []) := by kernel_rfl
theorem k60_2_2 : nA60_2 (E60 (some (.dic [])) (some (.lst [.int 1, .int 0, .int 2])) none none) = some [.nx (E60 (some (.lst [.int 1, .int 0, .int 2, .bl false, .int 1])) (some (.lst [.int 1, .int 0, .int 2])) none none)] := by kernel_rfl
theorem k60_8_2 : oc_P_sums_sums [some (.lst [.int 1, .int 0, .int 2])] = some (.fn "" [] []) := by kernel_rfl
theorem k60_2_3 : nA60_2 (E60 (some (.dic [])) (some (.lst [.int 1, .int 0, .int 3])) none none) = some [.nx (E60 (some (.lst [.int 1, .int 0, .int 3, .bl false, .int 1])) (some (.lst [.int 1, .int 0, .int 3])) none none)] := by kernel_rfl
theorem k60_8_3 : oc_P_sums_sums [some (.lst [.int 1, .int 0, .int 3])] = some (.fn "" [] []) := by kernel_rfl
theorem k60_2_4 : nA60_2 (E60 (some (.dic [])) (some (.lst [.int 1, .int 0, .int 4])) none none) = some [.nx (E60 (some (.lst [.int 1, .int 0, .int 4, .bl false, .int 1])) (some (.lst [.int 1, .int 0, .int 4])) none none)] := by kernel_rfl
theorem k60_8_4 : oc_P_sums_sums [some (.lst [.int 1, .int 0, .int 4])] = some (.fn "" [] []) := by kernel_rfl
theorem k60_5_0 (x1 x2 : D) : nA60_5 (E60 (some x1) (some x2) (some (.int 2)) (some (.int 1))) = some [.nx (E60 (some (.lst [.int 1, .int 1, .int 1, .int 1, .int 1, .int 1, .int 1, .int 1, .int 1, .int 1, .int 1, .int 1, .int 1])) (some x2) (some (.int 2)) (some (.int 1)))] := by kernel_rfl
theorem k60_6_0 (x1 x2 : D) : nA60_6 (E60 (some x1) (some x2) (some (.int 2)) (some (.int 1))) = some [.nx (E60 (some (.lst [.int 1, .int 1, .int 1, .int 1])) (some x2) (some (.int 2)) (some (.int 1)))] := by kernel_rfl
theorem k60_9_0 : oc_P_sums_row_of_v5 [some (.int 2), some (.int 1)] = some (.fn "" [] []) := by kernel_rfl
theorem k60_5_1 (x1 x2 : D) : nA60_5 (E60 (some x1) (some x2) (some (.int 4)) (some (.int 1))) = some [.nx (E60 (some (.lst [.int 1, .int 1, .int 1, .int 1, .int 1, .int 1, .int 1, .int 1, .int 1, .int 1, .int 1, .int 1, .int 1])) (some x2) (some (.int 4)) (some (.int 1)))] := by kernel_rfl
theorem k60_6_1 (x1 x2 : D) : nA60_6 (E60 (some x1) (some x2) (some (.int 4)) (some (.int 1))) = some [.nx (E60 (some (.lst [.int 1, .int 1, .int 1, .int 1])) (some x2) (some (.int 4)) (some (.int 1)))] := by kernel_rfl
theorem k60_9_1 : oc_P_sums_row_of_v5 [some (.int 4), some (.int 1)] = some (.fn "" [] []) := by kernel_rfl
theorem k60_5_2 (x1 x2 : D) : nA60_5 (E60 (some x1) (some x2) (some (.int 6)) (some (.int 1))) = some [.nx (E60 (some (.lst [.int 1, .int 1, .int 1, .int 1, .int 1, .int 1, .int 1, .int 1, .int 1, .int 1, .int 1, .int 1, .int 1])) (some x2) (some (.int 6)) (some (.int 1)))] := by kernel_rfl
theorem k60_6_2 (x1 x2 : D) : nA60_6 (E60 (some x1) (some x2) (some (.int 6)) (some (.int 1))) = some [.nx (E60 (some (.lst [.int 1, .int 1, .int 1, .int 1])) (some x2) (some (.int 6)) (some (.int 1)))] := by kernel_rfl
theorem k60_9_2 : oc_P_sums_row_of_v5 [some (.int 6), some (.int 1)] = some (.fn "" [] []) := by kernel_rfl
theorem k60_5_3 (x1 x2 : D) : nA60_5 (E60 (some x1) (some x2) (some (.int 8)) (some (.int 2))) = some [.nx (E60 (some (.lst [.int 1, .int 1, .int 1, .int 1, .int 1, .int 1, .int 1, .int 1, .int 1, .int 1, .int 1, .int 1, .int 1])) (some x2) (some (.int 8)) (some (.int 2)))] := by kernel_rfl
theorem k60_6_3 (x1 x2 : D) : nA60_6 (E60 (some x1) (some x2) (some (.int 8)) (some (.int 2))) = some [.nx (E60 (some (.lst [.int 1, .int 1, .int 1, .int 1])) (some x2) (some (.int 8)) (some (.int 2)))] := by kernel_rfl
theorem k60_9_3 : oc_P_sums_row_of_v5 [some (.int 8), some (.int 2)] = some (.fn "" [] []) := by kernel_rfl
theorem k60_5_4 (x1 x2 : D) : nA60_5 (E60 (some x1) (some x2) (some (.int 10)) (some (.int 2))) = some [.nx (E60 (some (.lst [.int 1, .int 1, .int 1, .int 1, .int 1, .int 1, .int 1, .int 1, .int 1, .int 1, .int 1, .int 1, .int 1])) (some x2) (some (.int 10)) (some (.int 2)))] := by kernel_rfl
theorem k60_6_4 (x1 x2 : D) : nA60_6 (E60 (some x1) (some x2) (some (.int 10)) (some (.int 2))) = some [.nx (E60 (some (.lst [.int 1, .int 1, .int 1, .int 1])) (some x2) (some (.int 10)) (some (.int 2)))] := by kernel_rfl
theorem k60_9_4 : oc_P_sums_row_of_v5 [some (.int 10), some (.int 2)] = some (.fn "" [] []) := by kernel_rfl
theorem k60_5_5 (x1 x2 : D) : nA60_5 (E60 (some x1) (some x2) (some (.int 12)) (some (.int 2))) = some [.nx (E60 (some (.lst [.int 1, .int 1, .int 1, .int 1, .int 1, .int 1, .int 1, .int 1, .int 1, .int 1, .int 1, .int 1, .int 1])) (some x2) (some (.int 12)) (some (.int 2)))] := by kernel_rfl
theorem k60_6_5 (x1 x2 : D) : nA60_6 (E60 (some x1) (some x2) (some (.int 12)) (some (.int 2))) = some [.nx (E60 (some (.lst [.int 1, .int 1, .int 1, .int 1])) (some x2) (some (.int 12)) (some (.int 2)))] := by kernel_rfl
theorem k60_9_5 : oc_P_sums_row_of_v5 [some (.int 12), some (.int 2)] = some (.fn "" [] []) := by kernel_rfl
theorem k60_5_6 (x1 x2 : D) : nA60_5 (E60 (some x1) (some x2) (some (.int 14)) (some (.int 2))) = some [.nx (E60 (some (.lst [.int 1, .int 1, .int 1, .int 1, .int 1, .int 1, .int 1, .int 1, .int 1, .int 1, .int 1, .int 1, .int 1])) (some x2) (some (.int 14)) (some (.int 2)))] := by kernel_rfl
theorem k60_6_6 (x1 x2 : D) : nA60_6 (E60 (some x1) (some x2) (some (.int 14)) (some (.int 2))) = some [.nx (E60 (some (.lst [.int 1, .int 1, .int 1, .int 1])) (some x2) (some (.int 14)) (some (.int 2)))] := by kernel_rfl
theorem k60_9_6 : oc_P_sums_row_of_v5 [some (.int 14), some (.int 2)] = some (.fn "" [] []) := by kernel_rfl
theorem k60_5_7 (x1 x2 : D) : nA60_5 (E60 (some x1) (some x2) (some (.int 16)) (some (.int 3))) = some [.nx (E60 (some (.lst [.int 1, .int 1, .int 1, .int 1, .int 1, .int 1, .int 1, .int 1, .int 1, .int 1, .int 1, .int 1, .int 1])) (some x2) (some (.int 16)) (some (.int 3)))] := by kernel_rfl
theorem k60_6_7 (x1 x2 : D) : nA60_6 (E60 (some x1) (some x2) (some (.int 16)) (some (.int 3))) = some [.nx (E60 (some (.lst [.int 1, .int 1, .int 1, .int 1])) (some x2) (some (.int 16)) (some (.int 3)))] := by kernel_rfl
theorem k60_9_7 : oc_P_sums_row_of_v5 [some (.int 16), some (.int 3)] = some (.fn "" [] []) := by kernel_rfl
theorem k60_5_8 (x1 x2 : D) : nA60_5 (E60 (some x1) (some x2) (some (.int 18)) (some (.int 3))) = some [.nx (E60 (some (.lst [.int 1, .int 1, .int 1, .int 1, .int 1, .int 1, .int 1, .int 1, .int 1, .int 1, .int 1, .int 1, .int 1])) (some x2) (some (.int 18)) (some (.int 3)))] := by kernel_rfl
theorem k60_6_8 (x1 x2 : D) : nA60_6 (E60 (some x1) (some x2) (some (.int 18)) (some (.int 3))) = some [.nx (E60 (some (.lst [.int 1, .int 1, .int 1, .int 1])) (some x2) (some (.int 18)) (some (.int 3)))] := by kernel_rfl
theorem k60_9_8 : oc_P_sums_row_of_v5 [some (.int 18), some (.int 3)] = some (.fn "" [] []) := by kernel_rfl
theorem k60_5_9 (x1 x2 : D) : nA60_5 (E60 (some x1) (some x2) (some (.int 20)) (some (.int 3))) = some [.nx (E60 (some (.lst [.int 1, .int 1, .int 1, .int 1, .int 1, .int 1, .int 1, .int 1, .int 1, .int 1, .int 1, .int 1, .int 1])) (some x2) (some (.int 20)) (some (.int 3)))] := by kernel_rfl
theorem k60_6_9 (x1 x2 : D) : nA60_6 (E60 (some x1) (some x2) (some (.int 20)) (some (.int 3))) = some [.nx (E60 (some (.lst [.int 1, .int 1, .int 1, .int 1])) (some x2) (some (.int 20)) (some (.int 3)))] := by kernel_rfl
theorem k60_9_9 : oc_P_sums_row_of_v5 [some (.int 20), some (.int 3)] = some (.fn "" [] []) := by kernel_rfl
theorem k60_5_10 (x1 x2 : D) : nA60_5 (E60 (some x1) (some x2) (some (.int 22)) (some (.int 3))) = some [.nx (E60 (some (.lst [.int 1, .int 1, .int 1, .int 1, .int 1, .int 1, .int 1, .int 1, .int 1, .int 1, .int 1, .int 1, .int 1])) (some x2) (some (.int 22)) (some (.int 3)))] := by kernel_rfl
theorem k60_6_10 (x1 x2 : D) : nA60_6 (E60 (some x1) (some x2) (some (.int 22)) (some (.int 3))) = some [.nx (E60 (some (.lst [.int 1, .int 1, .int 1, .int 1])) (some x2) (some (.int 22)) (some (.int 3)))] := by kernel_rfl
theorem k60_9_10 : oc_P_sums_row_of_v5 [some (.int 22), some (.int 3)] = some (.fn "" [] []) := by kernel_rfl
theorem k60_5_11 (x1 x2 : D) : nA60_5 (E60 (some x1) (some x2) (some (.int 24)) (some (.int 4))) = some [.nx (E60 (some (.lst [.int 1, .int 1, .int 1, .int 1, .int 1, .int 1, .int 1, .int 1, .int 1, .int 1, .int 1, .int 1, .int 1])) (some x2) (some (.int 24)) (some (.int 4)))] := by kernel_rfl
theorem k60_6_11 (x1 x2 : D) : nA60_6 (E60 (some x1) (some x2) (some (.int 24)) (some (.int 4))) = some [.nx (E60 (some (.lst [.int 1, .int 1, .int 1, .int 1])) (some x2) (some (.int 24)) (some (.int 4)))] := by kernel_rfl
theorem k60_9_11 : oc_P_sums_row_of_v5 [some (.int 24), some (.int 4)] = some (.fn "" [] []) := by kernel_rfl
theorem k60_10 : oc_P_sums_fours_v2 [] = some (.fn "" [] []) := by kernel_rfl
theorem k60_11 : oc_P_limits_fours_limit_v4 [] = some (.fn "" [] []) := by kernel_rfl
theorem k60_12 : oc_P_limits_can_be_v3 [] = some (.fn "" [] []) := by kernel_rfl
theorem k60_13 : L_are [.lst (List.replicate 5 (.fn "" [] [])), .lst [.str "let"]] = some (.bl true) := by kernel_rfl
def gA60_7 : Env → G Rs := (sIf (bNot (p1 dBl (pGo L_eights_right (aCons (p2 dAdd (pC (.int 1)) (pGo S_draw (aCons (pVar 0) (aCons (pC (.int 12)) aNil)))) aNil))))
  (sRet (pC (.bl false)))
  sNext)
def nA60_7 : Env → NL Rs := (sIf (bNot (p1 dBl (pGo L_eights_right (aCons (p2 dAdd (pC (.int 1)) (pGo S_drawN (aCons (pVar 0) (aCons (pC (.int 12)) aNil)))) aNil))))
  (sRet (pC (.bl false)))
  sNext)
theorem rn60_7 : RN gA60_7 nA60_7 := by
  unfold gA60_7 nA60_7
  (repeat' (first   | exact rn_pVar _ | exact rn_pC _ | exact rn_nil | exact rn_next | exact rn_part | exact rn_yes | exact rn_heardP   | apply rn_seq | apply rn_if | apply rn_for | apply rn_set | apply rn_setL | apply rn_many | apply rn_sret | apply rn_app | apply rn_put | apply rn_sF | apply rn_areP   | apply rn_p1 | apply rn_p2 | apply rn_pA | apply rn_cons | apply rn_consL | apply rn_of | apply rn_lst | apply rn_tup | apply rn_kws | apply rn_goG rn_draw | apply rn_go | apply rn_goL | apply rn_not | apply rn_or | apply rn_sl | apply rn_lc))
theorem k60_7 (x1 x2 x3 x4 : D) : nA60_7 (E60 (some x1) (some x2) (some x3) (some x4)) = some (List.replicate 12 (.nx (E60 (some x1) (some x2) (some x3) (some x4)))) := by kernel_rfl
def gT60 : Env → G Rs := (sSeq gA60_5 (sSeq gA60_6 (sSeq gA60_7 (sF 5 (sRet (pAreP [([2], oc_P_sums_sums), ([], oc_P_sums_fours_v2), ([3, 4], oc_P_sums_row_of_v5), ([], oc_P_limits_fours_limit_v4), ([], oc_P_limits_can_be_v3)] L_are (pOf (pLst (aCons (pC (.str "let")) aNil)))))))))
theorem w_tail60 {x1 a5 a6 S : D} {n m : Int} (h8 : oc_P_sums_sums [some S] = some letD) (h5 : ∀ x1 x2 : D, nA60_5 (E60 (some x1) (some x2) (some (.int n)) (some (.int m))) = some [.nx (E60 (some a5) (some x2) (some (.int n)) (some (.int m)))])
    (h6 : ∀ x1 x2 : D, nA60_6 (E60 (some x1) (some x2) (some (.int n)) (some (.int m))) = some [.nx (E60 (some a6) (some x2) (some (.int n)) (some (.int m)))]) (h9 : oc_P_sums_row_of_v5 [some (.int n), some (.int m)] = some letD) :
    Md.wp (gT60 (E60 (some x1) (some S) (some (.int n)) (some (.int m)))) fun r => ∃ d, r = .rt d ∧ d = .bl true := by
  refine w_seqd (w_nl rn60_5 (h5 _ _) ⟨_, rfl, ?_⟩)
  refine w_seqd (w_nl rn60_6 (h6 _ _) ⟨_, rfl, ?_⟩)
  refine w_seqd (w_nls rn60_7 (k60_7 _ _ _ _) fun a ha => ⟨_, List.eq_of_mem_replicate ha, ?_⟩)
  refine w_sF (show 5 < 6 by decide) (w_ret (w_det (u_areP (due := .lst [.str "let"]) (ocs := List.replicate 5 letD) (u_of (u_lst (u_cons u_C u_nil) (by simp))) rfl (ocsP_cons h8 (ocsP_cons k60_10 (ocsP_cons h9 (ocsP_cons k60_11 (ocsP_cons k60_12 rfl))))) k60_13 rfl) ⟨_, rfl, rfl⟩))
theorem nMul60 (p : Nat) (hp : p < 12) : dMul (dN 2) (dN (1 + p)) = some (dN (2 * (1 + p))) := by
  rcases (show p = 0 ∨ p = 1 ∨ p = 2 ∨ p = 3 ∨ p = 4 ∨ p = 5 ∨ p = 6 ∨ p = 7 ∨ p = 8 ∨ p = 9 ∨ p = 10 ∨ p = 11 by omega) with rfl | rfl | rfl | rfl | rfl | rfl | rfl | rfl | rfl | rfl | rfl | rfl <;> rfl
theorem w_L_right_v76 : Md.wp (L_right_v76 [.pot]) fun d => d = .bl true := by
  refine w_run ?_
  refine w_seqd (w_nl rn60_0 k60_0 ⟨_, rfl, ?_⟩)
  refine w_seqd (w_set ?_)
  refine w_of (w_lst (w_cons (w_det u_C (w_cons (w_det u_C (w_cons ?_))))))
  refine w_draw (u_var rfl) u_C (n := 5) (by omega) (by omega) fun a ha => w_det u_nil ⟨by simp, _, rfl, ?_⟩
  obtain ⟨S, hS⟩ : ∃ S : D, S = .lst [.int 1, .int 0, dN a] := ⟨_, rfl⟩
  obtain ⟨S2, h2, h8⟩ : ∃ S2, nA60_2 (E60 (some (.dic [])) (some S) none none) = some [.nx (E60 (some S2) (some S) none none)] ∧ oc_P_sums_sums [some S] = some letD := by
    subst hS
    rcases (show a = 0 ∨ a = 1 ∨ a = 2 ∨ a = 3 ∨ a = 4 by omega) with rfl | rfl | rfl | rfl | rfl
    · exact ⟨_, k60_2_0, k60_8_0⟩
    · exact ⟨_, k60_2_1, k60_8_1⟩
    · exact ⟨_, k60_2_2, k60_8_2⟩
    · exact ⟨_, k60_2_3, k60_8_3⟩
    · exact ⟨_, k60_2_4, k60_8_4⟩
  rw [← hS]
  refine w_seqd (w_nl rn60_2 h2 ⟨_, rfl, ?_⟩)
  refine w_seqd (w_set (w_p2 (w_det u_C (w_p2 (w_det u_C (w_draw (u_var rfl) u_C (n := 12) (by omega) (by omega) fun p hp => ⟨dN (1 + p), nAdd 1 p, dN (2 * (1 + p)), nMul60 p hp, _, rfl, ?_⟩))))))
  rcases (show p = 0 ∨ p = 1 ∨ p = 2 ∨ p = 3 ∨ p = 4 ∨ p = 5 ∨ p = 6 ∨ p = 7 ∨ p = 8 ∨ p = 9 ∨ p = 10 ∨ p = 11 by omega) with rfl | rfl | rfl | rfl | rfl | rfl | rfl | rfl | rfl | rfl | rfl | rfl
  · exact w_seqd (w_set (w_det (u_p2 (u_p2 (u_var rfl) u_C rfl) u_C rfl) ⟨_, rfl, w_tail60 h8 k60_5_0 k60_6_0 k60_9_0⟩))
  · exact w_seqd (w_set (w_det (u_p2 (u_p2 (u_var rfl) u_C rfl) u_C rfl) ⟨_, rfl, w_tail60 h8 k60_5_1 k60_6_1 k60_9_1⟩))
  · exact w_seqd (w_set (w_det (u_p2 (u_p2 (u_var rfl) u_C rfl) u_C rfl) ⟨_, rfl, w_tail60 h8 k60_5_2 k60_6_2 k60_9_2⟩))
  · exact w_seqd (w_set (w_det (u_p2 (u_p2 (u_var rfl) u_C rfl) u_C rfl) ⟨_, rfl, w_tail60 h8 k60_5_3 k60_6_3 k60_9_3⟩))
  · exact w_seqd (w_set (w_det (u_p2 (u_p2 (u_var rfl) u_C rfl) u_C rfl) ⟨_, rfl, w_tail60 h8 k60_5_4 k60_6_4 k60_9_4⟩))
  · exact w_seqd (w_set (w_det (u_p2 (u_p2 (u_var rfl) u_C rfl) u_C rfl) ⟨_, rfl, w_tail60 h8 k60_5_5 k60_6_5 k60_9_5⟩))
  · exact w_seqd (w_set (w_det (u_p2 (u_p2 (u_var rfl) u_C rfl) u_C rfl) ⟨_, rfl, w_tail60 h8 k60_5_6 k60_6_6 k60_9_6⟩))
  · exact w_seqd (w_set (w_det (u_p2 (u_p2 (u_var rfl) u_C rfl) u_C rfl) ⟨_, rfl, w_tail60 h8 k60_5_7 k60_6_7 k60_9_7⟩))
  · exact w_seqd (w_set (w_det (u_p2 (u_p2 (u_var rfl) u_C rfl) u_C rfl) ⟨_, rfl, w_tail60 h8 k60_5_8 k60_6_8 k60_9_8⟩))
  · exact w_seqd (w_set (w_det (u_p2 (u_p2 (u_var rfl) u_C rfl) u_C rfl) ⟨_, rfl, w_tail60 h8 k60_5_9 k60_6_9 k60_9_9⟩))
  · exact w_seqd (w_set (w_det (u_p2 (u_p2 (u_var rfl) u_C rfl) u_C rfl) ⟨_, rfl, w_tail60 h8 k60_5_10 k60_6_10 k60_9_10⟩))
  · exact w_seqd (w_set (w_det (u_p2 (u_p2 (u_var rfl) u_C rfl) u_C rfl) ⟨_, rfl, w_tail60 h8 k60_5_11 k60_6_11 k60_9_11⟩))
theorem cut_one_v62 {α : Type} (f : α → D) (l : List α) : cutD (l.map f) none (some 1) = (l.take 1).map f := by
  unfold cutD
  have e : (1 : Int) = ((1 : Nat) : Int) := rfl
  rw [e, HT.sIx_nat, HT.sIx_none, List.drop_zero, Nat.sub_zero, List.map_take, List.length_map]
  rw [List.take_eq_take_iff, List.length_map]
  omega
theorem e_L_pot_v62 (ns : List Int) (k : Nat) (hk : k < 2) : ∃ a b : Int, L_pot_v62 [.scr ns, dN k] = some (.lst [.int a, .int b]) ∧ 0 ≤ a ∧ 0 ≤ b ∧ b < 2147483648 := by
  have core : ∀ c : Int, 0 ≤ c → 0 ≤ c % 2147483549 ∧ c % 2147483549 < 2147483549 := fun c hc => ⟨Int.emod_nonneg _ (by decide), Int.emod_lt_of_pos _ (by decide)⟩
  have fin : ∀ x : Int, 0 ≤ x % 2147483477 + 1 ∧ x % 2147483477 + 1 < 2147483648 := fun x => by
    have := Int.emod_nonneg x (show (2147483477 : Int) ≠ 0 by decide)
    have := Int.emod_lt_of_pos x (show (0 : Int) < 2147483477 by decide)
    omega
  have m1 := gMul_small (i := 311) (j := (k : Int)) (by decide) (by omega)
  have m2 := gMul_small (i := 2) (j := (k : Int)) (by decide) (by omega)
  obtain ⟨t, p3, ht⟩ : ∃ t : Int, gPow (2 * (k : Int) + 3) 3 = some t ∧ t.natAbs < 2 ^ 64 := by
    match k, hk with
    | 0, _ => exact ⟨27, by decide +kernel, by decide⟩
    | 1, _ => exact ⟨125, by decide +kernel, by decide⟩
  have ss := dSum_ints (ns.take 1)
  have sl : dSlU (.scr ns) none (some 1) = some (.lst ((ns.take 1).map D.int)) := by
    show some (D.lst (cutD (ns.map D.int) none (some 1))) = _
    rw [cut_one_v62]
  have mt : ∀ c : Int, 0 ≤ c → gMul (c % 2147483549 + 18353) t = some ((c % 2147483549 + 18353) * t) := fun c hc => gMul_small (by have := core c hc; omega) ht
  by_cases h : k < ns.length
  · have c := mt (gAbs ns[k]) (gAbs_nonneg _)
    have at0 : atI ns (k : Int) = some ns[k] := atI_scr h
    refine ⟨gMax 0 (gAbs ns[k] - 1000000000000000000), (gAbs ns[k] % 2147483549 + 18353) * t % 2147483477 + 1, ?_, gMax_nonneg _, (fin _).1, (fin _).2⟩
    simp [-int_lit, -List.map_take, L_pot_v62, ev_runD, f_L_pot_v62, m1, m2, c, p3, sl, ss, pow18, gMod_ok, h, at0, dN_int]
  · have c := mt (311 * (k : Int) + 241 + (ns.take 1).sum % 1000003) (by have := Int.emod_nonneg (ns.take 1).sum (show (1000003 : Int) ≠ 0 by decide); omega)
    refine ⟨gMax 0 (311 * (k : Int) + 241 + (ns.take 1).sum % 1000003 - 1000000000000000000), ((311 * (k : Int) + 241 + (ns.take 1).sum % 1000003) % 2147483549 + 18353) * t % 2147483477 + 1, ?_, gMax_nonneg _, (fin _).1, (fin _).2⟩
    simp [-int_lit, -List.map_take, L_pot_v62, ev_runD, f_L_pot_v62, m1, m2, c, p3, sl, ss, pow18, gMod_ok, h, dN_int]
theorem law_k60 (ns : List Int) : Md.wp (L_law_v76 [.scr ns]) fun d => d = .bl true := by
  obtain ⟨a, b, e, h1, h2, h3⟩ := e_L_pot_v62 ns 0 (by omega)
  have e : L_pot_v62 [.scr ns, .int 0] = some (.lst [.int a, .int b]) := e
  simp [-int_lit, L_law_v76, ev_runD, f_L_law_v76, e, isPot_ok h1 h2 h3]
  refine g_mono w_L_right_v76 fun d e => ?_
  subst e
  simp
end Pw
theorem PySem.Challenge.cw_owncontraries_k60_sums_refused_holds : PySem.Challenge.rw_owncontraries_k60_sums_refused.Holds :=
  Wk60.holds fun ns _ => Pw.law_k60 ns
