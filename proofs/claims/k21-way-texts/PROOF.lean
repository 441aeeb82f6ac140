import PyProof.Rows.All
import Wide.All
import OpenK.AllK
import Wide.FinOn
import KE.KStateDown
import HandS.ForMost
import HandS.ForExc
import HandS.More
import HandS.Flow
import HandS.IsInst
import HandS.ExcValue
import HandS.ExcIs
import HandS.ExcField
import HandS.ExcCtx
import HandS.Hot
import HandS.HotCalls
import HandS.SuiteRaise
import HandS.RaiseFrom
import HandS.ExcInit
import HandS.ExcInitHot
import HandS.Defaults
import HandS.HeadHook1
import HandS.TupAny
import HandS.TupMul
import HandS.TupLe
import HandS.Style
import PyProof.NeKinds
import PyProof.Rows.StrMul
import PyProof.Rows.SortShellAny
import KE.KExcIs
import KE.KDictSum
import KE.KDictList
import HandS.Conv
import HandS.ExcOwn
import KE.KEqDict
import HandS.HeadEnd
import PyProof.DictCopy
import HandS.TryOnly
import HandS.Set
import HandS.SetFor
import HandS.SetKeys
import HandS.HeadHook3
import HandS.Iter
import KE.KExcInit
import HandS.Flt
import HandS.ReplaceLit
import HandS.ListItems
import KE.KDictZip
import KE.KEqNest
import KE.KDictLaw
import KE.GoesRaise
import PySem.Challenge.RW_nestways_k21_whole_way_texts
import Lean
import HandS.Head0
import HandS.Head1
import HandS.Head2
import HandS.HeadHook2
import HandS.HeadHook4
set_option Elab.async false
set_option linter.all false
set_option maxRecDepth 100000
set_option maxHeartbeats 4000000
/-! Part A: plain data, how the abstract heap bears it, what a piece of code does to both. -/
namespace Nw
open PySem PySem.Spec L2
/-! ### results -/
inductive Cl where
  | NestError | BadThing | BadText | BadWay | NoWay | NoGo | Nothing | Clash | Apart
  deriving DecidableEq
def Cl.name : Cl → Str
  | .NestError => "NestError" | .BadThing => "BadThing" | .BadText => "BadText" | .BadWay => "BadWay" | .NoWay => "NoWay"
  | .NoGo => "NoGo" | .Nothing => "Nothing" | .Clash => "Clash" | .Apart => "Apart"
/-- plain data: lists and dicts as they stand (row, tab), lists that are only read (kro: the script, a module's own), errors held, things that change (obj) -/
inductive D where
  | non | bl (b : Bool) | int (i : Int) | str (x : Str) | row (xs : List D) | tup (xs : List D) | tab (kvs : List (Key × D)) | kro (xs : List D)
  | exc (c : Cl) (fs : List (Str × D)) | obj (k : Nat)
  deriving Inhabited
structure Xn where
  c : Cl
  fs : List (Str × D)
inductive Res (S α : Type) where
  | ok (a : α) (s : S) | exc (x : Xn) (s : S) | bot
abbrev M (S α : Type) := S → Res S α
def ret {S α : Type} (a : α) : M S α := fun s => .ok a s
def bot {S α : Type} : M S α := fun _ => .bot
def bnd {S α β : Type} (m : M S α) (k : α → M S β) : M S β := fun s => match m s with
  | .ok a s' => k a s'
  | .exc x s' => .exc x s'
  | .bot => .bot
def lift {S α : Type} : Option α → M S α
  | some a => ret a
  | none => bot
section
variable {S α β : Type}
@[simp] theorem ret_ap (a : α) (s : S) : ret a s = .ok a s := rfl
@[simp] theorem bot_ap (s : S) : (bot : M S α) s = .bot := rfl
theorem bnd_ok {m : M S α} {k : α → M S β} {s s' : S} {a : α} (h : m s = .ok a s') : bnd m k s = k a s' := by unfold bnd; rw [h]
theorem bnd_exc {m : M S α} {k : α → M S β} {s s' : S} {x : Xn} (h : m s = .exc x s') : bnd m k s = .exc x s' := by unfold bnd; rw [h]
theorem bnd_bot {m : M S α} {k : α → M S β} {s : S} (h : m s = .bot) : bnd m k s = .bot := by unfold bnd; rw [h]
@[simp] theorem bnd_ret (a : α) (k : α → M S β) : bnd (ret a) k = k a := rfl
@[simp] theorem bnd_bot' (k : α → M S β) : bnd bot k = bot := rfl
@[simp] theorem lift_some (a : α) : (lift (some a) : M S α) = ret a := rfl
@[simp] theorem lift_none : (lift none : M S α) = bot := rfl
end
/-- the slots of a def, by plain data -/
abbrev Sl := List (Option D)
/-- how a statement ends -/
inductive Flw where
  | next (r : Sl) | rt (d : D) | brk (r : Sl) | cnt (r : Sl) | thr (x : Xn) (r : Sl)
abbrev Mo (S : Type) := S → Option (Flw × S)
/-! ### what bears the data -/
/-- an error that is held: its class, its own dict -/
def ExH (cls : Value) (dd : Option Addr) (a : Addr) : HO := .ext fun h => ∃ oe : Obj, h.get? a = some oe ∧ Zc cls dd oe ∧ ∃ vs, oe.data = .fields vs
def kOk : Key → Prop
  | .inl _ => True
  | .inr x => x.length ≤ sizeLine
mutual
def Rep (K : PySem.W.Frag) (nm : Nat → Option Addr) (F : Hp) : D → V → Prop
  | .non, v => v = .non
  | .bl b, v => v = .bl b
  | .int i, v => v = .int i
  | .str x, v => v = .str x ∧ x.length ≤ sizeLine
  | .row ds, v => ∃ a vs, v = .ref a ∧ F a = some (.lst vs) ∧ ds.length ≤ sizeLine ∧ Reps K nm F ds vs
  | .tup ds, v => ∃ a vs, v = .ref a ∧ F a = some (.tup vs) ∧ ds.length ≤ sizeLine ∧ Reps K nm F ds vs
  | .tab kvs, v => ∃ a ws, v = .ref a ∧ F a = some (.dK ws) ∧ kvs.length ≤ sizeLine ∧ RepsK K nm F kvs ws
  | .kro ds, v => ∃ a vs, v = .ref a ∧ SqL K F a vs ∧ ds.length ≤ sizeLine ∧ Reps K nm F ds vs
  | .exc c fs, v => ∃ a dd, v = .ref a ∧ F a = some (ExH (.ref (He.ga K c.name)) dd a) ∧ ((fs = [] ∧ dd = none) ∨ ∃ d ws, dd = some d ∧ F d = some (.xd ws) ∧ RepsF K nm F fs ws)
  | .obj k, v => ∃ a, nm k = some a ∧ v = .ref a
def Reps (K : PySem.W.Frag) (nm : Nat → Option Addr) (F : Hp) : List D → List V → Prop
  | [], vs => vs = []
  | d :: ds, vs => ∃ v ws, vs = v :: ws ∧ Rep K nm F d v ∧ Reps K nm F ds ws
def RepsK (K : PySem.W.Frag) (nm : Nat → Option Addr) (F : Hp) : List (Key × D) → List (Key × V) → Prop
  | [], ws => ws = []
  | (k, d) :: r, ws => ∃ v ws', ws = (k, v) :: ws' ∧ kOk k ∧ Rep K nm F d v ∧ RepsK K nm F r ws'
def RepsF (K : PySem.W.Frag) (nm : Nat → Option Addr) (F : Hp) : List (Str × D) → List (Str × V) → Prop
  | [], ws => ws = []
  | (k, d) :: r, ws => ∃ v ws', ws = (k, v) :: ws' ∧ Rep K nm F d v ∧ RepsF K nm F r ws'
end
def RepX (K : PySem.W.Frag) (nm : Nat → Option Addr) (F : Hp) (x : Xn) (cls : Value) (dd : Option Addr) : Prop :=
  cls = .ref (He.ga K x.c.name) ∧ ((x.fs = [] ∧ dd = none) ∨ ∃ d ws, dd = some d ∧ F d = some (.xd ws) ∧ RepsF K nm F x.fs ws)
theorem sqL_mono {K : PySem.W.Frag} {F F' : Hp} (h : Same F F') {a : Addr} {vs : List V} (q : SqL K F a vs) : SqL K F' a vs := h.seq q
section
variable {K : PySem.W.Frag} {nm : Nat → Option Addr} {F F' : Hp}
mutual
theorem Rep.mono (h : Same F F') : ∀ {d : D} {v : V}, Rep K nm F d v → Rep K nm F' d v
  | .non, v, r => r
  | .bl b, v, r => r
  | .int i, v, r => r
  | .str x, v, r => r
  | .row ds, v, r => by
    obtain ⟨a, vs, e, hf, hz, hr⟩ := r
    exact ⟨a, vs, e, h _ _ hf, hz, Reps.mono h hr⟩
  | .tup ds, v, r => by
    obtain ⟨a, vs, e, hf, hz, hr⟩ := r
    exact ⟨a, vs, e, h _ _ hf, hz, Reps.mono h hr⟩
  | .tab kvs, v, r => by
    obtain ⟨a, vs, e, hf, hz, hr⟩ := r
    exact ⟨a, vs, e, h _ _ hf, hz, RepsK.mono h hr⟩
  | .kro ds, v, r => by
    obtain ⟨a, vs, e, hf, hz, hr⟩ := r
    exact ⟨a, vs, e, sqL_mono h hf, hz, Reps.mono h hr⟩
  | .exc c fs, v, r => by
    obtain ⟨a, dd, e, hf, hr⟩ := r
    refine ⟨a, dd, e, h _ _ hf, ?_⟩
    rcases hr with hr | ⟨d, ws, e1, e2, e3⟩
    · exact .inl hr
    · exact .inr ⟨d, ws, e1, h _ _ e2, RepsF.mono h e3⟩
  | .obj k, v, r => r
theorem Reps.mono (h : Same F F') : ∀ {ds : List D} {vs : List V}, Reps K nm F ds vs → Reps K nm F' ds vs
  | [], vs, r => r
  | d :: ds, vs, r => by
    obtain ⟨v, ws, e, h1, h2⟩ := r
    exact ⟨v, ws, e, Rep.mono h h1, Reps.mono h h2⟩
theorem RepsK.mono (h : Same F F') : ∀ {ds : List (Key × D)} {vs : List (Key × V)}, RepsK K nm F ds vs → RepsK K nm F' ds vs
  | [], vs, r => r
  | (k, d) :: ds, vs, r => by
    obtain ⟨v, ws, e, hk, h1, h2⟩ := r
    exact ⟨v, ws, e, hk, Rep.mono h h1, RepsK.mono h h2⟩
theorem RepsF.mono (h : Same F F') : ∀ {ds : List (Str × D)} {vs : List (Str × V)}, RepsF K nm F ds vs → RepsF K nm F' ds vs
  | [], vs, r => r
  | (k, d) :: ds, vs, r => by
    obtain ⟨v, ws, e, h1, h2⟩ := r
    exact ⟨v, ws, e, Rep.mono h h1, RepsF.mono h h2⟩
end
theorem RepX.mono (h : Same F F') {x : Xn} {cls : Value} {dd : Option Addr} (r : RepX K nm F x cls dd) : RepX K nm F' x cls dd := by
  obtain ⟨e, hr⟩ := r
  refine ⟨e, ?_⟩
  rcases hr with hr | ⟨d, ws, e1, e2, e3⟩
  · exact .inl hr
  · exact .inr ⟨d, ws, e1, h _ _ e2, e3.mono h⟩
theorem Reps.length : ∀ {ds : List D} {vs : List V}, Reps K nm F ds vs → vs.length = ds.length
  | [], vs, r => by rw [show vs = [] from r]; rfl
  | d :: ds, vs, r => by
    obtain ⟨v, ws, e, _, h2⟩ := r
    rw [e, List.length_cons, List.length_cons, h2.length]
theorem RepsK.length : ∀ {ds : List (Key × D)} {vs : List (Key × V)}, RepsK K nm F ds vs → vs.length = ds.length
  | [], vs, r => by rw [show vs = [] from r]; rfl
  | (k, d) :: ds, vs, r => by
    obtain ⟨v, ws, e, _, _, h2⟩ := r
    rw [e, List.length_cons, List.length_cons, h2.length]
theorem RepsK.get : ∀ {ds : List (Key × D)} {vs : List (Key × V)} {i : Nat} {k : Key} {d : D}, RepsK K nm F ds vs → ds[i]? = some (k, d) → ∃ v, vs[i]? = some (k, v) ∧ kOk k ∧ Rep K nm F d v
  | [], vs, i, k, d, r, e => by simp at e
  | (k, d) :: ds, vs, 0, k', d', r, e => by
    obtain ⟨v, ws, rfl, hk, h1, _⟩ := r
    have e' : (k, d) = (k', d') := by simpa using e
    cases e'
    exact ⟨v, rfl, hk, h1⟩
  | (k, d) :: ds, vs, i + 1, k', d', r, e => by
    obtain ⟨v, ws, rfl, _, _, h2⟩ := r
    obtain ⟨u, h3, h4⟩ := h2.get (i := i) (k := k') (d := d') (by simpa using e)
    exact ⟨u, by simpa using h3, h4⟩
theorem RepsK.keys : ∀ {ds : List (Key × D)} {vs : List (Key × V)}, RepsK K nm F ds vs → vs.map (·.1) = ds.map (·.1)
  | [], vs, r => by rw [show vs = [] from r]; rfl
  | (k, d) :: ds, vs, r => by
    obtain ⟨v, ws, rfl, _, _, h2⟩ := r
    rw [List.map_cons, List.map_cons, h2.keys]
theorem RepsK.vals : ∀ {ds : List (Key × D)} {vs : List (Key × V)}, RepsK K nm F ds vs → Reps K nm F (ds.map (·.2)) (vs.map (·.2))
  | [], vs, r => by rw [show vs = [] from r]; rfl
  | (k, d) :: ds, vs, r => by
    obtain ⟨v, ws, rfl, _, h1, h2⟩ := r
    exact ⟨v, _, rfl, h1, h2.vals⟩
theorem RepsK.kok : ∀ {ds : List (Key × D)} {vs : List (Key × V)}, RepsK K nm F ds vs → ∀ p ∈ ds, kOk p.1
  | [], vs, r, p, hp => by cases hp
  | (k, d) :: ds, vs, r, p, hp => by
    obtain ⟨v, ws, rfl, hk, _, h2⟩ := r
    rcases List.mem_cons.mp hp with rfl | hp
    · exact hk
    · exact h2.kok p hp
theorem Reps.get : ∀ {ds : List D} {vs : List V} {i : Nat} {d : D}, Reps K nm F ds vs → ds[i]? = some d → ∃ v, vs[i]? = some v ∧ Rep K nm F d v
  | [], vs, i, d, r, e => by simp at e
  | d :: ds, vs, 0, d', r, e => by
    obtain ⟨v, ws, rfl, h1, _⟩ := r
    have e' : d = d' := by simpa using e
    subst e'
    exact ⟨v, rfl, h1⟩
  | d :: ds, vs, i + 1, d', r, e => by
    obtain ⟨v, ws, rfl, _, h2⟩ := r
    obtain ⟨u, h3, h4⟩ := h2.get (i := i) (d := d') (by simpa using e)
    exact ⟨u, by simpa using h3, h4⟩
theorem Reps.get' : ∀ {ds : List D} {vs : List V} {i : Nat} {v : V}, Reps K nm F ds vs → vs[i]? = some v → ∃ d, ds[i]? = some d ∧ Rep K nm F d v := fun {ds vs i v} r e => by
  have hl := r.length
  have hi : i < ds.length := by
    have := (List.getElem?_eq_some_iff.mp e).1
    omega
  obtain ⟨u, h1, h2⟩ := r.get (List.getElem?_eq_getElem hi)
  rw [e] at h1
  cases h1
  exact ⟨_, List.getElem?_eq_getElem hi, h2⟩
theorem Reps.append : ∀ {ds es : List D} {vs ws : List V}, Reps K nm F ds vs → Reps K nm F es ws → Reps K nm F (ds ++ es) (vs ++ ws)
  | [], es, vs, ws, r, q => by rw [show vs = [] from r]; exact q
  | d :: ds, es, vs, ws, r, q => by
    obtain ⟨v, us, rfl, h1, h2⟩ := r
    exact ⟨v, us ++ ws, rfl, h1, h2.append q⟩
theorem Reps.take : ∀ {ds : List D} {vs : List V} (n : Nat), Reps K nm F ds vs → Reps K nm F (ds.take n) (vs.take n)
  | _, _, 0, _ => rfl
  | [], vs, n + 1, r => by rw [show vs = [] from r]; rfl
  | d :: ds, vs, n + 1, r => by
    obtain ⟨v, us, rfl, h1, h2⟩ := r
    exact ⟨v, us.take n, rfl, h1, h2.take n⟩
theorem Reps.drop : ∀ {ds : List D} {vs : List V} (n : Nat), Reps K nm F ds vs → Reps K nm F (ds.drop n) (vs.drop n)
  | _, _, 0, r => r
  | [], vs, n + 1, r => by rw [show vs = [] from r]; rfl
  | d :: ds, vs, n + 1, r => by
    obtain ⟨v, us, rfl, h1, h2⟩ := r
    exact h2.drop n
theorem Reps.reverse {ds : List D} {vs : List V} (r : Reps K nm F ds vs) : Reps K nm F ds.reverse vs.reverse := by
  induction ds generalizing vs with
  | nil => rw [show vs = [] from r]; rfl
  | cons d ds ih =>
    obtain ⟨v, us, rfl, h1, h2⟩ := r
    rw [List.reverse_cons, List.reverse_cons]
    exact (ih h2).append ⟨v, [], rfl, h1, rfl⟩
theorem reps_map {α : Type} {f : α → D} {g : α → V} (l : List α) (h : ∀ a ∈ l, Rep K nm F (f a) (g a)) : Reps K nm F (l.map f) (l.map g) := by
  induction l with
  | nil => rfl
  | cons a l ih => exact ⟨g a, l.map g, rfl, h a List.mem_cons_self, ih fun b hb => h b (List.mem_cons_of_mem _ hb)⟩
theorem reps_ints (ns : List Int) : Reps K nm F (ns.map D.int) (ns.map V.int) := reps_map ns fun _ _ => rfl
theorem reps_bls (ns : List Bool) : Reps K nm F (ns.map D.bl) (ns.map V.bl) := reps_map ns fun _ _ => rfl
end
/-! ### the world of a piece of code -/
structure Reg where
  K : PySem.W.Frag
  nm : Nat → Option Addr
  S : Type
  Mu : Addr → Prop
  SI : S → Hp → Prop
  loc : ∀ s H H', SI s H → (∀ a, Mu a → H' a = H a) → SI s H'
  dom : ∀ s H a, SI s H → Mu a → H a ≠ none
/-- nothing changes -/
abbrev R0 (K : PySem.W.Frag) (nm : Nat → Option Addr) : Reg := ⟨K, nm, Unit, fun _ => False, fun _ _ => True, fun _ _ _ h _ => h, fun _ _ _ _ h => h.elim⟩
/-- the law's list of draws, at T, is the thing number 0 -/
abbrev RT (K : PySem.W.Frag) (T : Addr) : Reg where
  K := K
  nm := fun k => if k = 0 then some T else none
  S := Nat
  Mu := fun a => a = T
  SI := fun n H => H T = some (.lst (List.replicate n (.int 0))) ∧ n ≤ sizeLine
  loc := fun n H H' h k => ⟨by rw [k T rfl]; exact h.1, h.2⟩
  dom := fun n H a h e => by rw [show a = T from e, h.1]; exact fun z => nomatch z
/-- F is borne by H (a dict may be locked) -/
def Sub (F H : Hp) : Prop := ∀ a o, F a = some o → H a = some o ∨ ∃ kvs ob, o = .dK kvs ∧ H a = some (.frz ob (.dK kvs))
structure Wd (R : Reg) (F H : Hp) (s : R.S) : Prop where
  sub : Sub F H
  mu : ∀ a, R.Mu a → F a = none
  si : R.SI s H
structure Stp (R : Reg) (F H F' H' : Hp) : Prop where
  fs : Same F F'
  hs : ∀ a o, ¬ R.Mu a → H a = some o → H' a = some o ∨ (F' a = some o ∧ ∃ kvs ob, o = .dK kvs ∧ H' a = some (.frz ob o))
  nw : ∀ a, F' a ≠ none → F a ≠ none ∨ H a = none
  th : ∀ a, H' a = none → H a = none
theorem Stp.refl {R : Reg} {F H : Hp} : Stp R F H F H := ⟨fun _ _ h => h, fun _ _ _ h => .inl h, fun _ h => .inl h, fun _ h => h⟩
theorem Stp.trans {R : Reg} {F H F1 H1 F2 H2 : Hp} (a : Stp R F H F1 H1) (b : Stp R F1 H1 F2 H2) : Stp R F H F2 H2 where
  fs := a.fs.trans b.fs
  hs := fun x o m h => by
    rcases a.hs x o m h with h | ⟨h1, kvs, ob, e, h2⟩
    · exact b.hs x o m h
    · rcases b.hs x _ m h2 with h3 | ⟨_, _, _, e3, _⟩
      · exact .inr ⟨b.fs _ _ h1, kvs, ob, e, h3⟩
      · cases e3
  nw := fun x h => by
    rcases b.nw x h with h | h
    · exact a.nw x h
    · exact .inr (a.th x h)
  th := fun x h => a.th x (b.th x h)
theorem Stp.own {R : Reg} {F H F' H' : Hp} (st : Stp R F H F' H') {a : Addr} {o : HO} (m : ¬ R.Mu a) (f : F a = none) (h : H a = some o) : H' a = some o := by
  rcases st.hs a o m h with h1 | ⟨h1, _⟩
  · exact h1
  · rcases st.nw a (by rw [h1]; exact fun z => nomatch z) with z | z
    · exact absurd f z
    · rw [h] at z; cases z
theorem Stp.nd {R : Reg} {F H F' H' : Hp} (st : Stp R F H F' H') {a : Addr} {o : HO} (m : ¬ R.Mu a) (n : ∀ kvs, o ≠ .dK kvs) (h : H a = some o) : H' a = some o := by
  rcases st.hs a o m h with h1 | ⟨_, kvs, _, e, _⟩
  · exact h1
  · exact absurd e (n kvs)
/-- a new object laid, into both -/
theorem Stp.new {R : Reg} {F H : Hp} {p : Addr} (o : HO) (hp : H p = none) (hF : F p = none) : Stp R F H (upd F p o) (upd H p o) where
  fs := fun b u q => by rw [upd_ne (ne_of_none q hF)]; exact q
  hs := fun b u _ q => by rw [upd_ne (ne_of_none q hp)]; exact .inl q
  nw := fun b h => by
    by_cases e : b = p
    · rw [e]; exact .inr hp
    · rw [upd_ne e] at h; exact .inl h
  th := fun b h => by
    by_cases e : b = p
    · rw [e, upd_same] at h; cases h
    · rw [upd_ne e] at h; exact h
/-- a new object laid, into the heap alone -/
theorem Stp.newH {R : Reg} {F H : Hp} {p : Addr} (o : HO) (hp : H p = none) : Stp R F H F (upd H p o) where
  fs := fun _ _ q => q
  hs := fun b u _ q => by rw [upd_ne (ne_of_none q hp)]; exact .inl q
  nw := fun b h => .inl h
  th := fun b h => by
    by_cases e : b = p
    · rw [e, upd_same] at h; cases h
    · rw [upd_ne e] at h; exact h
theorem Sub.free {F H : Hp} (h : Sub F H) {a : Addr} (e : H a = none) : F a = none := by
  cases q : F a with
  | none => rfl
  | some o =>
    rcases h a o q with z | ⟨_, _, _, z⟩ <;> rw [e] at z <;> cases z
theorem Wd.free {R : Reg} {F H : Hp} {s : R.S} (h : Wd R F H s) {a : Addr} (e : H a = none) : F a = none := h.sub.free e
theorem Wd.new {R : Reg} {F H : Hp} {s : R.S} (w : Wd R F H s) {p : Addr} (o : HO) (hp : H p = none) : Wd R (upd F p o) (upd H p o) s where
  sub := fun a u q => by
    by_cases e : a = p
    · rw [e, upd_same] at q; cases q; rw [e]; exact .inl upd_same
    · rw [upd_ne e] at q ⊢
      exact w.sub a u q
  mu := fun a m => by
    have ne : a ≠ p := fun e => w.si |> fun si => R.dom s H a si m (by rw [e]; exact hp)
    rw [upd_ne ne]; exact w.mu a m
  si := R.loc s H _ w.si fun a m => upd_ne fun e => R.dom s H a w.si m (by rw [e]; exact hp)
theorem Wd.newH {R : Reg} {F H : Hp} {s : R.S} (w : Wd R F H s) {p : Addr} (o : HO) (hp : H p = none) : Wd R F (upd H p o) s where
  sub := fun a u q => by
    have ne : a ≠ p := fun e => by rw [e, w.free hp] at q; cases q
    rw [upd_ne ne]
    exact w.sub a u q
  mu := w.mu
  si := R.loc s H _ w.si fun a m => upd_ne fun e => R.dom s H a w.si m (by rw [e]; exact hp)
theorem Sub.lst {F H : Hp} (h : Sub F H) {a : Addr} {xs : List V} (e : F a = some (.lst xs)) : H a = some (.lst xs) := by
  rcases h a _ e with z | ⟨_, _, z, _⟩
  · exact z
  · cases z
theorem Sub.tup {F H : Hp} (h : Sub F H) {a : Addr} {xs : List V} (e : F a = some (.tup xs)) : H a = some (.tup xs) := by
  rcases h a _ e with z | ⟨_, _, z, _⟩
  · exact z
  · cases z
theorem Sub.dK {F H : Hp} (h : Sub F H) {a : Addr} {xs : List (Key × V)} (e : F a = some (.dK xs)) : Rd H a (.dK xs) := by
  rcases h a _ e with z | ⟨_, ob, z, q⟩
  · exact .inl z
  · cases z; exact .inr ⟨ob, q⟩
theorem Sub.sqL {K : PySem.W.Frag} {F H : Hp} (h : Sub F H) {a : Addr} {xs : List V} (e : SqL K F a xs) : SqL K H a xs := by
  rcases e with (e | ⟨o, e⟩) | e
  · exact .inl (.inl (h.lst e))
  · rcases h a _ e with z | ⟨_, _, z, _⟩
    · exact .inl (.inr ⟨o, z⟩)
    · cases z
  · exact .inr e
/-! ### what is wanted behind a computation -/
def Post {α : Type} (R : Reg) (F H : Hp) (r : Res R.S α) (k : α → R.S → Hp → Hp → Prop) (x : Xn → R.S → Hp → Hp → Prop) : Prop := match r with
  | .ok a s => ∀ F' H', Wd R F' H' s → Stp R F H F' H' → k a s F' H'
  | .exc e s => ∀ F' H', Wd R F' H' s → Stp R F H F' H' → x e s F' H'
  | .bot => False
section
variable {α β : Type} {R : Reg} {F H F1 H1 : Hp} {k : α → R.S → Hp → Hp → Prop} {x : Xn → R.S → Hp → Hp → Prop}
theorem Post.from {r : Res R.S α} (h : Post R F H r k x) (st : Stp R F H F1 H1) : Post R F1 H1 r k x := by
  cases r with
  | ok a s => exact fun F' H' w q => h F' H' w (st.trans q)
  | exc e s => exact fun F' H' w q => h F' H' w (st.trans q)
  | bot => exact h
theorem Post.imp {r : Res R.S α} {k' : α → R.S → Hp → Hp → Prop} {x' : Xn → R.S → Hp → Hp → Prop} (h : Post R F H r k x) (hk : ∀ a s F' H', Wd R F' H' s → Stp R F H F' H' → k a s F' H' → k' a s F' H') (hx : ∀ a s F' H', Wd R F' H' s → Stp R F H F' H' → x a s F' H' → x' a s F' H') : Post R F H r k' x' := by
  cases r with
  | ok a s => exact fun F' H' w q => hk a s F' H' w q (h F' H' w q)
  | exc e s => exact fun F' H' w q => hx e s F' H' w q (h F' H' w q)
  | bot => exact h
theorem Post.bnd {m : M R.S α} {n : α → M R.S β} {s : R.S} {k : β → R.S → Hp → Hp → Prop} (h : Post R F H (Nw.bnd m n s) k x) : Post R F H (m s) (fun a s1 F1 H1 => Post R F1 H1 (n a s1) k x) x := by
  unfold Nw.bnd at h
  cases e : m s with
  | ok a s1 => rw [e] at h; exact fun F' H' w q => Post.from h q
  | exc a s1 => rw [e] at h; exact h
  | bot => rw [e] at h; exact h
theorem Post.lift {o : Option α} {s : R.S} (h : Post R F H (Nw.lift o s) k x) : ∃ a, o = some a ∧ ∀ F' H', Wd R F' H' s → Stp R F H F' H' → k a s F' H' := by
  cases o with
  | none => exact False.elim h
  | some a => exact ⟨a, rfl, h⟩
theorem Post.ret {a : α} {s : R.S} (h : Post R F H (Nw.ret a s) k x) (w : Wd R F H s) : k a s F H := h F H w Stp.refl
end
/-- the slots that hold plain data; those in O are the def's own things, read by other rules -/
structure Pu (R : Reg) (O : List Nat) (F : Hp) (σ : St) (r : Sl) : Prop where
  len : r.length = σ.length
  at_ : ∀ i d, i ∉ O → r[i]? = some (some d) → ∃ v, σ[i]? = some (some v) ∧ Rep R.K R.nm F d v
theorem Pu.mono {R : Reg} {O : List Nat} {F F' : Hp} {σ : St} {r : Sl} (h : Pu R O F σ r) (s : Same F F') : Pu R O F' σ r := ⟨h.len, fun i d hi e => by
  obtain ⟨v, h1, h2⟩ := h.at_ i d hi e
  exact ⟨v, h1, h2.mono s⟩⟩
section
variable (R : Reg) (W : WX) (O : List Nat)
/-- an expression computes f -/
def tD (f : Sl → M R.S D) : TE := fun σ H Q => ∃ F r s, Wd R F H s ∧ Pu R O F σ r ∧ Post R F H (f r s) (fun d _ F' H' => ∀ v, Rep R.K R.nm F' d v → Q v H') (fun x _ F' H' => ∀ cls dd, RepX R.K R.nm F' x cls dd → W cls dd σ H')
def tDT (f : Sl → M R.S Bool) : TT := fun σ H Q => ∃ F r s, Wd R F H s ∧ Pu R O F σ r ∧ Post R F H (f r s) (fun b _ _ H' => Q b H') (fun x _ F' H' => ∀ cls dd, RepX R.K R.nm F' x cls dd → W cls dd σ H')
def tDA (f : Sl → M R.S (List D)) : TA := fun σ H Q => ∃ F r s, Wd R F H s ∧ Pu R O F σ r ∧ Post R F H (f r s) (fun ds _ F' H' => ∀ vs, Reps R.K R.nm F' ds vs → Q vs H') (fun x _ F' H' => ∀ cls dd, RepX R.K R.nm F' x cls dd → W cls dd σ H')
end
/-! ### weaker readings -/
section
variable {X : Cx}
theorem pe_imp {e : Expr} {t t' : TE} (h : PE X e t) (k : ∀ σ H Q, t' σ H Q → t σ H Q) : PE X e t' := ⟨fun pins s σ H Q I q => h.run pins s σ H Q I (k σ H Q q)⟩
theorem pt_imp {e : Expr} {t t' : TT} (h : PT X e t) (k : ∀ σ H Q, t' σ H Q → t σ H Q) : PT X e t' := ⟨fun pins s σ H Q I q => h.run pins s σ H Q I (k σ H Q q)⟩
theorem pw_imp {e : Expr} {t t' : TT} (h : PW X e t) (k : ∀ σ H Q, t' σ H Q → t σ H Q) : PW X e t' := ⟨fun wh pins s σ H Q I q => h.run wh pins s σ H Q I (k σ H Q q)⟩
theorem pa_imp {e : List Expr} {t t' : TA} (h : PA X e t) (k : ∀ σ H Q, t' σ H Q → t σ H Q) : PA X e t' := ⟨fun pos pins s σ H Q I q => h.run pos pins s σ H Q I (k σ H Q q)⟩
theorem ps_imp {e : Stmt} {t t' : TS} (h : PS X e t) (k : ∀ D σ H, t' D σ H → t D σ H) : PS X e t' := ⟨fun pins s σ H D I q => h.run pins s σ H D I (k D σ H q)⟩
theorem pss_imp {e : List Stmt} {t t' : TS} (h : PSs X e t) (k : ∀ D σ H, t' D σ H → t D σ H) : PSs X e t' := ⟨fun pins s σ H D I q => h.run pins s σ H D I (k D σ H q)⟩
theorem pi_imp {tg e : Expr} {t t' : TI} (h : PI X tg e t) (k : ∀ σ H Q, t' σ H Q → t σ H Q) : PI X tg e t' := ⟨fun pins s σ H Q I q => h.run pins s σ H Q I (k σ H Q q)⟩
theorem pe_or2 {e : Expr} {t t' : TE} (h : PE X e t) (h' : PE X e t') : PE X e (fun σ H Q => t σ H Q ∨ t' σ H Q) := ⟨fun pins s σ H Q I q => q.elim (h.run pins s σ H Q I) (h'.run pins s σ H Q I)⟩
theorem ps_or2 {e : Stmt} {t t' : TS} (h : PS X e t) (h' : PS X e t') : PS X e (fun D σ H => t D σ H ∨ t' D σ H) := ⟨fun pins s σ H D I q => q.elim (h.run pins s σ H D I) (h'.run pins s σ H D I)⟩
theorem pi_or2 {tg e : Expr} {t t' : TI} (h : PI X tg e t) (h' : PI X tg e t') : PI X tg e (fun σ H Q => t σ H Q ∨ t' σ H Q) := ⟨fun pins s σ H Q I q => q.elim (h.run pins s σ H Q I) (h'.run pins s σ H Q I)⟩
end
end Nw
set_option Elab.async false
set_option linter.all false
set_option maxRecDepth 100000
set_option maxHeartbeats 4000000
/-! Part B: expressions. -/
namespace Nw
open PySem PySem.Spec L2
/-! ### what the pieces compute -/
section
variable {S : Type}
def getS (r : Sl) (i : Nat) : Option D := (r[i]?).join
def dVar (i : Nat) : Sl → M S D := fun r => lift (getS r i)
def dC (d : D) : Sl → M S D := fun _ => ret d
def dUn (op : D → Option D) (f : Sl → M S D) : Sl → M S D := fun r => bnd (f r) fun x => lift (op x)
def dOp (op : D → D → Option D) (f g : Sl → M S D) : Sl → M S D := fun r => bnd (f r) fun x => bnd (g r) fun y => lift (op x y)
def dNil : Sl → M S (List D) := fun _ => ret []
def dCons (f : Sl → M S D) (g : Sl → M S (List D)) : Sl → M S (List D) := fun r => bnd (f r) fun x => bnd (g r) fun xs => ret (x :: xs)
def dAll (op : List D → Option D) (f : Sl → M S (List D)) : Sl → M S D := fun r => bnd (f r) fun xs => lift (op xs)
def dCall (n : Nat) (g : List D → M S D) (f : Sl → M S (List D)) : Sl → M S D := fun r => bnd (f r) fun xs => if xs.length = n then g xs else bot
def dTst (f : Sl → M S D) (tr : D → Option Bool) : Sl → M S Bool := fun r => bnd (f r) fun x => lift (tr x)
def dIf (c : Sl → M S Bool) (f g : Sl → M S D) : Sl → M S D := fun r => bnd (c r) fun b => if b = true then f r else g r
def tAndD (c e : Sl → M S Bool) : Sl → M S Bool := fun r => bnd (c r) fun b => if b = true then e r else ret false
def tOrD (c e : Sl → M S Bool) : Sl → M S Bool := fun r => bnd (c r) fun b => if b = true then ret true else e r
def tNotD (c : Sl → M S Bool) : Sl → M S Bool := fun r => bnd (c r) fun b => ret (!b)
end
/-- a value's truth -/
def truD : D → Option Bool
  | .non => some false
  | .bl b => some b
  | .int i => some (i != 0)
  | .str x => some ((x.length : Int) != 0)
  | .row xs => some (!xs.isEmpty)
  | .tup xs => some (!xs.isEmpty)
  | .tab xs => some (!xs.isEmpty)
  | .kro xs => some (!xs.isEmpty)
  | _ => none
def isBl : D → Option Bool
  | .bl b => some b
  | _ => none
section
variable {S : Type}
/-- a and b, a or b, not a as values -/
def dAnd (f g : Sl → M S D) : Sl → M S D := fun r => bnd (f r) fun x => bnd (lift (truD x)) fun b => if b = true then g r else ret x
def dOr (f g : Sl → M S D) : Sl → M S D := fun r => bnd (f r) fun x => bnd (lift (truD x)) fun b => if b = true then ret x else g r
end
def notD (x : D) : Option D := (truD x).map fun b => .bl (!b)
section
variable {X : Cx} {R : Reg} {W : WX} {O : List Nat}
/-! ### names and constants -/
theorem getS_some {r : Sl} {i : Nat} {d : D} (h : getS r i = some d) : r[i]? = some (some d) := by
  unfold getS at h
  cases e : r[i]? with
  | none => rw [e] at h; cases h
  | some o => rw [e] at h; exact congrArg some h
theorem de_var (i : Nat) {x : Str} {pos : Pos} (hO : i ∉ O) (hN : X.N[i]? = some x := by rfl) (hv : Vis X.env.scope x := by first | exact Or.inl rfl | exact Or.inr (Or.inl rfl) | exact Or.inr (Or.inr rfl)) (hd : (x == ("__debug__" : Str)) = false := by decide)
    (hcd : (x == ("__classdict__" : Str)) = false := by decide) : PE X (.Name x pos) (tD R W O (dVar i)) := pe_imp (pe_var hN hv hd hcd) fun σ H Q h => by
  obtain ⟨F, r, s, w, pu, p⟩ := h
  obtain ⟨d, e, k⟩ := p.lift
  obtain ⟨v, h1, h2⟩ := pu.at_ i d hO (getS_some e)
  exact ⟨v, h1, k F H w Stp.refl v h2⟩
theorem de_c {e : Expr} {v : V} (d : D) (h : PE X e (tC v)) (hr : ∀ F, Rep R.K R.nm F d v) : PE X e (tD R W O (dC d)) := pe_imp h fun σ H Q h => by
  obtain ⟨F, r, s, w, pu, p⟩ := h
  exact p F H w Stp.refl v (hr F)
theorem de_int {i j pos} : PE X (.Constant (.int i) j pos) (tD R W O (dC (.int i))) := de_c _ pe_int fun _ => rfl
theorem de_bl {i j pos} : PE X (.Constant (.bool i) j pos) (tD R W O (dC (.bl i))) := de_c _ pe_bl fun _ => rfl
theorem de_non {j pos} : PE X (.Constant .none j pos) (tD R W O (dC .non)) := de_c _ pe_non fun _ => rfl
theorem de_str {i j pos} (h : i.length ≤ sizeLine := by decide +kernel) : PE X (.Constant (.str i) j pos) (tD R W O (dC (.str i))) := de_c _ pe_str fun _ => ⟨rfl, h⟩
/-- a module's number, text, list -/
theorem de_gint {x : Str} {i : Int} {pos : Pos} (hg : Gl X x) (hm : ∃ t, X.mg x = some (.int i t)) (hd : (x == ("__debug__" : Str)) = false := by decide) : PE X (.Name x pos) (tD R W O (dC (.int i))) := by
  obtain ⟨t, hm⟩ := hm
  exact de_c _ (pe_glob (v := .int i) hg hm ⟨t, rfl⟩ hd) fun _ => rfl
theorem de_gstr {x z : Str} {pos : Pos} (hg : Gl X x) (hm : ∃ t, X.mg x = some (.str z t)) (hz : z.length ≤ sizeLine := by decide +kernel) (hd : (x == ("__debug__" : Str)) = false := by decide) : PE X (.Name x pos) (tD R W O (dC (.str z))) := by
  obtain ⟨t, hm⟩ := hm
  exact de_c _ (pe_glob (v := .str z) hg hm ⟨t, rfl⟩ hd) fun _ => ⟨rfl, hz⟩
/-! ### operators -/
def OpSat (R : Reg) (r : R2) (op : D → D → Option D) : Prop := ∀ (x y : V) (d e d' : D) (F H : Hp) (s : R.S) (Q : VK), Wd R F H s → Rep R.K R.nm F d x → Rep R.K R.nm F e y → op d e = some d' →
  (∀ v F' H', Wd R F' H' s → Stp R F H F' H' → Rep R.K R.nm F' d' v → Q v H') → r x y H Q
variable {a b e : Expr} {f g : Sl → M R.S D} {pos : Pos}
theorem sat_op {r : R2} {op : D → D → Option D} (hs : OpSat R r op) (σ : L2.St) (H : Hp) (Q : VK) (h : tD R W O (dOp op f g) σ H Q) : tOp r (tD R W O f) (tD R W O g) σ H Q := by
  obtain ⟨F, ρ, s, w, pu, p⟩ := h
  refine ⟨F, ρ, s, w, pu, p.bnd.imp (fun d s1 F1 H1 w1 st1 p1 v rv => ?_) fun _ _ _ _ _ _ z => z⟩
  refine ⟨F1, ρ, s1, w1, pu.mono st1.fs, p1.bnd.imp (fun e s2 F2 H2 w2 st2 p2 u ru => ?_) fun _ _ _ _ _ _ z => z⟩
  obtain ⟨d', e', k⟩ := p2.lift
  exact hs v u d e d' F2 H2 s2 Q w2 (rv.mono st2.fs) ru e' fun v' F' H' w' st' r' => k F' H' w' st' v' r'
theorem de_op {o : Operator} {r : R2} {op : D → D → Option D} (ho : OpR X (binaryOp o) r) (hs : OpSat R r op) (ha : PE X a (tD R W O f)) (hb : PE X b (tD R W O g)) : PE X (.BinOp a o b pos) (tD R W O (dOp op f g)) :=
  pe_imp (pe_op ho ha hb) (sat_op hs)
theorem de_cmp {o : CmpOp} {r : R2} {op : D → D → Option D} (ho : OpR X (compareOp o) r) (hs : OpSat R r op) (ha : PE X a (tD R W O f)) (hb : PE X b (tD R W O g)) (hm : behindInMarks o b = false) : PE X (.Compare a [o] [b] pos) (tD R W O (dOp op f g)) :=
  pe_imp (pe_cmpR ho ha hb hm) (sat_op hs)
theorem dt_cmp {o : CmpOp} {r : R2} {op : D → D → Option D} (ho : OpR X (compareOp o) r) (hs : OpSat R r op) (ha : PE X a (tD R W O f)) (hb : PE X b (tD R W O g)) (hm : behindInMarks o b = false) : PT X (.Compare a [o] [b] pos) (tDT R W O (dTst (dOp op f g) isBl)) :=
  pt_imp (pt_cmpR ho ha hb hm) fun σ H Q h => by
    obtain ⟨F, ρ, s, w, pu, p⟩ := h
    refine sat_op hs σ H _ ⟨F, ρ, s, w, pu, p.bnd.imp (fun d s1 F1 H1 w1 st1 p1 v rv => ?_) fun _ _ _ _ _ _ z => z⟩
    obtain ⟨c, ec, k⟩ := p1.lift
    cases d <;> try cases ec
    exact ⟨_, rv, k F1 H1 w1 Stp.refl⟩
theorem OpSat.or {r r' : R2} {op op' : D → D → Option D} (h : OpSat R r op) (h' : OpSat R r' op') : OpSat R (fun x y H Q => r x y H Q ∨ r' x y H Q) (fun d e => (op d e).or (op' d e)) := fun x y d e d' F H s Q w rx ry eo k => by
  have eo : (op d e).or (op' d e) = some d' := eo
  cases q : op d e with
  | some z =>
    rw [q] at eo
    exact .inl (h x y d e d' F H s Q w rx ry (by rw [q]; exact eo) k)
  | none =>
    rw [q] at eo
    exact .inr (h' x y d e d' F H s Q w rx ry eo k)
/-! ### unary -/
def UnSat (R : Reg) (r : V → Hp → VK → Prop) (op : D → Option D) : Prop := ∀ (x : V) (d d' : D) (F H : Hp) (s : R.S) (Q : VK), Wd R F H s → Rep R.K R.nm F d x → op d = some d' →
  (∀ v F' H', Wd R F' H' s → Stp R F H F' H' → Rep R.K R.nm F' d' v → Q v H') → r x H Q
theorem de_un {o : UnaryOp} {r : V → Hp → VK → Prop} {op : D → Option D} (ho : UnR X (unaryOp o) r) (hs : UnSat R r op) (ha : PE X a (tD R W O f)) : PE X (.UnaryOp o a pos) (tD R W O (dUn op f)) :=
  pe_imp (pe_un ho ha) fun σ H Q h => by
    obtain ⟨F, ρ, s, w, pu, p⟩ := h
    refine ⟨F, ρ, s, w, pu, p.bnd.imp (fun d s1 F1 H1 w1 st1 p1 v rv => ?_) fun _ _ _ _ _ _ z => z⟩
    obtain ⟨d', e', k⟩ := p1.lift
    exact hs v d d' F1 H1 s1 Q w1 rv e' fun v' F' H' w' st' r' => k F' H' w' st' v' r'
def negD : D → Option D
  | .int i => some (.int (-i))
  | _ => none
theorem sat_neg : UnSat R (rU fun i => .int (-i)) negD := fun x d d' F H s Q w rx e k => by
  cases d <;> try cases e
  exact ⟨_, rx, k _ F H w Stp.refl rfl⟩
theorem de_neg (ha : PE X a (tD R W O f)) : PE X (.UnaryOp .USub a pos) (tD R W O (dUn negD f)) := de_un un_neg sat_neg ha
/-! ### truth -/
def TruW (K : PySem.W.Frag) (x : V) (H : Hp) (k : Bool) : Prop := TruV K x H k ∨ ∃ p kvs, x = .ref p ∧ Rd H p (.dK kvs) ∧ k = !kvs.isEmpty
theorem tru_okW : TruR X (fun x H Q => ∃ k, TruW X.K x H k ∧ Q k H) := by
  intro pins s σ H x v Q I rx h
  obtain ⟨k, e | ⟨p, kvs, rfl, hd, rfl⟩, q⟩ := h
  · exact tru_ok pins s σ H x v Q I rx ⟨k, e, q⟩
  · cases rx
    exact d_truth I hd fun s' I' => ⟨H, I', q⟩
theorem truW_of {K : PySem.W.Frag} {nm : Nat → Option Addr} {F H : Hp} {d : D} {v : V} {k : Bool} (sb : Sub F H) (r : Rep K nm F d v) (e : truD d = some k) : TruW K v H k := by
  cases d with
  | non => cases e; rw [show v = V.non from r]; exact .inl rfl
  | bl c => cases e; rw [show v = V.bl k from r]; exact .inl rfl
  | int i => cases e; rw [show v = V.int i from r]; exact .inl rfl
  | str x => cases e; obtain ⟨rfl, hz⟩ := r; exact .inl ⟨hz, rfl⟩
  | row xs =>
    cases e
    obtain ⟨a, vs, rfl, h1, h2, h3⟩ := r
    refine .inl (.inl ⟨vs, SqL.of (sb.lst h1), ?_⟩)
    cases xs with
    | nil => rw [show vs = [] from h3]; rfl
    | cons d ds => obtain ⟨v, ws, rfl, _⟩ := h3; rfl
  | tup xs =>
    cases e
    obtain ⟨a, vs, rfl, h1, h2, h3⟩ := r
    refine .inl (.inr (.inl ⟨vs, SqT.of (sb.tup h1), ?_⟩))
    cases xs with
    | nil => rw [show vs = [] from h3]; rfl
    | cons d ds => obtain ⟨v, ws, rfl, _⟩ := h3; rfl
  | tab xs =>
    cases e
    obtain ⟨a, vs, rfl, h1, h2, h3⟩ := r
    refine .inr ⟨a, vs, rfl, sb.dK h1, ?_⟩
    cases xs with
    | nil => rw [show vs = [] from h3]; rfl
    | cons d ds => obtain ⟨k, d⟩ := d; obtain ⟨v, ws, rfl, _⟩ := h3; rfl
  | kro xs =>
    cases e
    obtain ⟨a, vs, rfl, h1, h2, h3⟩ := r
    refine .inl (.inl ⟨vs, sb.sqL h1, ?_⟩)
    cases xs with
    | nil => rw [show vs = [] from h3]; rfl
    | cons d ds => obtain ⟨v, ws, rfl, _⟩ := h3; rfl
  | exc _ _ => cases e
  | obj _ => cases e
def tTruW (K : PySem.W.Frag) (ta : TE) : TT := fun σ H Q => ta σ H fun x H' => ∃ k, TruW K x H' k ∧ Q k H'
theorem sat_tru (hK : R.K = X.K) (σ : L2.St) (H : Hp) (Q : Bool → Hp → Prop) (h : tDT R W O (dTst f truD) σ H Q) : tTruW X.K (tD R W O f) σ H Q := by
  obtain ⟨F, ρ, s, w, pu, p⟩ := h
  refine ⟨F, ρ, s, w, pu, p.bnd.imp (fun d s1 F1 H1 w1 st1 p1 v rv => ?_) fun _ _ _ _ _ _ z => z⟩
  obtain ⟨c, ec, k⟩ := p1.lift
  exact ⟨c, by rw [← hK]; exact truW_of w1.sub rv ec, k F1 H1 w1 Stp.refl⟩
/-- an expression as a test -/
theorem dt_tru (hK : R.K = X.K) (ha : PE X a (tD R W O f)) (he : ∀ whole, isTrue a X.env whole = (do let v ← whole; standAt a.pos; holding [v] (truthy v)) := by intro _; rfl) : PT X a (tDT R W O (dTst f truD)) := by
  refine pt_imp (t := tTruW X.K (tD R W O f)) ⟨fun pins s σ H Q I h => ?_⟩ (sat_tru hK)
  exact PyProof.Rows.isTrue_plain (thn (ha.run pins s σ H _ I h) fun v s1 ⟨x, H1, I1, r1, q1⟩ => tru_okW pins s1 σ H1 x v Q I1 r1 q1) (he _)
variable {c c' : Sl → M R.S Bool} {rest : List Expr}
theorem dt_not (ha : PT X a (tDT R W O c)) : PT X (.UnaryOp .Not a pos) (tDT R W O (tNotD c)) := pt_imp (pt_not ha) fun σ H Q h => by
  obtain ⟨F, ρ, s, w, pu, p⟩ := h
  exact ⟨F, ρ, s, w, pu, p.bnd.imp (fun b s1 F1 H1 w1 st1 p1 => p1 F1 H1 w1 Stp.refl) fun _ _ _ _ _ _ z => z⟩
theorem dw_and1 (ha : PT X a (tDT R W O c)) : PW X (.BoolOp .And [a] pos) (tDT R W O c) := pw_and1 ha
theorem dw_or1 (ha : PT X a (tDT R W O c)) : PW X (.BoolOp .Or [a] pos) (tDT R W O c) := pw_or1 ha
theorem dw_and (ha : PT X a (tDT R W O c)) (hb : PW X (.BoolOp .And (b :: rest) pos) (tDT R W O c')) : PW X (.BoolOp .And (a :: b :: rest) pos) (tDT R W O (tAndD c c')) := pw_imp (pw_and ha hb) fun σ H Q h => by
  obtain ⟨F, ρ, s, w, pu, p⟩ := h
  refine ⟨F, ρ, s, w, pu, p.bnd.imp (fun b s1 F1 H1 w1 st1 p1 => ?_) fun _ _ _ _ _ _ z => z⟩
  cases b with
  | true => rw [if_pos rfl] at p1 ⊢; exact ⟨F1, ρ, s1, w1, pu.mono st1.fs, p1⟩
  | false => rw [if_neg Bool.false_ne_true] at p1 ⊢; exact p1 F1 H1 w1 Stp.refl
theorem dw_or (ha : PT X a (tDT R W O c)) (hb : PW X (.BoolOp .Or (b :: rest) pos) (tDT R W O c')) : PW X (.BoolOp .Or (a :: b :: rest) pos) (tDT R W O (tOrD c c')) := pw_imp (pw_or ha hb) fun σ H Q h => by
  obtain ⟨F, ρ, s, w, pu, p⟩ := h
  refine ⟨F, ρ, s, w, pu, p.bnd.imp (fun b s1 F1 H1 w1 st1 p1 => ?_) fun _ _ _ _ _ _ z => z⟩
  cases b with
  | true => rw [if_pos rfl] at p1 ⊢; exact p1 F1 H1 w1 Stp.refl
  | false => rw [if_neg Bool.false_ne_true] at p1 ⊢; exact ⟨F1, ρ, s1, w1, pu.mono st1.fs, p1⟩
/-- and, or, not as values -/
theorem de_one {op} (h : PE X a (tD R W O f)) : PE X (.BoolOp op [a] pos) (tD R W O f) := pe_one h
theorem de_and (hK : R.K = X.K) (ha : PE X a (tD R W O f)) (hb : PE X (.BoolOp .And (b :: rest) pos) (tD R W O g)) : PE X (.BoolOp .And (a :: b :: rest) pos) (tD R W O (dAnd f g)) := by
  refine ⟨fun pins s σ H Q I h => ?_⟩
  obtain ⟨F, ρ, st, w, pu, p⟩ := h
  refine PyProof.Rows.BoolOp_and (thn (ha.run pins s σ H (fun v H1 => ∃ k, TruW X.K v H1 k ∧ if k = true then tD R W O g σ H1 Q else Q v H1) I ⟨F, ρ, st, w, pu, p.bnd.imp (fun d s1 F1 H1 w1 st1 p1 v rv => ?_) fun _ _ _ _ _ _ z => z⟩) fun v s1 ⟨x, H1, I1, r1, q1⟩ => ?_)
  · obtain ⟨k, ek, p2⟩ := p1.bnd.lift
    refine ⟨k, by rw [← hK]; exact truW_of w1.sub rv ek, ?_⟩
    have p3 := p2 F1 H1 w1 Stp.refl
    cases k with
    | true => rw [if_pos rfl] at p3 ⊢; exact ⟨F1, ρ, s1, w1, pu.mono st1.fs, p3⟩
    | false => rw [if_neg Bool.false_ne_true] at p3 ⊢; exact p3 F1 H1 w1 Stp.refl v rv
  · obtain ⟨k, e, q1⟩ := q1
    refine thn (tru_okW pins s1 σ H1 x v (fun c H2 => c = k ∧ H2 = H1) I1 r1 ⟨k, e, rfl, rfl⟩) fun c s2 hc => ?_
    obtain ⟨H2, I2, e1, e2⟩ := hc
    rw [e2] at I2
    rw [← e1] at q1
    cases c with
    | true => exact hb.run pins s2 σ H1 Q I2 q1
    | false => exact ⟨x, H1, I2, r1, q1⟩
theorem de_or (hK : R.K = X.K) (ha : PE X a (tD R W O f)) (hb : PE X (.BoolOp .Or (b :: rest) pos) (tD R W O g)) : PE X (.BoolOp .Or (a :: b :: rest) pos) (tD R W O (dOr f g)) := by
  refine ⟨fun pins s σ H Q I h => ?_⟩
  obtain ⟨F, ρ, st, w, pu, p⟩ := h
  refine PyProof.Rows.BoolOp_or (thn (ha.run pins s σ H (fun v H1 => ∃ k, TruW X.K v H1 k ∧ if k = true then Q v H1 else tD R W O g σ H1 Q) I ⟨F, ρ, st, w, pu, p.bnd.imp (fun d s1 F1 H1 w1 st1 p1 v rv => ?_) fun _ _ _ _ _ _ z => z⟩) fun v s1 ⟨x, H1, I1, r1, q1⟩ => ?_)
  · obtain ⟨k, ek, p2⟩ := p1.bnd.lift
    refine ⟨k, by rw [← hK]; exact truW_of w1.sub rv ek, ?_⟩
    have p3 := p2 F1 H1 w1 Stp.refl
    cases k with
    | true => rw [if_pos rfl] at p3 ⊢; exact p3 F1 H1 w1 Stp.refl v rv
    | false => rw [if_neg Bool.false_ne_true] at p3 ⊢; exact ⟨F1, ρ, s1, w1, pu.mono st1.fs, p3⟩
  · obtain ⟨k, e, q1⟩ := q1
    refine thn (tru_okW pins s1 σ H1 x v (fun c H2 => c = k ∧ H2 = H1) I1 r1 ⟨k, e, rfl, rfl⟩) fun c s2 hc => ?_
    obtain ⟨H2, I2, e1, e2⟩ := hc
    rw [e2] at I2
    rw [← e1] at q1
    cases c with
    | true => exact ⟨x, H1, I2, r1, q1⟩
    | false => exact hb.run pins s2 σ H1 Q I2 q1
theorem de_not (hK : R.K = X.K) (ha : PE X a (tD R W O f)) : PE X (.UnaryOp .Not a pos) (tD R W O (dUn notD f)) := by
  refine ⟨fun pins s σ H Q I h => ?_⟩
  obtain ⟨F, ρ, st, w, pu, p⟩ := h
  refine PyProof.Rows.UnaryOp_ (thn (ha.run pins s σ H (fun v H1 => ∃ k, TruW X.K v H1 k ∧ Q (.bl (!k)) H1) I ⟨F, ρ, st, w, pu, p.bnd.imp (fun d s1 F1 H1 w1 st1 p1 v rv => ?_) fun _ _ _ _ _ _ z => z⟩) fun v s1 ⟨x, H1, I1, r1, q1⟩ => ?_)
  · obtain ⟨z, ez, p2⟩ := p1.lift
    unfold notD at ez
    cases ek : truD d with
    | none => rw [ek] at ez; cases ez
    | some k =>
      rw [ek] at ez
      cases ez
      exact ⟨k, by rw [← hK]; exact truW_of w1.sub rv ek, p2 F1 H1 w1 Stp.refl _ rfl⟩
  · obtain ⟨k, e, q1⟩ := q1
    exact PyProof.Rows.not_of (thn (tru_okW pins s1 σ H1 x v (fun c H2 => Q (.bl (!c)) H2) I1 r1 ⟨k, e, q1⟩) fun c s2 ⟨H2, I2, q2⟩ => ⟨.bl (!c), H2, I2, rfl, q2⟩)
theorem de_if {t : Expr} (hc : PT X t (tDT R W O c)) (ha : PE X a (tD R W O f)) (hb : PE X b (tD R W O g)) : PE X (.IfExp t a b pos) (tD R W O (dIf c f g)) := pe_imp (pe_ifExp hc ha hb) fun σ H Q h => by
  obtain ⟨F, ρ, s, w, pu, p⟩ := h
  refine ⟨F, ρ, s, w, pu, p.bnd.imp (fun k s1 F1 H1 w1 st1 p1 => ?_) fun _ _ _ _ _ _ z => z⟩
  cases k with
  | true => rw [if_pos rfl] at p1 ⊢; exact ⟨F1, ρ, s1, w1, pu.mono st1.fs, p1⟩
  | false => rw [if_neg Bool.false_ne_true] at p1 ⊢; exact ⟨F1, ρ, s1, w1, pu.mono st1.fs, p1⟩
/-! ### arguments, displays, calls -/
variable {es : List Expr} {fs : Sl → M R.S (List D)}
theorem da_nil : PA X [] (tDA R W O dNil) := pa_imp pa_nil fun σ H Q h => by
  obtain ⟨F, ρ, s, w, pu, p⟩ := h
  exact p F H w Stp.refl [] rfl
theorem da_cons (ha : PE X e (tD R W O f)) (hr : PA X es (tDA R W O fs)) (hs : starEach (e :: es) X.env = (false, eval e X.env) :: starEach es X.env := by rfl) : PA X (e :: es) (tDA R W O (dCons f fs)) := pa_imp (pa_cons ha hr hs) fun σ H Q h => by
  obtain ⟨F, ρ, s, w, pu, p⟩ := h
  refine ⟨F, ρ, s, w, pu, p.bnd.imp (fun d s1 F1 H1 w1 st1 p1 v rv => ?_) fun _ _ _ _ _ _ z => z⟩
  refine ⟨F1, ρ, s1, w1, pu.mono st1.fs, p1.bnd.imp (fun ds s2 F2 H2 w2 st2 p2 vs rvs => ?_) fun _ _ _ _ _ _ z => z⟩
  exact p2 F2 H2 w2 Stp.refl (v :: vs) ⟨v, vs, rfl, rv.mono st2.fs, rvs⟩
def tupD (xs : List D) : Option D := if xs.length ≤ sizeLine then some (.tup xs) else none
def rowD (xs : List D) : Option D := if xs.length ≤ sizeLine then some (.row xs) else none
theorem tupD_some {xs : List D} {d : D} (h : tupD xs = some d) : xs.length ≤ sizeLine ∧ d = .tup xs := by
  unfold tupD at h
  split at h
  · cases h; exact ⟨by assumption, rfl⟩
  · cases h
theorem rowD_some {xs : List D} {d : D} (h : rowD xs = some d) : xs.length ≤ sizeLine ∧ d = .row xs := by
  unfold rowD at h
  split at h
  · cases h; exact ⟨by assumption, rfl⟩
  · cases h
/-- a new list, tuple is laid -/
theorem new_row {F H : Hp} {s : R.S} {xs : List D} {vs : List V} {p : Addr} {Q : VK} (w : Wd R F H s) (hz : xs.length ≤ sizeLine) (r : Reps R.K R.nm F xs vs) (hp : H p = none)
    (k : ∀ v F' H', Wd R F' H' s → Stp R F H F' H' → Rep R.K R.nm F' (.row xs) v → Q v H') : Q (.ref p) (upd H p (.lst vs)) := by
  have st : Stp R F H (upd F p (.lst vs)) (upd H p (.lst vs)) := Stp.new _ hp (w.free hp)
  exact k (.ref p) (upd F p (.lst vs)) _ (w.new _ hp) st ⟨p, vs, rfl, upd_same, hz, r.mono st.fs⟩
theorem new_tup {F H : Hp} {s : R.S} {xs : List D} {vs : List V} {p : Addr} {Q : VK} (w : Wd R F H s) (hz : xs.length ≤ sizeLine) (r : Reps R.K R.nm F xs vs) (hp : H p = none)
    (k : ∀ v F' H', Wd R F' H' s → Stp R F H F' H' → Rep R.K R.nm F' (.tup xs) v → Q v H') : Q (.ref p) (upd H p (.tup vs)) := by
  have st : Stp R F H (upd F p (.tup vs)) (upd H p (.tup vs)) := Stp.new _ hp (w.free hp)
  exact k (.ref p) (upd F p (.tup vs)) _ (w.new _ hp) st ⟨p, vs, rfl, upd_same, hz, r.mono st.fs⟩
theorem new_tab {F H : Hp} {s : R.S} {xs : List (Key × D)} {vs : List (Key × V)} {p : Addr} {Q : VK} (w : Wd R F H s) (hz : xs.length ≤ sizeLine) (r : RepsK R.K R.nm F xs vs) (hp : H p = none)
    (k : ∀ v F' H', Wd R F' H' s → Stp R F H F' H' → Rep R.K R.nm F' (.tab xs) v → Q v H') : Q (.ref p) (upd H p (.dK vs)) := by
  have st : Stp R F H (upd F p (.dK vs)) (upd H p (.dK vs)) := Stp.new _ hp (w.free hp)
  exact k (.ref p) (upd F p (.dK vs)) _ (w.new _ hp) st ⟨p, vs, rfl, upd_same, hz, r.mono st.fs⟩
theorem de_tup {x1} (h : PA X es (tDA R W O fs)) : PE X (.Tuple es x1 pos) (tD R W O (dAll tupD fs)) := pe_imp (pe_tup h) fun σ H Q h => by
  obtain ⟨F, ρ, s, w, pu, p⟩ := h
  refine ⟨F, ρ, s, w, pu, p.bnd.imp (fun ds s1 F1 H1 w1 st1 p1 vs rvs => ?_) fun _ _ _ _ _ _ z => z⟩
  obtain ⟨d, ed, k⟩ := p1.lift
  obtain ⟨hz, rfl⟩ := tupD_some ed
  exact ⟨by rw [rvs.length]; exact hz, fun q hq => new_tup w1 hz rvs hq fun v F' H' w' st' r' => k F' H' w' st' v r'⟩
theorem de_lst (h : PA X es (tDA R W O fs)) : PE X (.List es pos) (tD R W O (dAll rowD fs)) := pe_imp (pe_lst h) fun σ H Q h => by
  obtain ⟨F, ρ, s, w, pu, p⟩ := h
  refine ⟨F, ρ, s, w, pu, p.bnd.imp (fun ds s1 F1 H1 w1 st1 p1 vs rvs => ?_) fun _ _ _ _ _ _ z => z⟩
  obtain ⟨d, ed, k⟩ := p1.lift
  obtain ⟨hz, rfl⟩ := rowD_some ed
  exact ⟨by rw [rvs.length]; exact hz, fun q hq => new_row w1 hz rvs hq fun v F' H' w' st' r' => k F' H' w' st' v r'⟩
/-- a built-in's call -/
def CallSat (R : Reg) (r : List V → Hp → VK → Prop) (op : List D → Option D) : Prop := ∀ (xs : List V) (ds : List D) (d' : D) (F H : Hp) (s : R.S) (Q : VK), Wd R F H s → Reps R.K R.nm F ds xs → op ds = some d' →
  (∀ v F' H', Wd R F' H' s → Stp R F H F' H' → Rep R.K R.nm F' d' v → Q v H') → r xs H Q
theorem sat_cb {r : List V → Hp → VK → Prop} {op : List D → Option D} (hs : CallSat R r op) (σ : L2.St) (H : Hp) (Q : VK) (h : tD R W O (dAll op fs) σ H Q) : tCB r (tDA R W O fs) σ H Q := by
  obtain ⟨F, ρ, s, w, pu, p⟩ := h
  refine ⟨F, ρ, s, w, pu, p.bnd.imp (fun ds s1 F1 H1 w1 st1 p1 vs rvs => ?_) fun _ _ _ _ _ _ z => z⟩
  obtain ⟨d, ed, k⟩ := p1.lift
  exact hs vs ds d F1 H1 s1 Q w1 rvs ed fun v F' H' w' st' r' => k F' H' w' st' v r'
theorem de_callB {id : String} {x : Str} {p : Pos} {r : List V → Hp → VK → Prop} {op : List D → Option D} (hc : CallR X (.builtin id) r) (hs : CallSat R r op) (hg : Gl X x) (hm : X.mg x = none) (hv : bootBuiltins x = some (.builtin id)) (ha : PA X (e :: es) (tDA R W O fs)) (hn : x ≠ "__name__" := by decide) (hdb : (x == ("__debug__" : Str)) = false := by decide)
    (he : starEach (e :: es) X.env = (false, eval e X.env) :: starEach es X.env := by rfl) (hpl : (backTo pos (starEach es X.env)).any (·.1) = false := by rfl) : PE X (.Call (.Name x p) (e :: es) [] pos) (tD R W O (dAll op fs)) :=
  pe_imp (pe_callB hc hg hm hv ha hn hdb he hpl) (sat_cb hs)
theorem de_callTy {T : String} {x : Str} {p : Pos} {r : List V → Hp → VK → Prop} {op : List D → Option D} (hc : CallR X (.type T) r) (hs : CallSat R r op) (hg : Gl X x) (hm : X.mg x = none) (hv : bootBuiltins x = some (.type T)) (ha : PA X (e :: es) (tDA R W O fs)) (hn : x ≠ "__name__" := by decide) (hdb : (x == ("__debug__" : Str)) = false := by decide)
    (he : starEach (e :: es) X.env = (false, eval e X.env) :: starEach es X.env := by rfl) (hpl : (backTo pos (starEach es X.env)).any (·.1) = false := by rfl) : PE X (.Call (.Name x p) (e :: es) [] pos) (tD R W O (dAll op fs)) :=
  pe_imp (pe_callTy hc hg hm hv ha hn hdb he hpl) (sat_cb hs)
/-! ### an own def's call -/
/-- what a def that computes g promises -/
def spD (R : Reg) (n : Nat) (g : List D → M R.S D) : Sp := fun vs H Q E => vs.length = n ∧ ∃ F s ds, Wd R F H s ∧ Reps R.K R.nm F ds vs ∧
  Post R F H (g ds s) (fun d _ F' H' => ∀ v, Rep R.K R.nm F' d v → Q v H') (fun x _ F' H' => ∀ cls dd, RepX R.K R.nm F' x cls dd → E cls dd H')
/-- .. whatever changes around it -/
def spP (K : PySem.W.Frag) (n : Nat) (g : List D → M Unit D) : Sp := fun vs H Q E => ∃ nm, spD (R0 K nm) n g vs H Q E
/-- .. over the law's draws -/
def spT (K : PySem.W.Frag) (n : Nat) (g : List D → M Nat D) : Sp := fun vs H Q E => ∃ T, spD (RT K T) n g vs H Q E
theorem wd_0 {F H : Hp} {s : R.S} (w : Wd R F H s) : Wd (R0 R.K R.nm) F H () := ⟨w.sub, fun _ m => m.elim, trivial⟩
theorem wd_of_0 {F H F' H' : Hp} {s : R.S} (w : Wd R F H s) (w' : Wd (R0 R.K R.nm) F' H' ()) (st : Stp (R0 R.K R.nm) F H F' H') : Wd R F' H' s where
  sub := w'.sub
  mu := fun a m => by
    cases q : F' a with
    | none => rfl
    | some o =>
      rcases st.nw a (by rw [q]; exact fun z => nomatch z) with z | z
      · exact absurd (w.mu a m) z
      · exact absurd z (R.dom s H a w.si m)
  si := R.loc s H H' w.si fun a m => by
    cases q : H a with
    | none => exact absurd q (R.dom s H a w.si m)
    | some o => exact st.own (fun z => z) (w.mu a m) q
theorem stp_of_0 {F H F' H' : Hp} (st : Stp (R0 R.K R.nm) F H F' H') : Stp R F H F' H' := ⟨st.fs, fun a o _ h => st.hs a o (fun z => z) h, st.nw, st.th⟩
/-- a pure computation among others -/
def up {S α : Type} (m : M Unit α) : M S α := fun s => match m () with
  | .ok a _ => .ok a s
  | .exc x _ => .exc x s
  | .bot => .bot
theorem post_up {α : Type} {F H : Hp} {s : R.S} {m : M Unit α} {k : α → Hp → Hp → Prop} {x : Xn → Hp → Hp → Prop} (w : Wd R F H s) (h : Post R F H (up m s) (fun a _ F' H' => k a F' H') (fun e _ F' H' => x e F' H')) : Post (R0 R.K R.nm) F H (m ()) (fun a _ F' H' => k a F' H') (fun e _ F' H' => x e F' H') := by
  unfold up at h
  cases e : m () with
  | ok a u => rw [e] at h; exact fun F' H' w' st => h F' H' (wd_of_0 w w' st) (stp_of_0 st)
  | exc a u => rw [e] at h; exact fun F' H' w' st => h F' H' (wd_of_0 w w' st) (stp_of_0 st)
  | bot => rw [e] at h; exact h
/-- how exceptions leave: as they are (false), or with no context (true) -/
def CXm (md : Bool) (P : Program) (w : World) : CXT := if md = true then L2N.CX P w else L2.CX P w
def TkM (md : Bool) (X : Cx) (W : WX) : Prop := if md = true then L2N.Takes X W else L2.Takes X W
theorem passM {md : Bool} {X : Cx} {W : WX} (tk : TkM md X W) (σ : L2.St) : PassesAt (CXm md X.prog X.w) X σ (WE W σ) := by
  cases md with
  | true => exact L2N.passAt tk σ
  | false => exact L2.passAt tk σ
/-- what the top says of a def -/
def Has (md : Bool) (P : Program) (w : World) (K : PySem.W.Frag) (mg : Str → Option Value) (base : Heap) (k : Nat) (x : Str) (sp : Sp) : Prop :=
  ∃ f fd ps, FnOk P w K mg base (CXm md P w) k f fd ps sp ∧ mg x = some (.ref f) ∧ PySem.W.keepIn K (.ref f) = true ∧ Binds K fd ps []
/-- what a body leans on -/
structure Cxt (X : Cx) (R : Reg) (W : WX) (n : Nat) : Prop where
  hK : R.K = X.K
  hr : Room n X.A
  nd : X.N.Nodup
  calm : X.calm = true
theorem sat_callP {n : Nat} {g : List D → M Unit D} (σ : L2.St) (H : Hp) (Q : VK) (h : tD R W O (dCall n (fun ds => up (g ds)) fs) σ H Q) : tCallS (spP R.K n g) (WE W) (tDA R W O fs) σ H Q := by
  obtain ⟨F, ρ, s, w, pu, p⟩ := h
  refine ⟨F, ρ, s, w, pu, p.bnd.imp (fun ds s1 F1 H1 w1 st1 p1 vs rvs => ?_) fun _ _ _ _ _ _ z => z⟩
  split at p1
  · rename_i hn
    exact ⟨R.nm, by rw [rvs.length]; exact hn, F1, (), ds, wd_0 w1, rvs, post_up (k := fun d F' H' => ∀ v, Rep R.K R.nm F' d v → Q v H') (x := fun x F' H' => ∀ cls dd, RepX R.K R.nm F' x cls dd → W cls dd σ H') w1 p1⟩
  · exact False.elim p1
theorem de_callP {md : Bool} {k n : Nat} {g : List D → M Unit D} {x : Str} {p : Pos} (c : Cxt X R W k) (tk : TkM md X W) (h : Has md X.prog X.w X.K X.mg X.base k x (spP X.K n g)) (hg : Gl X x) (ha : PA X (e :: es) (tDA R W O fs)) (hdb : (x == ("__debug__" : Str)) = false := by decide)
    (he : starEach (e :: es) X.env = (false, eval e X.env) :: starEach es X.env := by rfl) (hpl : (backTo pos (starEach es X.env)).any (·.1) = false := by rfl) : PE X (.Call (.Name x p) (e :: es) [] pos) (tD R W O (dCall n (fun ds => up (g ds)) fs)) := by
  obtain ⟨f, fd, ps, F, hm, hk, hb⟩ := h
  rw [← c.hK] at F
  exact pe_imp (pe_callS (sp := spP R.K n g) (by rw [← c.hK]; exact F) c.hr hg hm hk hb (fun σ => passM tk σ) ha hdb he hpl) sat_callP
end
section
variable {X : Cx} {K : PySem.W.Frag} {T : Addr} {W : WX} {O : List Nat} {e : Expr} {es : List Expr} {fs : Sl → M Nat (List D)} {pos : Pos}
theorem sat_callT {n : Nat} {g : List D → M Nat D} (σ : L2.St) (H : Hp) (Q : VK) (h : tD (RT K T) W O (dCall n g fs) σ H Q) : tCallS (spT K n g) (WE W) (tDA (RT K T) W O fs) σ H Q := by
  obtain ⟨F, ρ, s, w, pu, p⟩ := h
  refine ⟨F, ρ, s, w, pu, p.bnd.imp (fun ds s1 F1 H1 w1 st1 p1 vs rvs => ?_) fun _ _ _ _ _ _ z => z⟩
  by_cases hn : ds.length = n
  · rw [if_pos hn] at p1
    exact ⟨T, by rw [rvs.length]; exact hn, F1, s1, ds, w1, rvs, p1⟩
  · rw [if_neg hn] at p1
    exact False.elim p1
theorem de_callT {md : Bool} {k n : Nat} {g : List D → M Nat D} {x : Str} {p : Pos} (c : Cxt X (RT K T) W k) (tk : TkM md X W) (h : Has md X.prog X.w X.K X.mg X.base k x (spT X.K n g)) (hg : Gl X x) (ha : PA X (e :: es) (tDA (RT K T) W O fs)) (hdb : (x == ("__debug__" : Str)) = false := by decide)
    (he : starEach (e :: es) X.env = (false, eval e X.env) :: starEach es X.env := by rfl) (hpl : (backTo pos (starEach es X.env)).any (·.1) = false := by rfl) : PE X (.Call (.Name x p) (e :: es) [] pos) (tD (RT K T) W O (dCall n g fs)) := by
  obtain ⟨f, fd, ps, F, hm, hk, hb⟩ := h
  have hK : K = X.K := c.hK
  subst hK
  exact pe_imp (pe_callS F c.hr hg hm hk hb (fun σ => passM tk σ) ha hdb he hpl) sat_callT
end
end Nw
set_option Elab.async false
set_option linter.all false
set_option maxRecDepth 100000
set_option maxHeartbeats 4000000
/-! Part C: what is walked, comprehensions, statements. -/
namespace Nw
open PySem PySem.Spec L2
section
variable {S : Type}
def nox {α : Type} (m : M S α) : M S α := fun s => match m s with
  | .ok a s' => .ok a s'
  | _ => .bot
/-- the turns of a comprehension -/
def lcA (tg : D → Sl → Option Sl) (t : Sl → M S Bool) (f : Sl → M S D) (r : Sl) : List D → List D → M S D
  | acc, [] => ret (.row acc)
  | acc, x :: xs => bnd (lift (tg x r)) fun r' => bnd (nox (t r')) fun b => if b = true then bnd (nox (f r')) fun y => lcA tg t f r (acc ++ [y]) xs else lcA tg t f r acc xs
def dLc (it : Sl → M S (List D)) (tg : D → Sl → Option Sl) (t : Sl → M S Bool) (f : Sl → M S D) : Sl → M S D := fun r => bnd (it r) fun xs => lcA tg t f r [] xs
def dYes : Sl → M S Bool := fun _ => ret true
end
def tgN (i : Nat) : D → Sl → Option Sl := fun d r => some (r.set i (some d))
theorem post_nox {α : Type} {R : Reg} {F H : Hp} {m : M R.S α} {s : R.S} {k : α → R.S → Hp → Hp → Prop} {x x' : Xn → R.S → Hp → Hp → Prop} (h : Post R F H (nox m s) k x) : Post R F H (m s) k x' := by
  unfold nox at h
  cases e : m s with
  | ok a s' => rw [e] at h; exact h
  | exc a s' => rw [e] at h; exact False.elim h
  | bot => rw [e] at h; exact h
/-- the wish behind a first part stays at its place -/
theorem Post.bnd0 {α β : Type} {R : Reg} {F H : Hp} {x : Xn → R.S → Hp → Hp → Prop} {m : M R.S α} {n : α → M R.S β} {s : R.S} {k : β → R.S → Hp → Hp → Prop} (h : Post R F H (Nw.bnd m n s) k x) : Post R F H (m s) (fun a s1 _ _ => Post R F H (n a s1) k x) x := by
  unfold Nw.bnd at h
  cases e : m s with
  | ok a s1 => rw [e] at h; exact fun F' H' w q => h
  | exc a s1 => rw [e] at h; exact h
  | bot => rw [e] at h; exact h
theorem Post.lift0 {α β : Type} {R : Reg} {F H : Hp} {x : Xn → R.S → Hp → Hp → Prop} {m : Option α} {n : α → M R.S β} {s : R.S} {k : β → R.S → Hp → Hp → Prop} (h : Post R F H (Nw.bnd (Nw.lift m) n s) k x) : ∃ a, m = some a ∧ Post R F H (n a s) k x := by
  cases m with
  | none => exact False.elim h
  | some a => exact ⟨a, rfl, h⟩
/-! ### a thing of one's own -/
section
variable {R : Reg} {F H F0 H0 : Hp} {s : R.S} {p : Addr}
theorem Wd.ownW (w : Wd R F H s) (hF : F p = none) (hm : ¬ R.Mu p) (o : HO) : Wd R F (upd H p o) s where
  sub := fun a u q => by
    have ne : a ≠ p := fun e => by rw [e, hF] at q; cases q
    rw [upd_ne ne]; exact w.sub a u q
  mu := w.mu
  si := R.loc s H _ w.si fun a m => upd_ne fun e => hm (by rw [← e]; exact m)
theorem Stp.ownW (st : Stp R F0 H0 F H) (h0 : H0 p = none) (o : HO) : Stp R F0 H0 F (upd H p o) where
  fs := st.fs
  hs := fun a u m q => by rw [upd_ne (ne_of_none q h0)]; exact st.hs a u m q
  nw := st.nw
  th := fun a h => by
    by_cases e : a = p
    · rw [e]; exact h0
    · rw [upd_ne e] at h; exact st.th a h
theorem Stp.freeF (st : Stp R F0 H0 F H) (hp : F0 p = none) (hh : H0 p ≠ none) : F p = none := by
  cases q : F p with
  | none => rfl
  | some o =>
    rcases st.nw p (by rw [q]; exact fun z => nomatch z) with z | z
    · exact absurd hp z
    · exact absurd z hh
theorem Wd.notMu (w : Wd R F H s) (hp : H p = none) : ¬ R.Mu p := fun m => R.dom s H p w.si m hp
/-- it is given out: from now on it stays -/
theorem Wd.frz (w : Wd R F H s) {o : HO} (hH : H p = some o) (hm : ¬ R.Mu p) : Wd R (upd F p o) H s where
  sub := fun a u q => by
    by_cases e : a = p
    · rw [e, upd_same] at q; cases q; rw [e]; exact .inl hH
    · rw [upd_ne e] at q; exact w.sub a u q
  mu := fun a m => by rw [upd_ne fun e => hm (by rw [← e]; exact m)]; exact w.mu a m
  si := w.si
theorem Stp.frz (st : Stp R F0 H0 F H) (h0 : H0 p = none) (hF : F p = none) (o : HO) : Stp R F0 H0 (upd F p o) H where
  fs := fun a u q => by
    have q' := st.fs a u q
    rw [upd_ne (ne_of_none q' hF)]; exact q'
  hs := fun a u m q => by
    rcases st.hs a u m q with h | ⟨h1, h2⟩
    · exact .inl h
    · exact .inr ⟨by rw [upd_ne (ne_of_none h1 hF)]; exact h1, h2⟩
  nw := fun a h => by
    by_cases e : a = p
    · rw [e]; exact .inr h0
    · rw [upd_ne e] at h; exact st.nw a h
  th := st.th
end
/-! ### what is walked -/
/-- what a walk leans on: plain data and locks stay -/
structure Kp (F H F2 H2 : Hp) : Prop where
  fs : Same F F2
  sub : Sub F2 H2
  lk : ∀ a ob kvs, F a = some (.dK kvs) → H a = some (.frz ob (.dK kvs)) → H2 a = some (.frz ob (.dK kvs))
theorem Stp.kp {R : Reg} {F H F2 H2 : Hp} {s : R.S} (st : Stp R F H F2 H2) (sb : Sub F2 H2) (w : Wd R F H s) : Kp F H F2 H2 := ⟨st.fs, sb, fun a ob kvs h1 h2 => st.nd (fun m => by rw [w.mu a m] at h1; cases h1) (fun _ z => nomatch z) h2⟩
structure Walks (R : Reg) (J : It) (F H : Hp) (ds : List D) : Prop where
  hz : ds.length ≤ sizeLine
  go : ∀ i F2 H2, Kp F H F2 H2 → i < ds.length → J.go i H2
  yld : ∀ i F2 H2 x H3, Kp F H F2 H2 → i < ds.length → J.yld i H2 x H3 → H3 = H2 ∧ ∃ d, ds[i]? = some d ∧ Rep R.K R.nm F2 d x
  stop : ∀ F2 H2, Kp F H F2 H2 → J.stop ds.length H2
section
variable (R : Reg) (W : WX) (O : List Nat)
def tDI (f : Sl → M R.S (List D)) : TI := fun σ H Q => ∃ F r s, Wd R F H s ∧ Pu R O F σ r ∧ Post R F H (f r s) (fun ds _ F' H' => ∀ J, Walks R J F' H' ds → Q J H') (fun x _ F' H' => ∀ cls dd, RepX R.K R.nm F' x cls dd → W cls dd σ H')
end
/-- the signs of a text -/
def signs (x : Str) : List D := x.cps.toList.map fun c => .str ⟨#[c]⟩
/-- what a for walks in a thing -/
def itemsD : D → Option (List D)
  | .row xs => some xs
  | .tup xs => some xs
  | .kro xs => some xs
  | .str x => some (signs x)
  | _ => none
def dItems {S : Type} (f : Sl → M S D) : Sl → M S (List D) := fun r => bnd (f r) fun x => lift (itemsD x)
def rngD : List D → Option (List D)
  | [.int j] => if 0 ≤ j ∧ j ≤ sizeLine then some ((List.range j.toNat).map fun (i : Nat) => .int (i : Int)) else none
  | _ => none
def dRange {S : Type} (f : Sl → M S (List D)) : Sl → M S (List D) := fun r => bnd (f r) fun x => lift (rngD x)
section
variable {X : Cx} {R : Reg} {W : WX} {O : List Nat} {tg e : Expr} {es : List Expr} {pos : Pos} {f : Sl → M R.S D} {fs : Sl → M R.S (List D)}
theorem walks_list {F H : Hp} {a : Addr} {ds : List D} {vs : List V} (K : PySem.W.Frag) (hq : SqL K F a vs) (hz : ds.length ≤ sizeLine) (r : Reps R.K R.nm F ds vs) : Walks R (Itl K a) F H ds where
  hz := hz
  go := fun i F2 H2 st h => by
    obtain ⟨v, h1, h2⟩ := r.get (List.getElem?_eq_getElem h)
    exact ⟨vs, v, st.sub.sqL (sqL_mono st.fs hq), h1⟩
  yld := fun i F2 H2 x H3 st h y => by
    obtain ⟨v, h1, h2⟩ := r.get (List.getElem?_eq_getElem h)
    obtain ⟨e, y⟩ := y
    have q := y vs (st.sub.sqL (sqL_mono st.fs hq))
    rw [h1] at q
    cases q
    exact ⟨e, _, List.getElem?_eq_getElem h, h2.mono st.fs⟩
  stop := fun F2 H2 st => ⟨vs, st.sub.sqL (sqL_mono st.fs hq), by rw [r.length]; exact Nat.le_refl _⟩
theorem walks_tup {F H : Hp} {a : Addr} {ds : List D} {vs : List V} (K : PySem.W.Frag) (hq : F a = some (.tup vs)) (hz : ds.length ≤ sizeLine) (r : Reps R.K R.nm F ds vs) : Walks R (Itt K a) F H ds where
  hz := hz
  go := fun i F2 H2 st h => by
    obtain ⟨v, h1, h2⟩ := r.get (List.getElem?_eq_getElem h)
    exact ⟨vs, v, SqT.of (st.sub.tup (st.fs _ _ hq)), h1⟩
  yld := fun i F2 H2 x H3 st h y => by
    obtain ⟨v, h1, h2⟩ := r.get (List.getElem?_eq_getElem h)
    obtain ⟨e, y⟩ := y
    have q := y vs (SqT.of (st.sub.tup (st.fs _ _ hq)))
    rw [h1] at q
    cases q
    exact ⟨e, _, List.getElem?_eq_getElem h, h2.mono st.fs⟩
  stop := fun F2 H2 st => ⟨vs, SqT.of (st.sub.tup (st.fs _ _ hq)), by rw [r.length]; exact Nat.le_refl _⟩
theorem signs_length (x : Str) : (signs x).length = x.cps.size := by
  unfold signs
  rw [List.length_map, Array.length_toList]
theorem str_length (x : Str) : x.length = x.cps.size := rfl
theorem walks_str {F H : Hp} {x : Str} (hz : x.length ≤ sizeLine) : Walks R (Its x) F H (signs x) where
  hz := by rw [signs_length]; exact hz
  go := fun i F2 H2 st h => by rw [signs_length] at h; exact h
  yld := fun i F2 H2 v H3 st h y => by
    obtain ⟨e, c, hc, hv⟩ := y
    refine ⟨e, .str ⟨#[c]⟩, ?_, hv, by show 1 ≤ sizeLine; rw [sizeLine_eq]; decide⟩
    unfold signs
    rw [List.getElem?_map, Array.getElem?_toList, hc]
    rfl
  stop := fun F2 H2 st => by rw [signs_length]; exact Nat.le_refl _
theorem walks_range {F H : Hp} {n : Nat} (hz : n ≤ sizeLine) : Walks R (Itr 0 n) F H ((List.range n).map fun (i : Nat) => .int (i : Int)) where
  hz := by rw [List.length_map, List.length_range]; exact hz
  go := fun i F2 H2 st h => by rw [List.length_map, List.length_range] at h; exact h
  yld := fun i F2 H2 v H3 st h y => by
    rw [List.length_map, List.length_range] at h
    obtain ⟨e, hv⟩ := y
    refine ⟨e, .int i, ?_, ?_⟩
    · rw [List.getElem?_map, List.getElem?_range h]; rfl
    · rw [hv]; show V.int (0 + (i : Int)) = V.int i; rw [Int.zero_add]
  stop := fun F2 H2 st => by rw [List.length_map, List.length_range]; exact Nat.le_refl _
/-- a list, a tuple, a text -/
theorem di_any (hK : R.K = X.K) (he : PE X e (tD R W O f)) : PI X tg e (tDI R W O (dItems f)) :=
  pi_imp (pi_or2 (pi_list he) (pi_or2 (pi_tup he) (pi_str he))) fun σ H Q h => by
    obtain ⟨F, ρ, s, w, pu, p⟩ := h
    have hb := p.bnd
    cases ef : f ρ s with
    | bot => rw [ef] at hb; exact False.elim hb
    | exc x s1 =>
      rw [ef] at hb
      exact .inl ⟨F, ρ, s, w, pu, by rw [ef]; exact hb⟩
    | ok d s1 =>
      rw [ef] at hb
      cases d with
      | row xs =>
        refine .inl ⟨F, ρ, s, w, pu, ?_⟩
        rw [ef]
        intro F1 H1 w1 st1 v rv
        obtain ⟨ys, ey, k⟩ := (hb F1 H1 w1 st1).lift
        cases ey
        obtain ⟨a, vs, rfl, h1, h2, h3⟩ := rv
        exact ⟨a, rfl, ⟨vs, SqL.of (w1.sub.lst h1)⟩, k F1 H1 w1 Stp.refl _ (walks_list X.K (SqL.of h1) h2 h3)⟩
      | tup xs =>
        refine .inr (.inl ⟨F, ρ, s, w, pu, ?_⟩)
        rw [ef]
        intro F1 H1 w1 st1 v rv
        obtain ⟨ys, ey, k⟩ := (hb F1 H1 w1 st1).lift
        cases ey
        obtain ⟨a, vs, rfl, h1, h2, h3⟩ := rv
        exact ⟨a, rfl, ⟨vs, SqT.of (w1.sub.tup h1)⟩, k F1 H1 w1 Stp.refl _ (walks_tup X.K h1 h2 h3)⟩
      | kro xs =>
        refine .inl ⟨F, ρ, s, w, pu, ?_⟩
        rw [ef]
        intro F1 H1 w1 st1 v rv
        obtain ⟨ys, ey, k⟩ := (hb F1 H1 w1 st1).lift
        cases ey
        obtain ⟨a, vs, rfl, h1, h2, h3⟩ := rv
        rw [hK] at h1
        exact ⟨a, rfl, ⟨vs, w1.sub.sqL h1⟩, k F1 H1 w1 Stp.refl _ (walks_list X.K h1 h2 h3)⟩
      | str x =>
        refine .inr (.inr ⟨F, ρ, s, w, pu, ?_⟩)
        rw [ef]
        intro F1 H1 w1 st1 v rv
        obtain ⟨ys, ey, k⟩ := (hb F1 H1 w1 st1).lift
        cases ey
        exact ⟨x, rv.1, k F1 H1 w1 Stp.refl _ (walks_str rv.2)⟩
      | _ => exact .inl ⟨F, ρ, s, w, pu, by rw [ef]; exact fun F1 H1 w1 st1 v rv => False.elim (hb F1 H1 w1 st1)⟩
/-- range(n) -/
theorem di_range {p : Pos} (hg : Gl X "range") (hm : X.mg "range" = none) (ha : PA X [e] (tDA R W O fs)) (hs : starEach [e] X.env = [(false, eval e X.env)] := by rfl) : PI X tg (.Call (.Name "range" p) [e] [] pos) (tDI R W O (dRange fs)) :=
  pi_imp (pi_range1 hg hm ha hs) fun σ H Q h => by
    obtain ⟨F, ρ, s, w, pu, p⟩ := h
    refine ⟨F, ρ, s, w, pu, p.bnd.imp (fun ds s1 F1 H1 w1 st1 p1 vs rvs => ?_) fun _ _ _ _ _ _ z => z⟩
    obtain ⟨ys, ey, k⟩ := p1.lift
    unfold rngD at ey
    split at ey
    · rename_i j
      split at ey
      · rename_i hj
        cases ey
        obtain ⟨v, ws, rfl, rv, e2⟩ := rvs
        cases rv
        rw [show ws = [] from e2]
        refine ⟨j, rfl, by omega, ?_, k F1 H1 w1 Stp.refl _ (walks_range ?_)⟩
        · rw [sizeLine_eq] at hj; omega
        · omega
      · cases ey
    · cases ey
/-! ### targets -/
structure SetAt (R : Reg) (F : Hp) (vs : List Nat) (σ σ' : L2.St) (r r' : Sl) : Prop where
  len : σ'.length = σ.length
  lenr : r'.length = r.length
  off : ∀ j, j ∉ vs → σ'[j]? = σ[j]? ∧ r'[j]? = r[j]?
  on : ∀ j d, j ∈ vs → r'[j]? = some (some d) → ∃ v, σ'[j]? = some (some v) ∧ Rep R.K R.nm F d v
def TgSat (R : Reg) (g : TG) (vs : List Nat) (tg : D → Sl → Option Sl) : Prop := ∀ (v : V) (d : D) (σ : L2.St) (r r' : Sl) (F H : Hp) (Q : L2.St → Hp → Prop), Sub F H → Rep R.K R.nm F d v → r.length = σ.length → tg d r = some r' → (∀ σ', SetAt R F vs σ σ' r r' → Q σ' H) → g v σ H Q
theorem setAt_one {F : Hp} {i : Nat} {v : V} {d : D} {σ : L2.St} {r : Sl} (hl : r.length = σ.length) (rv : Rep R.K R.nm F d v) : SetAt R F [i] σ (σ.set i (some v)) r (r.set i (some d)) where
  len := List.length_set
  lenr := List.length_set
  off := fun j hj => by
    have ne : i ≠ j := fun e => hj (by rw [e]; exact List.mem_singleton.mpr rfl)
    exact ⟨List.getElem?_set_ne ne, List.getElem?_set_ne ne⟩
  on := fun j d' hj e => by
    have ej : j = i := List.mem_singleton.mp hj
    subst ej
    by_cases hi : j < r.length
    · rw [List.getElem?_set_self hi] at e
      cases e
      exact ⟨v, List.getElem?_set_self (by omega), rv⟩
    · rw [List.getElem?_eq_none (by rw [List.length_set]; omega)] at e
      cases e
theorem tg_name {i : Nat} : TgSat R (gName i) [i] (tgN i) := fun v d σ r r' F H Q sb rv hl e k => by
  cases e
  exact k _ (setAt_one hl rv)
theorem wipe_eq {σ σ' : L2.St} {vs : List Nat} (hl : σ'.length = σ.length) (h : ∀ j, j ∉ vs → σ'[j]? = (wipe σ vs)[j]?) : wipe σ' vs = wipe σ vs := by
  refine List.ext_getElem? fun j => ?_
  by_cases hj : j ∈ vs
  · have hw : ∀ (τ : L2.St), (wipe τ vs)[j]? = if j < τ.length then some none else none := fun τ => by
      by_cases hjl : j < τ.length
      · rw [if_pos hjl]
        cases e : (wipe τ vs)[j]? with
        | none =>
          have := List.getElem?_eq_none_iff.mp e
          rw [wipe_length] at this
          omega
        | some o =>
          cases o with
          | none => rfl
          | some x => exact absurd hj (wipe_some e).2
      · rw [if_neg hjl]
        exact List.getElem?_eq_none (by rw [wipe_length]; omega)
    rw [hw, hw, hl]
  · rw [wipe_out hj, h j hj]
/-! ### comprehensions -/
abbrev W0 : WX := fun _ _ _ _ => False
theorem sat_lc {it : Sl → M R.S (List D)} {g : TG} {vs : List Nat} {tgt : D → Sl → Option Sl} {t : Sl → M R.S Bool} {f : Sl → M R.S D} (hg : TgSat R g vs tgt) (σ : L2.St) (H : Hp) (Q : VK) (h : tD R W O (dLc it tgt t f) σ H Q) :
    tLc (tDI R W O it) g (tDT R W0 O t) (tD R W0 O f) vs σ H Q := by
  obtain ⟨F, ρ, s, w, pu, p⟩ := h
  refine ⟨F, ρ, s, w, pu, p.bnd.imp (fun ds s1 F1 H1 w1 st1 p1 J wk Dn hD => ?_) fun _ _ _ _ _ _ z => z⟩
  have pu1 := pu.mono st1.fs
  have nMu : ¬ R.Mu Dn := w1.notMu hD
  have fD : F1 Dn = none := w1.free hD
  refine ⟨fun i m Hc => m = ds.length - i ∧ i ≤ ds.length ∧ ∃ Fc sc acc ws, Wd R Fc Hc sc ∧ Stp R F1 H1 Fc Hc ∧ Hc Dn = some (.lst ws) ∧ Fc Dn = none ∧ Reps R.K R.nm Fc acc ws ∧ acc.length ≤ i ∧
    Post R F1 H1 (lcA tgt t f ρ acc (ds.drop i) sc) (fun d _ F' H' => ∀ v, Rep R.K R.nm F' d v → Q v H') (fun x _ F' H' => ∀ cls dd, RepX R.K R.nm F' x cls dd → W cls dd σ H'),
    ⟨_, rfl, Nat.zero_le _, F1, s1, [], [], w1.newH _ hD, Stp.newH _ hD, upd_same, fD, rfl, Nat.le_refl _, p1⟩, ?_⟩
  rintro i m Hc ⟨rfl, hi, Fc, sc, acc, ws, wc, stc, hDc, fDc, rc, hacc, pc⟩
  by_cases hlt : i < ds.length
  · refine .inr ⟨wk.go i Fc Hc (stc.kp wc.sub w1) hlt, fun Hn => (ds.length - (i + 1)) = ds.length - (i + 1) ∧ i + 1 ≤ ds.length ∧ ∃ Fc sc acc ws, Wd R Fc Hn sc ∧ Stp R F1 H1 Fc Hn ∧ Hn Dn = some (.lst ws) ∧ Fc Dn = none ∧ Reps R.K R.nm Fc acc ws ∧ acc.length ≤ i + 1 ∧
      Post R F1 H1 (lcA tgt t f ρ acc (ds.drop (i + 1)) sc) (fun d _ F' H' => ∀ v, Rep R.K R.nm F' d v → Q v H') (fun x _ F' H' => ∀ cls dd, RepX R.K R.nm F' x cls dd → W cls dd σ H'),
      fun H' q => ⟨_, by omega, q⟩, fun x H' y => ?_⟩
    obtain ⟨rfl, d, hd, rd⟩ := wk.yld i Fc Hc x H' (stc.kp wc.sub w1) hlt y
    have ed : ds.drop i = d :: ds.drop (i + 1) := by
      rw [List.drop_eq_getElem_cons hlt]
      rw [List.getElem?_eq_getElem hlt] at hd
      cases hd
      rfl
    rw [ed] at pc
    obtain ⟨r', er, pc⟩ := pc.lift0
    refine hg x d (wipe σ vs) ρ r' Fc H' _ wc.sub rd (by rw [wipe_length]; exact pu.len) er fun σ2 sa => ⟨wipe_eq (by rw [sa.len, wipe_length]) fun j hj => (sa.off j hj).1, ?_⟩
    have pu2 : Pu R O Fc σ2 r' := ⟨by rw [sa.lenr, sa.len, wipe_length]; exact pu.len, fun j d' hj e => by
      by_cases hv : j ∈ vs
      · exact sa.on j d' hv e
      · obtain ⟨e1, e2⟩ := sa.off j hv
        rw [e2] at e
        obtain ⟨v, h1, h2⟩ := (pu1.mono stc.fs).at_ j d' hj e
        exact ⟨v, by rw [e1, wipe_out hv]; exact h1, h2⟩⟩
    refine ⟨Fc, r', sc, wc, pu2, ((post_nox pc.bnd0).from stc).imp (fun b s3 F3 H3 w3 st3 p3 => ?_) fun _ _ _ _ _ _ z => z⟩
    have hD3 : H3 Dn = some (.lst ws) := st3.own nMu fDc hDc
    have fD3 : F3 Dn = none := st3.freeF fDc (by rw [hDc]; exact fun z => nomatch z)
    cases b with
    | false =>
      rw [if_neg Bool.false_ne_true] at p3
      refine iteF ?_
      exact ⟨rfl, hlt, F3, s3, acc, ws, w3, stc.trans st3, hD3, fD3, rc.mono st3.fs, by omega, p3⟩
    | true =>
      rw [if_pos rfl] at p3
      refine iteT ?_
      refine ⟨F3, r', s3, w3, pu2.mono st3.fs, ((post_nox p3.bnd0).from (stc.trans st3)).imp (fun y' s4 F4 H4 w4 st4 p4 u ru => ?_) fun _ _ _ _ _ _ z => z⟩
      have hD4 : H4 Dn = some (.lst ws) := st4.own nMu fD3 hD3
      have fD4 : F4 Dn = none := st4.freeF fD3 (by rw [hD3]; exact fun z => nomatch z)
      have hz := wk.hz
      refine ⟨ws, hD4, by rw [rc.length]; omega, rfl, hlt, F4, s4, acc ++ [y'], ws ++ [u], w4.ownW fD4 nMu _, ((stc.trans st3).trans st4).ownW hD _, upd_same, fD4, ((rc.mono st3.fs).mono st4.fs).append ⟨u, [], rfl, ru, rfl⟩, by rw [List.length_append, List.length_singleton]; omega, p4⟩
  · have ei : i = ds.length := by omega
    subst ei
    refine .inl ⟨wk.stop Fc Hc (stc.kp wc.sub w1), ?_⟩
    rw [List.drop_length] at pc
    have hz := wk.hz
    exact pc (upd Fc Dn (.lst ws)) Hc (wc.frz hDc nMu) (stc.frz hD fDc _) (.ref Dn) ⟨Dn, ws, rfl, upd_same, by omega, rc.mono fun b o q => by rw [upd_ne (ne_of_none q fDc)]; exact q⟩
end
end Nw
set_option Elab.async false
set_option linter.all false
set_option maxRecDepth 100000
set_option maxHeartbeats 4000000
/-! Part S: statements. -/
namespace Nw
open PySem PySem.Spec L2
section
variable {S : Type}
def liftX {α : Type} (m : M S α) (r : Sl) (k : α → Mo S) : Mo S := fun s => match m s with
  | .ok a s' => k a s'
  | .exc x s' => some (.thr x r, s')
  | .bot => none
def sNil : Sl → Mo S := fun r s => some (.next r, s)
def seqK (g : Sl → Mo S) : Option (Flw × S) → Option (Flw × S)
  | some (.next r, s) => g r s
  | some (.rt d, s) => some (.rt d, s)
  | some (.brk r, s) => some (.brk r, s)
  | some (.cnt r, s) => some (.cnt r, s)
  | some (.thr x r, s) => some (.thr x r, s)
  | none => none
def sSeq (f g : Sl → Mo S) : Sl → Mo S := fun r s => seqK g (f r s)
def sRet (f : Sl → M S D) : Sl → Mo S := fun r => liftX (f r) r fun d s => some (.rt d, s)
def sRetN : Sl → Mo S := fun r s => some (.rt .non, s)
def sDrop (f : Sl → M S D) : Sl → Mo S := fun r => liftX (f r) r fun _ s => some (.next r, s)
def sAsg (tg : D → Sl → Option Sl) (f : Sl → M S D) : Sl → Mo S := fun r => liftX (f r) r fun d s => (tg d r).map fun r' => (.next r', s)
def sIf (c : Sl → M S Bool) (f g : Sl → Mo S) : Sl → Mo S := fun r => liftX (c r) r fun b => if b = true then f r else g r
def sCnt : Sl → Mo S := fun r s => some (.cnt r, s)
def sBrk : Sl → Mo S := fun r s => some (.brk r, s)
def loopK (k : Sl → Mo S) : Option (Flw × S) → Option (Flw × S)
  | some (.next r, s) => k r s
  | some (.cnt r, s) => k r s
  | some (.brk r, s) => some (.next r, s)
  | some (.rt d, s) => some (.rt d, s)
  | some (.thr x r, s) => some (.thr x r, s)
  | none => none
def optK {α : Type} (o : Option α) (k : α → Mo S) : Mo S := fun s => match o with
  | some a => k a s
  | none => none
def forL (tg : D → Sl → Option Sl) (body : Sl → Mo S) : List D → Sl → Mo S
  | [], r => fun s => some (.next r, s)
  | x :: xs, r => optK (tg x r) fun r' s => loopK (forL tg body xs) (body r' s)
def sFor (it : Sl → M S (List D)) (tg : D → Sl → Option Sl) (body : Sl → Mo S) : Sl → Mo S := fun r => liftX (it r) r fun xs => forL tg body xs r
def whileL (c : Sl → M S Bool) (body : Sl → Mo S) : Nat → Sl → Mo S
  | 0, _ => fun _ => none
  | n + 1, r => liftX (c r) r fun b => if b = true then (fun s => loopK (whileL c body n) (body r s)) else fun s => some (.next r, s)
end
/-! ### own things -/
def OwnAt (R : Reg) (H0 F H : Hp) (a : Addr) (d : D) : Prop := H0 a = none ∧ F a = none ∧ ¬ R.Mu a ∧ match d with
  | .row ds => ∃ vs, H a = some (.lst vs) ∧ ds.length ≤ sizeLine ∧ Reps R.K R.nm F ds vs
  | .tab kvs => ∃ ws, H a = some (.dK ws) ∧ kvs.length ≤ sizeLine ∧ RepsK R.K R.nm F kvs ws
  | _ => False
def isRT : D → Bool
  | .row _ => true
  | .tab _ => true
  | _ => false
theorem OwnAt.rt {R : Reg} {H0 F H : Hp} {a : Addr} {d : D} (h : OwnAt R H0 F H a d) : isRT d = true := by
  cases d <;> first | rfl | exact h.2.2.2.elim
structure Slots (R : Reg) (H0 : Hp) (O : List Nat) (F H : Hp) (σ : L2.St) (r : Sl) : Prop where
  pu : Pu R O F σ r
  ow : ∀ i d, i ∈ O → isRT d = true → r[i]? = some (some d) → ∃ a, σ[i]? = some (some (.ref a)) ∧ OwnAt R H0 F H a d
  ns : ∀ i d, i ∈ O → isRT d = false → r[i]? = some (some d) → ∃ v, σ[i]? = some (some v) ∧ Rep R.K R.nm F d v
  sep : ∀ i j a d e, i ∈ O → j ∈ O → isRT d = true → isRT e = true → r[i]? = some (some d) → r[j]? = some (some e) → σ[i]? = some (some (.ref a)) → σ[j]? = some (some (.ref a)) → i = j
section
variable {R : Reg} {H0 F H F' H' F0 : Hp} {O O' : List Nat} {σ σ' : L2.St} {r r' : Sl} {s : R.S}
theorem OwnAt.there {a : Addr} {d : D} (h : OwnAt R H0 F H a d) : ∃ o, H a = some o := by
  obtain ⟨_, _, _, h⟩ := h
  cases d with
  | row ds => obtain ⟨vs, e, _⟩ := h; exact ⟨_, e⟩
  | tab ds => obtain ⟨vs, e, _⟩ := h; exact ⟨_, e⟩
  | _ => exact h.elim
theorem OwnAt.step {a : Addr} {d : D} (h : OwnAt R H0 F H a d) (st : Stp R F H F' H') : OwnAt R H0 F' H' a d := by
  obtain ⟨o, ho⟩ := h.there
  obtain ⟨h0, hF, hm, h⟩ := h
  refine ⟨h0, st.freeF hF (by rw [ho]; exact fun z => nomatch z), hm, ?_⟩
  cases d with
  | row ds => obtain ⟨vs, e, hz, hr⟩ := h; exact ⟨vs, st.own hm hF e, hz, hr.mono st.fs⟩
  | tab ds => obtain ⟨vs, e, hz, hr⟩ := h; exact ⟨vs, st.own hm hF e, hz, hr.mono st.fs⟩
  | _ => exact h.elim
/-- .. where another own thing has changed -/
theorem OwnAt.other {a p : Addr} {d : D} {o : HO} (h : OwnAt R H0 F H a d) (ne : a ≠ p) : OwnAt R H0 F (upd H p o) a d := by
  obtain ⟨h0, hF, hm, h⟩ := h
  refine ⟨h0, hF, hm, ?_⟩
  cases d with
  | row ds => obtain ⟨vs, e, hz, hr⟩ := h; exact ⟨vs, by rw [upd_ne ne]; exact e, hz, hr⟩
  | tab ds => obtain ⟨vs, e, hz, hr⟩ := h; exact ⟨vs, by rw [upd_ne ne]; exact e, hz, hr⟩
  | _ => exact h.elim
theorem Slots.step (h : Slots R H0 O F H σ r) (st : Stp R F H F' H') : Slots R H0 O F' H' σ r :=
  ⟨h.pu.mono st.fs, (fun i d hi hr e => let ⟨a, h1, h2⟩ := h.ow i d hi hr e; ⟨a, h1, h2.step st⟩), (fun i d hi hr e => let ⟨a, h1, h2⟩ := h.ns i d hi hr e; ⟨a, h1, h2.mono st.fs⟩), h.sep⟩
theorem Slots.setAt {vs : List Nat} (h : Slots R H0 O F H σ r) (sa : SetAt R F vs σ σ' r r') (h1 : ∀ j ∈ O', j ∈ O ∧ j ∉ vs) (h2 : ∀ j ∈ O, j ∉ vs → j ∈ O') : Slots R H0 O' F H σ' r' where
  pu := ⟨by rw [sa.lenr, sa.len]; exact h.pu.len, fun j d hj e => by
    by_cases hv : j ∈ vs
    · exact sa.on j d hv e
    · obtain ⟨e1, e2⟩ := sa.off j hv
      rw [e2] at e
      rw [e1]
      exact h.pu.at_ j d (fun z => hj (h2 j z hv)) e⟩
  ow := fun j d hj hr e => by
    obtain ⟨k1, k2⟩ := h1 j hj
    obtain ⟨e1, e2⟩ := sa.off j k2
    rw [e2] at e
    rw [e1]
    exact h.ow j d k1 hr e
  ns := fun j d hj hr e => by
    obtain ⟨k1, k2⟩ := h1 j hj
    obtain ⟨e1, e2⟩ := sa.off j k2
    rw [e2] at e
    rw [e1]
    exact h.ns j d k1 hr e
  sep := fun i j a d e hi hj hr1 hr2 e1 e2 e3 e4 => by
    obtain ⟨k1, k2⟩ := h1 i hi
    obtain ⟨k3, k4⟩ := h1 j hj
    obtain ⟨o1, o2⟩ := sa.off i k2
    obtain ⟨o3, o4⟩ := sa.off j k4
    rw [o2] at e1
    rw [o4] at e2
    rw [o1] at e3
    rw [o3] at e4
    exact h.sep i j a d e k1 k3 hr1 hr2 e1 e2 e3 e4
/-- all own things are given out -/
theorem Slots.all (h : Slots R H0 O F H σ r) (w : Wd R F H s) (st : Stp R F0 H0 F H) : ∃ F', Wd R F' H s ∧ Stp R F0 H0 F' H ∧ Slots R H0 [] F' H σ r ∧ Same F F' ∧ ∀ a, F' a ≠ none → F a ≠ none ∨ ∃ i d, i ∈ O ∧ r[i]? = some (some d) ∧ σ[i]? = some (some (.ref a)) := by
  classical
  let own : Addr → Prop := fun a => ∃ i d, i ∈ O ∧ isRT d = true ∧ r[i]? = some (some d) ∧ σ[i]? = some (some (.ref a))
  have ownE : ∀ a, own a → ∃ d, OwnAt R H0 F H a d := fun a ⟨i, d, hi, hr, h1, h2⟩ => by
    obtain ⟨b, h3, h4⟩ := h.ow i d hi hr h1
    rw [h2] at h3
    cases h3
    exact ⟨d, h4⟩
  let G : Hp := fun a => if own a then H a else F a
  have sm : Same F G := fun a o e => by
    show (if own a then H a else F a) = some o
    by_cases c : own a
    · obtain ⟨d, hd⟩ := ownE a c
      rw [hd.2.1] at e
      cases e
    · rw [if_neg c]; exact e
  refine ⟨G, ⟨fun a o e => ?_, fun a m => ?_, w.si⟩, ⟨st.fs.trans sm, fun a o m q => (st.hs a o m q).imp id fun ⟨h1, h2⟩ => ⟨sm _ _ h1, h2⟩, fun a e => ?_, st.th⟩, ⟨⟨h.pu.len, fun i d _ e => ?_⟩, (fun i d hi => absurd hi (by simp)), (fun i d hi => absurd hi (by simp)), fun i j a d e hi => absurd hi (by simp)⟩, sm, fun a e => ?_⟩
  · have e : (if own a then H a else F a) = some o := e
    by_cases c : own a
    · rw [if_pos c] at e; exact .inl e
    · rw [if_neg c] at e; exact w.sub a o e
  · show (if own a then H a else F a) = none
    by_cases c : own a
    · obtain ⟨d, hd⟩ := ownE a c
      exact absurd m hd.2.2.1
    · rw [if_neg c]; exact w.mu a m
  · have e : (if own a then H a else F a) ≠ none := e
    by_cases c : own a
    · obtain ⟨d, hd⟩ := ownE a c
      exact .inr hd.1
    · rw [if_neg c] at e; exact st.nw a e
  · by_cases hi : i ∈ O
    · cases hrt : isRT d with
      | false =>
        obtain ⟨v, h1, h2⟩ := h.ns i d hi hrt e
        exact ⟨v, h1, h2.mono sm⟩
      | true =>
        obtain ⟨a, h1, h0, hF, hm, h2⟩ := h.ow i d hi hrt e
        refine ⟨_, h1, ?_⟩
        have c : own a := ⟨i, d, hi, hrt, e, h1⟩
        have ga : G a = H a := if_pos c
        cases d with
        | row ds => obtain ⟨vs, e1, hz, hr⟩ := h2; exact ⟨a, vs, rfl, by rw [ga]; exact e1, hz, hr.mono sm⟩
        | tab ds => obtain ⟨vs, e1, hz, hr⟩ := h2; exact ⟨a, vs, rfl, by rw [ga]; exact e1, hz, hr.mono sm⟩
        | _ => exact h2.elim
    · obtain ⟨v, h1, h2⟩ := h.pu.at_ i d hi e
      exact ⟨v, h1, h2.mono sm⟩
  · have e : (if own a then H a else F a) ≠ none := e
    by_cases c : own a
    · obtain ⟨i, d, hi, _, h1, h2⟩ := c
      exact .inr ⟨i, d, hi, h1, h2⟩
    · rw [if_neg c] at e; exact .inl e
end
/-! ### what is wanted behind a statement -/
/-- a value that is new, at its top -/
def Fre (R : Reg) (H0 F H : Hp) (d : D) (v : V) : Prop := match d with
  | .row ds => ∃ a, v = .ref a ∧ OwnAt R H0 F H a (.row ds)
  | .tab ds => ∃ a, v = .ref a ∧ OwnAt R H0 F H a (.tab ds)
  | d => Rep R.K R.nm F d v
/-- what a def tells: anything, a new thing, a thing whose rows and tables straight within it are new, a row of such things -/
inductive FrK where
  | f | t | e | g
def NewEl (H0 F : Hp) (d : D) (v : V) : Prop := match d with
  | .row ds => ∀ (a : Addr) (vs : List V), v = .ref a → F a = some (.lst vs) → ∀ (i : Nat) (x : D), ds[i]? = some x → isRT x = true → ∃ p : Addr, vs[i]? = some (V.ref p) ∧ H0 p = none
  | .tup ds => ∀ (a : Addr) (vs : List V), v = .ref a → F a = some (.tup vs) → ∀ (i : Nat) (x : D), ds[i]? = some x → isRT x = true → ∃ p : Addr, vs[i]? = some (V.ref p) ∧ H0 p = none
  | .tab _ => False
  | _ => True
def NewEls (H0 F : Hp) (ds : List D) (vs : List V) : Prop := ∀ (i : Nat) (d : D) (v : V), ds[i]? = some d → vs[i]? = some v → NewEl H0 F d v
def NewDs (H0 F : Hp) (d : D) (v : V) : Prop := match d with
  | .row ds => ∀ (a : Addr) (vs : List V), v = .ref a → F a = some (.lst vs) → NewEls H0 F ds vs
  | _ => True
def RetOk (fr : FrK) (R : Reg) (H0 F H : Hp) (d : D) (v : V) : Prop := match fr with
  | .f => Rep R.K R.nm F d v
  | .t => Fre R H0 F H d v
  | .e => Rep R.K R.nm F d v ∧ NewEl H0 F d v
  | .g => Rep R.K R.nm F d v ∧ NewDs H0 F d v
theorem NewEl.base {H0 H1 F : Hp} {d : D} {v : V} (rb : ∀ a, H1 a = none → H0 a = none) (h : NewEl H1 F d v) : NewEl H0 F d v := by
  cases d with
  | row ds => exact fun a vs e1 e2 i x e3 hr => let ⟨p, h1, h2⟩ := h a vs e1 e2 i x e3 hr; ⟨p, h1, rb p h2⟩
  | tup ds => exact fun a vs e1 e2 i x e3 hr => let ⟨p, h1, h2⟩ := h a vs e1 e2 i x e3 hr; ⟨p, h1, rb p h2⟩
  | _ => exact h
theorem NewDs.base {H0 H1 F : Hp} {d : D} {v : V} (rb : ∀ a, H1 a = none → H0 a = none) (h : NewDs H1 F d v) : NewDs H0 F d v := by
  cases d with
  | row ds => exact fun a vs e1 e2 i x u e3 e4 => (h a vs e1 e2 i x u e3 e4).base rb
  | _ => exact h
theorem NewEl.mono {K : PySem.W.Frag} {nm : Nat → Option Addr} {H0 F F' : Hp} {d : D} {v : V} (sm : Same F F') (r : Rep K nm F d v) (h : NewEl H0 F d v) : NewEl H0 F' d v := by
  cases d with
  | row ds =>
    obtain ⟨a, vs, e1, e2, _⟩ := r
    intro b ws e3 e4
    rw [e1] at e3
    cases e3
    rw [sm _ _ e2] at e4
    cases e4
    exact h a vs e1 e2
  | tup ds =>
    obtain ⟨a, vs, e1, e2, _⟩ := r
    intro b ws e3 e4
    rw [e1] at e3
    cases e3
    rw [sm _ _ e2] at e4
    cases e4
    exact h a vs e1 e2
  | _ => exact h
theorem Fre.base {R : Reg} {H0 H1 F H : Hp} {d : D} {v : V} (rb : ∀ a, H1 a = none → H0 a = none) (h : Fre R H1 F H d v) : Fre R H0 F H d v := by
  cases d with
  | row ds => obtain ⟨a, e, h1, h2⟩ := h; exact ⟨a, e, rb a h1, h2⟩
  | tab ds => obtain ⟨a, e, h1, h2⟩ := h; exact ⟨a, e, rb a h1, h2⟩
  | _ => exact h
theorem RetOk.base {fr : FrK} {R : Reg} {H0 H1 F H : Hp} {d : D} {v : V} (rb : ∀ a, H1 a = none → H0 a = none) (h : RetOk fr R H1 F H d v) : RetOk fr R H0 F H d v := by
  cases fr with
  | f => exact h
  | t => exact Fre.base rb h
  | e => exact ⟨h.1, h.2.base rb⟩
  | g => exact ⟨h.1, h.2.base rb⟩
/-- it is given out -/
theorem Fre.give {R : Reg} {F0 H0 F H : Hp} {s : R.S} {d : D} {v : V} (h : Fre R H0 F H d v) (w : Wd R F H s) (st : Stp R F0 H0 F H) : ∃ F', Wd R F' H s ∧ Stp R F0 H0 F' H ∧ Rep R.K R.nm F' d v := by
  have own : ∀ a o, OwnAt R H0 F H a d → H a = some o → Wd R (upd F a o) H s ∧ Stp R F0 H0 (upd F a o) H ∧ Same F (upd F a o) := fun a o h e => by
    refine ⟨w.frz e h.2.2.1, st.frz h.1 h.2.1 _, fun b u q => ?_⟩
    rw [upd_ne (ne_of_none q h.2.1)]; exact q
  cases d with
  | row ds =>
    obtain ⟨a, rfl, h⟩ := h
    obtain ⟨vs, e, hz, hr⟩ := h.2.2.2
    obtain ⟨h1, h2, h3⟩ := own a _ h e
    exact ⟨_, h1, h2, a, vs, rfl, upd_same, hz, hr.mono h3⟩
  | tab ds =>
    obtain ⟨a, rfl, h⟩ := h
    obtain ⟨vs, e, hz, hr⟩ := h.2.2.2
    obtain ⟨h1, h2, h3⟩ := own a _ h e
    exact ⟨_, h1, h2, a, vs, rfl, upd_same, hz, hr.mono h3⟩
  | _ => exact ⟨F, w, st, h⟩
def PostS (R : Reg) (fr : FrK) (F0 H0 : Hp) (o : Option (Flw × R.S)) (E : Ends) (W : WX) (B O' : List Nat) : Prop := match o with
  | some (.next r, s) => ∀ σ F H, Wd R F H s → Stp R F0 H0 F H → Slots R H0 O' F H σ r → E.nx σ H
  | some (.rt d, s) => ∀ v F H, Wd R F H s → Stp R F0 H0 F H → RetOk fr R H0 F H d v → E.rt v H
  | some (.brk r, s) => ∀ σ F H, Wd R F H s → Stp R F0 H0 F H → Slots R H0 B F H σ r → E.bk σ H
  | some (.cnt r, s) => ∀ σ F H, Wd R F H s → Stp R F0 H0 F H → Slots R H0 B F H σ r → E.ct σ H
  | some (.thr x r, s) => ∀ σ F H cls dd, Wd R F H s → Stp R F0 H0 F H → Slots R H0 [] F H σ r → RepX R.K R.nm F x cls dd → W cls dd σ H
  | none => False
def tDS (R : Reg) (W : WX) (fr : FrK) (B O O' : List Nat) (f : Sl → Mo R.S) : TS := fun E σ H => ∃ F0 H0 F r s, Wd R F H s ∧ Stp R F0 H0 F H ∧ Slots R H0 O F H σ r ∧ PostS R fr F0 H0 (f r s) E W B O'
section
variable {R : Reg} {W : WX} {fr : FrK} {B O O' O1 : List Nat} {F0 H0 F H : Hp} {σ : L2.St} {r : Sl} {s : R.S} {E : Ends}
/-- a part that computes, within a statement -/
theorem postS_x {α : Type} {m : M R.S α} {k : α → Mo R.S} (w : Wd R F H s) (st : Stp R F0 H0 F H) (sl : Slots R H0 O F H σ r) (h : PostS R fr F0 H0 (liftX m r k s) E W B O') :
    Post R F H (m s) (fun a s1 F1 H1 => Wd R F1 H1 s1 ∧ Stp R F0 H0 F1 H1 ∧ Slots R H0 O F1 H1 σ r ∧ PostS R fr F0 H0 (k a s1) E W B O') (fun x _ F' H' => ∀ cls dd, RepX R.K R.nm F' x cls dd → W cls dd σ H') := by
  unfold liftX at h
  cases e : m s with
  | ok a s1 => rw [e] at h; exact fun F1 H1 w1 st1 => ⟨w1, st.trans st1, sl.step st1, h⟩
  | exc x s1 =>
    rw [e] at h
    intro F1 H1 w1 st1 cls dd rx
    obtain ⟨G, wG, stG, slG, sm, _⟩ := (sl.step st1).all w1 (st.trans st1)
    exact h σ G H1 cls dd wG stG slG (rx.mono sm)
  | bot => rw [e] at h; exact h.elim
theorem PostS.ends {o : Option (Flw × R.S)} {E' : Ends} (h : PostS R fr F0 H0 o E W B O') (hr : E'.rt = E.rt) (hn : ∀ σ H, E.nx σ H → E'.nx σ H) (hb : ∀ σ H, E.bk σ H → E'.bk σ H) (hc : ∀ σ H, E.ct σ H → E'.ct σ H) : PostS R fr F0 H0 o E' W B O' := by
  match o, h with
  | some (.next r, s), h => exact fun σ F H w st sl => hn _ _ (h σ F H w st sl)
  | some (.rt d, s), h => exact fun v F H w st rv => by rw [hr]; exact h v F H w st rv
  | some (.brk r, s), h => exact fun σ F H w st sl => hb _ _ (h σ F H w st sl)
  | some (.cnt r, s), h => exact fun σ F H w st sl => hc _ _ (h σ F H w st sl)
  | some (.thr x r, s), h => exact h
end
section
variable {X : Cx} {R : Reg} {W : WX} {fr : FrK} {B O O' O1 : List Nat} {st : Stmt} {rest body orelse : List Stmt} {f g : Sl → Mo R.S} {pos : Pos} {e tg iter : Expr} {fe : Sl → M R.S D} {c : Sl → M R.S Bool}
theorem dss_nil : PSs X [] (tDS R W fr B O O sNil) := pss_imp pss_nil fun E σ H h => by
  obtain ⟨F0, H0, F, r, s, w, st, sl, p⟩ := h
  exact p σ F H w st sl
theorem dss_cons (h1 : PS X st (tDS R W fr B O O1 f)) (h2 : PSs X rest (tDS R W fr B O1 O' g)) : PSs X (st :: rest) (tDS R W fr B O O' (sSeq f g)) := pss_imp (pss_cons h1 h2) fun E σ H h => by
  obtain ⟨F0, H0, F, r, s, w, st, sl, p⟩ := h
  refine ⟨F0, H0, F, r, s, w, st, sl, ?_⟩
  unfold sSeq at p
  cases e : f r s with
  | none => rw [e] at p; exact p
  | some q =>
    obtain ⟨fl, s'⟩ := q
    rw [e] at p
    cases fl with
    | next r' => exact fun σ' F' H' w' st' sl' => ⟨F0, H0, F', r', s', w', st', sl', p⟩
    | rt d => exact p
    | brk r' => exact p
    | cnt r' => exact p
    | thr x r' => exact p
theorem dss_one (h1 : PS X st (tDS R W fr B O O' f)) : PSs X [st] (tDS R W fr B O O' f) := pss_one h1
theorem ds_pass : PS X (.Pass pos) (tDS R W fr B O O sNil) := ps_imp ps_pass fun E σ H h => by
  obtain ⟨F0, H0, F, r, s, w, st, sl, p⟩ := h
  exact p σ F H w st sl
theorem ds_cnt : PS X (.Continue pos) (tDS R W fr O O O' sCnt) := ps_imp ps_continue fun E σ H h => by
  obtain ⟨F0, H0, F, r, s, w, st, sl, p⟩ := h
  exact p σ F H w st sl
theorem ds_ret (he : PE X e (tD R W O fe)) : PS X (.Return (some e) pos) (tDS R W .f B O O' (sRet fe)) := ps_imp (ps_ret he) fun E σ H h => by
  obtain ⟨F0, H0, F, r, s, w, st, sl, p⟩ := h
  exact ⟨F, r, s, w, sl.pu, (postS_x w st sl p).imp (fun d s1 F1 H1 w1 st1 q v rv => q.2.2.2 v F1 H1 q.1 q.2.1 rv) fun _ _ _ _ _ _ z => z⟩
theorem ds_retN : PS X (.Return none pos) (tDS R W fr B O O' sRetN) := ps_imp ps_retN fun E σ H h => by
  obtain ⟨F0, H0, F, r, s, w, st, sl, p⟩ := h
  exact p .non F H w st (by cases fr <;> first | exact rfl | exact ⟨rfl, trivial⟩)
theorem ds_expr (he : PE X e (tD R W O fe)) (hs : swapsWith e none pos.line X.env = pure false := by rfl) : PS X (.Expr e pos) (tDS R W fr B O O (sDrop fe)) := ps_imp (ps_expr he hs) fun E σ H h => by
  obtain ⟨F0, H0, F, r, s, w, st, sl, p⟩ := h
  exact ⟨F, r, s, w, sl.pu, (postS_x w st sl p).imp (fun d s1 F1 H1 w1 st1 q v rv => q.2.2.2 σ F1 H1 q.1 q.2.1 q.2.2.1) fun _ _ _ _ _ _ z => z⟩
theorem ds_doc {x j pos pos'} : PS X (.Expr (.Constant (.str x) j pos) pos') (tDS R W fr B O O sNil) := ps_imp ps_doc fun E σ H h => by
  obtain ⟨F0, H0, F, r, s, w, st, sl, p⟩ := h
  exact p σ F H w st sl
theorem ds_if {t : Expr} {a b : List Stmt} (hc : PT X t (tDT R W O c)) (ha : PSs X a (tDS R W fr B O O' f)) (hb : PSs X b (tDS R W fr B O O' g)) : PS X (.If t a b pos) (tDS R W fr B O O' (sIf c f g)) := ps_imp (ps_if hc ha hb) fun E σ H h => by
  obtain ⟨F0, H0, F, r, s, w, st, sl, p⟩ := h
  refine ⟨F, r, s, w, sl.pu, (postS_x w st sl p).imp (fun k s1 F1 H1 w1 st1 q => ?_) fun _ _ _ _ _ _ z => z⟩
  obtain ⟨w2, st2, sl2, p2⟩ := q
  cases k with
  | true => rw [if_pos rfl] at p2 ⊢; exact ⟨F0, H0, F1, r, s1, w2, st2, sl2, p2⟩
  | false => rw [if_neg Bool.false_ne_true] at p2 ⊢; exact ⟨F0, H0, F1, r, s1, w2, st2, sl2, p2⟩
/-- target = e -/
theorem sat_asg {gt : TG} {vs : List Nat} {tgt : D → Sl → Option Sl} (hg : TgSat R gt vs tgt) (h1 : ∀ j ∈ O', j ∈ O ∧ j ∉ vs) (h2 : ∀ j ∈ O, j ∉ vs → j ∈ O') (E : Ends) (σ : L2.St) (H : Hp) (h : tDS R W fr B O O' (sAsg tgt fe) E σ H) : tAsg (tD R W O fe) gt E σ H := by
  obtain ⟨F0, H0, F, r, s, w, st, sl, p⟩ := h
  refine ⟨F, r, s, w, sl.pu, (postS_x w st sl p).imp (fun d s1 F1 H1 w1 st1 q v rv => ?_) fun _ _ _ _ _ _ z => z⟩
  obtain ⟨w2, st2, sl2, p2⟩ := q
  cases et : tgt d r with
  | none => rw [et] at p2; exact p2.elim
  | some r' =>
    rw [et] at p2
    exact hg v d σ r r' F1 H1 _ w2.sub rv sl2.pu.len et fun σ' sa => p2 σ' F1 H1 w2 st2 (sl2.setAt sa h1 h2)
theorem ds_set {i : Nat} {x : Str} {pos' : Pos} (hN : X.N.Nodup) (hi : X.N[i]? = some x) (hx : Loc X.env.scope x) (he : PE X e (tD R W O fe)) (h1 : ∀ j ∈ O', j ∈ O ∧ j ∉ [i]) (h2 : ∀ j ∈ O, j ∉ [i] → j ∈ O') (hs : swapsWith e (some (.Name x pos')) pos.line X.env = pure false := by rfl) (hf : X.fn x = true ∨ X.env.scope.names.lookup x = some .local := by first | exact .inl rfl | exact .inr rfl | assumption) :
    PS X (.Assign [.Name x pos'] e pos) (tDS R W fr B O O' (sAsg (tgN i) fe)) := ps_imp (ps_set hN hi hx he hs hf) (sat_asg tg_name h1 h2)
/-- another base, from here on -/
structure Rb (R : Reg) (F0 H0 F1 H1 : Hp) : Prop where
  st : ∀ F2 H2, Stp R F1 H1 F2 H2 → Stp R F0 H0 F2 H2
  nn : ∀ a, H1 a = none → H0 a = none
theorem Slots.base {F0 H0 F H H1 F2 H2 : Hp} {σ : L2.St} {r : Sl} (rb : ∀ a, H1 a = none → H0 a = none) (h : Slots R H1 O F H σ r) : Slots R H0 O F H σ r :=
  ⟨h.pu, (fun i d hi hr e => let ⟨a, h1, h2, h3⟩ := h.ow i d hi hr e; ⟨a, h1, rb a h2, h3⟩), h.ns, h.sep⟩
theorem Slots.rebase {F0 H0 F H : Hp} {σ : L2.St} {r : Sl} {s : R.S} (sl : Slots R H0 O F H σ r) (w : Wd R F H s) (st : Stp R F0 H0 F H) : ∃ H1, Stp R F H1 F H ∧ Slots R H1 O F H σ r ∧ Rb R F0 H0 F H1 ∧ ∀ a o, F a = some o → H1 a = H a := by
  classical
  let own : Addr → Prop := fun a => ∃ i d, i ∈ O ∧ isRT d = true ∧ r[i]? = some (some d) ∧ σ[i]? = some (some (.ref a))
  have ownE : ∀ a, own a → ∃ d, OwnAt R H0 F H a d := fun a ⟨i, d, hi, hr, h1, h2⟩ => by
    obtain ⟨b, h3, h4⟩ := sl.ow i d hi hr h1
    rw [h2] at h3
    cases h3
    exact ⟨d, h4⟩
  let G : Hp := fun a => if own a then none else H a
  have g1 : ∀ a, own a → G a = none := fun a c => if_pos c
  have g2 : ∀ a, ¬ own a → G a = H a := fun a c => if_neg c
  have nn : ∀ a, G a = none → H0 a = none := fun a e => by
    by_cases c : own a
    · obtain ⟨d, hd⟩ := ownE a c; exact hd.1
    · rw [g2 a c] at e; exact st.th a e
  refine ⟨G, ⟨fun _ _ e => e, fun a o _ e => ?_, fun a e => .inl e, fun a e => ?_⟩, ⟨sl.pu, fun i d hi hrt e => ?_, sl.ns, sl.sep⟩, ⟨fun F2 H2 s2 => ⟨st.fs.trans s2.fs, fun a o m e => ?_, fun a e => ?_, fun a e => nn a (s2.th a e)⟩, nn⟩, fun a o e => ?_⟩
  · by_cases c : own a
    · rw [g1 a c] at e; cases e
    · rw [g2 a c] at e; exact .inl e
  · by_cases c : own a
    · exact g1 a c
    · rw [g2 a c]; exact e
  · obtain ⟨a, h1, h2, h3⟩ := sl.ow i d hi hrt e
    exact ⟨a, h1, g1 a ⟨i, d, hi, hrt, e, h1⟩, h3⟩
  · have q := st.hs a o m e
    by_cases c : own a
    · obtain ⟨d, hd⟩ := ownE a c; rw [hd.1] at e; cases e
    · rcases q with q | ⟨q1, kvs, ob, q2, q3⟩
      · exact s2.hs a o m (by rw [g2 a c]; exact q)
      · exact .inr ⟨s2.fs _ _ q1, kvs, ob, q2, s2.nd m (fun _ z => nomatch z) (by rw [g2 a c]; exact q3)⟩
  · rcases s2.nw a e with q | q
    · exact st.nw a q
    · exact .inr (nn a q)
  · by_cases c : own a
    · obtain ⟨d, hd⟩ := ownE a c; rw [hd.2.1] at e; cases e
    · exact g2 a c
theorem Stp.kpr {F H H1 F2 H2 : Hp} {s : R.S} (st : Stp R F H1 F2 H2) (sb : Sub F2 H2) (w : Wd R F H s) (h : ∀ a o, F a = some o → H1 a = H a) : Kp F H F2 H2 := ⟨st.fs, sb, fun a ob kvs h1 h2 => st.nd (fun m => by rw [w.mu a m] at h1; cases h1) (fun _ z => nomatch z) (by rw [h a _ h1]; exact h2)⟩
theorem PostS.rebase {F0 H0 F1 H1 : Hp} {o : Option (Flw × R.S)} {E : Ends} (h : PostS R fr F0 H0 o E W B O') (rb : Rb R F0 H0 F1 H1) : PostS R fr F1 H1 o E W B O' := by
  match o, h with
  | some (.next r, s), h => exact fun σ F H w st sl => h σ F H w (rb.st _ _ st) (sl.base (F0 := F0) (F2 := F0) (H2 := H0) rb.nn)
  | some (.rt d, s), h => exact fun v F H w st rv => h v F H w (rb.st _ _ st) (rv.base rb.nn)
  | some (.brk r, s), h => exact fun σ F H w st sl => h σ F H w (rb.st _ _ st) (sl.base (F0 := F0) (F2 := F0) (H2 := H0) rb.nn)
  | some (.cnt r, s), h => exact fun σ F H w st sl => h σ F H w (rb.st _ _ st) (sl.base (F0 := F0) (F2 := F0) (H2 := H0) rb.nn)
  | some (.thr x r, s), h => exact fun σ F H cls dd w st sl rx => h σ F H cls dd w (rb.st _ _ st) (sl.base (F0 := F0) (F2 := F0) (H2 := H0) rb.nn) rx
/-- one turn of a loop -/
theorem forL_turn {F0 H0 : Hp} {tgt : D → Sl → Option Sl} {x : D} {xs : List D} {r : Sl} {s : R.S} {E : Ends} {N : L2.St → Hp → Prop} (p : PostS R fr F0 H0 (forL tgt f (x :: xs) r s) E W B O)
    (hN : ∀ r2 s2 σ F H, Wd R F H s2 → Stp R F0 H0 F H → Slots R H0 O F H σ r2 → PostS R fr F0 H0 (forL tgt f xs r2 s2) E W B O → N σ H) : ∃ r', tgt x r = some r' ∧ PostS R fr F0 H0 (f r' s) { E with nx := N, ct := N, bk := E.nx } W O O := by
  have p : PostS R fr F0 H0 (optK (tgt x r) (fun r' s => loopK (forL tgt f xs) (f r' s)) s) E W B O := p
  cases et : tgt x r with
  | none => rw [et] at p; exact p.elim
  | some r' =>
    rw [et] at p
    refine ⟨r', rfl, ?_⟩
    have p : PostS R fr F0 H0 (loopK (forL tgt f xs) (f r' s)) E W B O := p
    cases ef : f r' s with
    | none => rw [ef] at p; exact p
    | some q =>
      obtain ⟨fl, s'⟩ := q
      rw [ef] at p
      cases fl with
      | next r2 => exact fun σ F H w st sl => hN r2 s' σ F H w st sl p
      | cnt r2 => exact fun σ F H w st sl => hN r2 s' σ F H w st sl p
      | brk r2 => exact p
      | rt d => exact p
      | thr x r2 => exact p
theorem sat_for {it : Sl → M R.S (List D)} {gt : TG} {vs : List Nat} {tgt : D → Sl → Option Sl} (hgs : TgSat R gt vs tgt) (hv : ∀ j ∈ O, j ∉ vs) (E : Ends) (σ : L2.St) (H : Hp) (h : tDS R W fr B O O (sFor it tgt f) E σ H) : tFor (tDI R W O it) gt (tDS R W fr O O O f) E σ H := by
  obtain ⟨F0, H0, F, r, s, w, st, sl, p⟩ := h
  refine ⟨F, r, s, w, sl.pu, (postS_x w st sl p).imp (fun ds s1 F1 H1 w1 st1 q J wk => ?_) fun _ _ _ _ _ _ z => z⟩
  obtain ⟨w2, st2, sl2, p2⟩ := q
  obtain ⟨Hb, stb, slb, rb, hb⟩ := sl2.rebase w2 st2
  have p3 := p2.rebase rb
  refine ⟨fun i m σc Hc => m = ds.length - i ∧ i ≤ ds.length ∧ ∃ Fc rc sc, Wd R Fc Hc sc ∧ Stp R F1 Hb Fc Hc ∧ Slots R Hb O Fc Hc σc rc ∧ PostS R fr F1 Hb (forL tgt f (ds.drop i) rc sc) E W B O,
    ⟨_, rfl, Nat.zero_le _, F1, r, s1, w2, stb, slb, p3⟩, ?_⟩
  rintro i m σc Hc ⟨rfl, hi, Fc, rc, sc, wc, stc, slc, pc⟩
  have kp : Kp F1 H1 Fc Hc := stc.kpr wc.sub w2 hb
  by_cases hlt : i < ds.length
  · refine .inr ⟨wk.go i Fc Hc kp hlt, fun σn Hn => (ds.length - (i + 1)) = ds.length - (i + 1) ∧ i + 1 ≤ ds.length ∧ ∃ Fc rc sc, Wd R Fc Hn sc ∧ Stp R F1 Hb Fc Hn ∧ Slots R Hb O Fc Hn σn rc ∧ PostS R fr F1 Hb (forL tgt f (ds.drop (i + 1)) rc sc) E W B O,
      fun σ' H' q => ⟨_, by omega, q⟩, fun x H' y => ?_⟩
    obtain ⟨rfl, d, hd, rd⟩ := wk.yld i Fc Hc x H' kp hlt y
    have ed : ds.drop i = d :: ds.drop (i + 1) := by
      rw [List.drop_eq_getElem_cons hlt]
      rw [List.getElem?_eq_getElem hlt] at hd
      cases hd
      rfl
    rw [ed] at pc
    obtain ⟨r', er, pb⟩ := forL_turn (N := fun σn Hn => (ds.length - (i + 1)) = ds.length - (i + 1) ∧ i + 1 ≤ ds.length ∧ ∃ Fc rc sc, Wd R Fc Hn sc ∧ Stp R F1 Hb Fc Hn ∧ Slots R Hb O Fc Hn σn rc ∧ PostS R fr F1 Hb (forL tgt f (ds.drop (i + 1)) rc sc) E W B O) pc fun r2 s2 σ2 F2 H2 w2 st2 sl2 q2 => ⟨rfl, hlt, F2, r2, s2, w2, st2, sl2, q2⟩
    exact hgs x d σc rc r' Fc H' _ wc.sub rd slc.pu.len er fun σ2 sa => ⟨F1, Hb, Fc, r', sc, wc, stc, slc.setAt sa (fun j hj => ⟨hj, hv j hj⟩) fun j hj _ => hj, pb⟩
  · have ei : i = ds.length := by omega
    subst ei
    rw [List.drop_length] at pc
    exact .inl ⟨wk.stop Fc Hc kp, pc σc Fc Hc wc stc slc⟩
/-- for -/
theorem ds_for {it : Sl → M R.S (List D)} {gt : TG} {vs : List Nat} {tgt : D → Sl → Option Sl} (hp : PassesOwn (model X.prog X.w) X.A X.env X.xe) (hc : X.calm = true) (hi : PI X tg iter (tDI R W O it)) (hg : PG X tg gt) (hgs : TgSat R gt vs tgt) (hb : PSs X body (tDS R W fr O O O f)) (hv : ∀ j ∈ O, j ∉ vs)
    (hs : ∀ x, foldedSetIterable iter X.env x = pure x := by intro _; rfl) : PS X (.For tg iter body [] pos) (tDS R W fr B O O (sFor it tgt f)) := ps_imp (ps_for hp hc hi hg hb hs) (sat_for hgs hv)
/-- while, so many turns at most -/
theorem sat_while (n : Nat) (E : Ends) (σ : L2.St) (H : Hp) (h : tDS R W fr B O O (fun r => whileL c f n r) E σ H) : tWhile (tDT R W O c) (tDS R W fr O O O f) E σ H := by
  obtain ⟨F0, H0, F, r, s, w, st, sl, p⟩ := h
  refine ⟨fun m σc Hc => ∃ Fc rc sc, Wd R Fc Hc sc ∧ Stp R F0 H0 Fc Hc ∧ Slots R H0 O Fc Hc σc rc ∧ PostS R fr F0 H0 (whileL c f m rc sc) E W B O, ⟨n, F, r, s, w, st, sl, p⟩, ?_⟩
  rintro m σc Hc ⟨Fc, rc, sc, wc, stc, slc, pc⟩
  cases m with
  | zero => exact pc.elim
  | succ m =>
    have pc : PostS R fr F0 H0 (liftX (c rc) rc (fun b => if b = true then (fun s => loopK (whileL c f m) (f rc s)) else fun s => some (.next rc, s)) sc) E W B O := pc
    refine ⟨Fc, rc, sc, wc, slc.pu, (postS_x wc stc slc pc).imp (fun b s1 F1 H1 w1 st1 q => ?_) fun _ _ _ _ _ _ z => z⟩
    obtain ⟨w2, st2, sl2, p2⟩ := q
    cases b with
    | false =>
      refine iteF ?_
      exact p2 σc F1 H1 w2 st2 sl2
    | true =>
      refine iteT ?_
      refine ⟨fun σ' H' => ∃ Fc rc sc, Wd R Fc H' sc ∧ Stp R F0 H0 Fc H' ∧ Slots R H0 O Fc H' σ' rc ∧ PostS R fr F0 H0 (whileL c f m rc sc) E W B O, fun σ' H' q => ⟨m, by omega, q⟩, F0, H0, F1, rc, s1, w2, st2, sl2, ?_⟩
      have p2 : PostS R fr F0 H0 (loopK (whileL c f m) (f rc s1)) E W B O := p2
      cases ef : f rc s1 with
      | none => rw [ef] at p2; exact p2
      | some q =>
        obtain ⟨fl, s'⟩ := q
        rw [ef] at p2
        cases fl with
        | next r2 => exact fun σ' F' H' w' st' sl' => ⟨F', r2, s', w', st', sl', p2⟩
        | cnt r2 => exact fun σ' F' H' w' st' sl' => ⟨F', r2, s', w', st', sl', p2⟩
        | brk r2 => exact p2
        | rt d => exact p2
        | thr x r2 => exact p2
theorem ds_while (n : Nat) (hp : PassesOwn (model X.prog X.w) X.A X.env X.xe) (hc : PT X e (tDT R W O c)) (hb : PSs X body (tDS R W fr O O O f)) : PS X (.While e body [] pos) (tDS R W fr B O O (fun r => whileL c f n r)) := ps_imp (ps_while hp hc hb) (sat_while n)
/-- a def's own things are given out ahead of the rest -/
theorem dss_frz {stm : List Stmt} (h : PSs X stm (tDS R W fr B O1 O' f)) (h1 : ∀ j ∈ O1, j ∈ O) : PSs X stm (tDS R W fr B O O' f) := pss_imp h fun E σ H h => by
  classical
  obtain ⟨F0, H0, F, r, s, w, st, sl, p⟩ := h
  -- those of O that are not in O1
  let own : Addr → Prop := fun a => ∃ i d, i ∈ O ∧ i ∉ O1 ∧ isRT d = true ∧ r[i]? = some (some d) ∧ σ[i]? = some (some (.ref a))
  have ownE : ∀ a, own a → ∃ d, OwnAt R H0 F H a d := fun a ⟨i, d, hi, _, hr, k1, k2⟩ => by
    obtain ⟨b, k3, k4⟩ := sl.ow i d hi hr k1
    rw [k2] at k3
    cases k3
    exact ⟨d, k4⟩
  let G : Hp := fun a => if own a then H a else F a
  have g1 : ∀ a, own a → G a = H a := fun a c => if_pos c
  have g2 : ∀ a, ¬ own a → G a = F a := fun a c => if_neg c
  have sm : Same F G := fun a o e => by
    by_cases c : own a
    · obtain ⟨d, hd⟩ := ownE a c
      rw [hd.2.1] at e
      cases e
    · rw [g2 a c]; exact e
  refine ⟨F0, H0, G, r, s, ⟨fun a o e => ?_, fun a m => ?_, w.si⟩, ⟨st.fs.trans sm, fun a o m q => (st.hs a o m q).imp id fun ⟨h1, h2⟩ => ⟨sm _ _ h1, h2⟩, fun a e => ?_, st.th⟩, ⟨⟨sl.pu.len, fun i d hi e => ?_⟩, fun i d hi hrt e => ?_, (fun i d hi hrt e => let ⟨v, q1, q2⟩ := sl.ns i d (h1 i hi) hrt e; ⟨v, q1, q2.mono sm⟩), fun i j a d e hi hj => sl.sep i j a d e (h1 i hi) (h1 j hj)⟩, p⟩
  · by_cases c : own a
    · rw [g1 a c] at e; exact .inl e
    · rw [g2 a c] at e; exact w.sub a o e
  · by_cases c : own a
    · obtain ⟨d, hd⟩ := ownE a c
      exact absurd m hd.2.2.1
    · rw [g2 a c]; exact w.mu a m
  · by_cases c : own a
    · obtain ⟨d, hd⟩ := ownE a c
      exact .inr hd.1
    · rw [g2 a c] at e; exact st.nw a e
  · by_cases hO : i ∈ O
    · cases hrt : isRT d with
      | false =>
        obtain ⟨v, q1, q2⟩ := sl.ns i d hO hrt e
        exact ⟨v, q1, q2.mono sm⟩
      | true =>
        obtain ⟨a, k1, k0, hF, hm, k2⟩ := sl.ow i d hO hrt e
        refine ⟨_, k1, ?_⟩
        have ga : G a = H a := g1 a ⟨i, d, hO, hi, hrt, e, k1⟩
        cases d with
        | row ds => obtain ⟨vs, e1, hz, hr⟩ := k2; exact ⟨a, vs, rfl, by rw [ga]; exact e1, hz, hr.mono sm⟩
        | tab ds => obtain ⟨vs, e1, hz, hr⟩ := k2; exact ⟨a, vs, rfl, by rw [ga]; exact e1, hz, hr.mono sm⟩
        | _ => exact k2.elim
    · obtain ⟨v, k1, k2⟩ := sl.pu.at_ i d hO e
      exact ⟨v, k1, k2.mono sm⟩
  · obtain ⟨a, k1, k0, hF, hm, k2⟩ := sl.ow i d (h1 i hi) hrt e
    have c : ¬ own a := fun ⟨j, d', hj, hj1, hr', e1, e2⟩ => hj1 (by rw [← sl.sep i j a d d' (h1 i hi) hj hrt hr' e e1 k1 e2]; exact hi)
    refine ⟨a, k1, k0, by rw [g2 a c]; exact hF, hm, ?_⟩
    cases d with
    | row ds => obtain ⟨vs, e1, hz, hr⟩ := k2; exact ⟨vs, e1, hz, hr.mono sm⟩
    | tab ds => obtain ⟨vs, e1, hz, hr⟩ := k2; exact ⟨vs, e1, hz, hr.mono sm⟩
    | _ => exact k2.elim
end
end Nw
set_option Elab.async false
set_option linter.all false
set_option maxRecDepth 100000
set_option maxHeartbeats 4000000
/-! Part E: == and !=, in. -/
namespace Nw
open PySem PySem.Spec L2
def simD : D → Bool
  | .non => true | .bl _ => true | .int _ => true | .str _ => true | .row _ => true | .tup _ => true | _ => false
def eqLN (f : D → D → Option Bool) : List D → List D → Option Bool
  | x :: xs, y :: ys => (f x y).bind fun a => (eqLN f xs ys).map fun b => a && b
  | _, _ => some true
def eqN : Nat → D → D → Option Bool
  | 0 => fun _ _ => none
  | n + 1 => fun d e => match d, e with
    | .non, .non => some true
    | .bl a, .bl b => some (a == b)
    | .int a, .int b => some (a == b)
    | .str a, .str b => some (a == b)
    | .bl a, .int b => some ((if a then 1 else 0) == b)
    | .int a, .bl b => some (a == (if b then 1 else 0))
    | .row xs, .row ys => if xs.length = ys.length then eqLN (eqN n) xs ys else some false
    | .tup xs, .tup ys => (eqLN (eqN n) xs ys).map fun a => a && (xs.length == ys.length)
    | d, e => if simD d && simD e then some false else none
section
variable {K : PySem.W.Frag} {nm : Nat → Option Addr} {F : Hp}
theorem eqLN_same {f : D → D → Option Bool} (hf : ∀ d e v k, Rep K nm F d v → Rep K nm F e v → f d e = some k → k = true) : ∀ {xs ys : List D} {vs : List V} {k : Bool}, Reps K nm F xs vs → Reps K nm F ys vs → eqLN f xs ys = some k → k = true
  | [], ys, vs, k, r, q, e => by
    rw [show vs = [] from r] at q
    cases ys with
    | nil => cases e; rfl
    | cons y ys => obtain ⟨v, ws, e', _⟩ := q; cases e'
  | x :: xs, ys, vs, k, r, q, e => by
    obtain ⟨v, ws, rfl, r1, r2⟩ := r
    cases ys with
    | nil => cases (show (v :: ws : List V) = [] from q)
    | cons y ys =>
      obtain ⟨v', ws', e', q1, q2⟩ := q
      cases e'
      unfold eqLN at e
      cases e1 : f x y with
      | none => rw [e1] at e; cases e
      | some a =>
        rw [e1] at e
        cases e2 : eqLN f xs ys with
        | none => rw [e2] at e; cases e
        | some b =>
          rw [e2] at e
          cases e
          rw [hf x y v a r1 q1 e1, eqLN_same hf r2 q2 e2]
          rfl
theorem eqN_same : ∀ (n : Nat) (d e : D) (v : V) (k : Bool), Rep K nm F d v → Rep K nm F e v → eqN n d e = some k → k = true
  | 0, _, _, _, _, _, _, h => by cases h
  | n + 1, d, e, v, k, r, q, h => by
    cases d <;> cases e <;> first
      | (cases (show (none : Option Bool) = some k from h))
      | (cases (show some true = some k from h); rfl)
      | (rename_i a b; cases (show some (a == b) = some k from h); first
          | (cases (show v = V.bl a from r); cases (show V.bl a = V.bl b from q); exact beq_self_eq_true _)
          | (cases (show v = V.int a from r); cases (show V.int a = V.int b from q); exact beq_self_eq_true _)
          | (cases r.1; cases q.1; exact beq_self_eq_true _))
      | (rename_i xs ys
         have h : (if xs.length = ys.length then eqLN (eqN n) xs ys else some false) = some k := h
         obtain ⟨a, vs, rfl, e1, _, r1⟩ := r
         obtain ⟨b, ws, e0, e2, _, r2⟩ := q
         cases e0
         rw [e1] at e2
         cases e2
         rw [if_pos (r1.length.symm.trans r2.length)] at h
         exact eqLN_same (eqN_same n) r1 r2 h)
      | (rename_i xs ys
         have h : ((eqLN (eqN n) xs ys).map fun a => a && (xs.length == ys.length)) = some k := h
         obtain ⟨a, vs, rfl, e1, _, r1⟩ := r
         obtain ⟨b, ws, e0, e2, _, r2⟩ := q
         cases e0
         rw [e1] at e2
         cases e2
         cases el : eqLN (eqN n) xs ys with
         | none => rw [el] at h; cases h
         | some z =>
           rw [el] at h
           cases h
           rw [eqLN_same (eqN_same n) r1 r2 el, r1.length.symm.trans r2.length]
           simp)
      | (exfalso; first
          | (cases (show v = V.non from r); first | (cases (show V.non = V.bl _ from q)) | (cases (show V.non = V.int _ from q)) | (cases q.1) | (obtain ⟨_, _, e0, _⟩ := q; cases e0))
          | (rename_i a b; cases (show v = V.bl a from r); first | (cases (show V.bl a = V.int _ from q)) | (cases q.1) | (obtain ⟨_, _, e0, _⟩ := q; cases e0))
          | (rename_i a; cases (show v = V.bl a from r); first | (cases (show V.bl a = V.non from q)))
          | (rename_i a b; cases (show v = V.int a from r); first | (cases (show V.int a = V.bl _ from q)) | (cases q.1) | (obtain ⟨_, _, e0, _⟩ := q; cases e0))
          | (rename_i a; cases (show v = V.int a from r); first | (cases (show V.int a = V.non from q)))
          | (cases r.1; first | (cases (show V.str _ = V.non from q)) | (cases (show V.str _ = V.bl _ from q)) | (cases (show V.str _ = V.int _ from q)) | (obtain ⟨_, _, e0, _⟩ := q; cases e0))
          | (obtain ⟨_, _, rfl, e1, _⟩ := r; first | (cases (show V.ref _ = V.non from q)) | (cases (show V.ref _ = V.bl _ from q)) | (cases (show V.ref _ = V.int _ from q)) | (cases q.1) | (obtain ⟨_, _, e0, e2, _⟩ := q; cases e0; rw [e1] at e2; cases e2)))
end
section
variable {X : Cx} {nm : Nat → Option Addr} {F H : Hp} {pins : List (Addr × Obj)} {σ : L2.St} {s : Shared}
/-- the items of two rows, one by one -/
theorem eqLN_at {f : D → D → Option Bool} {A : Around} (hf : ∀ d e v u v' u' k, Rep X.K nm F d v → Rep X.K nm F e u → RelV v v' → RelV u u' → f d e = some k → SeqAt.EqAt A s v' u' k) :
    ∀ {xs ys : List D} {vs ws : List V} {us ts : List Value} {k : Bool}, Reps X.K nm F xs vs → Reps X.K nm F ys ws → Vals vs us → Vals ws ts → eqLN f xs ys = some k →
      ∃ e : Nat → Bool, (∀ j (h1 : j < us.length) (h2 : j < ts.length), SeqAt.EqAt A s us[j] ts[j] (e j)) ∧ (List.range (min us.length ts.length)).all e = k
  | [], ys, vs, ws, us, ts, k, r, q, ru, rt, h => by
    rw [show vs = [] from r] at ru
    cases ru
    cases h
    exact ⟨fun _ => true, fun j h1 => absurd h1 (Nat.not_lt_zero j), by simp⟩
  | x :: xs, [], vs, ws, us, ts, k, r, q, ru, rt, h => by
    rw [show ws = [] from q] at rt
    cases rt
    cases h
    exact ⟨fun _ => true, fun j _ h1 => absurd h1 (Nat.not_lt_zero j), by simp⟩
  | x :: xs, y :: ys, vs, ws, us, ts, k, r, q, ru, rt, h => by
    obtain ⟨v, vs', rfl, r1, r2⟩ := r
    obtain ⟨w, ws', rfl, q1, q2⟩ := q
    cases ru with
    | cons a1 a2 =>
      cases rt with
      | cons b1 b2 =>
        unfold eqLN at h
        cases e1 : f x y with
        | none => rw [e1] at h; cases h
        | some a =>
          rw [e1] at h
          cases e2 : eqLN f xs ys with
          | none => rw [e2] at h; cases h
          | some b =>
            rw [e2] at h
            cases h
            obtain ⟨e, he, hk⟩ := eqLN_at hf r2 q2 a2 b2 e2
            refine ⟨fun j => match j with | 0 => a | j + 1 => e j, fun j h1 h2 => ?_, ?_⟩
            · cases j with
              | zero => exact hf x y v w _ _ a r1 q1 a1 b1 e1
              | succ j => exact he j (Nat.lt_of_succ_lt_succ h1) (Nat.lt_of_succ_lt_succ h2)
            · rw [List.length_cons, List.length_cons, Nat.add_min_add_right, List.range_succ_eq_map, List.all_cons, List.all_map]
              show (a && (List.range _).all e) = (a && b)
              rw [hk]
theorem all_size {xs ys : List D} {vs ws : List V} {us ts : List Value} (r : Reps X.K nm F xs vs) (q : Reps X.K nm F ys ws) (ru : Vals vs us) (rt : Vals ws ts) : us.length = xs.length ∧ ts.length = ys.length :=
  ⟨by rw [← ru.length, r.length], by rw [← rt.length, q.length]⟩
theorem rep_row (I : Inv X pins σ H s) (sb : Sub F H) {xs : List D} {v : V} {v' : Value} (r : Rep X.K nm F (.row xs) v) (rv : RelV v v') : ∃ a vs us, v = .ref a ∧ v' = .ref a ∧ F a = some (.lst vs) ∧ Reps X.K nm F xs vs ∧ Vals vs us ∧ s.heap.IsList a us.toArray := by
  obtain ⟨a, vs, rfl, h1, _, h3⟩ := r
  cases rv
  obtain ⟨us, r1, p1, _⟩ := I.list (SqL.of (sb.lst h1))
  exact ⟨a, vs, us, rfl, rfl, h1, h3, r1, p1.isList⟩
theorem rep_tup (I : Inv X pins σ H s) (sb : Sub F H) {xs : List D} {v : V} {v' : Value} (r : Rep X.K nm F (.tup xs) v) (rv : RelV v v') : ∃ a vs us, v = .ref a ∧ v' = .ref a ∧ F a = some (.tup vs) ∧ Reps X.K nm F xs vs ∧ Vals vs us ∧ s.heap.IsTuple a us.toArray := by
  obtain ⟨a, vs, rfl, h1, _, h3⟩ := r
  cases rv
  obtain ⟨us, r1, p1, _⟩ := I.tuple (SqT.of (sb.tup h1))
  exact ⟨a, vs, us, rfl, rfl, h1, h3, r1, p1⟩
/-- the comparison of two rows, two tuples -/
theorem rcAt_row (I : Inv X pins σ H s) (sb : Sub F H) {n : Nat} {A : Around} (hu : A.units < cLine) (ih : ∀ d e v u v' u' k, Rep X.K nm F d v → Rep X.K nm F e u → RelV v v' → RelV u u' → eqN n d e = some k → SeqAt.EqAt A.in1 s v' u' k)
    {xs ys : List D} {v u : V} {v' u' : Value} {k : Bool} (r : Rep X.K nm F (.row xs) v) (q : Rep X.K nm F (.row ys) u) (rv : RelV v v') (ru : RelV u u') (h : (if xs.length = ys.length then eqLN (eqN n) xs ys else some false) = some k) : SeqAt.RcAt A s v' u' k ∧ SeqAt.RcNeAt A s v' u' (!k) := by
  obtain ⟨a, vs, us, rfl, rfl, h1, h2, h3, h4⟩ := rep_row I sb r rv
  obtain ⟨b, ws, ts, rfl, rfl, k1, k2, k3, k4⟩ := rep_row I sb q ru
  obtain ⟨l1, l2⟩ := all_size h2 k2 h3 k3
  by_cases hl : xs.length = ys.length
  · rw [if_pos hl] at h
    obtain ⟨e, he, hk⟩ := eqLN_at ih h2 k2 h3 k3 h
    have hsz : us.toArray.size = ts.toArray.size := by rw [List.size_toArray, List.size_toArray]; omega
    have hmin : min us.length ts.length = us.toArray.size := by rw [List.size_toArray]; omega
    rw [hmin] at hk
    have he' : ∀ j (h1 : j < us.toArray.size) (h2 : j < ts.toArray.size), SeqAt.EqAt A.in1 s us.toArray[j] ts.toArray[j] (e j) := fun j h1 h2 => by simpa using he j (by simpa using h1) (by simpa using h2)
    rw [← hk]
    exact ⟨SeqAt.RcAt.lists h4 k4 hsz hu he', SeqAt.RcNeAt.lists h4 k4 hsz hu he'⟩
  · rw [if_neg hl] at h
    cases h
    have hsz : (us.toArray.size != ts.toArray.size) = true := by rw [List.size_toArray, List.size_toArray]; simp; omega
    exact ⟨SeqAt.RcAt.lists_lengths h4 k4 hsz hu, SeqAt.RcNeAt.lists_lengths h4 k4 hsz hu⟩
theorem rcAt_tup (I : Inv X pins σ H s) (sb : Sub F H) {n : Nat} {A : Around} (hu : A.units < cLine) (ih : ∀ d e v u v' u' k, Rep X.K nm F d v → Rep X.K nm F e u → RelV v v' → RelV u u' → eqN n d e = some k → SeqAt.EqAt A.in1 s v' u' k)
    {xs ys : List D} {v u : V} {v' u' : Value} {k : Bool} (r : Rep X.K nm F (.tup xs) v) (q : Rep X.K nm F (.tup ys) u) (rv : RelV v v') (ru : RelV u u') (h : ((eqLN (eqN n) xs ys).map fun a => a && (xs.length == ys.length)) = some k) : SeqAt.RcAt A s v' u' k ∧ SeqAt.RcNeAt A s v' u' (!k) := by
  obtain ⟨a, vs, us, rfl, rfl, h1, h2, h3, h4⟩ := rep_tup I sb r rv
  obtain ⟨b, ws, ts, rfl, rfl, k1, k2, k3, k4⟩ := rep_tup I sb q ru
  obtain ⟨l1, l2⟩ := all_size h2 k2 h3 k3
  cases el : eqLN (eqN n) xs ys with
  | none => rw [el] at h; cases h
  | some z =>
    rw [el] at h
    cases h
    obtain ⟨e, he, hk⟩ := eqLN_at ih h2 k2 h3 k3 el
    have he' : ∀ j (h1 : j < us.toArray.size) (h2 : j < ts.toArray.size), SeqAt.EqAt A.in1 s us.toArray[j] ts.toArray[j] (e j) := fun j h1 h2 => by simpa using he j (by simpa using h1) (by simpa using h2)
    have e1 := SeqAt.RcAt.tuples h4 k4 hu he'
    have e2 := SeqAt.RcNeAt.tuples h4 k4 hu he'
    rw [List.size_toArray, List.size_toArray] at e1 e2
    rw [hk] at e1 e2
    rw [← l1, ← l2]
    exact ⟨e1, e2⟩
theorem rc_step (I : Inv X pins σ H s) (sb : Sub F H) {n : Nat} {A : Around} (hu : A.units < cLine) (ih : ∀ d e v u v' u' k, Rep X.K nm F d v → Rep X.K nm F e u → RelV v v' → RelV u u' → eqN n d e = some k → SeqAt.EqAt A.in1 s v' u' k)
    {d1 d2 : D} {v1 v2 : V} {v1' v2' : Value} {k : Bool} (r1 : Rep X.K nm F d1 v1) (r2 : Rep X.K nm F d2 v2) (q1 : RelV v1 v1') (q2 : RelV v2 v2') (h : eqN (n + 1) d1 d2 = some k) : SeqAt.RcAt A s v1' v2' k ∧ SeqAt.RcNeAt A s v1' v2' (!k) := by
  cases d1 with
  | non =>
    cases d2 with
    | non =>
      cases (show v1 = V.non from r1)
      cases (show v1' = Value.none from q1)
      cases (show v2 = V.non from r2)
      cases (show v2' = Value.none from q2)
      cases h
      exact ⟨SeqAt.RcAt.none_none, SeqAt.RcNeAt.none_none⟩
    | bl x2 =>
      cases (show v1 = V.non from r1)
      cases (show v1' = Value.none from q1)
      cases (show v2 = V.bl _ from r2)
      cases (show v2' = Value.bool _ from q2)
      cases h
      exact ⟨SeqAt.RcAt.none_bool _, SeqAt.RcNeAt.none_bool _⟩
    | int x2 =>
      cases (show v1 = V.non from r1)
      cases (show v1' = Value.none from q1)
      cases (show v2 = V.int _ from r2)
      obtain ⟨t2, ht2⟩ := (show ∃ t, v2' = Value.int _ t from q2)
      cases ht2
      cases h
      exact ⟨SeqAt.RcAt.none_int _ _, SeqAt.RcNeAt.none_int _ _⟩
    | str x2 =>
      cases (show v1 = V.non from r1)
      cases (show v1' = Value.none from q1)
      obtain ⟨hv2, _⟩ := r2
      cases hv2
      obtain ⟨t2, ht2⟩ := (show ∃ t, v2' = Value.str _ t from q2)
      cases ht2
      cases h
      exact ⟨SeqAt.RcAt.none_str _ _, SeqAt.RcNeAt.none_str _ _⟩
    | row x2 =>
      cases (show v1 = V.non from r1)
      cases (show v1' = Value.none from q1)
      obtain ⟨a2, vs2, us2, hq2, hr2, _, _, _, hl2⟩ := rep_row I sb r2 q2
      cases hq2
      cases hr2
      cases h
      exact ⟨SeqAt.RcAt.none_list hl2 hu, SeqAt.RcNeAt.none_list hl2 hu⟩
    | tup x2 =>
      cases (show v1 = V.non from r1)
      cases (show v1' = Value.none from q1)
      obtain ⟨a2, vs2, us2, hq2, hr2, _, _, _, hl2⟩ := rep_tup I sb r2 q2
      cases hq2
      cases hr2
      cases h
      exact ⟨SeqAt.RcAt.none_tuple hl2 hu, SeqAt.RcNeAt.none_tuple hl2 hu⟩
    | _ => cases h
  | bl x1 =>
    cases d2 with
    | non =>
      cases (show v1 = V.bl _ from r1)
      cases (show v1' = Value.bool _ from q1)
      cases (show v2 = V.non from r2)
      cases (show v2' = Value.none from q2)
      cases h
      exact ⟨SeqAt.RcAt.bool_none _, SeqAt.RcNeAt.bool_none _⟩
    | bl x2 =>
      cases (show v1 = V.bl _ from r1)
      cases (show v1' = Value.bool _ from q1)
      cases (show v2 = V.bl _ from r2)
      cases (show v2' = Value.bool _ from q2)
      cases h
      exact ⟨SeqAt.RcAt.bool_bool _ _, SeqAt.RcNeAt.bool_bool _ _⟩
    | int x2 =>
      cases (show v1 = V.bl _ from r1)
      cases (show v1' = Value.bool _ from q1)
      cases (show v2 = V.int _ from r2)
      obtain ⟨t2, ht2⟩ := (show ∃ t, v2' = Value.int _ t from q2)
      cases ht2
      cases h
      exact ⟨SeqAt.RcAt.bool_int _ _ _, SeqAt.RcNeAt.bool_int _ _ _⟩
    | str x2 =>
      cases (show v1 = V.bl _ from r1)
      cases (show v1' = Value.bool _ from q1)
      obtain ⟨hv2, _⟩ := r2
      cases hv2
      obtain ⟨t2, ht2⟩ := (show ∃ t, v2' = Value.str _ t from q2)
      cases ht2
      cases h
      exact ⟨SeqAt.RcAt.bool_str _ _ _, SeqAt.RcNeAt.bool_str _ _ _⟩
    | row x2 =>
      cases (show v1 = V.bl _ from r1)
      cases (show v1' = Value.bool _ from q1)
      obtain ⟨a2, vs2, us2, hq2, hr2, _, _, _, hl2⟩ := rep_row I sb r2 q2
      cases hq2
      cases hr2
      cases h
      exact ⟨SeqAt.RcAt.bool_list _ hl2 hu, SeqAt.RcNeAt.bool_list _ hl2 hu⟩
    | tup x2 =>
      cases (show v1 = V.bl _ from r1)
      cases (show v1' = Value.bool _ from q1)
      obtain ⟨a2, vs2, us2, hq2, hr2, _, _, _, hl2⟩ := rep_tup I sb r2 q2
      cases hq2
      cases hr2
      cases h
      exact ⟨SeqAt.RcAt.bool_tuple _ hl2 hu, SeqAt.RcNeAt.bool_tuple _ hl2 hu⟩
    | _ => cases h
  | int x1 =>
    cases d2 with
    | non =>
      cases (show v1 = V.int _ from r1)
      obtain ⟨t1, ht1⟩ := (show ∃ t, v1' = Value.int _ t from q1)
      cases ht1
      cases (show v2 = V.non from r2)
      cases (show v2' = Value.none from q2)
      cases h
      exact ⟨SeqAt.RcAt.int_none _ _, SeqAt.RcNeAt.int_none _ _⟩
    | bl x2 =>
      cases (show v1 = V.int _ from r1)
      obtain ⟨t1, ht1⟩ := (show ∃ t, v1' = Value.int _ t from q1)
      cases ht1
      cases (show v2 = V.bl _ from r2)
      cases (show v2' = Value.bool _ from q2)
      cases h
      exact ⟨SeqAt.RcAt.int_bool _ _ _, SeqAt.RcNeAt.int_bool _ _ _⟩
    | int x2 =>
      cases (show v1 = V.int _ from r1)
      obtain ⟨t1, ht1⟩ := (show ∃ t, v1' = Value.int _ t from q1)
      cases ht1
      cases (show v2 = V.int _ from r2)
      obtain ⟨t2, ht2⟩ := (show ∃ t, v2' = Value.int _ t from q2)
      cases ht2
      cases h
      exact ⟨SeqAt.RcAt.int_int _ _ _ _, SeqAt.RcNeAt.int_int _ _ _ _⟩
    | str x2 =>
      cases (show v1 = V.int _ from r1)
      obtain ⟨t1, ht1⟩ := (show ∃ t, v1' = Value.int _ t from q1)
      cases ht1
      obtain ⟨hv2, _⟩ := r2
      cases hv2
      obtain ⟨t2, ht2⟩ := (show ∃ t, v2' = Value.str _ t from q2)
      cases ht2
      cases h
      exact ⟨SeqAt.RcAt.int_str _ _ _ _, SeqAt.RcNeAt.int_str _ _ _ _⟩
    | row x2 =>
      cases (show v1 = V.int _ from r1)
      obtain ⟨t1, ht1⟩ := (show ∃ t, v1' = Value.int _ t from q1)
      cases ht1
      obtain ⟨a2, vs2, us2, hq2, hr2, _, _, _, hl2⟩ := rep_row I sb r2 q2
      cases hq2
      cases hr2
      cases h
      exact ⟨SeqAt.RcAt.int_list _ _ hl2 hu, SeqAt.RcNeAt.int_list _ _ hl2 hu⟩
    | tup x2 =>
      cases (show v1 = V.int _ from r1)
      obtain ⟨t1, ht1⟩ := (show ∃ t, v1' = Value.int _ t from q1)
      cases ht1
      obtain ⟨a2, vs2, us2, hq2, hr2, _, _, _, hl2⟩ := rep_tup I sb r2 q2
      cases hq2
      cases hr2
      cases h
      exact ⟨SeqAt.RcAt.int_tuple _ _ hl2 hu, SeqAt.RcNeAt.int_tuple _ _ hl2 hu⟩
    | _ => cases h
  | str x1 =>
    cases d2 with
    | non =>
      obtain ⟨hv1, _⟩ := r1
      cases hv1
      obtain ⟨t1, ht1⟩ := (show ∃ t, v1' = Value.str _ t from q1)
      cases ht1
      cases (show v2 = V.non from r2)
      cases (show v2' = Value.none from q2)
      cases h
      exact ⟨SeqAt.RcAt.str_none _ _, SeqAt.RcNeAt.str_none _ _⟩
    | bl x2 =>
      obtain ⟨hv1, _⟩ := r1
      cases hv1
      obtain ⟨t1, ht1⟩ := (show ∃ t, v1' = Value.str _ t from q1)
      cases ht1
      cases (show v2 = V.bl _ from r2)
      cases (show v2' = Value.bool _ from q2)
      cases h
      exact ⟨SeqAt.RcAt.str_bool _ _ _, SeqAt.RcNeAt.str_bool _ _ _⟩
    | int x2 =>
      obtain ⟨hv1, _⟩ := r1
      cases hv1
      obtain ⟨t1, ht1⟩ := (show ∃ t, v1' = Value.str _ t from q1)
      cases ht1
      cases (show v2 = V.int _ from r2)
      obtain ⟨t2, ht2⟩ := (show ∃ t, v2' = Value.int _ t from q2)
      cases ht2
      cases h
      exact ⟨SeqAt.RcAt.str_int _ _ _ _, SeqAt.RcNeAt.str_int _ _ _ _⟩
    | str x2 =>
      obtain ⟨hv1, _⟩ := r1
      cases hv1
      obtain ⟨t1, ht1⟩ := (show ∃ t, v1' = Value.str _ t from q1)
      cases ht1
      obtain ⟨hv2, _⟩ := r2
      cases hv2
      obtain ⟨t2, ht2⟩ := (show ∃ t, v2' = Value.str _ t from q2)
      cases ht2
      cases h
      exact ⟨SeqAt.RcAt.str_str _ _ _ _, SeqAt.RcNeAt.str_str _ _ _ _⟩
    | row x2 =>
      obtain ⟨hv1, _⟩ := r1
      cases hv1
      obtain ⟨t1, ht1⟩ := (show ∃ t, v1' = Value.str _ t from q1)
      cases ht1
      obtain ⟨a2, vs2, us2, hq2, hr2, _, _, _, hl2⟩ := rep_row I sb r2 q2
      cases hq2
      cases hr2
      cases h
      exact ⟨SeqAt.RcAt.str_list _ _ hl2 hu, SeqAt.RcNeAt.str_list _ _ hl2 hu⟩
    | tup x2 =>
      obtain ⟨hv1, _⟩ := r1
      cases hv1
      obtain ⟨t1, ht1⟩ := (show ∃ t, v1' = Value.str _ t from q1)
      cases ht1
      obtain ⟨a2, vs2, us2, hq2, hr2, _, _, _, hl2⟩ := rep_tup I sb r2 q2
      cases hq2
      cases hr2
      cases h
      exact ⟨SeqAt.RcAt.str_tuple _ _ hl2 hu, SeqAt.RcNeAt.str_tuple _ _ hl2 hu⟩
    | _ => cases h
  | row x1 =>
    cases d2 with
    | non =>
      obtain ⟨a1, vs1, us1, hq1, hr1, _, _, _, hl1⟩ := rep_row I sb r1 q1
      cases hq1
      cases hr1
      cases (show v2 = V.non from r2)
      cases (show v2' = Value.none from q2)
      cases h
      exact ⟨SeqAt.RcAt.list_none hl1 hu, SeqAt.RcNeAt.list_none hl1 hu⟩
    | bl x2 =>
      obtain ⟨a1, vs1, us1, hq1, hr1, _, _, _, hl1⟩ := rep_row I sb r1 q1
      cases hq1
      cases hr1
      cases (show v2 = V.bl _ from r2)
      cases (show v2' = Value.bool _ from q2)
      cases h
      exact ⟨SeqAt.RcAt.list_bool _ hl1 hu, SeqAt.RcNeAt.list_bool _ hl1 hu⟩
    | int x2 =>
      obtain ⟨a1, vs1, us1, hq1, hr1, _, _, _, hl1⟩ := rep_row I sb r1 q1
      cases hq1
      cases hr1
      cases (show v2 = V.int _ from r2)
      obtain ⟨t2, ht2⟩ := (show ∃ t, v2' = Value.int _ t from q2)
      cases ht2
      cases h
      exact ⟨SeqAt.RcAt.list_int _ _ hl1 hu, SeqAt.RcNeAt.list_int _ _ hl1 hu⟩
    | str x2 =>
      obtain ⟨a1, vs1, us1, hq1, hr1, _, _, _, hl1⟩ := rep_row I sb r1 q1
      cases hq1
      cases hr1
      obtain ⟨hv2, _⟩ := r2
      cases hv2
      obtain ⟨t2, ht2⟩ := (show ∃ t, v2' = Value.str _ t from q2)
      cases ht2
      cases h
      exact ⟨SeqAt.RcAt.list_str _ _ hl1 hu, SeqAt.RcNeAt.list_str _ _ hl1 hu⟩
    | row x2 =>
      exact rcAt_row I sb hu ih r1 r2 q1 q2 h
    | tup x2 =>
      obtain ⟨a1, vs1, us1, hq1, hr1, _, _, _, hl1⟩ := rep_row I sb r1 q1
      cases hq1
      cases hr1
      obtain ⟨a2, vs2, us2, hq2, hr2, _, _, _, hl2⟩ := rep_tup I sb r2 q2
      cases hq2
      cases hr2
      cases h
      exact ⟨SeqAt.RcAt.list_tuple hl1 hl2 hu, SeqAt.RcNeAt.list_tuple hl1 hl2 hu⟩
    | _ => cases h
  | tup x1 =>
    cases d2 with
    | non =>
      obtain ⟨a1, vs1, us1, hq1, hr1, _, _, _, hl1⟩ := rep_tup I sb r1 q1
      cases hq1
      cases hr1
      cases (show v2 = V.non from r2)
      cases (show v2' = Value.none from q2)
      cases h
      exact ⟨SeqAt.RcAt.tuple_none hl1 hu, SeqAt.RcNeAt.tuple_none hl1 hu⟩
    | bl x2 =>
      obtain ⟨a1, vs1, us1, hq1, hr1, _, _, _, hl1⟩ := rep_tup I sb r1 q1
      cases hq1
      cases hr1
      cases (show v2 = V.bl _ from r2)
      cases (show v2' = Value.bool _ from q2)
      cases h
      exact ⟨SeqAt.RcAt.tuple_bool _ hl1 hu, SeqAt.RcNeAt.tuple_bool _ hl1 hu⟩
    | int x2 =>
      obtain ⟨a1, vs1, us1, hq1, hr1, _, _, _, hl1⟩ := rep_tup I sb r1 q1
      cases hq1
      cases hr1
      cases (show v2 = V.int _ from r2)
      obtain ⟨t2, ht2⟩ := (show ∃ t, v2' = Value.int _ t from q2)
      cases ht2
      cases h
      exact ⟨SeqAt.RcAt.tuple_int _ _ hl1 hu, SeqAt.RcNeAt.tuple_int _ _ hl1 hu⟩
    | str x2 =>
      obtain ⟨a1, vs1, us1, hq1, hr1, _, _, _, hl1⟩ := rep_tup I sb r1 q1
      cases hq1
      cases hr1
      obtain ⟨hv2, _⟩ := r2
      cases hv2
      obtain ⟨t2, ht2⟩ := (show ∃ t, v2' = Value.str _ t from q2)
      cases ht2
      cases h
      exact ⟨SeqAt.RcAt.tuple_str _ _ hl1 hu, SeqAt.RcNeAt.tuple_str _ _ hl1 hu⟩
    | row x2 =>
      obtain ⟨a1, vs1, us1, hq1, hr1, _, _, _, hl1⟩ := rep_tup I sb r1 q1
      cases hq1
      cases hr1
      obtain ⟨a2, vs2, us2, hq2, hr2, _, _, _, hl2⟩ := rep_row I sb r2 q2
      cases hq2
      cases hr2
      cases h
      exact ⟨SeqAt.RcAt.tuple_list hl1 hl2 hu, SeqAt.RcNeAt.tuple_list hl1 hl2 hu⟩
    | tup x2 =>
      exact rcAt_tup I sb hu ih r1 r2 q1 q2 h
    | _ => cases h
  | _ => cases d2 <;> cases h
theorem eq_step (I : Inv X pins σ H s) (sb : Sub F H) {n : Nat} {A : Around} (hu : A.units < cLine) (ih : ∀ d e v u v' u' k, Rep X.K nm F d v → Rep X.K nm F e u → RelV v v' → RelV u u' → eqN n d e = some k → SeqAt.EqAt A.in1 s v' u' k)
    {d1 d2 : D} {v1 v2 : V} {v1' v2' : Value} {k : Bool} (r1 : Rep X.K nm F d1 v1) (r2 : Rep X.K nm F d2 v2) (q1 : RelV v1 v1') (q2 : RelV v2 v2') (h : eqN (n + 1) d1 d2 = some k) : SeqAt.EqAt A s v1' v2' k := by
  cases d1 with
  | non =>
    cases d2 with
    | non =>
      cases (show v1 = V.non from r1)
      cases (show v1' = Value.none from q1)
      cases (show v2 = V.non from r2)
      cases (show v2' = Value.none from q2)
      cases h
      exact SeqAt.EqAt.same _
    | bl x2 =>
      cases (show v1 = V.non from r1)
      cases (show v1' = Value.none from q1)
      cases (show v2 = V.bl _ from r2)
      cases (show v2' = Value.bool _ from q2)
      cases h
      exact SeqAt.EqAt.none_bool _
    | int x2 =>
      cases (show v1 = V.non from r1)
      cases (show v1' = Value.none from q1)
      cases (show v2 = V.int _ from r2)
      obtain ⟨t2, ht2⟩ := (show ∃ t, v2' = Value.int _ t from q2)
      cases ht2
      cases h
      exact SeqAt.EqAt.none_int _ _
    | str x2 =>
      cases (show v1 = V.non from r1)
      cases (show v1' = Value.none from q1)
      obtain ⟨hv2, _⟩ := r2
      cases hv2
      obtain ⟨t2, ht2⟩ := (show ∃ t, v2' = Value.str _ t from q2)
      cases ht2
      cases h
      exact SeqAt.EqAt.none_str _ _
    | row x2 =>
      cases (show v1 = V.non from r1)
      cases (show v1' = Value.none from q1)
      obtain ⟨a2, vs2, us2, hq2, hr2, _, _, _, hl2⟩ := rep_row I sb r2 q2
      cases hq2
      cases hr2
      cases h
      exact SeqAt.EqAt.none_list hl2 hu
    | tup x2 =>
      cases (show v1 = V.non from r1)
      cases (show v1' = Value.none from q1)
      obtain ⟨a2, vs2, us2, hq2, hr2, _, _, _, hl2⟩ := rep_tup I sb r2 q2
      cases hq2
      cases hr2
      cases h
      exact SeqAt.EqAt.none_tuple hl2 hu
    | _ => cases h
  | bl x1 =>
    cases d2 with
    | non =>
      cases (show v1 = V.bl _ from r1)
      cases (show v1' = Value.bool _ from q1)
      cases (show v2 = V.non from r2)
      cases (show v2' = Value.none from q2)
      cases h
      exact SeqAt.EqAt.bool_none _
    | bl x2 =>
      cases (show v1 = V.bl _ from r1)
      cases (show v1' = Value.bool _ from q1)
      cases (show v2 = V.bl _ from r2)
      cases (show v2' = Value.bool _ from q2)
      cases h
      exact SeqAt.EqAt.bool_bool _ _
    | int x2 =>
      cases (show v1 = V.bl _ from r1)
      cases (show v1' = Value.bool _ from q1)
      cases (show v2 = V.int _ from r2)
      obtain ⟨t2, ht2⟩ := (show ∃ t, v2' = Value.int _ t from q2)
      cases ht2
      cases h
      exact SeqAt.EqAt.bool_int _ _ _
    | str x2 =>
      cases (show v1 = V.bl _ from r1)
      cases (show v1' = Value.bool _ from q1)
      obtain ⟨hv2, _⟩ := r2
      cases hv2
      obtain ⟨t2, ht2⟩ := (show ∃ t, v2' = Value.str _ t from q2)
      cases ht2
      cases h
      exact SeqAt.EqAt.bool_str _ _ _
    | row x2 =>
      cases (show v1 = V.bl _ from r1)
      cases (show v1' = Value.bool _ from q1)
      obtain ⟨a2, vs2, us2, hq2, hr2, _, _, _, hl2⟩ := rep_row I sb r2 q2
      cases hq2
      cases hr2
      cases h
      exact SeqAt.EqAt.bool_list _ hl2 hu
    | tup x2 =>
      cases (show v1 = V.bl _ from r1)
      cases (show v1' = Value.bool _ from q1)
      obtain ⟨a2, vs2, us2, hq2, hr2, _, _, _, hl2⟩ := rep_tup I sb r2 q2
      cases hq2
      cases hr2
      cases h
      exact SeqAt.EqAt.bool_tuple _ hl2 hu
    | _ => cases h
  | int x1 =>
    cases d2 with
    | non =>
      cases (show v1 = V.int _ from r1)
      obtain ⟨t1, ht1⟩ := (show ∃ t, v1' = Value.int _ t from q1)
      cases ht1
      cases (show v2 = V.non from r2)
      cases (show v2' = Value.none from q2)
      cases h
      exact SeqAt.EqAt.int_none _ _
    | bl x2 =>
      cases (show v1 = V.int _ from r1)
      obtain ⟨t1, ht1⟩ := (show ∃ t, v1' = Value.int _ t from q1)
      cases ht1
      cases (show v2 = V.bl _ from r2)
      cases (show v2' = Value.bool _ from q2)
      cases h
      exact SeqAt.EqAt.int_bool _ _ _
    | int x2 =>
      cases (show v1 = V.int _ from r1)
      obtain ⟨t1, ht1⟩ := (show ∃ t, v1' = Value.int _ t from q1)
      cases ht1
      cases (show v2 = V.int _ from r2)
      obtain ⟨t2, ht2⟩ := (show ∃ t, v2' = Value.int _ t from q2)
      cases ht2
      cases h
      exact SeqAt.EqAt.int_int _ _ _ _
    | str x2 =>
      cases (show v1 = V.int _ from r1)
      obtain ⟨t1, ht1⟩ := (show ∃ t, v1' = Value.int _ t from q1)
      cases ht1
      obtain ⟨hv2, _⟩ := r2
      cases hv2
      obtain ⟨t2, ht2⟩ := (show ∃ t, v2' = Value.str _ t from q2)
      cases ht2
      cases h
      exact SeqAt.EqAt.int_str _ _ _ _
    | row x2 =>
      cases (show v1 = V.int _ from r1)
      obtain ⟨t1, ht1⟩ := (show ∃ t, v1' = Value.int _ t from q1)
      cases ht1
      obtain ⟨a2, vs2, us2, hq2, hr2, _, _, _, hl2⟩ := rep_row I sb r2 q2
      cases hq2
      cases hr2
      cases h
      exact SeqAt.EqAt.int_list _ _ hl2 hu
    | tup x2 =>
      cases (show v1 = V.int _ from r1)
      obtain ⟨t1, ht1⟩ := (show ∃ t, v1' = Value.int _ t from q1)
      cases ht1
      obtain ⟨a2, vs2, us2, hq2, hr2, _, _, _, hl2⟩ := rep_tup I sb r2 q2
      cases hq2
      cases hr2
      cases h
      exact SeqAt.EqAt.int_tuple _ _ hl2 hu
    | _ => cases h
  | str x1 =>
    cases d2 with
    | non =>
      obtain ⟨hv1, _⟩ := r1
      cases hv1
      obtain ⟨t1, ht1⟩ := (show ∃ t, v1' = Value.str _ t from q1)
      cases ht1
      cases (show v2 = V.non from r2)
      cases (show v2' = Value.none from q2)
      cases h
      exact SeqAt.EqAt.str_none _ _
    | bl x2 =>
      obtain ⟨hv1, _⟩ := r1
      cases hv1
      obtain ⟨t1, ht1⟩ := (show ∃ t, v1' = Value.str _ t from q1)
      cases ht1
      cases (show v2 = V.bl _ from r2)
      cases (show v2' = Value.bool _ from q2)
      cases h
      exact SeqAt.EqAt.str_bool _ _ _
    | int x2 =>
      obtain ⟨hv1, _⟩ := r1
      cases hv1
      obtain ⟨t1, ht1⟩ := (show ∃ t, v1' = Value.str _ t from q1)
      cases ht1
      cases (show v2 = V.int _ from r2)
      obtain ⟨t2, ht2⟩ := (show ∃ t, v2' = Value.int _ t from q2)
      cases ht2
      cases h
      exact SeqAt.EqAt.str_int _ _ _ _
    | str x2 =>
      obtain ⟨hv1, _⟩ := r1
      cases hv1
      obtain ⟨t1, ht1⟩ := (show ∃ t, v1' = Value.str _ t from q1)
      cases ht1
      obtain ⟨hv2, _⟩ := r2
      cases hv2
      obtain ⟨t2, ht2⟩ := (show ∃ t, v2' = Value.str _ t from q2)
      cases ht2
      cases h
      exact SeqAt.EqAt.str_str _ _ _ _
    | row x2 =>
      obtain ⟨hv1, _⟩ := r1
      cases hv1
      obtain ⟨t1, ht1⟩ := (show ∃ t, v1' = Value.str _ t from q1)
      cases ht1
      obtain ⟨a2, vs2, us2, hq2, hr2, _, _, _, hl2⟩ := rep_row I sb r2 q2
      cases hq2
      cases hr2
      cases h
      exact SeqAt.EqAt.str_list _ _ hl2 hu
    | tup x2 =>
      obtain ⟨hv1, _⟩ := r1
      cases hv1
      obtain ⟨t1, ht1⟩ := (show ∃ t, v1' = Value.str _ t from q1)
      cases ht1
      obtain ⟨a2, vs2, us2, hq2, hr2, _, _, _, hl2⟩ := rep_tup I sb r2 q2
      cases hq2
      cases hr2
      cases h
      exact SeqAt.EqAt.str_tuple _ _ hl2 hu
    | _ => cases h
  | row x1 =>
    cases d2 with
    | non =>
      obtain ⟨a1, vs1, us1, hq1, hr1, _, _, _, hl1⟩ := rep_row I sb r1 q1
      cases hq1
      cases hr1
      cases (show v2 = V.non from r2)
      cases (show v2' = Value.none from q2)
      cases h
      exact SeqAt.EqAt.list_none hl1 hu
    | bl x2 =>
      obtain ⟨a1, vs1, us1, hq1, hr1, _, _, _, hl1⟩ := rep_row I sb r1 q1
      cases hq1
      cases hr1
      cases (show v2 = V.bl _ from r2)
      cases (show v2' = Value.bool _ from q2)
      cases h
      exact SeqAt.EqAt.list_bool _ hl1 hu
    | int x2 =>
      obtain ⟨a1, vs1, us1, hq1, hr1, _, _, _, hl1⟩ := rep_row I sb r1 q1
      cases hq1
      cases hr1
      cases (show v2 = V.int _ from r2)
      obtain ⟨t2, ht2⟩ := (show ∃ t, v2' = Value.int _ t from q2)
      cases ht2
      cases h
      exact SeqAt.EqAt.list_int _ _ hl1 hu
    | str x2 =>
      obtain ⟨a1, vs1, us1, hq1, hr1, _, _, _, hl1⟩ := rep_row I sb r1 q1
      cases hq1
      cases hr1
      obtain ⟨hv2, _⟩ := r2
      cases hv2
      obtain ⟨t2, ht2⟩ := (show ∃ t, v2' = Value.str _ t from q2)
      cases ht2
      cases h
      exact SeqAt.EqAt.list_str _ _ hl1 hu
    | row x2 =>
      have hh := (rc_step I sb hu ih r1 r2 q1 q2 h).1
      have hs := eqN_same (K := X.K) (nm := nm) (F := F) (n + 1) (.row x1) (.row x2)
      obtain ⟨a1, vs1, us1, hq1, hr1, _⟩ := rep_row I sb r1 q1
      obtain ⟨a2, vs2, us2, hq2, hr2, _⟩ := rep_row I sb r2 q2
      cases hq1
      cases hr1
      cases hq2
      cases hr2
      by_cases e : a1 = a2
      · subst e
        rw [hs _ k r1 r2 h]
        exact SeqAt.EqAt.same _
      · exact SeqAt.EqAt.of_refs e hh
    | tup x2 =>
      obtain ⟨a1, vs1, us1, hq1, hr1, _, _, _, hl1⟩ := rep_row I sb r1 q1
      cases hq1
      cases hr1
      obtain ⟨a2, vs2, us2, hq2, hr2, _, _, _, hl2⟩ := rep_tup I sb r2 q2
      cases hq2
      cases hr2
      cases h
      exact SeqAt.EqAt.list_tuple hl1 hl2 hu
    | _ => cases h
  | tup x1 =>
    cases d2 with
    | non =>
      obtain ⟨a1, vs1, us1, hq1, hr1, _, _, _, hl1⟩ := rep_tup I sb r1 q1
      cases hq1
      cases hr1
      cases (show v2 = V.non from r2)
      cases (show v2' = Value.none from q2)
      cases h
      exact SeqAt.EqAt.tuple_none hl1 hu
    | bl x2 =>
      obtain ⟨a1, vs1, us1, hq1, hr1, _, _, _, hl1⟩ := rep_tup I sb r1 q1
      cases hq1
      cases hr1
      cases (show v2 = V.bl _ from r2)
      cases (show v2' = Value.bool _ from q2)
      cases h
      exact SeqAt.EqAt.tuple_bool _ hl1 hu
    | int x2 =>
      obtain ⟨a1, vs1, us1, hq1, hr1, _, _, _, hl1⟩ := rep_tup I sb r1 q1
      cases hq1
      cases hr1
      cases (show v2 = V.int _ from r2)
      obtain ⟨t2, ht2⟩ := (show ∃ t, v2' = Value.int _ t from q2)
      cases ht2
      cases h
      exact SeqAt.EqAt.tuple_int _ _ hl1 hu
    | str x2 =>
      obtain ⟨a1, vs1, us1, hq1, hr1, _, _, _, hl1⟩ := rep_tup I sb r1 q1
      cases hq1
      cases hr1
      obtain ⟨hv2, _⟩ := r2
      cases hv2
      obtain ⟨t2, ht2⟩ := (show ∃ t, v2' = Value.str _ t from q2)
      cases ht2
      cases h
      exact SeqAt.EqAt.tuple_str _ _ hl1 hu
    | row x2 =>
      obtain ⟨a1, vs1, us1, hq1, hr1, _, _, _, hl1⟩ := rep_tup I sb r1 q1
      cases hq1
      cases hr1
      obtain ⟨a2, vs2, us2, hq2, hr2, _, _, _, hl2⟩ := rep_row I sb r2 q2
      cases hq2
      cases hr2
      cases h
      exact SeqAt.EqAt.tuple_list hl1 hl2 hu
    | tup x2 =>
      have hh := (rc_step I sb hu ih r1 r2 q1 q2 h).1
      have hs := eqN_same (K := X.K) (nm := nm) (F := F) (n + 1) (.tup x1) (.tup x2)
      obtain ⟨a1, vs1, us1, hq1, hr1, _⟩ := rep_tup I sb r1 q1
      obtain ⟨a2, vs2, us2, hq2, hr2, _⟩ := rep_tup I sb r2 q2
      cases hq1
      cases hr1
      cases hq2
      cases hr2
      by_cases e : a1 = a2
      · subst e
        rw [hs _ k r1 r2 h]
        exact SeqAt.EqAt.same _
      · exact SeqAt.EqAt.of_refs e hh
    | _ => cases h
  | _ => cases d2 <;> cases h
theorem eq_all (I : Inv X pins σ H s) (sb : Sub F H) : ∀ (n : Nat) (A : Around), A.units + n < cLine → ∀ d e v u v' u' k, Rep X.K nm F d v → Rep X.K nm F e u → RelV v v' → RelV u u' → eqN n d e = some k → SeqAt.EqAt A s v' u' k
  | 0, _, _, _, _, _, _, _, _, _, _, _, _, _, h => by cases h
  | n + 1, A, hu, _, _, _, _, _, _, _, r1, r2, q1, q2, h => eq_step I sb (by omega) (eq_all I sb n A.in1 (by show A.units + 1 + n < cLine; omega)) r1 r2 q1 q2 h
theorem rc_all (I : Inv X pins σ H s) (sb : Sub F H) (n : Nat) (A : Around) (hu : A.units + n < cLine) {d1 d2 : D} {v1 v2 : V} {v1' v2' : Value} {k : Bool} (r1 : Rep X.K nm F d1 v1) (r2 : Rep X.K nm F d2 v2) (q1 : RelV v1 v1') (q2 : RelV v2 v2') (h : eqN n d1 d2 = some k) : SeqAt.RcAt A s v1' v2' k ∧ SeqAt.RcNeAt A s v1' v2' (!k) := by
  cases n with
  | zero => cases h
  | succ n => exact rc_step I sb (by omega) (eq_all I sb n A.in1 (by show A.units + 1 + n < cLine; omega)) r1 r2 q1 q2 h
end
/-- d == e, d != e -/
def eqD (d e : D) : Option D := (eqN 60 d e).map .bl
def neD (d e : D) : Option D := (eqN 60 d e).map fun b => .bl (!b)
def rEqA (K : PySem.W.Frag) (nm : Nat → Option Addr) (neg : Bool) : R2 := fun x y H Q => ∃ F d e k, Sub F H ∧ Rep K nm F d x ∧ Rep K nm F e y ∧ eqN 60 d e = some k ∧ Q (.bl (if neg then !k else k)) H
section
variable {X : Cx} {R : Reg} {nm : Nat → Option Addr}
theorem op_eqA (hu : X.A.units + 64 < cLine) : OpR X (compareOp .Eq) (rEqA X.K nm false) := by
  intro pins s σ H x y v u Q I rx ry h
  obtain ⟨F, d, e, k, sb, r1, r2, h, q⟩ := h
  exact (rc_all I sb 60 X.A (by omega) r1 r2 rx ry h).1 X.prog X.w _ _ ⟨.bl k, H, I, rfl, q⟩
theorem op_neA (hu : X.A.units + 64 < cLine) : OpR X (compareOp .NotEq) (rEqA X.K nm true) := by
  intro pins s σ H x y v u Q I rx ry h
  obtain ⟨F, d, e, k, sb, r1, r2, h, q⟩ := h
  exact (rc_all I sb 60 X.A (by omega) r1 r2 rx ry h).2 X.prog X.w _ _ ⟨.bl (!k), H, I, rfl, q⟩
theorem sat_eq : OpSat R (rEqA R.K R.nm false) eqD := fun x y d e d' F H s Q w rx ry h k => by
  unfold eqD at h
  cases e1 : eqN 60 d e with
  | none => rw [e1] at h; cases h
  | some b => rw [e1] at h; cases h; exact ⟨F, d, e, b, w.sub, rx, ry, e1, k _ F H w Stp.refl rfl⟩
theorem sat_ne : OpSat R (rEqA R.K R.nm true) neD := fun x y d e d' F H s Q w rx ry h k => by
  unfold neD at h
  cases e1 : eqN 60 d e with
  | none => rw [e1] at h; cases h
  | some b => rw [e1] at h; cases h; exact ⟨F, d, e, b, w.sub, rx, ry, e1, k _ F H w Stp.refl rfl⟩
end
end Nw
set_option Elab.async false
set_option linter.all false
set_option maxRecDepth 100000
set_option maxHeartbeats 4000000
/-! Part O: operators, built-ins. -/
namespace Nw
open PySem PySem.Spec L2
section
variable {X : Cx} {R : Reg} {W : WX} {O : List Nat}
/-! ### + - * // % ** -/
def addD : D → D → Option D
  | .int i, .int j => some (.int (i + j))
  | .str x, .str y => if x.length + y.length ≤ sizeLine then some (.str (x ++ y)) else none
  | .row xs, .row ys => if xs.length + ys.length ≤ sizeLine then some (.row (xs ++ ys)) else none
  | .tup xs, .tup ys => if xs.length + ys.length ≤ sizeLine then some (.tup (xs ++ ys)) else none
  | _, _ => none
def rAddA (K : PySem.W.Frag) : R2 := fun x y H Q => (rI0 fun i j => .int (i + j)) x y H Q ∨ (∃ i j, x = .str i ∧ y = .str j ∧ i.length + j.length ≤ sizeLine ∧ Q (.str (i ++ j)) H) ∨ rCat x y H Q ∨ rCatA K x y H Q
theorem op_addA : OpR X (binaryOp .Add) (rAddA X.K) := op_add.or (op_add_str.or (op_cat.or op_catA))
theorem str_app_cps (x y : Str) : (x ++ y).cps.toList = x.cps.toList ++ y.cps.toList := by
  show (x.cps ++ y.cps).toList = _
  rw [Array.toList_append]
theorem str_app_len (x y : Str) : (x ++ y).length = x.length + y.length := by
  show (x.cps ++ y.cps).size = _
  rw [Array.size_append]
  rfl
theorem sat_add (K : PySem.W.Frag) : OpSat R (rAddA K) addD := fun x y d e d' F H s Q w rx ry h k => by
  unfold addD at h
  split at h
  · cases h
    exact .inl ⟨_, _, rx, ry, k _ F H w Stp.refl rfl⟩
  · split at h
    · rename_i hz
      cases h
      obtain ⟨rfl, _⟩ := rx
      obtain ⟨rfl, _⟩ := ry
      exact .inr (.inl ⟨_, _, rfl, rfl, hz, k _ F H w Stp.refl ⟨rfl, by rw [str_app_len]; exact hz⟩⟩)
    · cases h
  · split at h
    · rename_i hz
      cases h
      obtain ⟨a, vs, rfl, h1, _, h2⟩ := rx
      obtain ⟨b, ws, rfl, k1, _, k2⟩ := ry
      exact .inr (.inr (.inl ⟨a, b, vs, ws, rfl, rfl, w.sub.lst h1, w.sub.lst k1, by rw [h2.length, k2.length]; exact hz, fun p hp => new_row w (by rw [List.length_append]; exact hz) (h2.append k2) hp k⟩))
    · cases h
  · split at h
    · rename_i xs ys hz
      cases h
      have rx' := rx
      have ry' := ry
      obtain ⟨a, vs, rfl, h1, _, h2⟩ := rx
      obtain ⟨b, ws, rfl, k1, _, k2⟩ := ry
      refine .inr (.inr (.inr ⟨a, b, vs, ws, rfl, rfl, SqT.of (w.sub.tup h1), SqT.of (w.sub.tup k1), by rw [h2.length, k2.length]; exact hz, fun e => ?_, fun _ e => ?_, fun _ _ p hp => new_tup w (by rw [List.length_append]; exact hz) (h2.append k2) hp k⟩))
      · have : xs = [] := List.eq_nil_of_length_eq_zero (by rw [← h2.length, e]; rfl)
        subst this
        exact k _ F H w Stp.refl ry'
      · have : ys = [] := List.eq_nil_of_length_eq_zero (by rw [← k2.length, e]; rfl)
        subst this
        rw [List.append_nil] at k
        exact k _ F H w Stp.refl rx'
    · cases h
  · cases h
def subD : D → D → Option D
  | .int i, .int j => some (.int (i - j))
  | _, _ => none
theorem sat_sub : OpSat R (rI0 fun i j => .int (i - j)) subD := fun x y d e d' F H s Q w rx ry h k => by
  unfold subD at h
  split at h
  · cases h; exact ⟨_, _, rx, ry, k _ F H w Stp.refl rfl⟩
  · cases h
/-- n times a list, a tuple, a text -/
def mulD : D → D → Option D
  | .int i, .int j => if (-(2 ^ 64) < i ∧ i < 2 ^ 64) ∨ (-(2 ^ 64) < j ∧ j < 2 ^ 64) then some (.int (i * j)) else none
  | .str x, .int j => if 0 ≤ j ∧ j ≤ 1000 ∧ x.length ≤ 1000 then some (.str (Txt.mul x j)) else none
  | .row xs, .int j => if 0 ≤ j ∧ j ≤ 1000 ∧ xs.length ≤ 1000 then some (.row (List.replicate j.toNat xs).flatten) else none
  | .tup xs, .int j => if 2 ≤ j ∧ j ≤ 1000 ∧ xs.length ≤ 1000 ∧ xs ≠ [] then some (.tup (List.replicate j.toNat xs).flatten) else none
  | _, _ => none
def rMulA (K : PySem.W.Frag) : R2 := fun x y H Q => (rI CMul fun i j => .int (i * j)) x y H Q ∨ (∃ z j, x = .str z ∧ y = .int j ∧ MulOk z j ∧ Q (.str (Txt.mul z j)) H) ∨ rRep x y H Q ∨ rRepT K x y H Q
theorem op_mulS : OpR X (binaryOp .Mult) (fun x y H Q => ∃ z j, x = .str z ∧ y = .int j ∧ MulOk z j ∧ Q (.str (Txt.mul z j)) H) := by
  intro pins s σ H x y v u Q I rx ry h
  obtain ⟨z, j, rfl, rfl, hm, q⟩ := h
  obtain ⟨t, rfl⟩ := rx
  obtain ⟨t', rfl⟩ := ry
  exact PySem.SB.mul hm fun t' k => ⟨.str _, H, I.tok k, ⟨_, rfl⟩, q⟩
theorem op_mulA : OpR X (binaryOp .Mult) (rMulA X.K) := op_mul.or (op_mulS.or (op_rep.or op_repT))
theorem reps_rep {K : PySem.W.Frag} {nm : Nat → Option Addr} {F : Hp} {xs : List D} {vs : List V} (r : Reps K nm F xs vs) : ∀ k : Nat, Reps K nm F (List.replicate k xs).flatten (List.replicate k vs).flatten
  | 0 => rfl
  | k + 1 => by
    rw [List.replicate_succ, List.replicate_succ, List.flatten_cons, List.flatten_cons]
    exact r.append (reps_rep r k)
theorem len_rep {α : Type} (xs : List α) (k : Nat) : (List.replicate k xs).flatten.length = k * xs.length := by
  induction k with
  | zero => simp
  | succ k ih => rw [List.replicate_succ, List.flatten_cons, List.length_append, ih, Nat.succ_mul]; omega
theorem mul_1000 {a b : Nat} (h1 : a ≤ 1000) (h2 : b ≤ 1000) : a * b ≤ sizeLine := by
  have := Nat.mul_le_mul h1 h2
  rw [sizeLine_eq]
  omega
theorem sat_mul (K : PySem.W.Frag) : OpSat R (rMulA K) mulD := fun x y d e d' F H s Q w rx ry h k => by
  unfold mulD at h
  split at h
  · split at h
    · rename_i hc
      cases h
      exact .inl ⟨_, _, rx, ry, hc, k _ F H w Stp.refl rfl⟩
    · cases h
  · split at h
    · rename_i z j hc
      cases h
      obtain ⟨rfl, _⟩ := rx
      refine .inr (.inl ⟨_, _, rfl, ry, PyProof.Rows.mulOk_of 1000 1000 hc.2.2 (by omega) (by omega) (by omega) (by omega), k _ F H w Stp.refl ⟨rfl, ?_⟩⟩)
      have e := PyProof.Rows.len_mul z j
      rw [if_neg (by simp; omega)] at e
      have e2 : ((Txt.mul z j).length : Int) = ((z.length * j.toNat : Nat) : Int) := by
        rw [e, Int.natCast_mul, Int.toNat_of_nonneg hc.1]
      have e3 := mul_1000 hc.2.2 (show j.toNat ≤ 1000 by omega)
      omega
    · cases h
  · split at h
    · rename_i xs j hc
      cases h
      obtain ⟨a, vs, rfl, h1, _, h2⟩ := rx
      have e3 := mul_1000 hc.2.2 (show j.toNat ≤ 1000 by have := hc.2.1; omega)
      refine .inr (.inr (.inl ⟨a, _, vs, rfl, ry, w.sub.lst h1, by omega, by omega, ?_, fun p hp => new_row w ?_ (reps_rep h2 _) hp k⟩))
      · rw [h2.length]; exact e3
      · rw [len_rep, Nat.mul_comm]; exact e3
    · cases h
  · split at h
    · rename_i xs j hc
      cases h
      obtain ⟨a, vs, rfl, h1, _, h2⟩ := rx
      have e3 := mul_1000 hc.2.2.1 (show j.toNat ≤ 1000 by have := hc.2.1; omega)
      refine .inr (.inr (.inr ⟨a, _, vs, rfl, ry, SqT.of (w.sub.tup h1), fun e => hc.2.2.2 (List.eq_nil_of_length_eq_zero (by rw [← h2.length, e]; rfl)), hc.1, hc.2.1, by rw [h2.length]; exact hc.2.2.1, fun p hp => new_tup w ?_ (reps_rep h2 _) hp k⟩))
      rw [len_rep, Nat.mul_comm]; exact e3
    · cases h
  · cases h
def modD : D → D → Option D
  | .int i, .int j => if 0 < j then some (.int (i % j)) else none
  | _, _ => none
theorem sat_mod : OpSat R (rI (fun _ j => 0 < j) fun i j => .int (i % j)) modD := fun x y d e d' F H s Q w rx ry h k => by
  unfold modD at h
  split at h
  · split at h
    · rename_i hc; cases h; exact ⟨_, _, rx, ry, hc, k _ F H w Stp.refl rfl⟩
    · cases h
  · cases h
def fdivD : D → D → Option D
  | .int i, .int j => if 0 < j ∧ j < 1073741824 then some (.int (i / j)) else none
  | _, _ => none
theorem sat_fdiv : OpSat R (rI CDiv fun i j => .int (i / j)) fdivD := fun x y d e d' F H s Q w rx ry h k => by
  unfold fdivD at h
  split at h
  · split at h
    · rename_i hc; cases h; exact ⟨_, _, rx, ry, hc, k _ F H w Stp.refl rfl⟩
    · cases h
  · cases h
def powD : D → D → Option D
  | .int i, .int j => if 0 ≤ j ∧ j ≤ 1000000 ∧ i.natAbs < 2 ^ 64 then some (.int (i ^ j.toNat)) else none
  | _, _ => none
theorem sat_pow : OpSat R (rI CPow fun i j => .int (i ^ j.toNat)) powD := fun x y d e d' F H s Q w rx ry h k => by
  unfold powD at h
  split at h
  · split at h
    · rename_i hc; cases h; exact ⟨_, _, rx, ry, hc, k _ F H w Stp.refl rfl⟩
    · cases h
  · cases h
/-! ### comparisons of numbers -/
def cmpD (p : Int → Int → Bool) : D → D → Option D
  | .int i, .int j => some (.bl (p i j))
  | _, _ => none
theorem sat_cmp (p : Int → Int → Bool) : OpSat R (rI0 fun i j => .bl (p i j)) (cmpD p) := fun x y d e d' F H s Q w rx ry h k => by
  unfold cmpD at h
  split at h
  · cases h; exact ⟨_, _, rx, ry, k _ F H w Stp.refl rfl⟩
  · cases h
def ltD := cmpD fun i j => decide (i < j)
def leD := cmpD fun i j => decide (i ≤ j)
def gtD := cmpD fun i j => decide (j < i)
def geD := cmpD fun i j => decide (j ≤ i)
variable {a b e : Expr} {f g : Sl → M R.S D} {pos : Pos}
theorem de_add (hK : R.K = X.K) (ha : PE X a (tD R W O f)) (hb : PE X b (tD R W O g)) : PE X (.BinOp a .Add b pos) (tD R W O (dOp addD f g)) := de_op op_addA (sat_add X.K) ha hb
theorem de_sub (ha : PE X a (tD R W O f)) (hb : PE X b (tD R W O g)) : PE X (.BinOp a .Sub b pos) (tD R W O (dOp subD f g)) := de_op op_sub sat_sub ha hb
theorem de_mul (ha : PE X a (tD R W O f)) (hb : PE X b (tD R W O g)) : PE X (.BinOp a .Mult b pos) (tD R W O (dOp mulD f g)) := de_op op_mulA (sat_mul X.K) ha hb
theorem de_mod (ha : PE X a (tD R W O f)) (hb : PE X b (tD R W O g)) : PE X (.BinOp a .Mod b pos) (tD R W O (dOp modD f g)) := de_op op_mod sat_mod ha hb
theorem de_fdiv (ha : PE X a (tD R W O f)) (hb : PE X b (tD R W O g)) : PE X (.BinOp a .FloorDiv b pos) (tD R W O (dOp fdivD f g)) := de_op op_fdiv sat_fdiv ha hb
theorem de_pow (ha : PE X a (tD R W O f)) (hb : PE X b (tD R W O g)) : PE X (.BinOp a .Pow b pos) (tD R W O (dOp powD f g)) := de_op op_pow sat_pow ha hb
/-- a comparison, as a value and as a test -/
structure CmpOk (X : Cx) (R : Reg) (o : CmpOp) (op : D → D → Option D) : Prop where
  ok : ∃ r : R2, OpR X (compareOp o) r ∧ OpSat R r op
theorem ck_lt : CmpOk X R .Lt ltD := ⟨_, op_lt, sat_cmp _⟩
theorem ck_le : CmpOk X R .LtE leD := ⟨_, op_le, sat_cmp _⟩
theorem ck_gt : CmpOk X R .Gt gtD := ⟨_, op_gt, sat_cmp _⟩
theorem ck_ge : CmpOk X R .GtE geD := ⟨_, op_ge, sat_cmp _⟩
theorem ck_eq {n : Nat} (c : Cxt X R W n) : CmpOk X R .Eq eqD := ⟨_, by have := op_eqA (X := X) (nm := R.nm) c.hr.units; rw [← c.hK] at this; exact this, sat_eq⟩
theorem ck_ne {n : Nat} (c : Cxt X R W n) : CmpOk X R .NotEq neD := ⟨_, by have := op_neA (X := X) (nm := R.nm) c.hr.units; rw [← c.hK] at this; exact this, sat_ne⟩
theorem de_ck {o : CmpOp} {op : D → D → Option D} (h : CmpOk X R o op) (ha : PE X a (tD R W O f)) (hb : PE X b (tD R W O g)) (hm : behindInMarks o b = false) : PE X (.Compare a [o] [b] pos) (tD R W O (dOp op f g)) := let ⟨_, h1, h2⟩ := h.ok; de_cmp h1 h2 ha hb hm
theorem dt_ck {o : CmpOp} {op : D → D → Option D} (h : CmpOk X R o op) (ha : PE X a (tD R W O f)) (hb : PE X b (tD R W O g)) (hm : behindInMarks o b = false) : PT X (.Compare a [o] [b] pos) (tDT R W O (dTst (dOp op f g) isBl)) := let ⟨_, h1, h2⟩ := h.ok; dt_cmp h1 h2 ha hb hm
/-! ### is None, is True -/
def isNonD : D → Bool
  | .non => true
  | _ => false
def isND (neg : Bool) (d : D) : Option D := some (.bl (if neg then !isNonD d else isNonD d))
theorem nonV_of {K : PySem.W.Frag} {nm : Nat → Option Addr} {F : Hp} {d : D} {v : V} (r : Rep K nm F d v) : decide (v = .non) = isNonD d := by
  cases d with
  | non => rw [show v = V.non from r]; rfl
  | bl b => rw [show v = V.bl b from r]; rfl
  | int b => rw [show v = V.int b from r]; rfl
  | str b => rw [r.1]; rfl
  | row b => obtain ⟨a, vs, rfl, _⟩ := r; rfl
  | tup b => obtain ⟨a, vs, rfl, _⟩ := r; rfl
  | tab b => obtain ⟨a, vs, rfl, _⟩ := r; rfl
  | kro b => obtain ⟨a, vs, rfl, _⟩ := r; rfl
  | exc b c => obtain ⟨a, vs, rfl, _⟩ := r; rfl
  | obj b => obtain ⟨a, _, rfl⟩ := r; rfl
theorem sat_isN {tg : TE → TE} {neg : Bool} (htg : tg = if neg then tNotN else tIsN) (σ : L2.St) (H : Hp) (Q : VK) (h : tD R W O (dUn (isND neg) f) σ H Q) : tg (tD R W O f) σ H Q := by
  obtain ⟨F, ρ, s, w, pu, p⟩ := h
  subst htg
  cases neg with
  | false =>
    refine ⟨F, ρ, s, w, pu, p.bnd.imp (fun d s1 F1 H1 w1 st1 p1 v rv => ?_) fun _ _ _ _ _ _ z => z⟩
    show Q (.bl (decide (v = .non))) H1
    rw [nonV_of rv]
    exact p1 F1 H1 w1 Stp.refl _ rfl
  | true =>
    refine ⟨F, ρ, s, w, pu, p.bnd.imp (fun d s1 F1 H1 w1 st1 p1 v rv => ?_) fun _ _ _ _ _ _ z => z⟩
    show Q (.bl (!decide (v = .non))) H1
    rw [nonV_of rv]
    exact p1 F1 H1 w1 Stp.refl _ rfl
theorem de_isN {j pos'} (ha : PE X a (tD R W O f)) : PE X (.Compare a [.Is] [.Constant .none j pos'] pos) (tD R W O (dUn (isND false) f)) := pe_imp (pe_cmp (pc_isN ha) rfl) (sat_isN rfl)
theorem de_notN {j pos'} (ha : PE X a (tD R W O f)) : PE X (.Compare a [.IsNot] [.Constant .none j pos'] pos) (tD R W O (dUn (isND true) f)) := pe_imp (pe_cmp (pc_notN ha) rfl) (sat_isN rfl)
theorem sat_tB (σ : L2.St) (H : Hp) (Q : Bool → Hp → Prop) {h : Sl → M R.S D} {t : TE} (k : ∀ σ H Q, tD R W O h σ H Q → t σ H Q) (p : tDT R W O (dTst h isBl) σ H Q) : tB t σ H Q := by
  refine k σ H _ ?_
  obtain ⟨F, ρ, s, w, pu, p⟩ := p
  refine ⟨F, ρ, s, w, pu, p.bnd.imp (fun d s1 F1 H1 w1 st1 p1 v rv => ?_) fun _ _ _ _ _ _ z => z⟩
  obtain ⟨c, ec, k⟩ := p1.lift
  cases d <;> try cases ec
  exact ⟨_, rv, k F1 H1 w1 Stp.refl⟩
theorem dt_isN {j pos'} (ha : PE X a (tD R W O f)) : PT X (.Compare a [.Is] [.Constant .none j pos'] pos) (tDT R W O (dTst (dUn (isND false) f) isBl)) := pt_imp (pt_cmp (pc_isN ha) rfl) fun σ H Q h => sat_tB σ H Q (sat_isN rfl) h
theorem dt_notN {j pos'} (ha : PE X a (tD R W O f)) : PT X (.Compare a [.IsNot] [.Constant .none j pos'] pos) (tDT R W O (dTst (dUn (isND true) f) isBl)) := pt_imp (pt_cmp (pc_notN ha) rfl) fun σ H Q h => sat_tB σ H Q (sat_isN rfl) h
def isBD (neg : Bool) : D → D → Option D
  | .bl x, .bl y => some (.bl (if neg then !decide (x = y) else decide (x = y)))
  | _, _ => none
theorem ck_is : CmpOk X R .Is (isBD false) := ⟨_, op_is_bl, fun x y d e d' F H s Q w rx ry h k => by
  unfold isBD at h
  split at h
  · cases h; exact ⟨_, _, rx, ry, k _ F H w Stp.refl rfl⟩
  · cases h⟩
theorem ck_isnot : CmpOk X R .IsNot (isBD true) := ⟨_, op_isnot_bl, fun x y d e d' F H s Q w rx ry h k => by
  unfold isBD at h
  split at h
  · cases h; exact ⟨_, _, rx, ry, k _ F H w Stp.refl rfl⟩
  · cases h⟩
/-! ### a < b < c -/
def dChain {S : Type} (op op' : D → D → Option D) (f g h : Sl → M S D) : Sl → M S D := fun r => bnd (f r) fun x => bnd (g r) fun y => bnd (lift ((op x y).bind isBl)) fun b => if b = true then bnd (h r) fun z => lift (op' y z) else ret (.bl false)
theorem sat_chain {r r' : R2} {op op' : D → D → Option D} {h : Sl → M R.S D} (hs : OpSat R r op) (hs' : OpSat R r' op') (σ : L2.St) (H : Hp) (Q : VK) (p : tD R W O (dChain op op' f g h) σ H Q) : tChain r r' (tD R W O f) (tD R W O g) (tD R W O h) σ H Q := by
  obtain ⟨F, ρ, s, w, pu, p⟩ := p
  refine ⟨F, ρ, s, w, pu, p.bnd.imp (fun d s1 F1 H1 w1 st1 p1 v rv => ?_) fun _ _ _ _ _ _ z => z⟩
  refine ⟨F1, ρ, s1, w1, pu.mono st1.fs, p1.bnd.imp (fun e s2 F2 H2 w2 st2 p2 u ru => ?_) fun _ _ _ _ _ _ z => z⟩
  obtain ⟨b, eb, p3⟩ := p2.bnd.lift
  cases eo : op d e with
  | none => rw [eo] at eb; cases eb
  | some z =>
    rw [eo] at eb
    cases z <;> try cases eb
    refine hs v u d e _ F2 H2 s2 _ w2 (rv.mono st2.fs) ru eo fun v' F3 H3 w3 st3 r3 => ?_
    refine ⟨b, r3, ?_⟩
    have p4 := p3 F3 H3 w3 st3
    cases b with
    | false => rw [if_neg Bool.false_ne_true] at p4 ⊢; exact p4 F3 H3 w3 Stp.refl _ rfl
    | true =>
      rw [if_pos rfl] at p4 ⊢
      refine ⟨F3, ρ, s2, w3, (pu.mono (st1.fs.trans st2.fs)).mono st3.fs, p4.bnd.imp (fun e' s5 F5 H5 w5 st5 p5 u' ru' => ?_) fun _ _ _ _ _ _ z => z⟩
      obtain ⟨d5, e5, k⟩ := p5.lift
      exact hs' u u' e e' d5 F5 H5 s5 Q w5 ((ru.mono st3.fs).mono st5.fs) ru' e5 fun v' F' H' w' st' r' => k F' H' w' st' v' r'
theorem de_chain {c : Expr} {o o' : CmpOp} {op op' : D → D → Option D} {h : Sl → M R.S D} (k : CmpOk X R o op) (k' : CmpOk X R o' op') (ha : PE X a (tD R W O f)) (hb : PE X b (tD R W O g)) (hc : PE X c (tD R W O h)) (hm : lastMarks [o, o'] [b, c] = false := by with_unfolding_all rfl) :
    PE X (.Compare a [o, o'] [b, c] pos) (tD R W O (dChain op op' f g h)) := let ⟨_, h1, h2⟩ := k.ok; let ⟨_, h3, h4⟩ := k'.ok; pe_imp (pe_chain h1 h3 ha hb hc hm) (sat_chain h2 h4)
theorem dt_chain {c : Expr} {o o' : CmpOp} {op op' : D → D → Option D} {h : Sl → M R.S D} (k : CmpOk X R o op) (k' : CmpOk X R o' op') (ha : PE X a (tD R W O f)) (hb : PE X b (tD R W O g)) (hc : PE X c (tD R W O h)) (hm : lastMarks [o, o'] [b, c] = false := by with_unfolding_all rfl) :
    PT X (.Compare a [o, o'] [b, c] pos) (tDT R W O (dTst (dChain op op' f g h) isBl)) := by
  obtain ⟨_, h1, h2⟩ := k.ok
  obtain ⟨_, h3, h4⟩ := k'.ok
  refine pt_imp (pt_chain h1 h3 ha hb hc hm) fun σ H Q p => ?_
  refine sat_chain h2 h4 σ H _ ?_
  obtain ⟨F, ρ, s, w, pu, p⟩ := p
  refine ⟨F, ρ, s, w, pu, p.bnd.imp (fun d s1 F1 H1 w1 st1 p1 v rv => ?_) fun _ _ _ _ _ _ z => z⟩
  obtain ⟨c, ec, k⟩ := p1.lift
  cases d <;> try cases ec
  exact ⟨_, rv, k F1 H1 w1 Stp.refl⟩
end
end Nw
set_option Elab.async false
set_option linter.all false
set_option maxRecDepth 100000
set_option maxHeartbeats 4000000
/-! Part P: in, places, slices, the built-in functions. -/
namespace Nw
open PySem PySem.Spec L2
/-! ### equal to one that stands at the same place -/
section
variable {K : PySem.W.Frag} {nm : Nat → Option Addr} {F : Hp}
theorem eqLN_det {f : D → D → Option Bool} (hf : ∀ d d' e v k k', Rep K nm F d v → Rep K nm F d' v → f d e = some k → f d' e = some k' → k = k') : ∀ {xs xs' ys : List D} {vs : List V} {k k' : Bool}, Reps K nm F xs vs → Reps K nm F xs' vs → eqLN f xs ys = some k → eqLN f xs' ys = some k' → k = k'
  | [], xs', ys, vs, k, k', r, q, h, h' => by
    rw [show vs = [] from r] at q
    cases xs' with
    | nil => rw [h] at h'; exact Option.some.inj h'
    | cons y ys => obtain ⟨v, ws, e', _⟩ := q; cases e'
  | x :: xs, xs', ys, vs, k, k', r, q, h, h' => by
    obtain ⟨v, ws, rfl, r1, r2⟩ := r
    cases xs' with
    | nil => cases (show (v :: ws : List V) = [] from q)
    | cons x' xs' =>
      obtain ⟨v', ws', e', q1, q2⟩ := q
      cases e'
      cases ys with
      | nil => cases h; cases h'; rfl
      | cons y ys =>
        unfold eqLN at h h'
        cases e1 : f x y with
        | none => rw [e1] at h; cases h
        | some a =>
          cases e2 : f x' y with
          | none => rw [e2] at h'; cases h'
          | some a' =>
            rw [e1] at h
            rw [e2] at h'
            cases e3 : eqLN f xs ys with
            | none => rw [e3] at h; cases h
            | some b =>
              cases e4 : eqLN f xs' ys with
              | none => rw [e4] at h'; cases h'
              | some b' =>
                rw [e3] at h
                rw [e4] at h'
                cases h
                cases h'
                rw [hf x x' y v a a' r1 q1 e1 e2, eqLN_det hf r2 q2 e3 e4]
/-- what is simple and stands at one place is of one kind -/
theorem sim_kind {d d' : D} {v : V} (r : Rep K nm F d v) (q : Rep K nm F d' v) (h : simD d = true) (h' : simD d' = true) :
    d = d' ∨ (∃ xs xs' vs, d = .row xs ∧ d' = .row xs' ∧ Reps K nm F xs vs ∧ Reps K nm F xs' vs) ∨ (∃ xs xs' vs, d = .tup xs ∧ d' = .tup xs' ∧ Reps K nm F xs vs ∧ Reps K nm F xs' vs) := by
  cases d <;> try cases h
  all_goals (cases d' <;> try cases h')
  all_goals first
    | exact .inl rfl
    | (rename_i a b; cases (show v = V.bl a from r); cases (show V.bl a = V.bl b from q); exact .inl rfl)
    | (rename_i a b; cases (show v = V.int a from r); cases (show V.int a = V.int b from q); exact .inl rfl)
    | (cases r.1; cases q.1; exact .inl rfl)
    | (obtain ⟨a, vs, rfl, e1, _, r1⟩ := r
       obtain ⟨b, ws, e0, e2, _, r2⟩ := q
       cases e0
       rw [e1] at e2
       cases e2
       first
         | exact .inr (.inl ⟨_, _, _, rfl, rfl, r1, r2⟩)
         | exact .inr (.inr ⟨_, _, _, rfl, rfl, r1, r2⟩))
    | (exfalso; first
        | (cases (show v = V.non from r); first | (cases (show V.non = V.bl _ from q)) | (cases (show V.non = V.int _ from q)) | (cases q.1) | (obtain ⟨_, _, e0, _⟩ := q; cases e0))
        | (rename_i a b; cases (show v = V.bl a from r); first | (cases (show V.bl a = V.int _ from q)) | (cases q.1) | (obtain ⟨_, _, e0, _⟩ := q; cases e0))
        | (rename_i a; cases (show v = V.bl a from r); first | (cases (show V.bl a = V.non from q)))
        | (rename_i a b; cases (show v = V.int a from r); first | (cases (show V.int a = V.bl _ from q)) | (cases q.1) | (obtain ⟨_, _, e0, _⟩ := q; cases e0))
        | (rename_i a; cases (show v = V.int a from r); first | (cases (show V.int a = V.non from q)))
        | (cases r.1; first | (cases (show V.str _ = V.non from q)) | (cases (show V.str _ = V.bl _ from q)) | (cases (show V.str _ = V.int _ from q)) | (obtain ⟨_, _, e0, _⟩ := q; cases e0))
        | (obtain ⟨_, _, rfl, e1, _⟩ := r; first | (cases (show V.ref _ = V.non from q)) | (cases (show V.ref _ = V.bl _ from q)) | (cases (show V.ref _ = V.int _ from q)) | (cases q.1) | (obtain ⟨_, _, e0, e2, _⟩ := q; cases e0; rw [e1] at e2; cases e2)))
theorem eqN_sim : ∀ {n : Nat} {d e : D} {k : Bool}, eqN n d e = some k → simD d = true ∧ simD e = true
  | 0, _, _, _, h => by cases h
  | n + 1, d, e, k, h => by
    cases d <;> cases e <;> first | exact ⟨rfl, rfl⟩ | (cases (show (none : Option Bool) = some k from h))
theorem eqN_det : ∀ (n : Nat) (d d' e : D) (v : V) (k k' : Bool), Rep K nm F d v → Rep K nm F d' v → eqN n d e = some k → eqN n d' e = some k' → k = k'
  | 0, _, _, _, _, _, _, _, _, h, _ => by cases h
  | n + 1, d, d', e, v, k, k', r, q, h, h' => by
    rcases sim_kind r q (eqN_sim h).1 (eqN_sim h').1 with rfl | ⟨xs, xs', vs, rfl, rfl, r1, r2⟩ | ⟨xs, xs', vs, rfl, rfl, r1, r2⟩
    · rw [h] at h'; exact Option.some.inj h'
    · cases e with
      | row ys =>
        have h : (if xs.length = ys.length then eqLN (eqN n) xs ys else some false) = some k := h
        have h' : (if xs'.length = ys.length then eqLN (eqN n) xs' ys else some false) = some k' := h'
        have hl : xs.length = xs'.length := by rw [← r1.length, r2.length]
        rw [← hl] at h'
        by_cases c : xs.length = ys.length
        · rw [if_pos c] at h h'
          exact eqLN_det (eqN_det n) r1 r2 h h'
        · rw [if_neg c] at h h'
          cases h
          cases h'
          rfl
      | _ => first | (cases h; cases h'; rfl) | (cases (show (none : Option Bool) = some k from h))
    · cases e with
      | tup ys =>
        have h : ((eqLN (eqN n) xs ys).map fun a => a && (xs.length == ys.length)) = some k := h
        have h' : ((eqLN (eqN n) xs' ys).map fun a => a && (xs'.length == ys.length)) = some k' := h'
        have hl : xs.length = xs'.length := by rw [← r1.length, r2.length]
        cases e1 : eqLN (eqN n) xs ys with
        | none => rw [e1] at h; cases h
        | some a =>
          cases e2 : eqLN (eqN n) xs' ys with
          | none => rw [e2] at h'; cases h'
          | some a' =>
            rw [e1] at h
            rw [e2] at h'
            cases h
            cases h'
            rw [eqLN_det (eqN_det n) r1 r2 e1 e2, hl]
      | _ => first | (cases h; cases h'; rfl) | (cases (show (none : Option Bool) = some k from h))
end
/-- whether d is among them -/
def eqAny (n : Nat) (d : D) : List D → Option Bool
  | [] => some false
  | y :: ys => (eqN n y d).bind fun a => (eqAny n d ys).map fun b => a || b
theorem eqAny_each {n : Nat} {d : D} : ∀ {ys : List D} {k : Bool}, eqAny n d ys = some k → ∀ y ∈ ys, ∃ b, eqN n y d = some b
  | [], k, h, y, hy => by cases hy
  | y :: ys, k, h, z, hz => by
    unfold eqAny at h
    cases e1 : eqN n y d with
    | none => rw [e1] at h; cases h
    | some a =>
      rw [e1] at h
      cases e2 : eqAny n d ys with
      | none => rw [e2] at h; cases h
      | some b =>
        rcases List.mem_cons.mp hz with rfl | hz
        · exact ⟨a, e1⟩
        · exact eqAny_each e2 z hz
section
variable {X : Cx} {nm : Nat → Option Addr} {F H : Hp} {pins : List (Addr × Obj)} {σ : L2.St} {s : Shared}
/-- the answers by the items' values -/
theorem any_of (I : Inv X pins σ H s) (sb : Sub F H) {A : Around} (hu : A.units + 60 < cLine) {d : D} {v : V} {v' : Value} (r : Rep X.K nm F d v) (q : RelV v v') : ∀ {ds : List D} {vs : List V} {us : List Value} {k : Bool}, Reps X.K nm F ds vs → Vals vs us → eqAny 60 d ds = some k →
    ∃ e : Value → Bool, (∀ y ∈ us, SeqAt.EqAt A s y v' (e y)) ∧ us.any e = k := fun {ds vs us k} rs qs h => by
  classical
  -- e: what eqN says of some datum at that place
  let e : Value → Bool := fun u => decide (∃ d' w, Rep X.K nm F d' w ∧ RelV w u ∧ eqN 60 d' d = some true)
  have he : ∀ d' w u b, Rep X.K nm F d' w → RelV w u → eqN 60 d' d = some b → e u = b := fun d' w u b h1 h2 h3 => by
    cases b with
    | true => exact decide_eq_true ⟨d', w, h1, h2, h3⟩
    | false =>
      refine decide_eq_false fun ⟨d2, w2, k1, k2, k3⟩ => ?_
      have ew : w2 = w := k2.inj h2
      subst ew
      cases eqN_det 60 d2 d' d w2 true false k1 h1 k3 h3
  refine ⟨e, ?_, ?_⟩
  · intro y hy
    obtain ⟨j, hj, ej⟩ := List.mem_iff_getElem.mp hy
    have hv : ∃ w, vs[j]? = some w ∧ RelV w y := by
      have hl := qs.length
      have hjv : j < vs.length := by omega
      obtain ⟨u, h1, h2⟩ := qs.get (List.getElem?_eq_getElem hjv)
      rw [List.getElem?_eq_getElem hj] at h1
      cases h1
      rw [ej] at h2
      exact ⟨_, List.getElem?_eq_getElem hjv, h2⟩
    obtain ⟨w, h1, h2⟩ := hv
    obtain ⟨d', h3, h4⟩ := rs.get' h1
    obtain ⟨b, hb⟩ := eqAny_each h d' (List.mem_of_getElem? h3)
    rw [he d' w y b h4 h2 hb]
    exact eq_all I sb 60 A hu d' d w v y v' b h4 r h2 q hb
  · induction ds generalizing vs us k with
    | nil =>
      rw [show vs = [] from rs] at qs
      cases qs
      cases h
      rfl
    | cons d0 ds ih =>
      obtain ⟨w, ws, rfl, r1, r2⟩ := rs
      cases qs with
      | cons q1 q2 =>
        unfold eqAny at h
        cases e1 : eqN 60 d0 d with
        | none => rw [e1] at h; cases h
        | some a =>
          rw [e1] at h
          cases e2 : eqAny 60 d ds with
          | none => rw [e2] at h; cases h
          | some b =>
            rw [e2] at h
            cases h
            rw [List.any_cons, he d0 w _ a r1 q1 e1, ih r2 q2 e2]
end
/-! ### in -/
def keyD : D → Option Key
  | .int i => some (.inl i)
  | .str x => some (.inr x)
  | _ => none
def valD (kvs : List (Key × D)) (k : Key) : Option D := (kvs.find? fun kv => decide (kv.1 = k)).map (·.2)
theorem keyD_rep {K : PySem.W.Frag} {nm : Nat → Option Addr} {F : Hp} {d : D} {v : V} {k : Key} (r : Rep K nm F d v) (h : keyD d = some k) : v = kV k := by
  cases d <;> try cases h
  · exact r
  · exact r.1
theorem repsK_val {K : PySem.W.Frag} {nm : Nat → Option Addr} {F : Hp} (k : Key) : ∀ {kvs : List (Key × D)} {ws : List (Key × V)}, RepsK K nm F kvs ws → (valD kvs k = none ∧ valV ws k = none) ∨ ∃ d v, valD kvs k = some d ∧ valV ws k = some v ∧ Rep K nm F d v
  | [], ws, r => by rw [show ws = [] from r]; exact .inl ⟨rfl, rfl⟩
  | (j, d) :: kvs, ws, r => by
    obtain ⟨v, ws', rfl, _, r1, r2⟩ := r
    by_cases e : j = k
    · refine .inr ⟨d, v, ?_, ?_, r1⟩
      · unfold valD; rw [List.find?_cons_of_pos (by simp [e])]; rfl
      · exact valV_pos e
    · have h1 : valD ((j, d) :: kvs) k = valD kvs k := by unfold valD; rw [List.find?_cons_of_neg (by simp [e])]
      have h2 : valV ((j, v) :: ws') k = valV ws' k := valV_neg e
      rw [h1, h2]
      exact repsK_val k r2
def inD (neg : Bool) : D → D → Option D
  | .str x, .str y => some (.bl (if neg then !(!(Builtin.Str.occurrences y x 0 y.length 1).isEmpty) else !(Builtin.Str.occurrences y x 0 y.length 1).isEmpty))
  | d, .row ys => (eqAny 60 d ys).map fun b => .bl (if neg then !b else b)
  | d, .tup ys => (eqAny 60 d ys).map fun b => .bl (if neg then !b else b)
  | d, .kro ys => (eqAny 60 d ys).map fun b => .bl (if neg then !b else b)
  | d, .tab kvs => (keyD d).map fun k => .bl (if neg then !(valD kvs k).isSome else (valD kvs k).isSome)
  | _, _ => none
def rInS (K : PySem.W.Frag) (nm : Nat → Option Addr) (neg : Bool) : R2 := fun x y H Q => ∃ F d p ds vs k, Sub F H ∧ Rep K nm F d x ∧ y = .ref p ∧ (SqL K H p vs ∨ SqT K H p vs) ∧ Reps K nm F ds vs ∧ eqAny 60 d ds = some k ∧ Q (.bl (if neg then !k else k)) H
def rInK (neg : Bool) : R2 := fun x y H Q => ∃ a o, y = .ref a ∧ DGet H a x o ∧ Q (.bl (if neg then !o.isSome else o.isSome)) H
section
variable {X : Cx} {R : Reg} {nm : Nat → Option Addr}
theorem op_inS (hu : X.A.units + 64 < cLine) (neg : Bool) : OpR X (compareOp (if neg then .NotIn else .In)) (rInS X.K nm neg) := by
  intro pins s σ H x y v u Q I rx ry h
  obtain ⟨F, d, p, ds, vs, k, sb, rd, rfl, hs, rs, hk, q⟩ := h
  cases ry
  rcases hs with hs | hs
  · obtain ⟨its, rv, pl, _⟩ := I.list hs
    obtain ⟨e, he, ek⟩ := any_of I sb (A := X.A.in1) (by show X.A.units + 1 + 60 < cLine; omega) rd rx rs rv hk
    cases neg with
    | false => exact SeqAt.in_listAt e pl.isList (fun y hy => he y (by simpa using hy)) ⟨.bl k, H, I, by rw [List.any_toArray, ek]; rfl, q⟩
    | true => exact SeqAt.notIn_listAt e pl.isList (fun y hy => he y (by simpa using hy)) ⟨.bl (!k), H, I, by rw [List.any_toArray, ek]; rfl, q⟩
  · obtain ⟨its, rv, pl, _⟩ := I.tuple hs
    obtain ⟨e, he, ek⟩ := any_of I sb (A := X.A.in1) (by show X.A.units + 1 + 60 < cLine; omega) rd rx rs rv hk
    cases neg with
    | false => exact SeqAt.in_tupleAt e pl (fun y hy => he y (by simpa using hy)) ⟨.bl k, H, I, by rw [List.any_toArray, ek]; rfl, q⟩
    | true => exact SeqAt.notIn_tupleAt e pl (fun y hy => he y (by simpa using hy)) ⟨.bl (!k), H, I, by rw [List.any_toArray, ek]; rfl, q⟩
theorem op_inK (hu : X.A.units + 1 < cLine) (neg : Bool) : OpR X (compareOp (if neg then .NotIn else .In)) (rInK neg) := by
  intro pins s σ H x y v u Q I rx ry h
  obtain ⟨a, o, rfl, g, q⟩ := h
  cases ry
  cases neg with
  | false => exact d_in hu I g rx fun s' I' => ⟨.bl _, H, I', rfl, q⟩
  | true => exact d_notIn hu I g rx fun s' I' => ⟨.bl _, H, I', rfl, q⟩
def rInT (neg : Bool) : R2 := fun x y H Q => ∃ i j, x = .str i ∧ y = .str j ∧ Q (.bl (if neg then !(!(Builtin.Str.occurrences j i 0 j.length 1).isEmpty) else !(Builtin.Str.occurrences j i 0 j.length 1).isEmpty)) H
theorem op_inT (neg : Bool) : OpR X (compareOp (if neg then .NotIn else .In)) (rInT neg) := by
  cases neg with
  | false => exact op_in_str
  | true => exact op_notin_str
theorem sat_in (neg : Bool) : OpSat R (fun x y H Q => rInT neg x y H Q ∨ rInS R.K R.nm neg x y H Q ∨ rInK neg x y H Q) (inD neg) := fun x y d e d' F H s Q w rx ry h k => by
  unfold inD at h
  split at h
  · cases h
    exact .inl ⟨_, _, rx.1, ry.1, k _ F H w Stp.refl rfl⟩
  · rename_i ys
    cases e1 : eqAny 60 d ys with
    | none => rw [e1] at h; cases h
    | some b =>
      rw [e1] at h
      cases h
      obtain ⟨a, vs, rfl, h1, _, h2⟩ := ry
      exact .inr (.inl ⟨F, d, a, ys, vs, b, w.sub, rx, rfl, .inl (SqL.of (w.sub.lst h1)), h2, e1, k _ F H w Stp.refl rfl⟩)
  · rename_i ys
    cases e1 : eqAny 60 d ys with
    | none => rw [e1] at h; cases h
    | some b =>
      rw [e1] at h
      cases h
      obtain ⟨a, vs, rfl, h1, _, h2⟩ := ry
      exact .inr (.inl ⟨F, d, a, ys, vs, b, w.sub, rx, rfl, .inr (SqT.of (w.sub.tup h1)), h2, e1, k _ F H w Stp.refl rfl⟩)
  · rename_i ys
    cases e1 : eqAny 60 d ys with
    | none => rw [e1] at h; cases h
    | some b =>
      rw [e1] at h
      cases h
      obtain ⟨a, vs, rfl, h1, _, h2⟩ := ry
      exact .inr (.inl ⟨F, d, a, ys, vs, b, w.sub, rx, rfl, .inl (w.sub.sqL h1), h2, e1, k _ F H w Stp.refl rfl⟩)
  · rename_i kvs
    cases e1 : keyD d with
    | none => rw [e1] at h; cases h
    | some key =>
      rw [e1] at h
      cases h
      obtain ⟨a, ws, rfl, h1, _, h2⟩ := ry
      refine .inr (.inr ⟨a, valV ws key, rfl, .inl ⟨ws, key, w.sub.dK h1, keyD_rep rx e1, rfl⟩, k _ F H w Stp.refl ?_⟩)
      show Rep R.K R.nm F (D.bl (if neg = true then !(valD kvs key).isSome else (valD kvs key).isSome)) (V.bl (if neg = true then !(valV ws key).isSome else (valV ws key).isSome))
      rcases repsK_val key h2 with ⟨z1, z2⟩ | ⟨d1, v1, z1, z2, _⟩ <;> rw [z1, z2] <;> rfl
  · cases h
theorem ck_in {W : WX} {n : Nat} (c : Cxt X R W n) : CmpOk X R .In (inD false) := ⟨_, by
  have h1 := op_inT (X := X) false
  have h2 := op_inS (X := X) (nm := R.nm) c.hr.units false
  have h3 := op_inK (X := X) (hu_of c.hr) false
  rw [← c.hK] at h2
  exact h1.or (h2.or h3), sat_in false⟩
theorem ck_notin {W : WX} {n : Nat} (c : Cxt X R W n) : CmpOk X R .NotIn (inD true) := ⟨_, by
  have h1 := op_inT (X := X) true
  have h2 := op_inS (X := X) (nm := R.nm) c.hr.units true
  have h3 := op_inK (X := X) (hu_of c.hr) true
  rw [← c.hK] at h2
  exact h1.or (h2.or h3), sat_in true⟩
/-! ### places -/
variable {W : WX} {O : List Nat} {a b e : Expr} {f g : Sl → M R.S D} {pos : Pos} {es : List Expr} {fs : Sl → M R.S (List D)}
def ixD : D → D → Option D
  | .row xs, .int i => atI xs i
  | .tup xs, .int i => atI xs i
  | .kro xs, .int i => atI xs i
  | .str z, .int i => (atI z.cps.toList i).map fun c => .str ⟨#[c]⟩
  | .tab kvs, k => (keyD k).bind fun k => valD kvs k
  | _, _ => none
theorem atI_rep {K : PySem.W.Frag} {nm : Nat → Option Addr} {F : Hp} {xs : List D} {vs : List V} {i : Int} {d : D} (r : Reps K nm F xs vs) (h : atI xs i = some d) : ∃ v, atI vs i = some v ∧ Rep K nm F d v := by
  unfold atI at h ⊢
  rw [r.length]
  cases e : ixN xs.length i with
  | none => rw [e] at h; cases h
  | some j =>
    rw [e] at h
    exact r.get h
def rIxA (K : PySem.W.Frag) : R2 := fun x y H Q => rIx K x y H Q
def tIxA (K : PySem.W.Frag) (ta tb : TE) : TE := fun σ H Q => tOp (rIx K) ta tb σ H Q ∨ tDGet ta tb σ H Q
theorem one_str_len (c : Nat) : (⟨#[c]⟩ : Str).length ≤ sizeLine := by show 1 ≤ sizeLine; rw [sizeLine_eq]; decide
theorem de_ix {n : Nat} (c : Cxt X R W n) (ha : PE X a (tD R W O f)) (hb : PE X b (tD R W O g)) (hs : PlainIx b := by exact fun _ _ => rfl) : PE X (.Subscript a b pos) (tD R W O (dOp ixD f g)) :=
  pe_imp (pe_or2 (pe_ix ix_seq ha hb hs) (pe_dget (hu_of c.hr) ha hb hs)) fun σ H Q h => by
    obtain ⟨F, ρ, s, w, pu, p⟩ := h
    have hb1 := p.bnd
    cases ef : f ρ s with
    | bot => rw [ef] at hb1; exact hb1.elim
    | exc x s1 => rw [ef] at hb1; exact .inl ⟨F, ρ, s, w, pu, by rw [ef]; exact hb1⟩
    | ok d s1 =>
      rw [ef] at hb1
      by_cases hd : ∃ kvs, d = .tab kvs
      · obtain ⟨kvs, rfl⟩ := hd
        refine .inr ⟨F, ρ, s, w, pu, ?_⟩
        rw [ef]
        intro F1 H1 w1 st1 v rv
        refine ⟨F1, ρ, s1, w1, pu.mono st1.fs, (hb1 F1 H1 w1 st1).bnd.imp (fun e s2 F2 H2 w2 st2 p2 u ru => ?_) fun _ _ _ _ _ _ z => z⟩
        obtain ⟨d', e', k⟩ := p2.lift
        have e' : ((keyD e).bind fun k => valD kvs k) = some d' := e'
        cases ek : keyD e with
        | none => rw [ek] at e'; cases e'
        | some key =>
          rw [ek] at e'
          obtain ⟨p, ws, rfl, h1, _, h2⟩ := rv.mono st2.fs
          rcases repsK_val key h2 with ⟨z1, z2⟩ | ⟨d1, v1, z1, z2, r1⟩
          · rw [show valD kvs key = some d' from e'] at z1; cases z1
          · rw [show valD kvs key = some d' from e'] at z1
            cases z1
            exact ⟨p, v1, rfl, .inl ⟨ws, key, w2.sub.dK h1, keyD_rep ru ek, z2.symm⟩, k F2 H2 w2 Stp.refl v1 r1⟩
      · refine .inl ⟨F, ρ, s, w, pu, ?_⟩
        rw [ef]
        intro F1 H1 w1 st1 v rv
        refine ⟨F1, ρ, s1, w1, pu.mono st1.fs, (hb1 F1 H1 w1 st1).bnd.imp (fun e s2 F2 H2 w2 st2 p2 u ru => ?_) fun _ _ _ _ _ _ z => z⟩
        obtain ⟨d', e', k⟩ := p2.lift
        have rv := rv.mono st2.fs
        unfold ixD at e'
        split at e'
        · obtain ⟨p, vs, rfl, h1, _, h2⟩ := rv
          obtain ⟨v', h3, h4⟩ := atI_rep h2 e'
          exact .inl ⟨p, vs, _, v', rfl, ru, SqL.of (w2.sub.lst h1), h3, k F2 H2 w2 Stp.refl v' h4⟩
        · obtain ⟨p, vs, rfl, h1, _, h2⟩ := rv
          obtain ⟨v', h3, h4⟩ := atI_rep h2 e'
          exact .inr (.inl ⟨p, vs, _, v', rfl, ru, SqT.of (w2.sub.tup h1), h3, k F2 H2 w2 Stp.refl v' h4⟩)
        · obtain ⟨p, vs, rfl, h1, _, h2⟩ := rv
          obtain ⟨v', h3, h4⟩ := atI_rep h2 e'
          rw [c.hK] at h1
          exact .inl ⟨p, vs, _, v', rfl, ru, w2.sub.sqL h1, h3, k F2 H2 w2 Stp.refl v' h4⟩
        · obtain ⟨ch, ec, ed⟩ := Option.map_eq_some_iff.mp e'
          cases ed
          exact .inr (.inr ⟨_, _, ch, rv.1, ru, rv.2, ec, k F2 H2 w2 Stp.refl _ ⟨rfl, one_str_len ch⟩⟩)
        · rename_i kvs _
          exact absurd ⟨kvs, rfl⟩ hd
        · cases e'
/-! ### slices -/
def cutL {α : Type} (xs : List α) (lo hi : Option Int) : List α := (xs.drop (HT.sIx xs.length 0 lo)).take (HT.sIx xs.length xs.length hi - HT.sIx xs.length 0 lo)
def slD : D → Option Int → Option Int → Option D
  | .row xs, lo, hi => some (.row (cutL xs lo hi))
  | .tup xs, lo, hi => some (.tup (cutL xs lo hi))
  | .str z, lo, hi => some (.str (cutS z lo hi))
  | _, _, _ => none
def pNone {S : Type} : Sl → M S (Option Int) := fun _ => ret none
def intD : D → Option (Option Int)
  | .int i => some (some i)
  | _ => none
def pSome {S : Type} (f : Sl → M S D) : Sl → M S (Option Int) := fun r => bnd (f r) fun x => lift (intD x)
def dSl {S : Type} (f : Sl → M S D) (lo hi : Sl → M S (Option Int)) : Sl → M S D := fun r => bnd (f r) fun x => bnd (lo r) fun l => bnd (hi r) fun h => lift (slD x l h)
def tDO (R : Reg) (W : WX) (O : List Nat) (f : Sl → M R.S (Option Int)) : TO := fun σ H Q => ∃ F r s, Wd R F H s ∧ Pu R O F σ r ∧ Post R F H (f r s) (fun o _ _ H' => Q o H') (fun x _ F' H' => ∀ cls dd, RepX R.K R.nm F' x cls dd → W cls dd σ H')
theorem po_imp {e : Option Expr} {t t' : TO} (h : PO X e t) (k : ∀ σ H Q, t' σ H Q → t σ H Q) : PO X e t' := ⟨fun pins s σ H Q I q => h.run pins s σ H Q I (k σ H Q q)⟩
theorem dp_none : PO X none (tDO R W O pNone) := po_imp po_none fun σ H Q h => by
  obtain ⟨F, ρ, s, w, pu, p⟩ := h
  exact p F H w Stp.refl
theorem dp_some (h : PE X e (tD R W O f)) : PO X (some e) (tDO R W O (pSome f)) := po_imp (po_some h) fun σ H Q h => by
  obtain ⟨F, ρ, s, w, pu, p⟩ := h
  refine ⟨F, ρ, s, w, pu, p.bnd.imp (fun d s1 F1 H1 w1 st1 p1 v rv => ?_) fun _ _ _ _ _ _ z => z⟩
  obtain ⟨i, e', k⟩ := p1.lift
  cases d <;> try cases e'
  exact ⟨_, rv, k F1 H1 w1 Stp.refl⟩
theorem cutL_le {α : Type} (xs : List α) (lo hi : Option Int) : (cutL xs lo hi).length ≤ xs.length := by
  unfold cutL
  rw [List.length_take, List.length_drop]
  omega
theorem reps_cut {K : PySem.W.Frag} {nm : Nat → Option Addr} {F : Hp} {xs : List D} {vs : List V} (r : Reps K nm F xs vs) (lo hi : Option Int) : Reps K nm F (cutL xs lo hi) (cutV vs lo hi) := by
  unfold cutL cutV
  rw [r.length]
  exact (r.drop _).take _
theorem cut_whole {α : Type} {xs : List α} {lo hi : Option Int} (h : HT.sIx xs.length 0 lo = 0 ∧ HT.sIx xs.length xs.length hi = xs.length) : cutL xs lo hi = xs := by
  unfold cutL
  rw [h.1, h.2, List.drop_zero, Nat.sub_zero, List.take_length]
theorem de_sl {lo hi : Option Expr} {fl fh : Sl → M R.S (Option Int)} {p2 : Pos} (he : PE X e (tD R W O f)) (hl : PO X lo (tDO R W O fl)) (hh : PO X hi (tDO R W O fh)) : PE X (.Subscript e (.Slice lo hi none p2) pos) (tD R W O (dSl f fl fh)) :=
  pe_imp (pe_slice (sl_list.or (sl_tupA.or sl_str)) he hl hh) fun σ H Q h => by
    obtain ⟨F, ρ, s, w, pu, p⟩ := h
    refine ⟨F, ρ, s, w, pu, p.bnd.imp (fun d s1 F1 H1 w1 st1 p1 v rv => ?_) fun _ _ _ _ _ _ z => z⟩
    refine ⟨F1, ρ, s1, w1, pu.mono st1.fs, p1.bnd.imp (fun l s2 F2 H2 w2 st2 p2 => ?_) fun _ _ _ _ _ _ z => z⟩
    refine ⟨F2, ρ, s2, w2, (pu.mono st1.fs).mono st2.fs, p2.bnd.imp (fun h s3 F3 H3 w3 st3 p3 => ?_) fun _ _ _ _ _ _ z => z⟩
    obtain ⟨d', e', k⟩ := p3.lift
    have rv := (rv.mono st2.fs).mono st3.fs
    cases d with
    | row xs =>
      cases e'
      obtain ⟨a, vs, rfl, h1, hz, h2⟩ := rv
      exact .inl ⟨a, vs, rfl, SqL.of (w3.sub.lst h1), fun q hq => new_row w3 (Nat.le_trans (cutL_le _ _ _) hz) (reps_cut h2 l h) hq fun v F' H' w' st' r' => k F' H' w' st' v r'⟩
    | tup xs =>
      cases e'
      have rv' := rv
      obtain ⟨a, vs, rfl, h1, hz, h2⟩ := rv
      refine .inr (.inl ⟨a, vs, rfl, SqT.of (w3.sub.tup h1), fun e => ?_, fun _ q hq => new_tup w3 (Nat.le_trans (cutL_le _ _ _) hz) (reps_cut h2 l h) hq fun v F' H' w' st' r' => k F' H' w' st' v r'⟩)
      rw [h2.length] at e
      refine k F3 H3 w3 Stp.refl _ ?_
      rw [cut_whole e]
      exact rv'
    | str z =>
      cases e'
      exact .inr (.inr ⟨z, rv.1, rv.2, k F3 H3 w3 Stp.refl _ ⟨rfl, Nat.le_trans (cutS_length z l h) rv.2⟩⟩)
    | _ => cases e'
/-- xs[::-1] -/
def revD : D → Option D
  | .row xs => some (.row xs.reverse)
  | _ => none
theorem de_rev {k : Nat} {p1 p2 p3 : Pos} (he : PE X e (tD R W O f)) : PE X (.Subscript e (.Slice none none (some (.UnaryOp .USub (.Constant (.int 1) k p1) p2)) p3) pos) (tD R W O (dUn revD f)) := pe_imp (pe_revL he) fun σ H Q h => by
  obtain ⟨F, ρ, s, w, pu, p⟩ := h
  refine ⟨F, ρ, s, w, pu, p.bnd.imp (fun d s1 F1 H1 w1 st1 p1 v rv => ?_) fun _ _ _ _ _ _ z => z⟩
  obtain ⟨d', e', k⟩ := p1.lift
  cases d <;> try cases e'
  obtain ⟨a, vs, rfl, h1, hz, h2⟩ := rv
  exact ⟨a, vs, rfl, SqL.of (w1.sub.lst h1), fun q hq => new_row w1 (by rw [List.length_reverse]; exact hz) h2.reverse hq fun v F' H' w' st' r' => k F' H' w' st' v r'⟩
/-! ### built-in functions -/
def lenD : List D → Option D
  | [.str x] => some (.int x.length)
  | [.row xs] => some (.int xs.length)
  | [.tup xs] => some (.int xs.length)
  | [.kro xs] => some (.int xs.length)
  | [.tab xs] => some (.int xs.length)
  | _ => none
theorem call_lenR : CallR X (.builtin "len") (fun xs H Q => ∃ a kvs, xs = [V.ref a] ∧ Rd H a (.dK kvs) ∧ Q (.int kvs.length) H) := by
  intro pins s σ H xs us Q I r h
  obtain ⟨a, kvs, rfl, ha, q⟩ := h
  obtain ⟨u, rfl, ru⟩ := vals1 r
  cases ru
  exact d_len I ha fun t s' I' => ⟨.int kvs.length, H, I', ⟨t, rfl⟩, q⟩
theorem sat_len : CallSat R (fun xs H Q => (∃ x n, xs = [x] ∧ LenV R.K x H n ∧ Q (.int n) H) ∨ ∃ a kvs, xs = [V.ref a] ∧ Rd H a (.dK kvs) ∧ Q (.int kvs.length) H) lenD := fun xs ds d' F H s Q w rs h k => by
  unfold lenD at h
  split at h
  · cases h
    obtain ⟨v, ws, rfl, ⟨rfl, hz⟩, e2⟩ := rs
    rw [show ws = [] from e2]
    exact .inl ⟨_, _, rfl, ⟨hz, rfl⟩, k _ F H w Stp.refl rfl⟩
  · cases h
    obtain ⟨v, ws, rfl, ⟨a, vs, rfl, h1, _, h2⟩, e2⟩ := rs
    rw [show ws = [] from e2]
    exact .inl ⟨_, _, rfl, .inl ⟨vs, SqL.of (w.sub.lst h1), rfl⟩, k _ F H w Stp.refl (by rw [h2.length]; rfl)⟩
  · cases h
    obtain ⟨v, ws, rfl, ⟨a, vs, rfl, h1, _, h2⟩, e2⟩ := rs
    rw [show ws = [] from e2]
    exact .inl ⟨_, _, rfl, .inr ⟨vs, SqT.of (w.sub.tup h1), rfl⟩, k _ F H w Stp.refl (by rw [h2.length]; rfl)⟩
  · cases h
    obtain ⟨v, ws, rfl, ⟨a, vs, rfl, h1, _, h2⟩, e2⟩ := rs
    rw [show ws = [] from e2]
    exact .inl ⟨_, _, rfl, .inl ⟨vs, w.sub.sqL h1, rfl⟩, k _ F H w Stp.refl (by rw [h2.length]; rfl)⟩
  · cases h
    obtain ⟨v, ws, rfl, ⟨a, vs, rfl, h1, _, h2⟩, e2⟩ := rs
    rw [show ws = [] from e2]
    exact .inr ⟨_, _, rfl, w.sub.dK h1, k _ F H w Stp.refl (by rw [h2.length]; rfl)⟩
  · cases h
theorem de_len {p : Pos} (hK : R.K = X.K) (hg : Gl X "len") (hm : X.mg "len" = none) (ha : PA X [e] (tDA R W O fs)) (he : starEach [e] X.env = (false, eval e X.env) :: starEach [] X.env := by rfl) (hpl : (backTo pos (starEach [] X.env)).any (·.1) = false := by rfl) :
    PE X (.Call (.Name "len" p) [e] [] pos) (tD R W O (dAll lenD fs)) := de_callB (call_len.or call_lenR) (by rw [← hK]; exact sat_len) hg hm PySem.boot_len ha (he := he) (hpl := hpl)
def ordD : List D → Option D
  | [.str x] => if x.length = 1 then some (.int ((x.cps.getD 0 0 : Nat) : Int)) else none
  | _ => none
theorem sat_ord : CallSat R (fun xs H Q => ∃ x, xs = [.str x] ∧ x.length = 1 ∧ Q (.int (x.cps.getD 0 0 : Nat)) H) ordD := fun xs ds d' F H s Q w rs h k => by
  unfold ordD at h
  split at h
  · split at h
    · rename_i hl
      cases h
      obtain ⟨v, ws, rfl, ⟨rfl, hz⟩, e2⟩ := rs
      rw [show ws = [] from e2]
      exact ⟨_, rfl, hl, k _ F H w Stp.refl rfl⟩
    · cases h
  · cases h
theorem de_ord {p : Pos} (hg : Gl X "ord") (hm : X.mg "ord" = none) (ha : PA X [e] (tDA R W O fs)) (he : starEach [e] X.env = (false, eval e X.env) :: starEach [] X.env := by rfl) (hpl : (backTo pos (starEach [] X.env)).any (·.1) = false := by rfl) :
    PE X (.Call (.Name "ord" p) [e] [] pos) (tD R W O (dAll ordD fs)) := de_callB call_ord sat_ord hg hm (by decide +kernel) ha (he := he) (hpl := hpl)
def absD : List D → Option D
  | [.int i] => some (.int (if i < 0 then -i else i))
  | _ => none
theorem sat_abs : CallSat R (fun xs H Q => ∃ i, xs = [.int i] ∧ Q (.int (if i < 0 then -i else i)) H) absD := fun xs ds d' F H s Q w rs h k => by
  unfold absD at h
  split at h
  · cases h
    obtain ⟨v, ws, rfl, rv, e2⟩ := rs
    rw [show ws = [] from e2]
    exact ⟨_, by rw [show v = V.int _ from rv], k _ F H w Stp.refl rfl⟩
  · cases h
theorem de_abs {p : Pos} (hg : Gl X "abs") (hm : X.mg "abs" = none) (ha : PA X [e] (tDA R W O fs)) (he : starEach [e] X.env = (false, eval e X.env) :: starEach [] X.env := by rfl) (hpl : (backTo pos (starEach [] X.env)).any (·.1) = false := by rfl) :
    PE X (.Call (.Name "abs" p) [e] [] pos) (tD R W O (dAll absD fs)) := de_callB call_abs sat_abs hg hm (by decide +kernel) ha (he := he) (hpl := hpl)
/-- a row of truths, of numbers, of texts -/
def blsD : List D → Option (List Bool)
  | [] => some []
  | .bl b :: ds => (blsD ds).map fun bs => b :: bs
  | _ => none
def intsD : List D → Option (List Int)
  | [] => some []
  | .int b :: ds => (intsD ds).map fun bs => b :: bs
  | _ => none
def strsD : List D → Option (List Str)
  | [] => some []
  | .str b :: ds => (strsD ds).map fun bs => b :: bs
  | _ => none
theorem blsD_some : ∀ {ds : List D} {bs : List Bool}, blsD ds = some bs → ds = bs.map D.bl
  | [], bs, h => by cases h; rfl
  | d :: ds, bs, h => by
    cases d <;> try cases h
    rename_i b
    have h : (blsD ds).map (fun bs => b :: bs) = some bs := h
    cases e : blsD ds with
    | none => rw [e] at h; cases h
    | some cs => rw [e] at h; cases h; rw [blsD_some e]; rfl
theorem intsD_some : ∀ {ds : List D} {bs : List Int}, intsD ds = some bs → ds = bs.map D.int
  | [], bs, h => by cases h; rfl
  | d :: ds, bs, h => by
    cases d <;> try cases h
    rename_i b
    have h : (intsD ds).map (fun bs => b :: bs) = some bs := h
    cases e : intsD ds with
    | none => rw [e] at h; cases h
    | some cs => rw [e] at h; cases h; rw [intsD_some e]; rfl
theorem strsD_some : ∀ {ds : List D} {bs : List Str}, strsD ds = some bs → ds = bs.map D.str
  | [], bs, h => by cases h; rfl
  | d :: ds, bs, h => by
    cases d <;> try cases h
    rename_i b
    have h : (strsD ds).map (fun bs => b :: bs) = some bs := h
    cases e : strsD ds with
    | none => rw [e] at h; cases h
    | some cs => rw [e] at h; cases h; rw [strsD_some e]; rfl
theorem blsD_map (bs : List Bool) : blsD (bs.map D.bl) = some bs := by
  induction bs with
  | nil => rfl
  | cons b bs ih => rw [List.map_cons]; unfold blsD; rw [ih]; rfl
theorem intsD_map (bs : List Int) : intsD (bs.map D.int) = some bs := by
  induction bs with
  | nil => rfl
  | cons b bs ih => rw [List.map_cons]; unfold intsD; rw [ih]; rfl
theorem strsD_map (bs : List Str) : strsD (bs.map D.str) = some bs := by
  induction bs with
  | nil => rfl
  | cons b bs ih => rw [List.map_cons]; unfold strsD; rw [ih]; rfl
theorem reps_bl {K : PySem.W.Frag} {nm : Nat → Option Addr} {F : Hp} : ∀ {bs : List Bool} {vs : List V}, Reps K nm F (bs.map D.bl) vs → vs = bs.map V.bl
  | [], vs, r => r
  | b :: bs, vs, r => by
    obtain ⟨v, ws, rfl, r1, r2⟩ := r
    rw [show v = V.bl b from r1, reps_bl r2]
    rfl
theorem reps_int {K : PySem.W.Frag} {nm : Nat → Option Addr} {F : Hp} : ∀ {bs : List Int} {vs : List V}, Reps K nm F (bs.map D.int) vs → vs = bs.map V.int
  | [], vs, r => r
  | b :: bs, vs, r => by
    obtain ⟨v, ws, rfl, r1, r2⟩ := r
    rw [show v = V.int b from r1, reps_int r2]
    rfl
theorem reps_str {K : PySem.W.Frag} {nm : Nat → Option Addr} {F : Hp} : ∀ {bs : List Str} {vs : List V}, Reps K nm F (bs.map D.str) vs → vs = bs.map V.str ∧ ∀ b ∈ bs, b.length ≤ sizeLine
  | [], vs, r => ⟨r, fun _ h => by cases h⟩
  | b :: bs, vs, r => by
    obtain ⟨v, ws, rfl, r1, r2⟩ := r
    obtain ⟨h1, h2⟩ := reps_str r2
    refine ⟨by rw [r1.1, h1]; rfl, fun c hc => ?_⟩
    rcases List.mem_cons.mp hc with rfl | hc
    · exact r1.2
    · exact h2 c hc
def allD : List D → Option D
  | [.row ds] => (blsD ds).map fun bs => .bl (bs.all id)
  | _ => none
def anyD : List D → Option D
  | [.row ds] => (blsD ds).map fun bs => .bl (bs.any id)
  | _ => none
def sumD : List D → Option D
  | [.row ds] => (intsD ds).map fun bs => .int bs.sum
  | _ => none
theorem sat_all : CallSat R (rAll R.K) allD := fun xs ds d' F H s Q w rs h k => by
  unfold allD at h
  split at h
  · rename_i ds
    cases e : blsD ds with
    | none => rw [e] at h; cases h
    | some bs =>
      rw [e] at h
      cases h
      rw [blsD_some e] at rs
      obtain ⟨v, ws, rfl, ⟨a, vs, rfl, h1, _, h2⟩, e2⟩ := rs
      rw [show ws = [] from e2]
      exact ⟨a, bs, rfl, by rw [← reps_bl h2]; exact SqL.of (w.sub.lst h1), k _ F H w Stp.refl rfl⟩
  · cases h
theorem sat_any : CallSat R (rAny R.K) anyD := fun xs ds d' F H s Q w rs h k => by
  unfold anyD at h
  split at h
  · rename_i ds
    cases e : blsD ds with
    | none => rw [e] at h; cases h
    | some bs =>
      rw [e] at h
      cases h
      rw [blsD_some e] at rs
      obtain ⟨v, ws, rfl, ⟨a, vs, rfl, h1, _, h2⟩, e2⟩ := rs
      rw [show ws = [] from e2]
      exact ⟨a, bs, rfl, by rw [← reps_bl h2]; exact SqL.of (w.sub.lst h1), k _ F H w Stp.refl rfl⟩
  · cases h
theorem sat_sum : CallSat R (rSum R.K) sumD := fun xs ds d' F H s Q w rs h k => by
  unfold sumD at h
  split at h
  · rename_i ds
    cases e : intsD ds with
    | none => rw [e] at h; cases h
    | some bs =>
      rw [e] at h
      cases h
      rw [intsD_some e] at rs
      obtain ⟨v, ws, rfl, ⟨a, vs, rfl, h1, _, h2⟩, e2⟩ := rs
      rw [show ws = [] from e2]
      exact ⟨a, bs, rfl, by rw [← reps_int h2]; exact SqL.of (w.sub.lst h1), k _ F H w Stp.refl rfl⟩
  · cases h
theorem de_all {n : Nat} {p : Pos} (c : Cxt X R W n) (hg : Gl X "all") (hm : X.mg "all" = none) (ha : PA X [e] (tDA R W O fs)) (he : starEach [e] X.env = (false, eval e X.env) :: starEach [] X.env := by rfl) (hpl : (backTo pos (starEach [] X.env)).any (·.1) = false := by rfl) :
    PE X (.Call (.Name "all" p) [e] [] pos) (tD R W O (dAll allD fs)) := de_callB (cr_all c.calm) (by rw [← c.hK]; exact sat_all) hg hm (by decide +kernel) ha (he := he) (hpl := hpl)
theorem de_any {n : Nat} {p : Pos} (c : Cxt X R W n) (hg : Gl X "any") (hm : X.mg "any" = none) (ha : PA X [e] (tDA R W O fs)) (he : starEach [e] X.env = (false, eval e X.env) :: starEach [] X.env := by rfl) (hpl : (backTo pos (starEach [] X.env)).any (·.1) = false := by rfl) :
    PE X (.Call (.Name "any" p) [e] [] pos) (tD R W O (dAll anyD fs)) := de_callB (cr_any c.calm) (by rw [← c.hK]; exact sat_any) hg hm (by decide +kernel) ha (he := he) (hpl := hpl)
theorem de_sum {n : Nat} {p : Pos} (c : Cxt X R W n) (hg : Gl X "sum") (hm : X.mg "sum" = none) (ha : PA X [e] (tDA R W O fs)) (he : starEach [e] X.env = (false, eval e X.env) :: starEach [] X.env := by rfl) (hpl : (backTo pos (starEach [] X.env)).any (·.1) = false := by rfl) :
    PE X (.Call (.Name "sum" p) [e] [] pos) (tD R W O (dAll sumD fs)) := de_callB (cr_sum c.calm) (by rw [← c.hK]; exact sat_sum) hg hm (by decide +kernel) ha (he := he) (hpl := hpl)
end
end Nw
set_option Elab.async false
set_option linter.all false
set_option maxRecDepth 100000
set_option maxHeartbeats 4000000
/-! Part Q: isinstance, built-in types as calls, methods. -/
namespace Nw
open PySem PySem.Spec L2
/-! ### isinstance -/
def tyN : D → Option String
  | .non => some "NoneType"
  | .bl _ => some "bool"
  | .int _ => some "int"
  | .str _ => some "str"
  | .row _ => some "list"
  | .tup _ => some "tuple"
  | .tab _ => some "dict"
  | _ => none
def isiD (T : String) (d : D) : Option D := (tyN d).bind fun t => (kitB t T).map D.bl
section
variable {X : Cx} {R : Reg} {W : WX} {O : List Nat} {a e : Expr} {es : List Expr} {f : Sl → M R.S D} {fs : Sl → M R.S (List D)} {pos : Pos}
theorem tyX_of {K : PySem.W.Frag} {nm : Nat → Option Addr} {F H : Hp} {d : D} {v : V} {t : String} (sb : Sub F H) (r : Rep K nm F d v) (e : tyN d = some t) : TyX K H v (.type t) := by
  cases d with
  | non => cases e; rw [show v = V.non from r]; exact .base .non
  | bl c => cases e; rw [show v = V.bl c from r]; exact .base (.bl c)
  | int i => cases e; rw [show v = V.int i from r]; exact .base (.int i)
  | str x => cases e; rw [r.1]; exact .base (.str x)
  | row xs => cases e; obtain ⟨a, vs, rfl, h1, _, _⟩ := r; exact .base (.lst (sb.lst h1))
  | tup xs => cases e; obtain ⟨a, vs, rfl, h1, _, _⟩ := r; exact .base (.tup (sb.tup h1))
  | tab xs =>
    cases e
    obtain ⟨a, vs, rfl, h1, _, _⟩ := r
    rcases sb.dK h1 with h | ⟨o, h⟩
    · exact .base (.dK h)
    · exact .fDict h
  | kro _ => cases e
  | exc _ _ => cases e
  | obj _ => cases e
/-- two arguments, the second a class -/
theorem pa_cls {c : Expr} {vc : V} (ha : PE X a (tD R W O f)) (hc : PE X c (tC vc)) (h1 : starEach [a, c] X.env = (false, eval a X.env) :: starEach [c] X.env := by rfl) (h2 : starEach [c] X.env = (false, eval c X.env) :: starEach [] X.env := by rfl) :
    PA X [a, c] (fun σ H Q => tD R W O f σ H fun v H1 => Q [v, vc] H1) := pa_imp (pa_cons ha (pa_cons hc pa_nil h2) h1) fun σ H Q h => h
theorem sat_isa {r : List V → Hp → VK → Prop} {vc : V} {op : D → Option D} (hs : ∀ (v : V) (d d' : D) (F H : Hp) (s : R.S) (Q : VK), Wd R F H s → Rep R.K R.nm F d v → op d = some d' → (∀ v F' H', Wd R F' H' s → Stp R F H F' H' → Rep R.K R.nm F' d' v → Q v H') → r [v, vc] H Q)
    (σ : L2.St) (H : Hp) (Q : VK) (h : tD R W O (dUn op f) σ H Q) : tCB r (fun σ H Q => tD R W O f σ H fun v H1 => Q [v, vc] H1) σ H Q := by
  obtain ⟨F, ρ, s, w, pu, p⟩ := h
  refine ⟨F, ρ, s, w, pu, p.bnd.imp (fun d s1 F1 H1 w1 st1 p1 v rv => ?_) fun _ _ _ _ _ _ z => z⟩
  obtain ⟨d', e', k⟩ := p1.lift
  exact hs v d d' F1 H1 s1 Q w1 rv e' fun v' F' H' w' st' r' => k F' H' w' st' v' r'
theorem de_isi {n : Nat} (T : String) {x : Str} {p q : Pos} (c : Cxt X R W n) (hg : Gl X "isinstance") (hm : X.mg "isinstance" = none) (hgT : Gl X x) (hmT : X.mg x = none) (hvT : bootBuiltins x = some (.type T)) (ha : PE X a (tD R W O f)) (hn : x ≠ "__name__" := by decide) (hd : (x == ("__debug__" : Str)) = false := by decide)
    (h1 : starEach [a, .Name x q] X.env = (false, eval a X.env) :: starEach [.Name x q] X.env := by rfl) (h2 : starEach [.Name x q] X.env = (false, eval (.Name x q) X.env) :: starEach [] X.env := by rfl) (hpl : (backTo pos (starEach [.Name x q] X.env)).any (·.1) = false := by rfl) :
    PE X (.Call (.Name "isinstance" p) [a, .Name x q] [] pos) (tD R W O (dUn (isiD T) f)) :=
  pe_imp (pe_callB call_isi hg hm (by decide +kernel) (pa_cls ha (pe_bltn (v := .ty T) hgT hmT hvT rfl hn hd) h1 h2) (by decide) (by decide) h1 hpl) (sat_isa fun v d d' F H s Q w rv e k => by
    unfold isiD at e
    cases et : tyN d with
    | none => rw [et] at e; cases e
    | some t =>
      rw [et] at e
      have e : (kitB t T).map D.bl = some d' := e
      cases ek : kitB t T with
      | none => rw [ek] at e; cases e
      | some b =>
        rw [ek] at e
        cases e
        exact ⟨v, .ty T, .type t, .type T, b, rfl, .ty T, by rw [← c.hK]; exact tyX_of w.sub rv et, kit_ty ek, k _ F H w Stp.refl rfl⟩)
/-! ### isinstance of an error -/
/-- c is of c' -/
def subC (c c' : Cl) : Bool := c == c' || (c' == .NestError && c != .Clash && c != .Apart)
abbrev eA (K : PySem.W.Frag) (c : Cl) : Addr := He.ga K c.name
/-- what the classes say -/
structure XC (K : PySem.W.Frag) (c : Cl) : Prop where
  cl : (PySem.W.clsIn K (eA K c)).isSome = true
  ga : PySem.W.findIn K (.ref (eA K c)) "__getattribute__" = some (some (.builtin "BaseException.__getattribute__"))
  gt : PySem.W.findIn K (.ref (eA K c)) "__getattr__" = some none
  sub : PySem.W.subIn K (.ref (eA K c)) (.type "BaseException") = some true
  ca : PySem.W.findIn K (.ref (eA K c)) "__class__" = some (some (.builtin "object.__class__"))
  sp : PySem.W.specialIn K (.builtin "object.__class__") "__get__" = some (some (.builtin "getset_descriptor.__get__"))
  tk : PySem.W.takesIn K (.builtin "object.__class__") = some true
  mr : PySem.W.mroIn K (eA K c) (.type "object") = some true
  ve : PySem.W.kitOne K (.ref (eA K c)) (.type "ValueError") = some true
  dc : PySem.W.hasDictIn K (eA K c) = true
  ty : PySem.W.typeIn K (.ref (eA K c)) = some (.type "type")
def xcB (K : PySem.W.Frag) (c : Cl) : Bool :=
  (PySem.W.clsIn K (eA K c)).isSome && He.eqO (PySem.W.findIn K (.ref (eA K c)) "__getattribute__") (some (some (.builtin "BaseException.__getattribute__"))) && He.eqO (PySem.W.findIn K (.ref (eA K c)) "__getattr__") (some none)
  && decide (PySem.W.subIn K (.ref (eA K c)) (.type "BaseException") = some true) && He.eqO (PySem.W.findIn K (.ref (eA K c)) "__class__") (some (some (.builtin "object.__class__")))
  && He.eqO (PySem.W.specialIn K (.builtin "object.__class__") "__get__") (some (some (.builtin "getset_descriptor.__get__"))) && decide (PySem.W.takesIn K (.builtin "object.__class__") = some true)
  && decide (PySem.W.mroIn K (eA K c) (.type "object") = some true) && decide (PySem.W.kitOne K (.ref (eA K c)) (.type "ValueError") = some true) && PySem.W.hasDictIn K (eA K c) && decide (PySem.W.typeIn K (.ref (eA K c)) = some (.type "type"))
def xfB (K : PySem.W.Frag) (cs : List Cl) : Bool := cs.all fun c => xcB K c && cs.all fun c' => decide (PySem.W.kitOne K (.ref (eA K c)) (.ref (eA K c')) = some (subC c c')) && decide (PySem.W.exmOne K (.ref (eA K c)) (.ref (eA K c')) = some (subC c c'))
structure XF (K : PySem.W.Frag) (cs : List Cl) : Prop where
  xc : ∀ c ∈ cs, XC K c
  kit : ∀ c ∈ cs, ∀ c' ∈ cs, PySem.W.kitOne K (.ref (eA K c)) (.ref (eA K c')) = some (subC c c')
  exm : ∀ c ∈ cs, ∀ c' ∈ cs, PySem.W.exmOne K (.ref (eA K c)) (.ref (eA K c')) = some (subC c c')
theorem xf_of {K : PySem.W.Frag} {cs : List Cl} (h : xfB K cs = true) : XF K cs := by
  have h1 := List.all_eq_true.mp h
  have h2 : ∀ c ∈ cs, ∀ c' ∈ cs, PySem.W.kitOne K (.ref (eA K c)) (.ref (eA K c')) = some (subC c c') ∧ PySem.W.exmOne K (.ref (eA K c)) (.ref (eA K c')) = some (subC c c') := fun c hc c' hc' => by
    obtain ⟨_, h4⟩ := Bool.and_eq_true_iff.mp (h1 c hc)
    obtain ⟨h5, h6⟩ := Bool.and_eq_true_iff.mp (List.all_eq_true.mp h4 c' hc')
    exact ⟨of_decide_eq_true h5, of_decide_eq_true h6⟩
  refine ⟨fun c hc => ?_, fun c hc c' hc' => (h2 c hc c' hc').1, fun c hc c' hc' => (h2 c hc c' hc').2⟩
  obtain ⟨h3, _⟩ := Bool.and_eq_true_iff.mp (h1 c hc)
  unfold xcB at h3
  obtain ⟨h3, a11⟩ := Bool.and_eq_true_iff.mp h3
  obtain ⟨h3, a10⟩ := Bool.and_eq_true_iff.mp h3
  obtain ⟨h3, a9⟩ := Bool.and_eq_true_iff.mp h3
  obtain ⟨h3, a8⟩ := Bool.and_eq_true_iff.mp h3
  obtain ⟨h3, a7⟩ := Bool.and_eq_true_iff.mp h3
  obtain ⟨h3, a6⟩ := Bool.and_eq_true_iff.mp h3
  obtain ⟨h3, a5⟩ := Bool.and_eq_true_iff.mp h3
  obtain ⟨h3, a4⟩ := Bool.and_eq_true_iff.mp h3
  obtain ⟨h3, a3⟩ := Bool.and_eq_true_iff.mp h3
  obtain ⟨a1, a2⟩ := Bool.and_eq_true_iff.mp h3
  exact ⟨a1, He.eqO_ok a2, He.eqO_ok a3, of_decide_eq_true a4, He.eqO_ok a5, He.eqO_ok a6, of_decide_eq_true a7, of_decide_eq_true a8, of_decide_eq_true a9, a10, of_decide_eq_true a11⟩
/-- isinstance(e, c), e an error that is held -/
def rIsX (K : PySem.W.Frag) : List V → Hp → VK → Prop := fun xs H Q => ∃ (c : Cl) (a : Addr) (dd : Option Addr) (t : V) (tv : Value) (b : Bool), xs = [.ref a, t] ∧ XC K c ∧ H a = some (ExH (.ref (eA K c)) dd a) ∧ (∀ d, dd = some d → ∃ ws, H d = some (.xd ws)) ∧ ClsV t tv ∧ PySem.W.kitOne K (.ref (eA K c)) tv = some b ∧ Q (.bl b) H
theorem call_isX : CallR X (.builtin "isinstance") (rIsX X.K) := by
  intro pins s σ H xs us Q I r h
  obtain ⟨c, a, dd, t, tv, b, rfl, xc, ha, hd, ct, hk, q⟩ := h
  obtain ⟨u1, u2, rfl, r1, r2⟩ := vals2 r
  have e2 := ct.eq r2
  subst e2
  cases (show u1 = Value.ref a from r1)
  obtain ⟨⟨oe, hg, hz, vs, hv⟩, _, _⟩ := (show ObjOk X.prog X.w H s.heap a (ExH (.ref (eA X.K c)) dd a) from I.hok a _ ha)
  have J : ∃ od, PySem.W.InstAt s.heap a oe (eA X.K c) od := by
    obtain ⟨oc, od, oda, osl⟩ := oe
    obtain ⟨h1, h2⟩ := hz
    dsimp only at h1 h2 hv
    subst h1 h2 hv
    cases od with
    | none => exact ⟨none, hg, rfl, rfl, trivial⟩
    | some d =>
      obtain ⟨ws, hw⟩ := hd d rfl
      obtain ⟨mA, ⟨od, _, _, e, _⟩, _⟩ := (show ObjOk X.prog X.w H s.heap d (.xd ws) from I.hok d _ hw)
      exact ⟨some od, hg, rfl, rfl, e⟩
  obtain ⟨od, J⟩ := J
  exact PySem.W.kia_one (PySem.W.kitx_exc xc.cl xc.ga xc.gt xc.sub xc.ca xc.sp xc.tk xc.mr) I.kIn J hk (fun z => nomatch z) fun tk => ⟨.bl b, H, I.tok tk, rfl, q⟩
def isxD (cs : List Cl) (c' : Cl) : D → Option D
  | .exc c _ => if c ∈ cs then some (.bl (subC c c')) else none
  | _ => none
def isvD (cs : List Cl) : D → Option D
  | .exc c _ => if c ∈ cs then some (.bl true) else none
  | _ => none
theorem Sub.exc {F H : Hp} (h : Sub F H) {a : Addr} {φ : Heap → Prop} (e : F a = some (.ext φ)) : H a = some (.ext φ) := by
  rcases h a _ e with z | ⟨_, _, z, _⟩
  · exact z
  · cases z
theorem Sub.xd {F H : Hp} (h : Sub F H) {a : Addr} {ws : List (Str × V)} (e : F a = some (.xd ws)) : H a = some (.xd ws) := by
  rcases h a _ e with z | ⟨_, _, z, _⟩
  · exact z
  · cases z
theorem sat_isx {cs : List Cl} (xf : XF R.K cs) (t : V) (tv : Value) (ct : ClsV t tv) (g : Cl → Bool) (hk : ∀ c ∈ cs, PySem.W.kitOne R.K (.ref (eA R.K c)) tv = some (g c)) (v : V) (d d' : D) (F H : Hp) (s : R.S) (Q : VK) (w : Wd R F H s) (rv : Rep R.K R.nm F d v)
    (e : (match d with | .exc c _ => if c ∈ cs then some (D.bl (g c)) else none | _ => none) = some d') (k : ∀ v F' H', Wd R F' H' s → Stp R F H F' H' → Rep R.K R.nm F' d' v → Q v H') : rIsX R.K [v, t] H Q := by
  cases d with
  | exc c fs =>
    have e : (if c ∈ cs then some (D.bl (g c)) else none) = some d' := e
    by_cases hc : c ∈ cs
    · rw [if_pos hc] at e
      cases e
      obtain ⟨a, dd, rfl, h1, h2⟩ := rv
      refine ⟨c, a, dd, t, tv, g c, rfl, xf.xc c hc, w.sub.exc h1, fun d hd => ?_, ct, hk c hc, k _ F H w Stp.refl rfl⟩
      rcases h2 with ⟨_, h2⟩ | ⟨d2, ws, h2, h3, _⟩
      · rw [h2] at hd; cases hd
      · rw [h2] at hd; cases hd; exact ⟨ws, w.sub.xd h3⟩
    · rw [if_neg hc] at e; cases e
  | _ => cases e
theorem de_isx {n : Nat} {cs : List Cl} (c' : Cl) {p q : Pos} {x : Str} (c : Cxt X R W n) (xf : XF X.K cs) (hc' : c' ∈ cs) (hx : c'.name = x) (hg : Gl X "isinstance") (hm : X.mg "isinstance" = none) (hgT : Gl X x) (hmT : X.mg x = some (.ref (He.ga X.K x))) (ha : PE X a (tD R W O f)) (hd : (x == ("__debug__" : Str)) = false := by decide)
    (h1 : starEach [a, .Name x q] X.env = (false, eval a X.env) :: starEach [.Name x q] X.env := by rfl) (h2 : starEach [.Name x q] X.env = (false, eval (.Name x q) X.env) :: starEach [] X.env := by rfl) (hpl : (backTo pos (starEach [.Name x q] X.env)).any (·.1) = false := by rfl) :
    PE X (.Call (.Name "isinstance" p) [a, .Name x q] [] pos) (tD R W O (dUn (isxD cs c') f)) := by
  subst hx
  have hK := c.hK
  exact pe_imp (pe_callB call_isX hg hm (by decide +kernel) (pa_cls ha (pe_glob (v := .ref (He.ga X.K c'.name)) hgT hmT rfl hd) h1 h2) (by decide) (by decide) h1 hpl) (sat_isa fun v d d' F H s Q w rv e k => by
    rw [← hK] at xf ⊢
    exact sat_isx xf _ _ (.own _) (fun c => subC c c') (fun c hc => xf.kit c hc c' hc') v d d' F H s Q w rv (by cases d <;> exact e) k)
theorem de_isv {n : Nat} {cs : List Cl} {p q : Pos} (c : Cxt X R W n) (xf : XF X.K cs) (hg : Gl X "isinstance") (hm : X.mg "isinstance" = none) (hgT : Gl X "ValueError") (hmT : X.mg "ValueError" = none) (ha : PE X a (tD R W O f))
    (h1 : starEach [a, .Name "ValueError" q] X.env = (false, eval a X.env) :: starEach [.Name "ValueError" q] X.env := by rfl) (h2 : starEach [.Name "ValueError" q] X.env = (false, eval (.Name "ValueError" q) X.env) :: starEach [] X.env := by rfl) (hpl : (backTo pos (starEach [.Name "ValueError" q] X.env)).any (·.1) = false := by rfl) :
    PE X (.Call (.Name "isinstance" p) [a, .Name "ValueError" q] [] pos) (tD R W O (dUn (isvD cs) f)) := by
  have hK := c.hK
  exact pe_imp (pe_callB call_isX hg hm (by decide +kernel) (pa_cls ha (pe_bltn (v := .ty "ValueError") hgT hmT (by decide +kernel) rfl (by decide) (by decide)) h1 h2) (by decide) (by decide) h1 hpl) (sat_isa fun v d d' F H s Q w rv e k => by
    rw [← hK] at xf ⊢
    exact sat_isx xf _ _ (.ty _) (fun c => true) (fun c hc => (xf.xc c hc).ve) v d d' F H s Q w rv (by cases d <;> exact e) k)
/-! ### list(x), tuple(x), int(x), str(x) -/
def listD : List D → Option D
  | [.row ds] => some (.row ds)
  | [.tup ds] => some (.row ds)
  | [.kro ds] => some (.row ds)
  | _ => none
theorem sat_list : CallSat R (fun xs H Q => ∃ p ys, xs = [.ref p] ∧ (SqL R.K H p ys ∨ SqT R.K H p ys) ∧ ∀ l, H l = none → Q (.ref l) (upd H l (.lst ys))) listD := fun xs ds d' F H s Q w rs h k => by
  unfold listD at h
  split at h
  · cases h
    obtain ⟨v, ws, rfl, ⟨a, vs, rfl, h1, hz, h2⟩, e2⟩ := rs
    rw [show ws = [] from e2]
    exact ⟨a, vs, rfl, .inl (SqL.of (w.sub.lst h1)), fun l hl => new_row w hz h2 hl k⟩
  · cases h
    obtain ⟨v, ws, rfl, ⟨a, vs, rfl, h1, hz, h2⟩, e2⟩ := rs
    rw [show ws = [] from e2]
    exact ⟨a, vs, rfl, .inr (SqT.of (w.sub.tup h1)), fun l hl => new_row w hz h2 hl k⟩
  · cases h
    obtain ⟨v, ws, rfl, ⟨a, vs, rfl, h1, hz, h2⟩, e2⟩ := rs
    rw [show ws = [] from e2]
    exact ⟨a, vs, rfl, .inl (w.sub.sqL h1), fun l hl => new_row w hz h2 hl k⟩
  · cases h
theorem de_list {n : Nat} {p : Pos} (c : Cxt X R W n) (hg : Gl X "list") (hm : X.mg "list" = none) (ha : PA X [e] (tDA R W O fs)) (he : starEach [e] X.env = (false, eval e X.env) :: starEach [] X.env := by rfl) (hpl : (backTo pos (starEach [] X.env)).any (·.1) = false := by rfl) :
    PE X (.Call (.Name "list" p) [e] [] pos) (tD R W O (dAll listD fs)) := de_callTy call_list_of (by rw [← c.hK]; exact sat_list) hg hm (by decide +kernel) ha (he := he) (hpl := hpl)
def tupleD : List D → Option D
  | [.row ds] => some (.tup ds)
  | [.tup ds] => some (.tup ds)
  | _ => none
theorem sat_tuple : CallSat R (fun xs H Q => ∃ p ys, xs = [.ref p] ∧ ((SqL R.K H p ys ∧ ∀ l, H l = none → Q (.ref l) (upd H l (.tup ys))) ∨ (SqT R.K H p ys ∧ Q (.ref p) H))) tupleD := fun xs ds d' F H s Q w rs h k => by
  unfold tupleD at h
  split at h
  · cases h
    obtain ⟨v, ws, rfl, ⟨a, vs, rfl, h1, hz, h2⟩, e2⟩ := rs
    rw [show ws = [] from e2]
    exact ⟨a, vs, rfl, .inl ⟨SqL.of (w.sub.lst h1), fun l hl => new_tup w hz h2 hl k⟩⟩
  · cases h
    obtain ⟨v, ws, rfl, rv, e2⟩ := rs
    have rv' := rv
    obtain ⟨a, vs, rfl, h1, hz, h2⟩ := rv
    rw [show ws = [] from e2]
    exact ⟨a, vs, rfl, .inr ⟨SqT.of (w.sub.tup h1), k _ F H w Stp.refl rv'⟩⟩
  · cases h
theorem de_tuple {n : Nat} {p : Pos} (c : Cxt X R W n) (hg : Gl X "tuple") (hm : X.mg "tuple" = none) (ha : PA X [e] (tDA R W O fs)) (he : starEach [e] X.env = (false, eval e X.env) :: starEach [] X.env := by rfl) (hpl : (backTo pos (starEach [] X.env)).any (·.1) = false := by rfl) :
    PE X (.Call (.Name "tuple" p) [e] [] pos) (tD R W O (dAll tupleD fs)) := de_callTy call_tuple_of (by rw [← c.hK]; exact sat_tuple) hg hm (by decide +kernel) ha (he := he) (hpl := hpl)
def toIntD : List D → Option D
  | [.int i] => some (.int i)
  | [.bl k] => some (.int (if k then 1 else 0))
  | [.str a] => if a.length ≤ 640 then (PySem.intText? a).map D.int else none
  | _ => none
theorem sat_int : CallSat R (fun xs H Q => ((∃ i, xs = [.int i] ∧ Q (.int i) H) ∨ ∃ k, xs = [.bl k] ∧ Q (.int (if k then 1 else 0)) H) ∨ ∃ a n, xs = [.str a] ∧ PySem.intText? a = some n ∧ a.length ≤ 640 ∧ Q (.int n) H) toIntD := fun xs ds d' F H s Q w rs h k => by
  unfold toIntD at h
  split at h
  · cases h
    obtain ⟨v, ws, rfl, rfl, e2⟩ := rs
    rw [show ws = [] from e2]
    exact .inl (.inl ⟨_, rfl, k _ F H w Stp.refl rfl⟩)
  · cases h
    obtain ⟨v, ws, rfl, rfl, e2⟩ := rs
    rw [show ws = [] from e2]
    exact .inl (.inr ⟨_, rfl, k _ F H w Stp.refl rfl⟩)
  · rename_i a
    split at h
    · rename_i hz
      cases ei : PySem.intText? a with
      | none => rw [ei] at h; cases h
      | some n =>
        rw [ei] at h
        cases h
        obtain ⟨v, ws, rfl, ⟨rfl, _⟩, e2⟩ := rs
        rw [show ws = [] from e2]
        exact .inr ⟨_, n, rfl, ei, hz, k _ F H w Stp.refl rfl⟩
    · cases h
  · cases h
theorem call_int3 : CallR X (.type "int") (fun xs H Q => ((∃ i, xs = [.int i] ∧ Q (.int i) H) ∨ ∃ k, xs = [.bl k] ∧ Q (.int (if k then 1 else 0)) H) ∨ ∃ a n, xs = [.str a] ∧ PySem.intText? a = some n ∧ a.length ≤ 640 ∧ Q (.int n) H) := fun pins s σ H xs us Q I rs q => q.elim (call_int1 pins s σ H xs us Q I rs) (call_int_str pins s σ H xs us Q I rs)
theorem de_toint {n : Nat} {p : Pos} (c : Cxt X R W n) (hg : Gl X "int") (hm : X.mg "int" = none) (ha : PA X [e] (tDA R W O fs)) (he : starEach [e] X.env = (false, eval e X.env) :: starEach [] X.env := by rfl) (hpl : (backTo pos (starEach [] X.env)).any (·.1) = false := by rfl) :
    PE X (.Call (.Name "int" p) [e] [] pos) (tD R W O (dAll toIntD fs)) := de_callTy call_int3 sat_int hg hm (by decide +kernel) ha (he := he) (hpl := hpl)
def strD : List D → Option D
  | [.int i] => if i.natAbs.log2 < 1920 ∧ (toString i : Str).length ≤ sizeLine then some (.str (toString i)) else none
  | _ => none
theorem sat_str : CallSat R (fun xs H Q => ∃ i, xs = [.int i] ∧ i.natAbs.log2 < 1920 ∧ Q (.str (toString i)) H) strD := fun xs ds d' F H s Q w rs h k => by
  unfold strD at h
  split at h
  · split at h
    · rename_i hz
      cases h
      obtain ⟨v, ws, rfl, rfl, e2⟩ := rs
      rw [show ws = [] from e2]
      exact ⟨_, rfl, hz.1, k _ F H w Stp.refl ⟨rfl, hz.2⟩⟩
    · cases h
  · cases h
theorem de_tostr {n : Nat} {p : Pos} (c : Cxt X R W n) (hg : Gl X "str") (hm : X.mg "str" = none) (ha : PA X [e] (tDA R W O fs)) (he : starEach [e] X.env = (false, eval e X.env) :: starEach [] X.env := by rfl) (hpl : (backTo pos (starEach [] X.env)).any (·.1) = false := by rfl) :
    PE X (.Call (.Name "str" p) [e] [] pos) (tD R W O (dAll strD fs)) := de_callTy call_str_int sat_str hg hm (by decide +kernel) ha (he := he) (hpl := hpl)
/-! ### methods of built-in types -/
def tyIs (T : String) : D → Option Unit
  | .str _ => if T = "str" then some () else none
  | .row _ => if T = "list" then some () else none
  | .kro _ => if T = "list" then some () else none
  | .tab _ => if T = "dict" then some () else none
  | _ => none
def dMt {S : Type} (T : String) (op : D → List D → Option D) (f : Sl → M S D) (fs : Sl → M S (List D)) : Sl → M S D := fun r => bnd (f r) fun x => bnd (lift (tyIs T x)) fun _ => bnd (fs r) fun xs => lift (op x xs)
def TyW (K : PySem.W.Frag) (T : String) (x : V) (H : Hp) : Prop := tyV K T x H ∨ (T = "dict" ∧ ∃ p kvs, x = .ref p ∧ Rd H p (.dK kvs))
theorem tyW_is {pins : List (Addr × Obj)} {σ : L2.St} {H : Hp} {s : Shared} {T : String} {x : V} {v : Value} (I : Inv X pins σ H s) (r : RelV x v) (ty : TyW X.K T x H) :
    s.TypeIs v T ∧ ∀ a, v = .ref a → ∃ ob, s.heap.get? a = some ob ∧ ob.dict = none := by
  rcases ty with ty | ⟨rfl, p, kvs, rfl, hd⟩
  · exact tyV_is I r ty
  · cases r
    have z : ∃ o, s.heap.get? p = some o ∧ o.ExactDict := by
      rcases hd with hk | ⟨ob, hk⟩
      · obtain ⟨_, _, _, _, o, _, _, e, ex, _⟩ := I.hok p _ hk
        exact ⟨o, e, ex⟩
      · obtain ⟨_, _, _, _, _, o, _, _, e, ex, _⟩ := (show ObjOk X.prog X.w H s.heap p (.frz ob (.dK kvs)) from I.hok p _ hk)
        exact ⟨o, e, ex⟩
    obtain ⟨o, e, ex⟩ := z
    refine ⟨⟨o, e, ex.1⟩, fun a e2 => ?_⟩
    cases e2
    exact ⟨o, e, ex.2.1⟩
theorem tyW_of {K : PySem.W.Frag} {nm : Nat → Option Addr} {F H : Hp} {d : D} {v : V} {T : String} {u : Unit} (sb : Sub F H) (r : Rep K nm F d v) (e : tyIs T d = some u) : TyW K T v H := by
  cases d with
  | str x =>
    have e : (if T = "str" then some () else none) = some u := e
    split at e
    · rename_i ht; subst ht; rw [r.1]; exact .inl rfl
    · cases e
  | row xs =>
    have e : (if T = "list" then some () else none) = some u := e
    split at e
    · rename_i ht; subst ht; obtain ⟨a, vs, rfl, h1, _, _⟩ := r; exact .inl (.inl ⟨rfl, vs, SqL.of (sb.lst h1)⟩)
    · cases e
  | tab xs =>
    have e : (if T = "dict" then some () else none) = some u := e
    split at e
    · rename_i ht; subst ht; obtain ⟨a, vs, rfl, h1, _, _⟩ := r; exact .inr ⟨rfl, a, vs, rfl, sb.dK h1⟩
    · cases e
  | kro xs =>
    have e : (if T = "list" then some () else none) = some u := e
    split at e
    · rename_i ht; subst ht; obtain ⟨a, vs, rfl, h1, _, _⟩ := r; exact .inl (.inl ⟨rfl, vs, sb.sqL h1⟩)
    · cases e
  | _ => cases e
def MtSat (R : Reg) (r : V → List V → Hp → VK → Prop) (op : D → List D → Option D) : Prop := ∀ (x : V) (xs : List V) (d : D) (ds : List D) (d' : D) (F H : Hp) (s : R.S) (Q : VK), Wd R F H s → Rep R.K R.nm F d x → Reps R.K R.nm F ds xs → op d ds = some d' →
  (∀ v F' H', Wd R F' H' s → Stp R F H F' H' → Rep R.K R.nm F' d' v → Q v H') → r x xs H Q
variable {o : Expr} {name : Str} {apos cpos : Pos} {T id : String} {r : V → List V → Hp → VK → Prop} {op : D → List D → Option D}
def tBW0 (K : PySem.W.Frag) (T : String) (r : V → List V → Hp → VK → Prop) (to : TE) : TE := fun σ H Q => to σ H fun x H1 => TyW K T x H1 ∧ r x [] H1 Q
def tBW (K : PySem.W.Frag) (T : String) (r : V → List V → Hp → VK → Prop) (to : TE) (t : TA) : TE := fun σ H Q => to σ H fun x H1 => TyW K T x H1 ∧ t σ H1 fun xs H2 => r x xs H2 Q
theorem pe_bw0 {to : TE} (pa : PlainAttrs T) (slot : Slot T name id) (hty : typeOf (.builtin id) = pure (.type "method_descriptor")) (hm : MtR X id r) (ho : PE X o to)
    (hbase : attributeBase o name X.env (eval o X.env) = eval o X.env := by rfl) (hline : (apos.endLine == cpos.line) = true := by rfl) : PE X (.Call (.Attribute o name apos) [] [] cpos) (tBW0 X.K T r to) := by
  refine ⟨fun pins s σ H Q I h => ?_⟩
  refine wpAny_Call_method0_late hbase hline (thn (ho.run pins s σ H _ I h) fun v s1 ⟨x, H1, I1, r1, ty, q1⟩ => ?_)
  obtain ⟨h1, h2⟩ := tyW_is I1 r1 ty
  exact ⟨T, id, pa, slot, hty, h1, h2, Calls.callWith_builtin rfl (PySem.evalArgs_none (hm pins s1 σ H1 x [] v [] Q I1 r1 .nil q1))⟩
theorem pe_bw {to : TE} {t : TA} (pa : PlainAttrs T) (slot : Slot T name id) (hty : typeOf (.builtin id) = pure (.type "method_descriptor")) (hm : MtR X id r) (ho : PE X o to) (ha : PA X (e :: es) t)
    (hbase : attributeBase o name X.env (eval o X.env) = eval o X.env := by rfl)
    (hfew : ((backTo cpos (starEach (e :: es) X.env)).all (fun x => !x.1) && (backToKw cpos (keywordEach [] X.env)).all (fun x => x.1.isSome)
      && decide ((e :: es).length + ([] : List Keyword).length + (if ([] : List Keyword).isEmpty then 0 else 1) < 30)) = true := by rfl)
    (hline : (apos.endLine == cpos.line) = true := by rfl) (hs : starEach (e :: es) X.env = (false, eval e X.env) :: starEach es X.env := by rfl) (hplain : (backTo cpos (starEach es X.env)).any (·.1) = false := by rfl) :
    PE X (.Call (.Attribute o name apos) (e :: es) [] cpos) (tBW X.K T r to t) := by
  refine ⟨fun pins s σ H Q I h => ?_⟩
  refine wpAny_Call_method_late hbase hfew hline rfl (thn (ho.run pins s σ H _ I h) fun v s1 ⟨x, H1, I1, r1, ty, q1⟩ => ?_)
  obtain ⟨h1, h2⟩ := tyW_is I1 r1 ty
  refine ⟨T, id, pa, slot, hty, h1, h2, ?_⟩
  have hA := ha.run cpos pins s1 σ H1 _ I1 q1
  rw [hs] at hA ⊢
  refine Calls.callWith_builtin (by show (false || (backTo cpos (starEach es X.env)).any (·.1)) = false; rw [hplain] <;> rfl) (Calls.evalArgs_plain ?_)
  exact thn hA fun us s2 ⟨vs, H2, I2, r2, q2⟩ => hm pins s2 σ H2 x vs v us Q I2 r1 r2 q2
theorem de_mt0 (pa : PlainAttrs T) (slot : Slot T name id) (hty : typeOf (.builtin id) = pure (.type "method_descriptor")) (hm : MtR X id r) (hK : R.K = X.K) (hs : MtSat R r op) (ho : PE X o (tD R W O f))
    (hbase : attributeBase o name X.env (eval o X.env) = eval o X.env := by rfl) (hline : (apos.endLine == cpos.line) = true := by rfl) : PE X (.Call (.Attribute o name apos) [] [] cpos) (tD R W O (dMt T op f dNil)) :=
  pe_imp (pe_bw0 pa slot hty hm ho hbase hline) fun σ H Q h => by
    obtain ⟨F, ρ, s, w, pu, p⟩ := h
    refine ⟨F, ρ, s, w, pu, p.bnd.imp (fun d s1 F1 H1 w1 st1 p1 v rv => ?_) fun _ _ _ _ _ _ z => z⟩
    obtain ⟨u, eu, p2⟩ := p1.lift0
    obtain ⟨d', e', k⟩ := p2.lift
    exact ⟨by rw [← hK]; exact tyW_of w1.sub rv eu, hs v [] d [] d' F1 H1 s1 Q w1 rv rfl e' fun v' F' H' w' st' r' => k F' H' w' st' v' r'⟩
theorem de_mt (pa : PlainAttrs T) (slot : Slot T name id) (hty : typeOf (.builtin id) = pure (.type "method_descriptor")) (hm : MtR X id r) (hK : R.K = X.K) (hs : MtSat R r op) (ho : PE X o (tD R W O f)) (ha : PA X (e :: es) (tDA R W O fs))
    (hbase : attributeBase o name X.env (eval o X.env) = eval o X.env := by rfl)
    (hfew : ((backTo cpos (starEach (e :: es) X.env)).all (fun x => !x.1) && (backToKw cpos (keywordEach [] X.env)).all (fun x => x.1.isSome)
      && decide ((e :: es).length + ([] : List Keyword).length + (if ([] : List Keyword).isEmpty then 0 else 1) < 30)) = true := by rfl)
    (hline : (apos.endLine == cpos.line) = true := by rfl) (hst : starEach (e :: es) X.env = (false, eval e X.env) :: starEach es X.env := by rfl) (hplain : (backTo cpos (starEach es X.env)).any (·.1) = false := by rfl) :
    PE X (.Call (.Attribute o name apos) (e :: es) [] cpos) (tD R W O (dMt T op f fs)) :=
  pe_imp (pe_bw pa slot hty hm ho ha hbase hfew hline hst hplain) fun σ H Q h => by
    obtain ⟨F, ρ, s, w, pu, p⟩ := h
    refine ⟨F, ρ, s, w, pu, p.bnd.imp (fun d s1 F1 H1 w1 st1 p1 v rv => ?_) fun _ _ _ _ _ _ z => z⟩
    obtain ⟨u, eu, p2⟩ := p1.lift0
    refine ⟨by rw [← hK]; exact tyW_of w1.sub rv eu, F1, ρ, s1, w1, pu.mono st1.fs, p2.bnd.imp (fun ds s2 F2 H2 w2 st2 p3 vs rvs => ?_) fun _ _ _ _ _ _ z => z⟩
    obtain ⟨d', e', k⟩ := p3.lift
    exact hs v vs d ds d' F2 H2 s2 Q w2 (rv.mono st2.fs) rvs e' fun v' F' H' w' st' r' => k F' H' w' st' v' r'
end
end Nw
set_option Elab.async false
set_option linter.all false
set_option maxRecDepth 100000
set_option maxHeartbeats 4000000
/-! Part R: comprehensions, tables walked, views. -/
namespace Nw
open PySem PySem.Spec L2
/-! ### locks that stay -/
section
variable {X : Cx}
theorem ps_lk {st : Stmt} {t : TS} (h : PS X st t) : PS X st (fun D σ H => ∃ d u, H d = some u ∧ Mut (some u) ∧ ∀ od, t D σ (upd H d (.frz od u))) := ⟨fun pins s σ H D I hw => by
  obtain ⟨d, u, hd, mu, hw⟩ := hw
  obtain ⟨od, I1⟩ := I.lock hd mu
  exact h.run pins s σ _ _ I1 (hw od)⟩
theorem pe_lk {e : Expr} {t : TE} (h : PE X e t) : PE X e (fun σ H Q => ∃ d u, H d = some u ∧ Mut (some u) ∧ ∀ od, t σ (upd H d (.frz od u)) Q) := ⟨fun pins s σ H Q I hw => by
  obtain ⟨d, u, hd, mu, hw⟩ := hw
  obtain ⟨od, I1⟩ := I.lock hd mu
  exact h.run pins s σ _ _ I1 (hw od)⟩
end
section
variable {R : Reg} {F H F0 H0 : Hp} {s : R.S} {d : Addr} {ws : List (Key × V)} {od : Obj}
theorem Wd.lock (w : Wd R F H s) (hF : F d = some (.dK ws)) : Wd R F (upd H d (.frz od (.dK ws))) s where
  sub := fun a o q => by
    by_cases e : a = d
    · subst e; rw [hF] at q; cases q; exact .inr ⟨ws, od, rfl, upd_same⟩
    · rw [upd_ne e]; exact w.sub a o q
  mu := w.mu
  si := R.loc s H _ w.si fun a m => upd_ne fun e => by rw [e] at m; rw [w.mu d m] at hF; cases hF
theorem Stp.lock (st : Stp R F0 H0 F H) (hF : F d = some (.dK ws)) (hH : H d = some (.dK ws)) : Stp R F0 H0 F (upd H d (.frz od (.dK ws))) where
  fs := st.fs
  hs := fun a o m q => by
    rcases st.hs a o m q with h | ⟨h1, kvs, ob, h2, h3⟩
    · by_cases e : a = d
      · subst e; rw [hH] at h; cases h; exact .inr ⟨hF, ws, od, rfl, upd_same⟩
      · rw [upd_ne e]; exact .inl h
    · by_cases e : a = d
      · subst e; rw [hH] at h3; cases h3
      · rw [upd_ne e]; exact .inr ⟨h1, kvs, ob, h2, h3⟩
  nw := st.nw
  th := fun a h => by
    by_cases e : a = d
    · rw [e, upd_same] at h; cases h
    · rw [upd_ne e] at h; exact st.th a h
theorem Slots.lock {O : List Nat} {σ : L2.St} {r : Sl} (h : Slots R H0 O F H σ r) (hF : F d = some (.dK ws)) : Slots R H0 O F (upd H d (.frz od (.dK ws))) σ r :=
  ⟨h.pu, (fun i e hi hrt q => by
    obtain ⟨a, h1, h2⟩ := h.ow i e hi hrt q
    exact ⟨a, h1, h2.other fun z => by rw [z] at h2; rw [h2.2.1] at hF; cases hF⟩), h.ns, h.sep⟩
end
/-! ### keys, values -/
def kD : Key → D
  | .inl i => .int i
  | .inr x => .str x
def keysD : D → Option (List D)
  | .tab kvs => some (kvs.map fun kv => kD kv.1)
  | _ => none
def valsD : D → Option (List D)
  | .tab kvs => some (kvs.map fun kv => kv.2)
  | _ => none
def dKeys {S : Type} (f : Sl → M S D) : Sl → M S (List D) := fun r => bnd (f r) fun x => lift (keysD x)
def dVals {S : Type} (f : Sl → M S D) : Sl → M S (List D) := fun r => bnd (f r) fun x => lift (valsD x)
/-- the table in the slot is locked -/
def Lk (i : Nat) (σ : L2.St) (H : Hp) : Prop := ∀ d kvs, σ[i]? = some (some (.ref d)) → H d ≠ some (.dK kvs)
section
variable {X : Cx} {R : Reg} {W : WX} {fr : FrK} {O O' B : List Nat} {tg : Expr} {pos apos cpos npos : Pos} {i : Nat} {x : Str}
theorem rep_key {K : PySem.W.Frag} {nm : Nat → Option Addr} {F : Hp} {k : Key} (h : kOk k) : Rep K nm F (kD k) (kV k) := by
  cases k with
  | inl j => exact rfl
  | inr y => exact ⟨rfl, h⟩
theorem walks_keys {F H : Hp} {a : Addr} {ds : List (Key × D)} {ws : List (Key × V)} {o : Obj} (hF : F a = some (.dK ws)) (hH : H a = some (.frz o (.dK ws))) (hz : ds.length ≤ sizeLine) (r : RepsK R.K R.nm F ds ws) : Walks R (Itk a o ws) F H (ds.map fun kv => kD kv.1) where
  hz := by rw [List.length_map]; exact hz
  go := fun i F2 H2 st h => by rw [List.length_map] at h; exact ⟨st.lk a o ws hF hH, by rw [r.length]; exact h⟩
  yld := fun i F2 H2 x H3 st h y => by
    rw [List.length_map] at h
    obtain ⟨e, k, v, hk, hx⟩ := y
    obtain ⟨v', h1, h2, _⟩ := r.get (i := i) (k := (ds[i]).1) (d := (ds[i]).2) (List.getElem?_eq_getElem h)
    rw [h1] at hk
    cases hk
    exact ⟨e, kD (ds[i]).1, by rw [List.getElem?_map, List.getElem?_eq_getElem h]; rfl, by rw [hx]; exact rep_key h2⟩
  stop := fun F2 H2 st => ⟨st.lk a o ws hF hH, by rw [List.length_map, r.length]; exact Nat.le_refl _⟩
theorem walks_vals {F H : Hp} {a : Addr} {ds : List (Key × D)} {ws : List (Key × V)} {o : Obj} (hF : F a = some (.dK ws)) (hH : H a = some (.frz o (.dK ws))) (hz : ds.length ≤ sizeLine) (r : RepsK R.K R.nm F ds ws) : Walks R (Itd a o ws) F H (ds.map fun kv => kv.2) where
  hz := by rw [List.length_map]; exact hz
  go := fun i F2 H2 st h => by rw [List.length_map] at h; exact ⟨st.lk a o ws hF hH, by rw [r.length]; exact h⟩
  yld := fun i F2 H2 x H3 st h y => by
    rw [List.length_map] at h
    obtain ⟨e, k, hk⟩ := y
    obtain ⟨v', h1, h2, h3⟩ := r.get (i := i) (k := (ds[i]).1) (d := (ds[i]).2) (List.getElem?_eq_getElem h)
    rw [h1] at hk
    cases hk
    exact ⟨e, (ds[i]).2, by rw [List.getElem?_map, List.getElem?_eq_getElem h]; rfl, h3.mono st.fs⟩
  stop := fun F2 H2 st => ⟨st.lk a o ws hF hH, by rw [List.length_map, r.length]; exact Nat.le_refl _⟩
/-- the slot's table, read -/
theorem slot_tab {F H : Hp} {σ : L2.St} {r : Sl} {s : R.S} {g : D → Option (List D)} {k : List D → R.S → Hp → Hp → Prop} {xk : Xn → R.S → Hp → Hp → Prop} (hg : ∀ d l, g d = some l → ∃ kvs, d = .tab kvs) (hO : i ∉ O) (w : Wd R F H s) (pu : Pu R O F σ r) (p : Post R F H (bnd (dVar i r) (fun x => lift (g x)) s) k xk) :
    ∃ kvs l a ws, σ[i]? = some (some (.ref a)) ∧ g (.tab kvs) = some l ∧ F a = some (.dK ws) ∧ kvs.length ≤ sizeLine ∧ RepsK R.K R.nm F kvs ws ∧ ∀ F' H', Wd R F' H' s → Stp R F H F' H' → k l s F' H' := by
  obtain ⟨d, e, p⟩ := Post.lift0 (m := getS r i) p
  obtain ⟨l, el, p2⟩ := p.lift
  obtain ⟨kvs, rfl⟩ := hg d l el
  obtain ⟨v, h1, a, ws, rfl, h2, h3, h4⟩ := pu.at_ i _ hO (getS_some e)
  exact ⟨kvs, l, a, ws, h1, el, h2, h3, h4, p2⟩
theorem keysD_tab (d : D) (l : List D) (h : keysD d = some l) : ∃ kvs, d = .tab kvs := by
  cases d <;> try cases h
  exact ⟨_, rfl⟩
theorem valsD_tab (d : D) (l : List D) (h : valsD d = some l) : ∃ kvs, d = .tab kvs := by
  cases d <;> try cases h
  exact ⟨_, rfl⟩
theorem di_keysL (i : Nat) (hO : i ∉ O) (hN : X.N[i]? = some x) (hv : Vis X.env.scope x) (hd : (x == ("__debug__" : Str)) = false := by decide) (hcd : (x == ("__classdict__" : Str)) = false := by decide) (hbase : attributeBase (.Name x npos) "keys" X.env (eval (.Name x npos) X.env) = eval (.Name x npos) X.env := by rfl) (hline : (apos.endLine == cpos.line) = true := by rfl) :
    PI X tg (.Call (.Attribute (.Name x npos) "keys" apos) [] [] cpos) (fun σ H Q => Lk i σ H ∧ tDI R W O (dKeys (dVar i)) σ H Q) := pi_imp (pi_keysM (pe_var hN hv hd hcd) hbase hline) fun σ H Q h => by
  obtain ⟨lk, F, r, s, w, pu, p⟩ := h
  obtain ⟨kvs, l, a, ws, h1, el, h2, h3, h4, k⟩ := slot_tab keysD_tab hO w pu p
  cases el
  refine ⟨_, h1, ?_⟩
  rcases w.sub.dK h2 with q | ⟨ob, q⟩
  · exact absurd q (lk a ws h1)
  · exact ⟨a, ob, ws, rfl, q, k F H w Stp.refl _ (walks_keys h2 q h3 h4)⟩
theorem di_valsL (i : Nat) (hO : i ∉ O) (hN : X.N[i]? = some x) (hv : Vis X.env.scope x) (hd : (x == ("__debug__" : Str)) = false := by decide) (hcd : (x == ("__classdict__" : Str)) = false := by decide) (hbase : attributeBase (.Name x npos) "values" X.env (eval (.Name x npos) X.env) = eval (.Name x npos) X.env := by rfl) (hline : (apos.endLine == cpos.line) = true := by rfl) :
    PI X tg (.Call (.Attribute (.Name x npos) "values" apos) [] [] cpos) (fun σ H Q => Lk i σ H ∧ tDI R W O (dVals (dVar i)) σ H Q) := pi_imp (pi_values (pe_var hN hv hd hcd) hbase hline) fun σ H Q h => by
  obtain ⟨lk, F, r, s, w, pu, p⟩ := h
  obtain ⟨kvs, l, a, ws, h1, el, h2, h3, h4, k⟩ := slot_tab valsD_tab hO w pu p
  cases el
  refine ⟨_, h1, ?_⟩
  rcases w.sub.dK h2 with q | ⟨ob, q⟩
  · exact absurd q (lk a ws h1)
  · exact ⟨a, ob, ws, rfl, q, k F H w Stp.refl _ (walks_vals h2 q h3 h4)⟩
/-- once it is locked -/
theorem lk_now {H : Hp} {σ : L2.St} {a : Addr} {ws : List (Key × V)} {o : Obj} (h1 : σ[i]? = some (some (.ref a))) (hH : H a = some (.frz o (.dK ws))) : Lk i σ H := fun d kvs e q => by
  rw [h1] at e
  cases e
  rw [hH] at q
  cases q
theorem mut_dK {ws : List (Key × V)} : Mut (some (.dK ws)) := trivial
/-- a for over a table's keys, values -/
theorem ds_forW {g : D → Option (List D)} {iter : Expr} {body : List Stmt} {gt : TG} {vs : List Nat} {tgt : D → Sl → Option Sl} {f : Sl → Mo R.S} (hgt : ∀ d l, g d = some l → ∃ kvs, d = .tab kvs) (hO : i ∉ O) (hp : PassesOwn (model X.prog X.w) X.A X.env X.xe) (hc : X.calm = true)
    (hi : PI X tg iter (fun σ H Q => Lk i σ H ∧ tDI R W O (fun r => bnd (dVar i r) fun x => lift (g x)) σ H Q)) (hg : PG X tg gt) (hgs : TgSat R gt vs tgt) (hb : PSs X body (tDS R W fr O O O f)) (hv : ∀ j ∈ O, j ∉ vs)
    (hs : ∀ x, foldedSetIterable iter X.env x = pure x := by intro _; rfl) : PS X (.For tg iter body [] pos) (tDS R W fr B O O (sFor (fun r => bnd (dVar i r) fun x => lift (g x)) tgt f)) :=
  ps_imp (ps_or2 (ps_for hp hc hi hg hb hs) (ps_lk (ps_for hp hc hi hg hb hs))) fun E σ H h => by
    have h' := h
    obtain ⟨F0, H0, F, r, s, w, st, sl, p⟩ := h
    obtain ⟨kvs, l, a, ws, h1, el, h2, h3, h4, _⟩ := slot_tab hgt hO w sl.pu (postS_x w st sl p)
    rcases w.sub.dK h2 with q | ⟨ob, q⟩
    · refine .inr ⟨a, _, q, mut_dK, fun od => ⟨lk_now h1 upd_same, ?_⟩⟩
      exact sat_for hgs hv E σ _ ⟨F0, H0, F, r, s, w.lock h2, st.lock h2 q, sl.lock h2, p⟩
    · exact .inl ⟨lk_now h1 q, sat_for hgs hv E σ H h'⟩
/-! ### comprehensions -/
theorem tk0 {md : Bool} {X : Cx} : TkM md X W0 := by
  cases md with
  | true => exact fun u s' ⟨a, B, sI, pins, σ, H, cls, d, e, I, nb, up, sky, na, os, ag, w⟩ => w.elim
  | false => exact takes0
theorem Cxt.blk {n : Nat} (c : Cxt X R W n) (s : Shared) (H : Hp) (scope : Scope) (ce : Env) (fp : List Addr) : Cxt (X.blk s H scope ce fp) R W0 n := ⟨c.hK, c.hr, c.nd, c.calm⟩
theorem dts_nil : PTs X [] (tDT R W O dYes) := ⟨fun pins s σ H Q I h => pts_nil.run pins s σ H Q I (by
  obtain ⟨F, r, s, w, pu, p⟩ := h
  exact p F H w Stp.refl)⟩
theorem dts_one {c : Expr} {t : TT} (h : PT X c t) : PTs X [c] t := pts_one h
variable {elt iter : Expr} {ifs : List Expr} {scope : Scope} {own : List (Str × Nat)} {it : Sl → M R.S (List D)} {g : TG} {tgt : D → Sl → Option Sl} {t : Sl → M R.S Bool} {f : Sl → M R.S D} {n : Nat}
theorem de_lc (c : Cxt X R W n) (hi : PI X tg iter (tDI R W O it)) (ok : BlkOk X.N X.env.scope scope own) (hgs : TgSat R g (own.map (·.2)) tgt)
    (hg : ∀ (s : Shared) (H : Hp) (C : Addr) (cl : List (Str × Addr)) (fp : List Addr), PG (X.blk s H scope (compEnvC scope cl C X.env) fp) tg g)
    (ht : ∀ (s : Shared) (H : Hp) (C : Addr) (cl : List (Str × Addr)) (fp : List Addr), Cxt (X.blk s H scope (compEnvC scope cl C X.env) fp) R W0 n → PTs (X.blk s H scope (compEnvC scope cl C X.env) fp) ifs (tDT R W0 O t))
    (he : ∀ (s : Shared) (H : Hp) (C : Addr) (cl : List (Str × Addr)) (fp : List Addr), Cxt (X.blk s H scope (compEnvC scope cl C X.env) fp) R W0 n → PE (X.blk s H scope (compEnvC scope cl C X.env) fp) elt (tD R W0 O f)) (hs : ∀ x, foldedSetIterable iter X.env x = pure x := by intro _; rfl) :
    PE X (.ListComp elt [⟨tg, iter, ifs, 0⟩] scope pos) (tD R W O (dLc it tgt t f)) :=
  pe_imp (pe_lc c.calm c.nd hi ok hg (fun s H C cl fp => ht s H C cl fp (c.blk _ _ _ _ _)) (fun s H C cl fp => he s H C cl fp (c.blk _ _ _ _ _)) hs) (sat_lc hgs)
/-- .. over a table's keys, values -/
theorem de_lcW {gk : D → Option (List D)} (hgt : ∀ d l, gk d = some l → ∃ kvs, d = .tab kvs) (hO : i ∉ O) (c : Cxt X R W n) (hi : PI X tg iter (fun σ H Q => Lk i σ H ∧ tDI R W O (fun r => bnd (dVar i r) fun x => lift (gk x)) σ H Q)) (ok : BlkOk X.N X.env.scope scope own) (hgs : TgSat R g (own.map (·.2)) tgt)
    (hg : ∀ (s : Shared) (H : Hp) (C : Addr) (cl : List (Str × Addr)) (fp : List Addr), PG (X.blk s H scope (compEnvC scope cl C X.env) fp) tg g)
    (ht : ∀ (s : Shared) (H : Hp) (C : Addr) (cl : List (Str × Addr)) (fp : List Addr), Cxt (X.blk s H scope (compEnvC scope cl C X.env) fp) R W0 n → PTs (X.blk s H scope (compEnvC scope cl C X.env) fp) ifs (tDT R W0 O t))
    (he : ∀ (s : Shared) (H : Hp) (C : Addr) (cl : List (Str × Addr)) (fp : List Addr), Cxt (X.blk s H scope (compEnvC scope cl C X.env) fp) R W0 n → PE (X.blk s H scope (compEnvC scope cl C X.env) fp) elt (tD R W0 O f)) (hs : ∀ x, foldedSetIterable iter X.env x = pure x := by intro _; rfl) :
    PE X (.ListComp elt [⟨tg, iter, ifs, 0⟩] scope pos) (tD R W O (dLc (fun r => bnd (dVar i r) fun x => lift (gk x)) tgt t f)) := by
  have base := pe_lc c.calm c.nd hi ok hg (fun s H C cl fp => ht s H C cl fp (c.blk _ _ _ _ _)) (fun s H C cl fp => he s H C cl fp (c.blk _ _ _ _ _)) hs (pos := pos)
  refine pe_imp (pe_or2 base (pe_lk base)) fun σ H Q h => ?_
  have h' := h
  obtain ⟨F, r, s, w, pu, p⟩ := h
  obtain ⟨kvs, l, a, ws, h1, el, h2, h3, h4, _⟩ := slot_tab hgt hO w pu p.bnd
  rcases w.sub.dK h2 with q | ⟨ob, q⟩
  · refine .inr ⟨a, _, q, mut_dK, fun od => ⟨lk_now h1 upd_same, ?_⟩⟩
    exact sat_lc hgs σ _ Q ⟨F, r, s, w.lock h2, pu, p.from (Stp.refl.lock h2 q)⟩
  · exact .inl ⟨lk_now h1 q, sat_lc hgs σ H Q h'⟩
end
end Nw
set_option Elab.async false
set_option linter.all false
set_option maxRecDepth 100000
set_option maxHeartbeats 4000000
/-! Part T: views, sorting, count, index, displays. -/
namespace Nw
open PySem PySem.Spec L2
/-! ### order of texts -/
def leS (a b : Str) : Bool := !ltCps b.cps.toList a.cps.toList
theorem leS_iff {a b : Str} : leS a b = true ↔ a.cps.toList ≤ b.cps.toList := by
  unfold leS
  rw [PyProof.Rows.ltCps_eq, Bool.not_eq_true', decide_eq_false_iff_not]
  exact List.not_lt
theorem leS_refl (a : Str) : leS a a = true := leS_iff.mpr (List.le_refl _)
theorem leS_trans {a b c : Str} (h : leS a b = true) (h' : leS b c = true) : leS a c = true := leS_iff.mpr (List.le_trans (leS_iff.mp h) (leS_iff.mp h'))
theorem leS_total (a b : Str) : leS a b = true ∨ leS b a = true := (List.le_total a.cps.toList b.cps.toList).imp leS_iff.mpr leS_iff.mpr
theorem str_ext {a b : Str} (h : a.cps.toList = b.cps.toList) : a = b := by
  obtain ⟨x⟩ := a
  obtain ⟨y⟩ := b
  exact congrArg Str.mk (Array.toList_inj.mp h)
theorem leS_antisymm {a b : Str} (h : leS a b = true) (h' : leS b a = true) : a = b := str_ext (List.le_antisymm (leS_iff.mp h) (leS_iff.mp h'))
def insS (x : Str) : List Str → List Str
  | [] => [x]
  | y :: r => if leS x y = true then x :: y :: r else y :: insS x r
def sortS : List Str → List Str
  | [] => []
  | x :: r => insS x (sortS r)
theorem insS_perm (x : Str) : ∀ l : List Str, (insS x l).Perm (x :: l)
  | [] => List.Perm.refl _
  | y :: r => by
    unfold insS
    split
    · exact List.Perm.refl _
    · exact ((insS_perm x r).cons y).trans (List.Perm.swap x y r)
theorem sortS_perm : ∀ l : List Str, (sortS l).Perm l
  | [] => List.Perm.refl _
  | x :: r => (insS_perm x (sortS r)).trans ((sortS_perm r).cons x)
theorem insS_pw {x : Str} : ∀ {l : List Str}, l.Pairwise (fun a b => leS a b = true) → (insS x l).Pairwise (fun a b => leS a b = true)
  | [], _ => List.pairwise_singleton _ _
  | y :: r, h => by
    obtain ⟨h1, h2⟩ := List.pairwise_cons.mp h
    unfold insS
    split
    · rename_i hx
      refine List.pairwise_cons.mpr ⟨fun z hz => ?_, h⟩
      rcases List.mem_cons.mp hz with rfl | hz
      · exact hx
      · exact leS_trans hx (h1 z hz)
    · rename_i hx
      refine List.pairwise_cons.mpr ⟨fun z hz => ?_, insS_pw h2⟩
      rcases List.mem_cons.mp ((insS_perm x r).mem_iff.mp hz) with rfl | hz
      · exact (leS_total z y).resolve_left hx
      · exact h1 z hz
theorem sortS_pw : ∀ l : List Str, (sortS l).Pairwise (fun a b => leS a b = true)
  | [] => List.Pairwise.nil
  | x :: r => insS_pw (sortS_pw r)
theorem sortedS_pw : ∀ {l : List Str}, PyProof.Rows.sortedS l = true → l.Pairwise (fun a b => leS a b = true)
  | [], _ => List.Pairwise.nil
  | x :: r, h => by
    have go : ∀ (r : List Str) (x : Str), PyProof.Rows.risingS x r = true → (x :: r).Pairwise (fun a b => leS a b = true) := fun r => by
      induction r with
      | nil => exact fun x _ => List.pairwise_singleton _ _
      | cons y r ih =>
        intro x h
        obtain ⟨h1, h2⟩ := Bool.and_eq_true_iff.mp (show ((!ltCps y.cps.toList x.cps.toList) && PyProof.Rows.risingS y r) = true from h)
        have h3 := ih y h2
        refine List.pairwise_cons.mpr ⟨fun z hz => ?_, h3⟩
        rcases List.mem_cons.mp hz with rfl | hz
        · exact h1
        · exact leS_trans h1 ((List.pairwise_cons.mp h3).1 z hz)
    exact go r x h
theorem pw_eq {l l' : List Str} (h : l.Pairwise (fun a b => leS a b = true)) (h' : l'.Pairwise (fun a b => leS a b = true)) (p : l.Perm l') : l = l' :=
  List.Perm.eq_of_pairwise (fun a b _ _ x y => leS_antisymm x y) h h' p
theorem sortS_uniq {ys ks : List Str} (p : ys.Perm ks) (h : PyProof.Rows.sortedS ys = true) : ys = sortS ks := pw_eq (sortedS_pw h) (sortS_pw ks) (p.trans (sortS_perm ks).symm)
theorem paired_get {α β : Type} {P : α → β → Prop} : ∀ {l : List α} {l' : List β} {j : Nat} {a : α}, Paired P l l' → l[j]? = some a → ∃ b, l'[j]? = some b ∧ P a b
  | _, _, _, _, .nil, e => by simp at e
  | _, _, 0, _, .cons h t, e => by
    have e' := Option.some.inj (show some _ = some _ from e)
    subst e'
    exact ⟨_, rfl, h⟩
  | _, _, j + 1, _, .cons h t, e => by
    obtain ⟨b, h1, h2⟩ := paired_get (j := j) t (by simpa using e)
    exact ⟨b, by simpa using h1, h2⟩
/-! ### views -/
/-- a view of the table at d -/
def VwO (T : String) (d p : Addr) : HO := .ext fun h => h.get? p = some { cls := .type T, data := .fields #[.ref d] }
section
variable {X : Cx}
def rView (T : String) : V → List V → Hp → VK → Prop := fun x xs H Q => ∃ d kvs, x = .ref d ∧ xs = [] ∧ Rd H d (.dK kvs) ∧ ∀ p, H p = none → Q (.ref p) (upd H p (VwO T d p))
theorem view_new {pins : List (Addr × Obj)} {σ : L2.St} {H : Hp} {s : Shared} {T : String} {d : Addr} {Q : VK} (I : Inv X pins σ H s) (q : ∀ p, H p = none → Q (.ref p) (upd H p (VwO T d p))) :
    EP X pins σ Q (.ref s.heap.objs.size) { s with heap := s.heap.push { cls := .type T, data := .fields #[.ref d] } } :=
  ⟨.ref s.heap.objs.size, _, I.laid (t' := s.toks) (fun b o e => Heap.get?_push_of_some _ e) (Nat.le_refl _) (show ObjOk X.prog X.w _ _ _ (VwO T d s.heap.objs.size) from ⟨Heap.get?_push_size _ rfl, ⟨_, Heap.get?_push_size _ rfl⟩, fun h1 h2 e k => k _ e⟩), rfl, q _ (I.hok.fresh (Nat.le_refl _))⟩
theorem mt_keysV : MtR X "dict.keys" (rView "dict_keys") := by
  intro pins s σ H x xs v us Q I rx rxs h
  obtain ⟨d, kvs, rfl, rfl, hd, q⟩ := h
  cases rx
  cases rxs
  obtain ⟨z, hs, vs, rel, dd⟩ := dk_rd I.hok hd
  exact call_meetsIn PySem.F.slot_dict_keys dd.typeIs PySem.F.entry_dict_keys (PySem.F.args_dict_keys_1 _) (PySem.W.kdl_meets_keys (mixKind X.prog X.w) d hs) ⟨⟨vs, dd⟩, view_new I q⟩
theorem mt_valsV : MtR X "dict.values" (rView "dict_values") := by
  intro pins s σ H x xs v us Q I rx rxs h
  obtain ⟨d, kvs, rfl, rfl, hd, q⟩ := h
  cases rx
  cases rxs
  obtain ⟨z, hs, vs, rel, dd⟩ := dk_rd I.hok hd
  exact call_meetsIn PySem.F.slot_dict_values dd.typeIs PySem.F.entry_dict_values (PySem.F.args_dict_values_1 _) (meets_dict_values (mixKind X.prog X.w) d hs) ⟨⟨vs, dd⟩, view_new I q⟩
/-- sorted(d.keys()), all keys texts -/
theorem call_sortedV (hcalm : X.calm = true) : CallR X (.builtin "sorted") (fun xs H Q => ∃ (a d : Addr) (kvs : List (Key × V)) (ks : List Str), xs = [.ref a] ∧ H a = some (VwO "dict_keys" d a) ∧ Rd H d (.dK kvs) ∧ kvs.map (·.1) = ks.map Sum.inr ∧
    ∀ p, H p = none → Q (.ref p) (upd H p (.lst ((sortS ks).map V.str)))) := by
  intro pins s σ H xs us Q I r q
  obtain ⟨v, a, kvs, ks, ex, hv, hd, hks, q⟩ := q
  subst ex
  obtain ⟨u, eu, rx⟩ := vals1 r
  subst eu
  cases rx
  obtain ⟨hview, _, _⟩ := (show ObjOk X.prog X.w H s.heap v (VwO "dict_keys" a v) from I.hok v _ hv)
  obtain ⟨z, lo, vs, rel, dd⟩ := dk_rd I.hok hd
  obtain ⟨ep, hat⟩ := dd.dictAt
  have hkeys : vs.map (·.1) = ks.map Sum.inr := rel.keys.symm.trans hks
  have hl : vs.length = ks.length := by
    have e := congrArg List.length hkeys
    rw [List.length_map, List.length_map] at e
    exact e
  have h16 : vs.length ≤ sizeLine := by rw [← rel.length]; exact z
  refine Calls.call_function_entry PyProof.Rows.kind_sorted PyProof.Rows.plain_sorted PyProof.Rows.entry_sorted (PyProof.Rows.args_sorted1 _) ?_
  unfold Builtin.«sorted»
  refine wpAny_bind (m := checkCount "sorted" 1 1 _) (wpAny_pure ?_)
  refine wpAny_bind (PySem.W.kdu_collect (A := X.A.in1) (PySem.W.kdl_keys (r := v) (d := a) (knd := mixKind X.prog X.w) (kvs := vs) (ep := ep)) (I.ok.hd hcalm) ⟨⟨_, hview, rfl, rfl⟩, hat⟩ h16 fun h' tk acc hk hacc => ?_)
  have hal : acc.toList.length = ks.length := by rw [Array.length_toList, hacc.1, hl]
  have hS : PyProof.Rows.StrsAre acc.toList ks := strs_at hal fun j v e => by
    obtain ⟨k, x, e1, e2⟩ := hacc.2 j v (by rw [← Array.getElem?_toList]; exact e)
    have e3 : (vs.map (·.1))[j]? = some k := by rw [List.getElem?_map, e1]; all_goals rfl
    rw [hkeys, List.getElem?_map] at e3
    cases e4 : ks[j]? with
    | none => rw [e4] at e3; cases e3
    | some y =>
      rw [e4] at e3
      have e5 : Sum.inr y = k := Option.some.inj e3
      subst e5
      obtain ⟨t, ev⟩ := Value.isStrOf_shape (x := y) (v := v) e2
      exact ⟨y, t, rfl, ev⟩
  have I1 : Inv X pins σ H { s with heap := h', toks := tk } := I.kept hk
  refine wpAny_bind (wpAny_newList ?_ (by rw [hal, ← hl]; exact h16))
  have hoL : (h'.push (PyProof.Rows.seqObj "list" acc.toList.toArray 0)).get? h'.objs.size = some (PyProof.Rows.seqObj "list" acc.toList.toArray 0) := Heap.get?_push_size _ rfl
  show wpAny _ _ _ _ _ { s with heap := h'.push (PyProof.Rows.seqObj "list" acc.toList.toArray 0), toks := tk }
  refine wpAny_bind (wpAny_holding (wpAny_call_entry PyProof.Rows.slot_list_sort ⟨_, hoL, rfl⟩ PyProof.Rows.entry_list_sort
    (PyProof.Rows.list_sort_treeKAny PyProof.Rows.strKind_oneLt (s := { s with heap := h'.push (PyProof.Rows.seqObj "list" acc.toList.toArray 0), toks := tk }) hoL hS.keysOf (fun v₁ v₂ rest e => PyProof.Rows.keyKind_strs (by rw [← e]; exact hS)) (by rw [hal, ← hl]; exact h16) fun st' hp hs => ⟨_, rfl, ?_⟩)
    (PyProof.Rows.args_list_sort _)))
  obtain ⟨ys, g1, g2, g3⟩ := PyProof.Rows.sorted_out_str hS hp hs
  obtain ⟨e', he'⟩ := PyProof.Rows.sortedHeap_at (vs := acc.toList) (out := (PyProof.Rows.arrOf st').map (·.2)) hoL
  have hlen : (ys.map V.str).length ≤ sizeLine := by
    rw [List.length_map, g2.length_eq, ← hl]
    exact h16
  have q' := q
  rw [← sortS_uniq g2 g3] at q'
  refine wpAny_pure ⟨_, rfl, .ref h'.objs.size, upd H h'.objs.size (.lst (ys.map V.str)), I1.laid (t' := tk) (fun b u e => ?_) (Nat.le_refl _)
    (show ObjOk X.prog X.w _ _ _ (.lst (ys.map V.str)) from ⟨hlen, ((PyProof.Rows.arrOf st').map (·.2)).toList, e', vals_of_strs g1, by rw [Array.toArray_toList]; exact he'⟩), rfl, q' _ (I1.hok.fresh (Nat.le_refl _))⟩
  have hb : b < h'.objs.size := Heap.lt_size e
  rw [PyProof.Rows.sortedHeap_old (Nat.ne_of_lt hb) (by rw [PyProof.Rows.size_push']; exact Nat.lt_succ_of_lt hb)]
  exact Heap.get?_push_of_some _ e
/-- list(d.keys()), list(d.values()) -/
theorem call_listKV (hc : X.calm = true) : CallR X (.type "list") (fun xs H Q => ∃ (a d : Addr) (kvs : List (Key × V)), xs = [.ref a] ∧ H a = some (VwO "dict_keys" d a) ∧ Rd H d (.dK kvs) ∧ ∀ q, H q = none → Q (.ref q) (upd H q (.lst (kvs.map fun kv => kV kv.1)))) := by
  intro pins s σ H xs us Q I r h
  obtain ⟨v, p, kvs, e, hv, hk, q⟩ := h
  subst e
  obtain ⟨u, eu, rx⟩ := vals1 r
  subst eu
  obtain rfl : u = Value.ref v := rx
  obtain ⟨hview, _, _⟩ := (show ObjOk X.prog X.w H s.heap v (VwO "dict_keys" p v) from I.hok v _ hv)
  obtain ⟨z, lo, vs, rk, hd⟩ := dk_rd I.hok hk
  obtain ⟨ep, hat⟩ := hd.dictAt
  have hl : kvs.length = vs.length := Paired.length rk
  refine PySem.W.kdl_call (PySem.W.kdl_keys (r := v) (d := p) (knd := mixKind X.prog X.w) (kvs := vs) (ep := ep)) (I.ok.hd hc) ⟨⟨_, hview, rfl, rfl⟩, hat⟩ (by rw [← hl]; exact z) fun h' tk acc' c' hkeep hS hacc => ?_
  refine ⟨.ref s.heap.objs.size, upd H s.heap.objs.size (.lst (kvs.map fun kv => kV kv.1)), I.laid hkeep (Nat.le_refl _) (show ObjOk X.prog X.w _ _ _ (.lst (kvs.map fun kv => kV kv.1)) from ⟨?_, acc'.toList, c', ?_, ?_⟩), rfl, q _ (I.hok.fresh (Nat.le_refl _))⟩
  · rw [List.length_map]; exact z
  · have el : acc'.toList.length = acc'.size := by simp
    refine vals_of_at (by rw [List.length_map, el, hacc.1, hl]) fun j x w h1 h2 => ?_
    obtain ⟨k, y, hky, hi⟩ := hacc.2 j w (by rw [← Array.getElem?_toList]; exact h2)
    have e1 : (kvs.map (·.1))[j]? = some k := by
      rw [KV.keys rk, List.getElem?_map, hky] <;> rfl
    have e2 : (kvs.map fun kv => kV kv.1)[j]? = some (kV k) := by
      have e3 : (kvs.map fun kv => kV kv.1) = (kvs.map (·.1)).map kV := by rw [List.map_map] <;> rfl
      rw [e3, List.getElem?_map, e1] <;> rfl
    rw [e2] at h1
    cases h1
    exact keyIs_rel hi
  · rw [Array.toArray_toList]; exact hS
theorem call_listVV (hc : X.calm = true) : CallR X (.type "list") (fun xs H Q => ∃ (a d : Addr) (kvs : List (Key × V)), xs = [.ref a] ∧ H a = some (VwO "dict_values" d a) ∧ Rd H d (.dK kvs) ∧ ∀ q, H q = none → Q (.ref q) (upd H q (.lst (kvs.map fun kv => kv.2)))) := by
  intro pins s σ H xs us Q I r h
  obtain ⟨v, p, kvs, e, hv, hk, q⟩ := h
  subst e
  obtain ⟨u, eu, rx⟩ := vals1 r
  subst eu
  obtain rfl : u = Value.ref v := rx
  obtain ⟨hview, _, _⟩ := (show ObjOk X.prog X.w H s.heap v (VwO "dict_values" p v) from I.hok v _ hv)
  obtain ⟨z, lo, vs, rk, hd⟩ := dk_rd I.hok hk
  obtain ⟨ep, hat⟩ := hd.dictAt
  have hl : kvs.length = vs.length := Paired.length rk
  refine PySem.W.kdl_call (PySem.W.kdl_values (r := v) (d := p) (knd := mixKind X.prog X.w) (kvs := vs) (ep := ep)) (I.ok.hd hc) ⟨⟨_, hview, rfl, rfl⟩, hat⟩ (by rw [← hl]; exact z) fun h' tk acc' c' hkeep hS hacc => ?_
  refine ⟨.ref s.heap.objs.size, upd H s.heap.objs.size (.lst (kvs.map fun kv => kv.2)), I.laid hkeep (Nat.le_refl _) (show ObjOk X.prog X.w _ _ _ (.lst (kvs.map fun kv => kv.2)) from ⟨?_, acc'.toList, c', ?_, ?_⟩), rfl, q _ (I.hok.fresh (Nat.le_refl _))⟩
  · rw [List.length_map]; exact z
  · have el : acc'.toList.length = acc'.size := by simp
    refine vals_of_at (by rw [List.length_map, el, hacc.1, hl]) fun j x w h1 h2 => ?_
    obtain ⟨k, hky⟩ := hacc.2 j w (by rw [← Array.getElem?_toList]; exact h2)
    rw [List.getElem?_map] at h1
    cases e1 : kvs[j]? with
    | none => rw [e1] at h1; cases h1
    | some kv =>
      rw [e1] at h1
      cases h1
      obtain ⟨q, hq1, hq2⟩ := paired_get rk e1
      rw [hky] at hq1
      cases hq1
      exact hq2.2
  · rw [Array.toArray_toList]; exact hS
end
end Nw
set_option Elab.async false
set_option linter.all false
set_option maxRecDepth 100000
set_option maxHeartbeats 4000000
/-! Part U: their readings on plain data. -/
namespace Nw
open PySem PySem.Spec L2
def txtKeys : List (Key × D) → Option (List Str)
  | [] => some []
  | (.inr x, _) :: r => (txtKeys r).map fun l => x :: l
  | _ :: _ => none
theorem txtKeys_some : ∀ {kvs : List (Key × D)} {ks : List Str}, txtKeys kvs = some ks → kvs.map (·.1) = ks.map Sum.inr
  | [], ks, h => by cases h; rfl
  | (.inl i, d) :: r, ks, h => by cases h
  | (.inr x, d) :: r, ks, h => by
    have h : (txtKeys r).map (fun l => x :: l) = some ks := h
    cases e : txtKeys r with
    | none => rw [e] at h; cases h
    | some l => rw [e] at h; cases h; rw [List.map_cons, List.map_cons, txtKeys_some e]
def sortKD : D → Option D
  | .tab kvs => (txtKeys kvs).map fun ks => .row ((sortS ks).map D.str)
  | _ => none
def listKD : D → Option D
  | .tab kvs => some (.row (kvs.map fun kv => kD kv.1))
  | _ => none
def listVD : D → Option D
  | .tab kvs => some (.row (kvs.map fun kv => kv.2))
  | _ => none
section
variable {X : Cx} {R : Reg} {W : WX} {O : List Nat} {a e o : Expr} {es : List Expr} {f g : Sl → M R.S D} {fs : Sl → M R.S (List D)} {pos p apos cpos : Pos} {n : Nat}
theorem reps_strs {K : PySem.W.Frag} {nm : Nat → Option Addr} {F : Hp} (l : List Str) (h : ∀ x ∈ l, x.length ≤ sizeLine) : Reps K nm F (l.map D.str) (l.map V.str) := reps_map l fun x hx => ⟨rfl, h x hx⟩
/-- the table, its view -/
theorem sat_view {r : List V → Hp → VK → Prop} {T : String} {op : D → Option D} (hK : R.K = X.K) (ht : ∀ d d', op d = some d' → ∃ kvs, d = .tab kvs)
    (hs : ∀ (v d : Addr) (kvs : List (Key × D)) (ws : List (Key × V)) (d' : D) (F H : Hp) (s : R.S) (Q : VK), Wd R F H s → H v = some (VwO T d v) → F d = some (.dK ws) → Rd H d (.dK ws) → kvs.length ≤ sizeLine → RepsK R.K R.nm F kvs ws → op (.tab kvs) = some d' → (∀ v F' H', Wd R F' H' s → Stp R F H F' H' → Rep R.K R.nm F' d' v → Q v H') → r [.ref v] H Q)
    (σ : L2.St) (H : Hp) (Q : VK) (h : tD R W O (dUn op f) σ H Q) : tCB r (tCons (tBW0 X.K "dict" (rView T) (tD R W O f)) tNil) σ H Q := by
  obtain ⟨F, ρ, s, w, pu, p⟩ := h
  refine ⟨F, ρ, s, w, pu, p.bnd.imp (fun d s1 F1 H1 w1 st1 p1 v rv => ?_) fun _ _ _ _ _ _ z => z⟩
  obtain ⟨d', e', k⟩ := p1.lift
  obtain ⟨kvs, rfl⟩ := ht d d' e'
  obtain ⟨a, ws, rfl, h1, h2, h3⟩ := rv
  have hr : Rd H1 a (.dK ws) := w1.sub.dK h1
  refine ⟨.inr ⟨rfl, a, ws, rfl, hr⟩, a, ws, rfl, rfl, hr, fun q hq => ?_⟩
  have st2 : Stp R F1 H1 F1 (upd H1 q (VwO T a q)) := Stp.newH _ hq
  have w2 : Wd R F1 (upd H1 q (VwO T a q)) s1 := w1.newH _ hq
  exact hs q a kvs ws d' F1 _ s1 Q w2 upd_same h1 (w2.sub.dK h1) h2 h3 e' fun v' F' H' w' st' r' => k F' H' w' (st2.trans st') v' r'
theorem tab_of {β : Type} {op : D → Option β} (h : ∀ d, (∀ kvs, d ≠ .tab kvs) → op d = none) (d : D) (d' : β) (e : op d = some d') : ∃ kvs, d = .tab kvs := by
  have hh := h d
  cases d
  case tab kvs => exact ⟨kvs, rfl⟩
  all_goals (rw [hh (by intro _ z; cases z)] at e; cases e)
theorem de_sortedK (c : Cxt X R W n) (hg : Gl X "sorted") (hm : X.mg "sorted" = none) (ho : PE X o (tD R W O f)) (hbase : attributeBase o "keys" X.env (eval o X.env) = eval o X.env := by rfl) (hline : (apos.endLine == cpos.line) = true := by rfl)
    (he : starEach [.Call (.Attribute o "keys" apos) [] [] cpos] X.env = (false, eval (.Call (.Attribute o "keys" apos) [] [] cpos) X.env) :: starEach [] X.env := by rfl) (hpl : (backTo pos (starEach [] X.env)).any (·.1) = false := by rfl) :
    PE X (.Call (.Name "sorted" p) [.Call (.Attribute o "keys" apos) [] [] cpos] [] pos) (tD R W O (dUn sortKD f)) :=
  pe_imp (pe_callB (call_sortedV c.calm) hg hm (by decide +kernel) (pa_cons (pe_bw0 PySem.F.plainAttrs_dict PySem.F.slot_dict_keys PySem.F.type_dict_keys mt_keysV ho hbase hline) pa_nil he) (by decide) (by decide) he hpl)
    (sat_view c.hK (tab_of fun d hd => by cases d <;> first | rfl | exact absurd rfl (hd _)) fun v d kvs ws d' F H s Q w hv hF hd hz rk e k => by
      have e : (txtKeys kvs).map (fun ks => D.row ((sortS ks).map D.str)) = some d' := e
      cases ek : txtKeys kvs with
      | none => rw [ek] at e; cases e
      | some ks =>
        rw [ek] at e
        cases e
        have hks := txtKeys_some ek
        have hlen : ks.length = kvs.length := by
          have := congrArg List.length hks
          rw [List.length_map, List.length_map] at this
          exact this.symm
        refine ⟨v, d, ws, ks, rfl, hv, hd, by rw [rk.keys]; exact hks, fun q hq => new_row w ?_ (reps_strs (sortS ks) fun x hx => ?_) hq k⟩
        · rw [List.length_map, (sortS_perm ks).length_eq, hlen]; exact hz
        · have hx2 := (sortS_perm ks).mem_iff.mp hx
          have hx3 : (Sum.inr x : Key) ∈ kvs.map (·.1) := by rw [hks]; exact List.mem_map_of_mem hx2
          obtain ⟨p, hp1, hp2⟩ := List.mem_map.mp hx3
          have hp3 := rk.kok p hp1
          rw [hp2] at hp3
          exact hp3)
theorem reps_kD {K : PySem.W.Frag} {nm : Nat → Option Addr} {F : Hp} : ∀ {kvs : List (Key × D)} {ws : List (Key × V)}, RepsK K nm F kvs ws → Reps K nm F (kvs.map fun kv => kD kv.1) (ws.map fun kv => kV kv.1)
  | [], ws, r => by rw [show ws = [] from r]; rfl
  | (k, d) :: kvs, ws, r => by
    obtain ⟨v, ws', rfl, hk, _, h2⟩ := r
    exact ⟨_, _, rfl, rep_key hk, reps_kD h2⟩
theorem de_listK (c : Cxt X R W n) (hg : Gl X "list") (hm : X.mg "list" = none) (ho : PE X o (tD R W O f)) (hbase : attributeBase o "keys" X.env (eval o X.env) = eval o X.env := by rfl) (hline : (apos.endLine == cpos.line) = true := by rfl)
    (he : starEach [.Call (.Attribute o "keys" apos) [] [] cpos] X.env = (false, eval (.Call (.Attribute o "keys" apos) [] [] cpos) X.env) :: starEach [] X.env := by rfl) (hpl : (backTo pos (starEach [] X.env)).any (·.1) = false := by rfl) :
    PE X (.Call (.Name "list" p) [.Call (.Attribute o "keys" apos) [] [] cpos] [] pos) (tD R W O (dUn listKD f)) :=
  pe_imp (pe_callTy (call_listKV c.calm) hg hm (by decide +kernel) (pa_cons (pe_bw0 PySem.F.plainAttrs_dict PySem.F.slot_dict_keys PySem.F.type_dict_keys mt_keysV ho hbase hline) pa_nil he) (by decide) (by decide) he hpl)
    (sat_view c.hK (tab_of fun d hd => by cases d <;> first | rfl | exact absurd rfl (hd _)) fun v d kvs ws d' F H s Q w hv hF hd hz rk e k => by
      cases e
      exact ⟨v, d, ws, rfl, hv, hd, fun q hq => new_row w (by rw [List.length_map]; exact hz) (reps_kD rk) hq k⟩)
theorem de_listV (c : Cxt X R W n) (hg : Gl X "list") (hm : X.mg "list" = none) (ho : PE X o (tD R W O f)) (hbase : attributeBase o "values" X.env (eval o X.env) = eval o X.env := by rfl) (hline : (apos.endLine == cpos.line) = true := by rfl)
    (he : starEach [.Call (.Attribute o "values" apos) [] [] cpos] X.env = (false, eval (.Call (.Attribute o "values" apos) [] [] cpos) X.env) :: starEach [] X.env := by rfl) (hpl : (backTo pos (starEach [] X.env)).any (·.1) = false := by rfl) :
    PE X (.Call (.Name "list" p) [.Call (.Attribute o "values" apos) [] [] cpos] [] pos) (tD R W O (dUn listVD f)) :=
  pe_imp (pe_callTy (call_listVV c.calm) hg hm (by decide +kernel) (pa_cons (pe_bw0 PySem.F.plainAttrs_dict PySem.F.slot_dict_values PySem.F.type_dict_values mt_valsV ho hbase hline) pa_nil he) (by decide) (by decide) he hpl)
    (sat_view c.hK (tab_of fun d hd => by cases d <;> first | rfl | exact absurd rfl (hd _)) fun v d kvs ws d' F H s Q w hv hF hd hz rk e k => by
      cases e
      exact ⟨v, d, ws, rfl, hv, hd, fun q hq => new_row w (by rw [List.length_map]; exact hz) rk.vals hq k⟩)
/-! ### count, index of flat things -/
/-- a flat thing as a value -/
def flD : D → Option V
  | .non => some .non
  | .bl b => some (.bl b)
  | .int i => some (.int i)
  | .str x => some (.str x)
  | _ => none
theorem flD_flat {d : D} {v : V} (h : flD d = some v) : flatV v = true := by
  cases d <;> cases h <;> rfl
theorem flD_rep {K : PySem.W.Frag} {nm : Nat → Option Addr} {F : Hp} {d : D} {v u : V} (r : Rep K nm F d u) (h : flD d = some v) : u = v := by
  cases d <;> cases h
  · exact r
  · exact r
  · exact r
  · exact r.1
def flsD : List D → Option (List V)
  | [] => some []
  | d :: r => (flD d).bind fun v => (flsD r).map fun l => v :: l
theorem flsD_rep {K : PySem.W.Frag} {nm : Nat → Option Addr} {F : Hp} : ∀ {ds : List D} {vs us : List V}, Reps K nm F ds us → flsD ds = some vs → us = vs ∧ vs.all flatV = true
  | [], vs, us, r, h => by cases h; exact ⟨r, rfl⟩
  | d :: ds, vs, us, r, h => by
    obtain ⟨u, us', rfl, r1, r2⟩ := r
    have h : (flD d).bind (fun v => (flsD ds).map fun l => v :: l) = some vs := h
    cases e1 : flD d with
    | none => rw [e1] at h; cases h
    | some v =>
      rw [e1] at h
      have h : (flsD ds).map (fun l => v :: l) = some vs := h
      cases e2 : flsD ds with
      | none => rw [e2] at h; cases h
      | some l =>
        rw [e2] at h
        cases h
        obtain ⟨h1, h2⟩ := flsD_rep r2 e2
        rw [h1, flD_rep r1 e1]
        exact ⟨rfl, by rw [List.all_cons, flD_flat e1, h2]; rfl⟩
def rCount (K : PySem.W.Frag) : V → List V → Hp → VK → Prop := fun x xs H Q => ∃ (a : Addr) (ys : List V) (y : V), x = V.ref a ∧ xs = [y] ∧ SqL K H a ys ∧ flatV y = true ∧ ys.all flatV = true ∧ Q (.int (ys.countP (eqV · y) : Nat)) H
theorem count_eqU {y : V} : ∀ {ys : List V} {us : List Value}, Vals ys us → ys.all flatV = true → us.countP (eqU y) = ys.countP (eqV · y)
  | _, _, .nil, _ => rfl
  | z :: ys, u :: us, .cons r t, h => by
    obtain ⟨h1, h2⟩ := Bool.and_eq_true_iff.mp (show (flatV z && ys.all flatV) = true from h)
    rw [List.countP_cons, List.countP_cons, count_eqU t h2, eqU_of r h1]
theorem mt_count : MtR X "list.count" (rCount X.K) := by
  intro pins s σ H x xs v us Q I rx rxs h
  obtain ⟨a, ys, y, rfl, rfl, hs, fy, fys, q⟩ := h
  cases rx
  cases rxs with
  | cons ry rt =>
    rename_i uy ut
    cases rt
    obtain ⟨its, rv, ⟨⟨cls, dd, data, sl⟩, n, ho, hc, hdn, hd⟩, hlen⟩ := I.list hs
    simp only at hc hd
    subst hc hd
    refine call_meets PySem.F.slot_list_count ⟨_, ho, rfl⟩ PySem.F.entry_list_count (PySem.F.args_list_count_2 _ _)
      (SeqAt.list_countAt a its.toArray n dd sl uy (eqU y)) ⟨ho, fun u' hu' => mem_eqAt ry fy rv fys u' (by simpa using hu'), ?_⟩
    have ec : its.toArray.toList.countP (eqU y) = ys.countP (eqV · y) := count_eqU rv fys
    refine ⟨.int (ys.countP (eqV · y) : Nat), H, I.tok _, ⟨s.toks, ?_⟩, q⟩
    show Value.int ((its.toArray.toList.countP (eqU y) : Nat) : Int) s.toks = _
    rw [ec]
def countD : D → List D → Option D
  | .row ds, [d] => (flsD ds).bind fun vs => (flD d).map fun v => .int (vs.countP (eqV · v) : Nat)
  | .kro ds, [d] => (flsD ds).bind fun vs => (flD d).map fun v => .int (vs.countP (eqV · v) : Nat)
  | _, _ => none
def indexD : D → List D → Option D
  | .row ds, [d] => (flsD ds).bind fun vs => (flD d).bind fun v => (vs.findIdx? (eqV · v)).map fun i => .int (i : Nat)
  | .kro ds, [d] => (flsD ds).bind fun vs => (flD d).bind fun v => (vs.findIdx? (eqV · v)).map fun i => .int (i : Nat)
  | _, _ => none
theorem bind_some {α β : Type} {o : Option α} {k : α → Option β} {b : β} (h : o.bind k = some b) : ∃ a, o = some a ∧ k a = some b := by
  cases o with
  | none => cases h
  | some a => exact ⟨a, rfl, h⟩
theorem map_some {α β : Type} {o : Option α} {k : α → β} {b : β} (h : o.map k = some b) : ∃ a, o = some a ∧ k a = b := by
  cases o with
  | none => cases h
  | some a => exact ⟨a, rfl, Option.some.inj h⟩
theorem sat_seqF {op : D → List D → Option D} {r : V → List V → Hp → VK → Prop} (g : List V → V → Option D)
    (hop : ∀ d ds d', op d ds = some d' → ∃ es x vs v, (d = .row es ∨ d = .kro es) ∧ ds = [x] ∧ flsD es = some vs ∧ flD x = some v ∧ g vs v = some d')
    (hr : ∀ (a : Addr) (ys : List V) (y : V) (d' : D) (F H : Hp) (s : R.S) (Q : VK), Wd R F H s → SqL R.K H a ys → flatV y = true → ys.all flatV = true → g ys y = some d' → (∀ v F' H', Wd R F' H' s → Stp R F H F' H' → Rep R.K R.nm F' d' v → Q v H') → r (.ref a) [y] H Q) : MtSat R r op := fun x xs d ds d' F H s Q w rx rs e k => by
  obtain ⟨es, x', vs, v, hd, rfl, h1, h2, h3⟩ := hop d ds d' e
  obtain ⟨y, ws, rfl, ry, e2⟩ := rs
  rw [show ws = [] from e2]
  have ey := flD_rep ry h2
  subst ey
  rcases hd with rfl | rfl
  · obtain ⟨a, us, rfl, hF, _, ru⟩ := rx
    obtain ⟨rfl, hf⟩ := flsD_rep ru h1
    exact hr a us y d' F H s Q w (SqL.of (w.sub.lst hF)) (flD_flat h2) hf h3 k
  · obtain ⟨a, us, rfl, hF, _, ru⟩ := rx
    obtain ⟨rfl, hf⟩ := flsD_rep ru h1
    exact hr a us y d' F H s Q w (w.sub.sqL hF) (flD_flat h2) hf h3 k
theorem sat_count : MtSat R (rCount R.K) countD := sat_seqF (fun vs v => some (.int (vs.countP (eqV · v) : Nat))) (fun d ds d' e => by
    unfold countD at e
    split at e
    · obtain ⟨vs, h1, e⟩ := bind_some e
      obtain ⟨v, h2, e⟩ := map_some e
      exact ⟨_, _, vs, v, .inl rfl, rfl, h1, h2, congrArg some e⟩
    · obtain ⟨vs, h1, e⟩ := bind_some e
      obtain ⟨v, h2, e⟩ := map_some e
      exact ⟨_, _, vs, v, .inr rfl, rfl, h1, h2, congrArg some e⟩
    · cases e)
  fun a ys y d' F H s Q w hs f1 f2 e k => by
    cases e
    exact ⟨a, ys, y, rfl, rfl, hs, f1, f2, k _ F H w Stp.refl rfl⟩
theorem sat_index : MtSat R (rIndex R.K) indexD := sat_seqF (fun vs v => (vs.findIdx? (eqV · v)).map fun i => .int (i : Nat)) (fun d ds d' e => by
    unfold indexD at e
    split at e
    · obtain ⟨vs, h1, e⟩ := bind_some e
      obtain ⟨v, h2, e⟩ := bind_some e
      exact ⟨_, _, vs, v, .inl rfl, rfl, h1, h2, e⟩
    · obtain ⟨vs, h1, e⟩ := bind_some e
      obtain ⟨v, h2, e⟩ := bind_some e
      exact ⟨_, _, vs, v, .inr rfl, rfl, h1, h2, e⟩
    · cases e)
  fun a ys y d' F H s Q w hs f1 f2 e k => by
    obtain ⟨i, e1, rfl⟩ := map_some e
    obtain ⟨hi, h2, h3⟩ := List.findIdx?_eq_some_iff_getElem.mp e1
    refine ⟨a, ys, y, i, ys[i], rfl, rfl, hs, f1, f2, List.getElem?_eq_getElem hi, h2, fun m z' hm hz => ?_, k _ F H w Stp.refl rfl⟩
    have hm2 : m < ys.length := by omega
    rw [List.getElem?_eq_getElem hm2] at hz
    cases hz
    have := h3 m hm
    simpa using this
theorem de_count (c : Cxt X R W n) (ho : PE X o (tD R W O f)) (ha : PA X [e] (tDA R W O fs))
    (hbase : attributeBase o "count" X.env (eval o X.env) = eval o X.env := by rfl)
    (hfew : ((backTo cpos (starEach [e] X.env)).all (fun x => !x.1) && (backToKw cpos (keywordEach [] X.env)).all (fun x => x.1.isSome)
      && decide (([e] : List Expr).length + ([] : List Keyword).length + (if ([] : List Keyword).isEmpty then 0 else 1) < 30)) = true := by rfl)
    (hline : (apos.endLine == cpos.line) = true := by rfl) (hst : starEach [e] X.env = (false, eval e X.env) :: starEach [] X.env := by rfl) (hplain : (backTo cpos (starEach [] X.env)).any (·.1) = false := by rfl) :
    PE X (.Call (.Attribute o "count" apos) [e] [] cpos) (tD R W O (dMt "list" countD f fs)) := de_mt PySem.F.plainAttrs_list PySem.F.slot_list_count PySem.F.type_list_count mt_count c.hK (by rw [← c.hK]; exact sat_count) ho ha hbase hfew hline hst hplain
theorem de_index (c : Cxt X R W n) (ho : PE X o (tD R W O f)) (ha : PA X [e] (tDA R W O fs))
    (hbase : attributeBase o "index" X.env (eval o X.env) = eval o X.env := by rfl)
    (hfew : ((backTo cpos (starEach [e] X.env)).all (fun x => !x.1) && (backToKw cpos (keywordEach [] X.env)).all (fun x => x.1.isSome)
      && decide (([e] : List Expr).length + ([] : List Keyword).length + (if ([] : List Keyword).isEmpty then 0 else 1) < 30)) = true := by rfl)
    (hline : (apos.endLine == cpos.line) = true := by rfl) (hst : starEach [e] X.env = (false, eval e X.env) :: starEach [] X.env := by rfl) (hplain : (backTo cpos (starEach [] X.env)).any (·.1) = false := by rfl) :
    PE X (.Call (.Attribute o "index" apos) [e] [] cpos) (tD R W O (dMt "list" indexD f fs)) := de_mt PySem.F.plainAttrs_list PySem.F.slot_list_index PySem.F.type_list_index mt_index c.hK (by rw [← c.hK]; exact sat_index) ho ha hbase hfew hline hst hplain
end
end Nw
set_option Elab.async false
set_option linter.all false
set_option maxRecDepth 100000
set_option maxHeartbeats 4000000
/-! Part V: new things, a def's own things. -/
namespace Nw
open PySem PySem.Spec L2
def tDF (R : Reg) (W : WX) (O : List Nat) (f : Sl → M R.S D) : TE := fun σ H Q => ∃ F r s, Wd R F H s ∧ Pu R O F σ r ∧ Post R F H (f r s) (fun d _ F' H' => ∀ v, Fre R H F' H' d v → Q v H') (fun x _ F' H' => ∀ cls dd, RepX R.K R.nm F' x cls dd → W cls dd σ H')
def scalD : D → Option D
  | .non => some .non
  | .bl b => some (.bl b)
  | .int i => some (.int i)
  | .str x => some (.str x)
  | .tup xs => some (.tup xs)
  | _ => none
def putD (kvs : List (Key × D)) (k : Key) (d : D) : List (Key × D) := if (kvs.any fun kv => decide (kv.1 = k)) = true then kvs.map (fun kv => if kv.1 = k then (kv.1, d) else kv) else kvs ++ [(k, d)]
def mergeD (kvs more : List (Key × D)) : List (Key × D) := more.foldl (fun acc kv => putD acc kv.1 kv.2) kvs
def pairsD : List D → Option (List (Key × D))
  | [] => some []
  | k :: v :: r => (keyD k).bind fun k => (pairsD r).map fun l => (k, v) :: l
  | _ => none
def dispD (ds : List D) : Option D := (pairsD ds).map fun kvs => .tab (mergeD [] kvs)
section
variable {K : PySem.W.Frag} {nm : Nat → Option Addr} {F : Hp}
theorem repsK_any (k : Key) : ∀ {kvs : List (Key × D)} {ws : List (Key × V)}, RepsK K nm F kvs ws → (kvs.any fun kv => decide (kv.1 = k)) = (ws.any fun kv => decide (kv.1 = k))
  | [], ws, r => by rw [show ws = [] from r]; rfl
  | (j, d) :: kvs, ws, r => by
    obtain ⟨v, ws', rfl, _, _, h2⟩ := r
    rw [List.any_cons, List.any_cons, repsK_any k h2]
theorem repsK_map (k : Key) {d : D} {v : V} (rd : Rep K nm F d v) : ∀ {kvs : List (Key × D)} {ws : List (Key × V)}, RepsK K nm F kvs ws → RepsK K nm F (kvs.map fun kv => if kv.1 = k then (kv.1, d) else kv) (ws.map fun kv => if kv.1 = k then (kv.1, v) else kv)
  | [], ws, r => by rw [show ws = [] from r]; rfl
  | (j, e) :: kvs, ws, r => by
    obtain ⟨u, ws', rfl, h0, h1, h2⟩ := r
    rw [List.map_cons, List.map_cons]
    by_cases h : j = k
    · rw [if_pos h, if_pos h]; exact ⟨v, _, rfl, h0, rd, repsK_map k rd h2⟩
    · rw [if_neg h, if_neg h]; exact ⟨u, _, rfl, h0, h1, repsK_map k rd h2⟩
theorem RepsK.append : ∀ {kvs more : List (Key × D)} {ws vs : List (Key × V)}, RepsK K nm F kvs ws → RepsK K nm F more vs → RepsK K nm F (kvs ++ more) (ws ++ vs)
  | [], more, ws, vs, r, q => by rw [show ws = [] from r]; exact q
  | (k, d) :: kvs, more, ws, vs, r, q => by
    obtain ⟨u, ws', rfl, h0, h1, h2⟩ := r
    exact ⟨u, _, rfl, h0, h1, h2.append q⟩
theorem RepsK.put {kvs : List (Key × D)} {ws : List (Key × V)} (r : RepsK K nm F kvs ws) {k : Key} (hk : kOk k) {d : D} {v : V} (rd : Rep K nm F d v) : RepsK K nm F (putD kvs k d) (putK ws k v) := by
  unfold putD putK
  rw [repsK_any k r]
  split
  · exact repsK_map k rd r
  · exact r.append ⟨v, [], rfl, hk, rd, rfl⟩
theorem RepsK.merge : ∀ {more kvs : List (Key × D)} {vs ws : List (Key × V)}, RepsK K nm F kvs ws → RepsK K nm F more vs → RepsK K nm F (mergeD kvs more) (mergeK ws vs)
  | [], kvs, vs, ws, r, q => by rw [show vs = [] from q]; exact r
  | (k, d) :: more, kvs, vs, ws, r, q => by
    obtain ⟨u, vs', rfl, h0, h1, h2⟩ := q
    show RepsK K nm F (mergeD (putD kvs k d) more) (mergeK (putK ws k u) vs')
    exact RepsK.merge (r.put h0 h1) h2
theorem putD_length (kvs : List (Key × D)) (k : Key) (d : D) : (putD kvs k d).length ≤ kvs.length + 1 := by
  unfold putD
  split
  · rw [List.length_map]; omega
  · rw [List.length_append]; exact Nat.le_refl _
theorem mergeD_length : ∀ (more kvs : List (Key × D)), (mergeD kvs more).length ≤ kvs.length + more.length
  | [], kvs => by show kvs.length ≤ kvs.length + 0; omega
  | p :: r, kvs => by
    have h1 := mergeD_length r (putD kvs p.1 p.2)
    have h2 := putD_length kvs p.1 p.2
    show (mergeD (putD kvs p.1 p.2) r).length ≤ _
    rw [List.length_cons]; omega
theorem keyD_ok {d : D} {v : V} {k : Key} (r : Rep K nm F d v) (h : keyD d = some k) : v = kV k ∧ kOk k := by
  cases d <;> try cases h
  · exact ⟨r, trivial⟩
  · exact ⟨r.1, r.2⟩
end
section
variable {R : Reg} {F H F0 H0 : Hp} {s : R.S}
theorem fre_row {ds : List D} {vs : List V} {p : Addr} (w : Wd R F H s) (st : Stp R F0 H0 F H) (hp : H p = none) (hz : ds.length ≤ sizeLine) (r : Reps R.K R.nm F ds vs) : Wd R F (upd H p (.lst vs)) s ∧ Stp R F0 H0 F (upd H p (.lst vs)) ∧ Fre R H0 F (upd H p (.lst vs)) (.row ds) (.ref p) :=
  ⟨w.newH _ hp, st.trans (Stp.newH _ hp), p, rfl, st.th p hp, w.free hp, w.notMu hp, vs, upd_same, hz, r⟩
theorem fre_tab {ds : List (Key × D)} {vs : List (Key × V)} {p : Addr} (w : Wd R F H s) (st : Stp R F0 H0 F H) (hp : H p = none) (hz : ds.length ≤ sizeLine) (r : RepsK R.K R.nm F ds vs) : Wd R F (upd H p (.dK vs)) s ∧ Stp R F0 H0 F (upd H p (.dK vs)) ∧ Fre R H0 F (upd H p (.dK vs)) (.tab ds) (.ref p) :=
  ⟨w.newH _ hp, st.trans (Stp.newH _ hp), p, rfl, st.th p hp, w.free hp, w.notMu hp, vs, upd_same, hz, r⟩
end
section
variable {X : Cx} {R : Reg} {W : WX} {fr : FrK} {O O' B : List Nat} {a b e o tg iter : Expr} {es : List Expr} {f g : Sl → M R.S D} {c : Sl → M R.S Bool} {fs : Sl → M R.S (List D)} {pos p apos cpos : Pos} {n : Nat}
/-- a new thing, given out -/
theorem de_give (h : PE X e (tDF R W O f)) : PE X e (tD R W O f) := pe_imp h fun σ H Q h => by
  obtain ⟨F, r, s, w, pu, p⟩ := h
  refine ⟨F, r, s, w, pu, ?_⟩
  cases ef : f r s with
  | ok d s' =>
    rw [ef] at p
    intro F' H' w' st' v fv
    obtain ⟨G, wG, stG, rG⟩ := fv.give w' st'
    exact p G H' wG stG v rG
  | exc x s' => rw [ef] at p; exact p
  | bot => rw [ef] at p; exact p
theorem df_scal (h : PE X e (tD R W O f)) : PE X e (tDF R W O (dUn scalD f)) := pe_imp h fun σ H Q h => by
  obtain ⟨F, r, s, w, pu, p⟩ := h
  refine ⟨F, r, s, w, pu, p.bnd.imp (fun d s1 F1 H1 w1 st1 p1 v rv => ?_) fun _ _ _ _ _ _ z => z⟩
  obtain ⟨d', e', k⟩ := p1.lift
  cases d <;> cases e' <;> exact k F1 H1 w1 Stp.refl v rv
theorem df_lst (h : PA X es (tDA R W O fs)) : PE X (.List es pos) (tDF R W O (dAll rowD fs)) := pe_imp (pe_lst h) fun σ H Q h => by
  obtain ⟨F, ρ, s, w, pu, p⟩ := h
  refine ⟨F, ρ, s, w, pu, p.bnd.imp (fun ds s1 F1 H1 w1 st1 p1 vs rvs => ?_) fun _ _ _ _ _ _ z => z⟩
  obtain ⟨d, ed, k⟩ := p1.lift
  obtain ⟨hz, rfl⟩ := rowD_some ed
  refine ⟨by rw [rvs.length]; exact hz, fun q hq => ?_⟩
  obtain ⟨h1, h2, h3⟩ := fre_row w1 st1 hq hz rvs
  exact k F1 _ h1 (Stp.newH _ hq) _ h3
theorem df_dict0 : PE X (.Dict [] [] pos) (tDF R W O (dC (.tab []))) := pe_imp pe_dnewK fun σ H Q h => by
  obtain ⟨F, ρ, s, w, pu, p⟩ := h
  intro q hq
  obtain ⟨h1, h2, h3⟩ := fre_tab (ds := []) (vs := []) w Stp.refl hq (Nat.zero_le _) rfl
  exact p F _ h1 h2 _ h3
theorem df_if {t : Expr} (hc : PT X t (tDT R W O c)) (ha : PE X a (tDF R W O f)) (hb : PE X b (tDF R W O g)) : PE X (.IfExp t a b pos) (tDF R W O (dIf c f g)) := pe_imp (pe_ifExp hc ha hb) fun σ H Q h => by
  obtain ⟨F, ρ, s, w, pu, p⟩ := h
  refine ⟨F, ρ, s, w, pu, p.bnd.imp (fun k s1 F1 H1 w1 st1 p1 => ?_) fun _ _ _ _ _ _ z => z⟩
  have go : ∀ m : M R.S D, Post R F1 H1 (m s1) (fun d x F' H' => ∀ v, Fre R H F' H' d v → Q v H') (fun x _ F' H' => ∀ cls dd, RepX R.K R.nm F' x cls dd → W cls dd σ H') → Post R F1 H1 (m s1) (fun d x F' H' => ∀ v, Fre R H1 F' H' d v → Q v H') (fun x _ F' H' => ∀ cls dd, RepX R.K R.nm F' x cls dd → W cls dd σ H') :=
    fun m q => q.imp (fun d s2 F2 H2 w2 st2 q v fv => q v (fv.base st1.th)) fun _ _ _ _ _ _ z => z
  cases k with
  | true => rw [if_pos rfl] at p1; exact iteT ⟨F1, ρ, s1, w1, pu.mono st1.fs, go _ p1⟩
  | false => rw [if_neg Bool.false_ne_true] at p1; exact iteF ⟨F1, ρ, s1, w1, pu.mono st1.fs, go _ p1⟩
/-! displays -/
def flatP : List (V × V) → List V
  | [] => []
  | p :: r => p.1 :: p.2 :: flatP r
def DPs (X : Cx) (R : Reg) (W : WX) (O : List Nat) (pos : Pos) (keys : List (Option Expr)) (values : List Expr) (fs : Sl → M R.S (List D)) : Prop :=
  ∃ trs, PPs X pos keys values trs ∧ ∀ σ H Q, tDA R W O fs σ H (fun vs H' => ∀ ps, flatP ps = vs → Q ps H') → tPairs trs σ H Q
theorem dps_nil : DPs X R W O pos [] [] dNil := ⟨[], pps_nil, fun σ H Q h => by
  obtain ⟨F, ρ, s, w, pu, p⟩ := h
  exact p F H w Stp.refl [] rfl [] rfl⟩
theorem dps_cons {ks : List (Option Expr)} {vs : List Expr} (ha : PE X a (tD R W O f)) (hb : PE X b (tD R W O g)) (hr : DPs X R W O pos ks vs fs) : DPs X R W O pos (some a :: ks) (b :: vs) (dCons f (dCons g fs)) := by
  obtain ⟨trs, h1, h2⟩ := hr
  refine ⟨_, pps_cons ha hb h1, fun σ H Q h => ?_⟩
  obtain ⟨F, ρ, s, w, pu, p⟩ := h
  refine ⟨F, ρ, s, w, pu, p.bnd.imp (fun d s1 F1 H1 w1 st1 p1 v rv => ?_) fun _ _ _ _ _ _ z => z⟩
  have p2 := p1.bnd.bnd
  refine ⟨F1, ρ, s1, w1, pu.mono st1.fs, p2.imp (fun e s2 F2 H2 w2 st2 p3 u ru => ?_) fun _ _ _ _ _ _ z => z⟩
  refine h2 σ H2 _ ⟨F2, ρ, s2, w2, (pu.mono st1.fs).mono st2.fs, p3.bnd.imp (fun ds s3 F3 H3 w3 st3 p4 ws rws ps ep => ?_) fun _ _ _ _ _ _ z => z⟩
  have p5 := p4 F3 H3 w3 Stp.refl
  have p6 := p5 F3 H3 w3 Stp.refl
  exact p6 (v :: u :: ws) ⟨v, u :: ws, rfl, (rv.mono st2.fs).mono st3.fs, u, ws, rfl, ru.mono st3.fs, rws⟩ ((v, u) :: ps) (by show v :: u :: flatP ps = _; rw [ep])
theorem pairs_rep : ∀ {ds : List D} {ps : List (V × V)} {kvs : List (Key × D)} {F : Hp}, Reps R.K R.nm F ds (flatP ps) → pairsD ds = some kvs → ∃ ws : List (Key × V), ps = ws.map (fun kv => (kV kv.1, kv.2)) ∧ RepsK R.K R.nm F kvs ws
  | [], ps, kvs, F, r, e => by
    cases e
    cases ps with
    | nil => exact ⟨[], rfl, rfl⟩
    | cons p ps => cases (show flatP (p :: ps) = [] from r)
  | [d], ps, kvs, F, r, e => by cases e
  | k :: v :: ds, ps, kvs, F, r, e => by
    obtain ⟨kk, e1, e⟩ := bind_some (show (keyD k).bind (fun k => (pairsD ds).map fun l => (k, v) :: l) = some kvs from e)
    obtain ⟨l, e2, rfl⟩ := map_some e
    cases ps with
    | nil => obtain ⟨_, _, z, _⟩ := r; cases z
    | cons p ps =>
      obtain ⟨x, xs, z, rx, y, ys, z2, ry, r2⟩ := r
      cases z
      cases z2
      obtain ⟨h1, h2⟩ := keyD_ok rx e1
      obtain ⟨ws, h3, h4⟩ := pairs_rep r2 e2
      refine ⟨(kk, p.2) :: ws, ?_, p.2, ws, rfl, h2, ry, h4⟩
      rw [List.map_cons, ← h3, ← h1]
theorem df_disp {keys : List (Option Expr)} {values : List Expr} (h : DPs X R W O pos keys values fs) (hall : keys.all (·.isSome) = true) (hl : keys.length = values.length) (h0 : keys ≠ []) (h15 : keys.length ≤ 15) (hds : ∀ r s ds s', fs r s = .ok ds s' → ds.length ≤ 30) :
    PE X (.Dict keys values pos) (tDF R W O (dAll dispD fs)) := by
  obtain ⟨trs, h1, h2⟩ := h
  refine pe_imp (pe_disp h1 hall hl h0 h15) fun σ H Q h => ?_
  obtain ⟨F, ρ, s, w, pu, p⟩ := h
  intro q hq
  have st0 : Stp R F H F (upd H q (.dK [])) := Stp.newH _ hq
  have w0 : Wd R F (upd H q (.dK [])) s := w.newH _ hq
  have nm := w.notMu hq
  have fq := w.free hq
  have key : Post R F (upd H q (.dK [])) (fs ρ s) (fun vs s1 F' H' => ∀ us, Reps R.K R.nm F' vs us → ∀ ps, flatP ps = us → H' q = some (.dK []) ∧ ∃ kvs : List (Key × V), ps = kvs.map (fun kv => (kV kv.1, kv.2)) ∧ kvs.length ≤ 15 ∧ Q (.ref q) (upd H' q (.dK (mergeK [] kvs)))) (fun x _ F' H' => ∀ cls dd, RepX R.K R.nm F' x cls dd → W cls dd σ H') := by
    have p1 := p.bnd0
    cases ef : fs ρ s with
    | bot => rw [ef] at p1; exact p1.elim
    | exc x s1 => rw [ef] at p1; exact fun F' H' w' st' => p1 F' H' w' (st0.trans st')
    | ok ds s1 =>
      rw [ef] at p1
      intro F' H' w' st' us rus ps eps
      subst eps
      obtain ⟨d', ed, k⟩ := (p1 F' H' w' (st0.trans st')).lift
      obtain ⟨kvs, ek, rfl⟩ := map_some ed
      obtain ⟨ws, ew, rk⟩ := pairs_rep rus ek
      have hq' : H' q = some (.dK []) := st'.own nm fq upd_same
      have fq' : F' q = none := st'.freeF fq (by rw [upd_same]; exact fun z => nomatch z)
      have hlen : ds.length ≤ 30 := hds ρ s ds s1 ef
      have hkl : 2 * kvs.length = ds.length := by
        have go : ∀ {ds : List D} {kvs : List (Key × D)}, pairsD ds = some kvs → 2 * kvs.length = ds.length := by
          intro ds
          induction ds using pairsD.induct with
          | case1 => intro kvs e; cases e; rfl
          | case2 k v r ih =>
            intro kvs e
            obtain ⟨kk, e1, e⟩ := bind_some (show (keyD k).bind (fun k => (pairsD r).map fun l => (k, v) :: l) = some kvs from e)
            obtain ⟨l, e2, rfl⟩ := map_some e
            have := ih e2
            rw [List.length_cons, List.length_cons, List.length_cons]; omega
          | case3 t h1 h2 =>
            intro kvs e
            unfold pairsD at e
            split at e
            · exact absurd rfl h1
            · exact absurd rfl (h2 _ _ _)
            · cases e
        exact go ek
      have hws : ws.length = kvs.length := rk.length
      refine ⟨hq', ws, ew, by omega, ?_⟩
      refine k F' _ (w'.ownW fq' nm _) ((st0.trans st').ownW hq _) _ ⟨q, rfl, hq, fq', nm, _, upd_same, ?_, RepsK.merge (ws := []) (kvs := []) rfl rk⟩
      have := mergeD_length kvs []
      rw [List.length_nil] at this
      rw [sizeLine_eq]; omega
  exact h2 σ _ _ ⟨F, ρ, s, w0, pu, key⟩
end
end Nw
set_option Elab.async false
set_option linter.all false
set_option maxRecDepth 100000
set_option maxHeartbeats 4000000
/-! Part W: statements over a def's own things. -/
namespace Nw
open PySem PySem.Spec L2
section
variable {X : Cx} {R : Reg} {W : WX} {O : List Nat}
theorem sat_lcF {it : Sl → M R.S (List D)} {g : TG} {vs : List Nat} {tgt : D → Sl → Option Sl} {t : Sl → M R.S Bool} {f : Sl → M R.S D} (hg : TgSat R g vs tgt) (σ : L2.St) (H : Hp) (Q : VK) (h : tDF R W O (dLc it tgt t f) σ H Q) :
    tLc (tDI R W O it) g (tDT R W0 O t) (tD R W0 O f) vs σ H Q := by
  obtain ⟨F, ρ, s, w, pu, p⟩ := h
  refine ⟨F, ρ, s, w, pu, p.bnd.imp (fun ds s1 F1 H1 w1 st1 p1 J wk Dn hD => ?_) fun _ _ _ _ _ _ z => z⟩
  have pu1 := pu.mono st1.fs
  have nMu : ¬ R.Mu Dn := w1.notMu hD
  have fD : F1 Dn = none := w1.free hD
  refine ⟨fun i m Hc => m = ds.length - i ∧ i ≤ ds.length ∧ ∃ Fc sc acc ws, Wd R Fc Hc sc ∧ Stp R F1 H1 Fc Hc ∧ Hc Dn = some (.lst ws) ∧ Fc Dn = none ∧ Reps R.K R.nm Fc acc ws ∧ acc.length ≤ i ∧
    Post R F1 H1 (lcA tgt t f ρ acc (ds.drop i) sc) (fun d _ F' H' => ∀ v, Fre R H F' H' d v → Q v H') (fun x _ F' H' => ∀ cls dd, RepX R.K R.nm F' x cls dd → W cls dd σ H'),
    ⟨_, rfl, Nat.zero_le _, F1, s1, [], [], w1.newH _ hD, Stp.newH _ hD, upd_same, fD, rfl, Nat.le_refl _, p1⟩, ?_⟩
  rintro i m Hc ⟨rfl, hi, Fc, sc, acc, ws, wc, stc, hDc, fDc, rc, hacc, pc⟩
  by_cases hlt : i < ds.length
  · refine .inr ⟨wk.go i Fc Hc (stc.kp wc.sub w1) hlt, fun Hn => (ds.length - (i + 1)) = ds.length - (i + 1) ∧ i + 1 ≤ ds.length ∧ ∃ Fc sc acc ws, Wd R Fc Hn sc ∧ Stp R F1 H1 Fc Hn ∧ Hn Dn = some (.lst ws) ∧ Fc Dn = none ∧ Reps R.K R.nm Fc acc ws ∧ acc.length ≤ i + 1 ∧
      Post R F1 H1 (lcA tgt t f ρ acc (ds.drop (i + 1)) sc) (fun d _ F' H' => ∀ v, Fre R H F' H' d v → Q v H') (fun x _ F' H' => ∀ cls dd, RepX R.K R.nm F' x cls dd → W cls dd σ H'),
      fun H' q => ⟨_, by omega, q⟩, fun x H' y => ?_⟩
    obtain ⟨rfl, d, hd, rd⟩ := wk.yld i Fc Hc x H' (stc.kp wc.sub w1) hlt y
    have ed : ds.drop i = d :: ds.drop (i + 1) := by
      rw [List.drop_eq_getElem_cons hlt]
      rw [List.getElem?_eq_getElem hlt] at hd
      cases hd
      rfl
    rw [ed] at pc
    obtain ⟨r', er, pc⟩ := pc.lift0
    refine hg x d (wipe σ vs) ρ r' Fc H' _ wc.sub rd (by rw [wipe_length]; exact pu.len) er fun σ2 sa => ⟨wipe_eq (by rw [sa.len, wipe_length]) fun j hj => (sa.off j hj).1, ?_⟩
    have pu2 : Pu R O Fc σ2 r' := ⟨by rw [sa.lenr, sa.len, wipe_length]; exact pu.len, fun j d' hj e => by
      by_cases hv : j ∈ vs
      · exact sa.on j d' hv e
      · obtain ⟨e1, e2⟩ := sa.off j hv
        rw [e2] at e
        obtain ⟨v, h1, h2⟩ := (pu1.mono stc.fs).at_ j d' hj e
        exact ⟨v, by rw [e1, wipe_out hv]; exact h1, h2⟩⟩
    refine ⟨Fc, r', sc, wc, pu2, ((post_nox pc.bnd0).from stc).imp (fun b s3 F3 H3 w3 st3 p3 => ?_) fun _ _ _ _ _ _ z => z⟩
    have hD3 : H3 Dn = some (.lst ws) := st3.own nMu fDc hDc
    have fD3 : F3 Dn = none := st3.freeF fDc (by rw [hDc]; exact fun z => nomatch z)
    cases b with
    | false =>
      rw [if_neg Bool.false_ne_true] at p3
      refine iteF ?_
      exact ⟨rfl, hlt, F3, s3, acc, ws, w3, stc.trans st3, hD3, fD3, rc.mono st3.fs, by omega, p3⟩
    | true =>
      rw [if_pos rfl] at p3
      refine iteT ?_
      refine ⟨F3, r', s3, w3, pu2.mono st3.fs, ((post_nox p3.bnd0).from (stc.trans st3)).imp (fun y' s4 F4 H4 w4 st4 p4 u ru => ?_) fun _ _ _ _ _ _ z => z⟩
      have hD4 : H4 Dn = some (.lst ws) := st4.own nMu fD3 hD3
      have fD4 : F4 Dn = none := st4.freeF fD3 (by rw [hD3]; exact fun z => nomatch z)
      have hz := wk.hz
      refine ⟨ws, hD4, by rw [rc.length]; omega, rfl, hlt, F4, s4, acc ++ [y'], ws ++ [u], w4.ownW fD4 nMu _, ((stc.trans st3).trans st4).ownW hD _, upd_same, fD4, ((rc.mono st3.fs).mono st4.fs).append ⟨u, [], rfl, ru, rfl⟩, by rw [List.length_append, List.length_singleton]; omega, p4⟩
  · have ei : i = ds.length := by omega
    subst ei
    refine .inl ⟨wk.stop Fc Hc (stc.kp wc.sub w1), ?_⟩
    rw [List.drop_length] at pc
    have hz := wk.hz
    exact pc Fc Hc wc stc (.ref Dn) ⟨Dn, rfl, st1.th Dn hD, fDc, nMu, ws, hDc, by omega, rc⟩
end
section
variable {S : Type}
/-- a new thing into a slot -/
def sAsgO (i : Nat) (f : Sl → M S D) : Sl → Mo S := fun r => liftX (f r) r fun d s => if isRT d = true then some (.next (r.set i (some d)), s) else none
/-- x.append(v), ..; x[k] = v -/
def putK2 (i : Nat) (r : Sl) (o : Option D) : Mo S := fun s => match o with
  | some x' => some (.next (r.set i (some x')), s)
  | none => none
def ownIs (T : String) : D → Option Unit
  | .row _ => if T = "list" then some () else none
  | .tab _ => if T = "dict" then some () else none
  | _ => none
def sOwn1 (T : String) (i : Nat) (op : D → D → Option D) (f : Sl → M S D) : Sl → Mo S := fun r => optK ((getS r i).bind fun x => (ownIs T x).map fun _ => x) fun x => liftX (f r) r fun d => putK2 i r (op x d)
def sOwn2 (i : Nat) (op : D → D → D → Option D) (fk fv : Sl → M S D) : Sl → Mo S := fun r => liftX (fv r) r fun v => optK (getS r i) fun x => liftX (fk r) r fun k => putK2 i r (op x k v)
def sRetO (i : Nat) : Sl → Mo S := fun r s => match getS r i with
  | some d => some (.rt d, s)
  | none => none
def DLen (fs : Sl → M S (List D)) (n : Nat) : Prop := ∀ r s ds s', fs r s = .ok ds s' → ds.length = n
theorem dlen_nil : DLen (dNil : Sl → M S (List D)) 0 := fun r s ds s' e => by cases e; rfl
theorem dlen_cons {f : Sl → M S D} {fs : Sl → M S (List D)} {n : Nat} (h : DLen fs n) : DLen (dCons f fs) (n + 1) := fun r s ds s' e => by
  have e : bnd (f r) (fun x => bnd (fs r) fun xs => ret (x :: xs)) s = Res.ok ds s' := e
  cases e1 : f r s with
  | bot => rw [bnd_bot e1] at e; cases e
  | exc x s1 => rw [bnd_exc e1] at e; cases e
  | ok a s1 =>
    rw [bnd_ok e1] at e
    cases e2 : fs r s1 with
    | bot => rw [bnd_bot e2] at e; cases e
    | exc x s2 => rw [bnd_exc e2] at e; cases e
    | ok b s2 =>
      rw [bnd_ok e2] at e
      have e3 : Res.ok (a :: b) s2 = Res.ok ds s' := e
      injection e3 with e4 e5
      rw [← e4, List.length_cons, h r s1 b s2 e2]
end
def appD : D → D → Option D
  | .row xs, d => if xs.length < sizeLine then some (.row (xs ++ [d])) else none
  | _, _ => none
def extD : D → D → Option D
  | .row xs, .row ys => if xs.length + ys.length ≤ sizeLine then some (.row (xs ++ ys)) else none
  | _, _ => none
def setD : D → D → D → Option D
  | .tab kvs, k, v => (keyD k).bind fun k => if kvs.length < sizeLine then some (.tab (putD kvs k v)) else none
  | .row xs, .int k, v => (ixN xs.length k).map fun j => .row (xs.set j v)
  | _, _, _ => none
section
variable {X : Cx} {R : Reg} {W : WX} {fr : FrK} {O O' B : List Nat} {a b e o tg iter : Expr} {es : List Expr} {f g fk fv : Sl → M R.S D} {c : Sl → M R.S Bool} {fs : Sl → M R.S (List D)} {pos p apos cpos npos : Pos} {n i : Nat} {x : Str}
  {F0 H0 F H F' H' : Hp} {σ : L2.St} {r : Sl} {s : R.S} {E : Ends}
theorem Slots.setO {d : D} {q : Addr} (h : Slots R H0 O F H σ r) (hi : i ∈ O') (h1 : ∀ j ∈ O', j = i ∨ j ∈ O) (h2 : ∀ j ∈ O, j ≠ i → j ∈ O') (hq : OwnAt R H0 F H q d) (sep : ∀ j d' a, j ∈ O → j ≠ i → isRT d' = true → r[j]? = some (some d') → σ[j]? = some (some (.ref a)) → a ≠ q) : Slots R H0 O' F H (σ.set i (some (.ref q))) (r.set i (some d)) where
  pu := ⟨by rw [List.length_set, List.length_set]; exact h.pu.len, fun j d' hj e => by
    have ne : i ≠ j := fun z => hj (by rw [← z]; exact hi)
    rw [List.getElem?_set_ne ne] at e ⊢
    exact h.pu.at_ j d' (fun z => hj (h2 j z (fun w => ne w.symm))) e⟩
  ow := fun j d' hj hrt e => by
    by_cases ej : i = j
    · subst ej
      by_cases hl : i < r.length
      · rw [List.getElem?_set_self hl] at e
        cases e
        exact ⟨q, List.getElem?_set_self (by rw [← h.pu.len]; exact hl), hq⟩
      · rw [List.getElem?_eq_none (by rw [List.length_set]; omega)] at e; cases e
    · rw [List.getElem?_set_ne ej] at e ⊢
      exact h.ow j d' ((h1 j hj).resolve_left fun z => ej z.symm) hrt e
  ns := fun j d' hj hrt e => by
    by_cases ej : i = j
    · subst ej
      by_cases hl : i < r.length
      · rw [List.getElem?_set_self hl] at e
        cases e
        rw [hq.rt] at hrt; cases hrt
      · rw [List.getElem?_eq_none (by rw [List.length_set]; omega)] at e; cases e
    · rw [List.getElem?_set_ne ej] at e ⊢
      exact h.ns j d' ((h1 j hj).resolve_left fun z => ej z.symm) hrt e
  sep := fun j k ad d1 d2 hj hk hr1 hr2 e1 e2 e3 e4 => by
    by_cases ej : i = j
    · by_cases ek : i = k
      · exact ej.symm.trans ek
      · subst ej
        rw [List.getElem?_set_ne ek] at e2 e4
        have hkO := (h1 k hk).resolve_left fun z => ek z.symm
        have hil : i < σ.length := by
          by_cases hl : i < σ.length
          · exact hl
          · rw [List.getElem?_eq_none (by rw [List.length_set]; omega)] at e3; cases e3
        rw [List.getElem?_set_self hil] at e3
        cases e3
        exact absurd rfl (sep k d2 _ hkO (fun z => ek z.symm) hr2 e2 e4)
    · by_cases ek : i = k
      · subst ek
        rw [List.getElem?_set_ne ej] at e1 e3
        have hjO := (h1 j hj).resolve_left fun z => ej z.symm
        have hil : i < σ.length := by
          by_cases hl : i < σ.length
          · exact hl
          · rw [List.getElem?_eq_none (by rw [List.length_set]; omega)] at e4; cases e4
        rw [List.getElem?_set_self hil] at e4
        cases e4
        exact absurd rfl (sep j d1 _ hjO (fun z => ej z.symm) hr1 e1 e3)
      · rw [List.getElem?_set_ne ej] at e1 e3
        rw [List.getElem?_set_ne ek] at e2 e4
        exact h.sep j k ad d1 d2 ((h1 j hj).resolve_left fun z => ej z.symm) ((h1 k hk).resolve_left fun z => ek z.symm) hr1 hr2 e1 e2 e3 e4
theorem Slots.fre {d : D} (sl : Slots R H0 O F H σ r) (hO : i ∈ O) (e : r[i]? = some (some d)) : ∃ v, σ[i]? = some (some v) ∧ Fre R H0 F H d v := by
  cases hrt : isRT d with
  | true =>
    obtain ⟨ad, h1, h2⟩ := sl.ow i d hO hrt e
    refine ⟨_, h1, ?_⟩
    cases d with
    | row ds => exact ⟨ad, rfl, h2⟩
    | tab ds => exact ⟨ad, rfl, h2⟩
    | _ => exact h2.2.2.2.elim
  | false =>
    obtain ⟨v, h1, h2⟩ := sl.ns i d hO hrt e
    refine ⟨v, h1, ?_⟩
    cases d with
    | row ds => cases hrt
    | tab ds => cases hrt
    | _ => exact h2
theorem Fre.step {d : D} {v : V} (h : Fre R H0 F H d v) (st : Stp R F H F' H') : Fre R H0 F' H' d v := by
  cases d with
  | row ds => obtain ⟨a, e, h⟩ := h; exact ⟨a, e, h.step st⟩
  | tab ds => obtain ⟨a, e, h⟩ := h; exact ⟨a, e, h.step st⟩
  | _ => exact Rep.mono st.fs h
theorem Fre.own {d : D} {v : V} (h : Fre R H0 F H d v) (hr : isRT d = true) : ∃ q, v = .ref q ∧ OwnAt R H0 F H q d := by
  cases d with
  | row ds => exact h
  | tab ds => exact h
  | _ => cases hr
/-- name = a new thing -/
theorem ds_setO (i : Nat) {pos' : Pos} (hN : X.N.Nodup) (hi : X.N[i]? = some x) (hx : Loc X.env.scope x) (he : PE X e (tDF R W O f)) (hO : i ∈ O') (h1 : ∀ j ∈ O', j = i ∨ j ∈ O) (h2 : ∀ j ∈ O, j ≠ i → j ∈ O') (hs : swapsWith e (some (.Name x pos')) pos.line X.env = pure false := by rfl) (hf : X.fn x = true ∨ X.env.scope.names.lookup x = some .local := by first | exact .inl rfl | exact .inr rfl | assumption) :
    PS X (.Assign [.Name x pos'] e pos) (tDS R W fr B O O' (sAsgO i f)) := ps_imp (ps_set hN hi hx he hs hf) fun E σ H h => by
  obtain ⟨F0, H0, F, r, s, w, st, sl, p⟩ := h
  refine ⟨F, r, s, w, sl.pu, (postS_x w st sl p).imp (fun d s1 F1 H1 w1 st1 q v fv => ?_) fun _ _ _ _ _ _ z => z⟩
  obtain ⟨w2, st2, sl2, p2⟩ := q
  cases er : isRT d with
  | false => rw [er, if_neg Bool.false_ne_true] at p2; exact p2.elim
  | true =>
    rw [er, if_pos rfl] at p2
    obtain ⟨q, rfl, hq⟩ := fv.own er
    have hqq : OwnAt R H0 F1 H1 q d := ⟨st.th q hq.1, hq.2⟩
    refine p2 _ F1 H1 w2 st2 (sl2.setO hO h1 h2 hqq fun j d' ad hj ne hrt e1 e2 ea => ?_)
    subst ea
    obtain ⟨ad', e3, h4⟩ := sl.ow j d' hj hrt e1
    rw [e2] at e3
    cases e3
    obtain ⟨o, ho⟩ := h4.there
    rw [hq.1] at ho
    cases ho
/-- return of a new thing -/
theorem ds_retF (he : PE X e (tDF R W O f)) : PS X (.Return (some e) pos) (tDS R W .t B O O' (sRet f)) := ps_imp (ps_ret he) fun E σ H h => by
  obtain ⟨F0, H0, F, r, s, w, st, sl, p⟩ := h
  exact ⟨F, r, s, w, sl.pu, (postS_x w st sl p).imp (fun d s1 F1 H1 w1 st1 q v fv => q.2.2.2 v F1 H1 q.1 q.2.1 (show Fre R H0 F1 H1 d v from fv.base st.th)) fun _ _ _ _ _ _ z => z⟩
/-- return of an own thing -/
theorem ds_retO (i : Nat) (hO : i ∈ O) (hN : X.N[i]? = some x) (hv : Vis X.env.scope x) (hd : (x == ("__debug__" : Str)) = false := by decide) (hcd : (x == ("__classdict__" : Str)) = false := by decide) : PS X (.Return (some (.Name x npos)) pos) (tDS R W .t B O O' (sRetO i)) := ps_imp (ps_ret (pe_var hN hv hd hcd)) fun E σ H h => by
  obtain ⟨F0, H0, F, r, s, w, st, sl, p⟩ := h
  unfold sRetO at p
  cases eg : getS r i with
  | none => rw [eg] at p; exact p.elim
  | some d =>
    rw [eg] at p
    obtain ⟨v, h1, h2⟩ := sl.fre hO (getS_some eg)
    exact ⟨_, h1, p _ F H w st h2⟩
/-- an own thing changed -/
theorem own_write {d d' : D} {ad : Addr} {o : HO} (w : Wd R F H s) (st : Stp R F0 H0 F H) (sl : Slots R H0 O F H σ r) (hO : i ∈ O) (er : r[i]? = some (some d)) (es : σ[i]? = some (some (.ref ad))) (ow : OwnAt R H0 F H ad d)
    (hn : match d' with | .row ds => ∃ vs, o = .lst vs ∧ ds.length ≤ sizeLine ∧ Reps R.K R.nm F ds vs | .tab kvs => ∃ ws, o = .dK ws ∧ kvs.length ≤ sizeLine ∧ RepsK R.K R.nm F kvs ws | _ => False) :
    Wd R F (upd H ad o) s ∧ Stp R F0 H0 F (upd H ad o) ∧ Slots R H0 O F (upd H ad o) σ (r.set i (some d')) := by
  have ow' : OwnAt R H0 F (upd H ad o) ad d' := ⟨ow.1, ow.2.1, ow.2.2.1, by
    cases d' with
    | row ds => obtain ⟨vs, rfl, h1, h2⟩ := hn; exact ⟨vs, upd_same, h1, h2⟩
    | tab ds => obtain ⟨vs, rfl, h1, h2⟩ := hn; exact ⟨vs, upd_same, h1, h2⟩
    | _ => exact hn.elim⟩
  refine ⟨w.ownW ow.2.1 ow.2.2.1 _, st.ownW ow.1 _, ⟨⟨by rw [List.length_set]; exact sl.pu.len, fun j e hj q => ?_⟩, fun j e hj hrt q => ?_, fun j e hj hrt q => ?_, fun j k a d1 d2 hj hk hr1 hr2 e1 e2 e3 e4 => ?_⟩⟩
  · have ne : i ≠ j := fun z => hj (by rw [← z]; exact hO)
    rw [List.getElem?_set_ne ne] at q
    exact sl.pu.at_ j e hj q
  · by_cases ej : i = j
    · subst ej
      rw [List.getElem?_set_self (List.getElem?_eq_some_iff.mp er).1] at q
      cases q
      exact ⟨ad, es, ow'⟩
    · rw [List.getElem?_set_ne ej] at q
      obtain ⟨a', h1, h2⟩ := sl.ow j e hj hrt q
      exact ⟨a', h1, h2.other fun z => ej (sl.sep i j ad d e hO hj ow.rt hrt er q es (by rw [← z]; exact h1))⟩
  · by_cases ej : i = j
    · subst ej
      rw [List.getElem?_set_self (List.getElem?_eq_some_iff.mp er).1] at q
      cases q
      rw [ow'.rt] at hrt; cases hrt
    · rw [List.getElem?_set_ne ej] at q
      exact sl.ns j e hj hrt q
  · have hh : ∀ m dm, isRT dm = true → (r.set i (some d'))[m]? = some (some dm) → ∃ dm', isRT dm' = true ∧ r[m]? = some (some dm') := fun m dm hm q => by
      by_cases em : i = m
      · subst em; exact ⟨d, ow.rt, er⟩
      · rw [List.getElem?_set_ne em] at q; exact ⟨dm, hm, q⟩
    obtain ⟨x1, z1, y1⟩ := hh j d1 hr1 e1
    obtain ⟨x2, z2, y2⟩ := hh k d2 hr2 e2
    exact sl.sep j k a x1 x2 hj hk z1 z2 y1 y2 e3 e4
/-- the slot that is there -/
theorem opt_post {α : Type} {o : Option α} {k : α → Mo R.S} (p : PostS R fr F0 H0 (optK o k s) E W B O') : ∃ a, o = some a ∧ PostS R fr F0 H0 (k a s) E W B O' := by
  cases o with
  | none => exact p.elim
  | some a => exact ⟨a, rfl, p⟩
theorem put_post {o : Option D} (p : PostS R fr F0 H0 (putK2 i r o s) E W B O') : ∃ d, o = some d ∧ PostS R fr F0 H0 (some (.next (r.set i (some d)), s)) E W B O' := by
  cases o with
  | none => exact p.elim
  | some a => exact ⟨a, rfl, p⟩
def setTD (x k v : D) : Option D := match x with
  | .tab kvs => (keyD k).bind fun k => if kvs.length < sizeLine then some (.tab (putD kvs k v)) else none
  | _ => none
def setLD (x k v : D) : Option D := match x, k with
  | .row xs, .int k => (ixN xs.length k).map fun j => .row (xs.set j v)
  | _, _ => none
/-- x[k] = v, x an own table -/
theorem ds_setT (i : Nat) {pos' : Pos} (cx : Cxt X R W n) (hO : i ∈ O) (hN : X.N[i]? = some x) (hv : Vis X.env.scope x) (hk : PE X b (tD R W O fk)) (he : PE X e (tD R W O fv)) (hs : swapsWith e (some (.Subscript (.Name x npos) b pos')) pos.line X.env = pure false := by rfl) (hd : (x == ("__debug__" : Str)) = false := by decide) (hcd : (x == ("__classdict__" : Str)) = false := by decide) :
    PS X (.Assign [.Subscript (.Name x npos) b pos'] e pos) (tDS R W fr B O O (sOwn2 i setTD fk fv)) := ps_imp (ps_dput (by have := cx.hr.units; omega) (pe_var hN hv hd hcd) hk he hs) fun E σ H h => by
  obtain ⟨F0, H0, F, r, s, w, st, sl, p⟩ := h
  refine ⟨F, r, s, w, sl.pu, (postS_x w st sl p).imp (fun v s1 F1 H1 w1 st1 q vv rv => ?_) fun _ _ _ _ _ _ z => z⟩
  obtain ⟨w2, st2, sl2, p2⟩ := q
  obtain ⟨d, eg, p2⟩ := opt_post p2
  obtain ⟨cv, h1, hfre⟩ := sl2.fre hO (getS_some eg)
  refine ⟨_, h1, F1, r, s1, w2, sl2.pu, (postS_x w2 st2 sl2 p2).imp (fun k s3 F3 H3 w3 st3 q kv rk => ?_) fun _ _ _ _ _ _ z => z⟩
  obtain ⟨w4, st4, sl4, p4⟩ := q
  obtain ⟨d', ed, p4⟩ := put_post p4
  cases d with
  | tab kvs =>
    obtain ⟨ad, rfl, h2⟩ := hfre
    have h3 := h2.step st3
    obtain ⟨kk, ek, ed⟩ := bind_some (show (keyD k).bind (fun k => if kvs.length < sizeLine then some (D.tab (putD kvs k v)) else none) = some d' from ed)
    by_cases hz : kvs.length < sizeLine
    · rw [if_pos hz] at ed
      cases ed
      obtain ⟨ws, e1, e2, e3⟩ := h3.2.2.2
      obtain ⟨k1, k2⟩ := keyD_ok rk ek
      refine ⟨ad, upd H3 ad (.dK (putK ws kk vv)), rfl, ?_, ?_⟩
      · rw [k1]; exact DPut.k e1 (by rw [e3.length]; exact hz)
      · obtain ⟨a1, a2, a3⟩ := own_write (o := .dK (putK ws kk vv)) w4 st4 sl4 hO (getS_some eg) h1 h3 (d' := .tab (putD kvs kk v)) ⟨_, rfl, by have := putD_length kvs kk v; omega, e3.put k2 (rv.mono st3.fs)⟩
        exact p4 σ F3 _ a1 a2 a3
    · rw [if_neg hz] at ed; cases ed
  | _ => cases ed
/-- x[k] = v, x an own list -/
theorem ds_setL (i : Nat) {pos' : Pos} (cx : Cxt X R W n) (hO : i ∈ O) (hN : X.N[i]? = some x) (hv : Vis X.env.scope x) (hk : PE X b (tD R W O fk)) (he : PE X e (tD R W O fv)) (hd : (x == ("__debug__" : Str)) = false := by decide) (hcd : (x == ("__classdict__" : Str)) = false := by decide)
    (hset : PG X (.Subscript (.Name x npos) b pos') (gSub (tVar i) (tD R W O fk) rSetL)) (hs : swapsWithSole [.Subscript (.Name x npos) b pos'] e pos.line X.env = pure false := by rfl) (hw : swappedStores [.Subscript (.Name x npos) b pos'] e X.env = pure none := by rfl) :
    PS X (.Assign [.Subscript (.Name x npos) b pos'] e pos) (tDS R W fr B O O (sOwn2 i setLD fk fv)) := ps_imp (ps_asg he hset hs hw) fun E σ H h => by
  obtain ⟨F0, H0, F, r, s, w, st, sl, p⟩ := h
  refine ⟨F, r, s, w, sl.pu, (postS_x w st sl p).imp (fun v s1 F1 H1 w1 st1 q vv rv => ?_) fun _ _ _ _ _ _ z => z⟩
  obtain ⟨w2, st2, sl2, p2⟩ := q
  obtain ⟨d, eg, p2⟩ := opt_post p2
  obtain ⟨cv, h1, hfre⟩ := sl2.fre hO (getS_some eg)
  refine ⟨_, h1, F1, r, s1, w2, sl2.pu, (postS_x w2 st2 sl2 p2).imp (fun k s3 F3 H3 w3 st3 q kv rk => ?_) fun _ _ _ _ _ _ z => z⟩
  obtain ⟨w4, st4, sl4, p4⟩ := q
  obtain ⟨d', ed, p4⟩ := put_post p4
  cases d with
  | row xs =>
    obtain ⟨ad, rfl, h2⟩ := hfre
    have h3 := h2.step st3
    cases k with
    | int k =>
      obtain ⟨j, ej, rfl⟩ := map_some (show (ixN xs.length k).map (fun j => D.row (xs.set j v)) = some d' from ed)
      obtain ⟨ws, e1, e2, e3⟩ := h3.2.2.2
      refine ⟨ad, ws, k, j, rfl, rk, e1, by rw [e3.length]; exact ej, ?_⟩
      have rset : ∀ (j : Nat) {xs : List D} {ws : List V}, Reps R.K R.nm F3 xs ws → Reps R.K R.nm F3 (xs.set j v) (ws.set j vv) := by
        intro j
        induction j with
        | zero =>
          intro xs ws r
          cases xs with
          | nil => rw [show ws = [] from r]; rfl
          | cons y ys => obtain ⟨u, us, rfl, h1, h2⟩ := r; exact ⟨vv, us, rfl, rv.mono st3.fs, h2⟩
        | succ j ih =>
          intro xs ws r
          cases xs with
          | nil => rw [show ws = [] from r]; rfl
          | cons y ys => obtain ⟨u, us, rfl, h1, h2⟩ := r; exact ⟨u, us.set j vv, rfl, h1, ih h2⟩
      obtain ⟨a1, a2, a3⟩ := own_write (o := .lst (ws.set j vv)) w4 st4 sl4 hO (getS_some eg) h1 h3 (d' := .row (xs.set j v)) ⟨_, rfl, by rw [List.length_set]; exact e2, rset j e3⟩
      exact p4 σ F3 _ a1 a2 a3
    | _ => cases ed
  | _ => cases ed
/-- x.append(e), x an own list -/
theorem ds_app (i : Nat) (hO : i ∈ O) (hN : X.N[i]? = some x) (hv : Vis X.env.scope x) (he : PE X e (tD R W O f)) (hd : (x == ("__debug__" : Str)) = false := by decide) (hcd : (x == ("__classdict__" : Str)) = false := by decide)
    (hbase : attributeBase (.Name x npos) "append" X.env (eval (.Name x npos) X.env) = eval (.Name x npos) X.env := by rfl)
    (hfew : ((backTo cpos (starEach [e] X.env)).all (fun x => !x.1) && (backToKw cpos (keywordEach [] X.env)).all (fun x => x.1.isSome)
      && decide (([e] : List Expr).length + ([] : List Keyword).length + (if ([] : List Keyword).isEmpty then 0 else 1) < 30)) = true := by rfl)
    (hline : (apos.endLine == cpos.line) = true := by rfl) (hst : starEach [e] X.env = (false, eval e X.env) :: starEach [] X.env := by rfl) (hplain : (backTo cpos (starEach [] X.env)).any (·.1) = false := by rfl) (hs : swapsWith (.Call (.Attribute (.Name x npos) "append" apos) [e] [] cpos) none pos.line X.env = pure false := by rfl) :
    PS X (.Expr (.Call (.Attribute (.Name x npos) "append" apos) [e] [] cpos) pos) (tDS R W fr B O O (sOwn1 "list" i appD f)) :=
  ps_imp (ps_expr (pe_bm F.plainAttrs_list F.slot_list_append F.type_list_append mt_append (pe_var hN hv hd hcd) (pa_cons he pa_nil hst) hbase hfew hline hst hplain) hs) fun E σ H h => by
  obtain ⟨F0, H0, F, r, s, w, st, sl, p⟩ := h
  obtain ⟨d, eg, p⟩ := opt_post p
  obtain ⟨d0, eg0, e2⟩ := bind_some eg
  obtain ⟨u, eu, e3⟩ := map_some e2
  have e3 : d0 = d := e3
  subst e3
  clear eg e2
  have eg := eg0
  cases d0 with
  | row xs =>
    obtain ⟨ad, h1, h2⟩ := sl.ow i _ hO rfl (getS_some eg)
    obtain ⟨ws0, e10, e20, e30⟩ := h2.2.2.2
    refine ⟨_, h1, .inl ⟨rfl, ws0, SqL.of e10⟩, F, r, s, w, sl.pu, (postS_x w st sl p).imp (fun v s1 F1 H1 w1 st1 q vv rv => ?_) fun _ _ _ _ _ _ z => z⟩
    obtain ⟨w2, st2, sl2, p2⟩ := q
    obtain ⟨d', ed, p4⟩ := put_post p2
    have h3 := h2.step st1
    obtain ⟨ws, e1, e2, e3⟩ := h3.2.2.2
    have ed : (if xs.length < sizeLine then some (D.row (xs ++ [v])) else none) = some d' := ed
    by_cases hz : xs.length < sizeLine
    · rw [if_pos hz] at ed
      cases ed
      refine ⟨ad, ws, vv, rfl, rfl, e1, by rw [e3.length]; exact hz, ?_⟩
      obtain ⟨a1, a2, a3⟩ := own_write (o := .lst (ws ++ [vv])) w2 st2 sl2 hO (getS_some eg) h1 h3 (d' := .row (xs ++ [v])) ⟨_, rfl, by rw [List.length_append, List.length_singleton]; omega, e3.append ⟨vv, [], rfl, rv, rfl⟩⟩
      exact p4 σ F1 _ a1 a2 a3
    · rw [if_neg hz] at ed; cases ed
  | _ => cases eu
end
end Nw
set_option Elab.async false
set_option linter.all false
set_option maxRecDepth 100000
set_option maxHeartbeats 4000000
/-! Part X: errors. -/
namespace Nw
open PySem PySem.Spec L2
section
variable {X : Cx} {pins : List (Addr × Obj)} {σ : L2.St} {H : Hp} {s : Shared}
/-- an error that was held is a thing from now on -/
theorem inv_track {a : Addr} {oe : Obj} {vs : Array Value} {cls : Value} {d : Option Addr} (I : Inv X pins σ H s) (e : s.heap.get? a = some oe) (hz : Zc cls d oe) (hd : oe.data = .fields vs) (na : H a = none) (nL : a ≠ X.env.locals) (n0 : X.s_0.heap.get? a = none) (np : ∀ p ∈ X.pn ++ pins, p.1 ≠ a) :
    Inv X pins σ (upd H a (ExH cls d a)) s := by
  have ne : ∀ b o, H b = some o → b ≠ a := fun b o q z => by rw [z, na] at q; cases q
  refine ⟨I.ok, I.os, I.bare, ⟨I.base.keep, I.base.slot, fun b o q1 q2 q3 => ?_, I.base.there, fun b xs q => ?_, fun b o u q => ?_, fun b ps q => ?_⟩, I.loc, I.cell, ?_, fun x c q => ?_, fun p hp => ?_, fun b o q => ?_, I.len⟩
  · rw [upd_ne fun z => by rw [z, n0] at q1; cases q1]; exact I.base.free b o q1 q2 q3
  · have q' := I.base.tups b xs q
    rw [upd_ne (ne _ _ q')]; exact q'
  · have q' := I.base.frzs b o u q
    rw [upd_ne (ne _ _ q')]; exact q'
  · obtain ⟨m, q'⟩ := I.base.tbls b ps q
    exact ⟨m, by rw [upd_ne (ne _ _ q')]; exact q'⟩
  · rw [upd_ne fun z => nL z.symm]; exact I.free
  · refine (upd_ne fun z => ?_).trans (I.freeC x c q)
    obtain ⟨v, oc, hc, hc2⟩ := I.cell x c q
    rw [z, e] at hc
    cases hc
    simp [hd] at hc2
  · obtain ⟨p1, p2, p3⟩ := I.pin p hp
    exact ⟨p1, by rw [upd_ne (np p hp)]; exact p2, p3⟩
  · by_cases hb : b = a
    · rw [hb, upd_same] at q
      cases q
      rw [hb]
      exact ⟨⟨oe, e, hz, vs, hd⟩, ⟨oe, e⟩, fun h1 h2 ⟨oe', e1, e2, e3⟩ k => ⟨oe', k _ e1, e2, e3⟩⟩
    · rw [upd_ne hb] at q
      exact (I.hok b o q).stay (fun c v _ q => q) (fun c q => by rw [upd_ne (ne _ _ q)]; exact q) fun c xs q => by rw [upd_ne (ne _ _ q)]; exact q
end
def wAsT (K : PySem.W.Frag) (c : Value) (i : Nat) (ts : Addr → Value → Option Addr → TS) (Wout : WX) (D : Ends) : WX := fun cls d σ H =>
  ∃ b, PySem.W.exmOne K cls c = some b ∧ (b = true → ∀ a, H a = none → ts a cls d { nx := fun σ' H' => D.nx (σ'.set i none) (upd H' a (ExH cls d a)), rt := fun v H' => D.rt v (upd H' a (ExH cls d a)), bk := fun σ' H' => D.bk (σ'.set i none) (upd H' a (ExH cls d a)), ct := fun σ' H' => D.ct (σ'.set i none) (upd H' a (ExH cls d a)) } (σ.set i (some (.ref a))) H) ∧
    (b = false → Wout cls d σ H)
section
open PyProof.Rows
abbrev St := L2.St
variable {X : Cx} {x n : Str} {c : Value} {i : Nat} {body suite : List Stmt} {b₀ : Stmt} {np pos pos' : Pos} {tb : WX → TS} {ts : Addr → Value → Option Addr → TS} {Wout : WX}
theorem ps_try_asT (hex : X.ex = []) (hs : X.stack = X.env :: X.outer) (hf : X.env.frame = some X.env.locals) (hN : X.N.Nodup) (hi : X.N[i]? = some n) (hln : X.env.kindOf n = some .local) (hc : Names X x c) (tk : Takes X Wout)
    (hb : ∀ (W : WX) (pn : List (Addr × Obj)) (xe : Value → Shared → Prop), Takes (X.tr pn xe) W → PassesOwn (model X.prog X.w) X.A X.env xe → PSs (X.tr pn xe) body (tb W))
    (hsu : ∀ (a : Addr) (oe : Obj) (cls : Value) (d : Option Addr) (pn : List (Addr × Obj)), Zc cls d oe → (∃ vs, oe.data = .fields vs) → PSs (X.suite a ((a, oe) :: pn)) (b₀ :: suite) (ts a cls d)) :
    PS X (.Try body [.ExceptHandler (some (.Name x np)) (some n) (b₀ :: suite) pos'] [] [] pos) (fun D σ H => tb (wAsT X.K c i ts Wout D) D σ H) := by
  refine ⟨fun pins s σ H D I h => ?_⟩
  have ok := I.ok
  have hfr : X.A.frames = some (X.env :: X.outer) := by rw [ok.frames, hs]
  have hloc : Loc X.env.scope n := .inl hln
  refine wpAny_Try_except ?_
  refine wpAny_mono ((hb (wAsT X.K c i ts Wout D) (X.pn ++ pins) (fun e s₁ => wpAny (model X.prog X.w) X.A (noteFrame e X.env) (fun _ s₂ => wpAny (model X.prog X.w) X.A (setFlight e none) (fun _ s₃ =>
    wpAny (model X.prog X.w) X.A (handleBy e X.env [.ExceptHandler (some (.Name x np)) (some n) (b₀ :: suite) pos']) (SP X pins D) X.xe s₃) X.xe s₂) X.xe s₁) (fun u s' xx => ?_) PassesOwn.looking).run [] s σ H D (I.toTry _) h) (fun f s1 hsp => ?_) (fun e s1 he => he)
  · -- the catch
    obtain ⟨a, B, sI, pins', σ', H', cls, d, rfl, J', nb, up, sky, na, os, ag, b, hb1, hyes, hno⟩ := xx
    have J : Inv X pins σ' H' sI := J'.ofTry ok
    have sky' : Sky B (X.env :: X.outer) a (Zc cls d) X.env.locals s'.heap := by rw [← hs]; exact sky
    show wpAny (model X.prog X.w) X.A (noteFrame (.ref a) X.env) _ _ _
    refine Sky.land Zc.steady hfr hf sky' fun h3 fl3 up3 => ?_
    have J3 : Inv X pins σ' H' { s' with heap := h3 } := J.landed nb fl3.1 (up.trans up3) os ag
    obtain ⟨oe3, vs3, he3, hz3, hd3⟩ := fl3.there
    have notFr : ∀ {h : Heap} {o : Obj} {vs : Array Value}, h.FunFrames B (X.env :: X.outer) → h.get? a = some o → o.data = .fields vs → a ∉ frs (X.env :: X.outer) := fun {h o vs} ff e dd hm => by
      obtain ⟨_, o', e', hnf⟩ := ff.mem hm
      rw [e] at e'; cases e'
      exact hnf _ dd
    have nfr := notFr fl3.2.2.1 he3 hd3
    have nL : a ≠ X.env.locals := fun z => nfr (List.mem_filterMap.mpr ⟨X.env, List.mem_cons_self, by rw [hf, z]⟩)
    have nF : a ∉ X.fs := fun hm => by
      obtain ⟨e, he, q⟩ := List.mem_filterMap.mp hm
      exact nfr (List.mem_filterMap.mpr ⟨e, List.mem_cons_of_mem _ he, q⟩)
    have S3 := J3.suite he3 hd3 na nL nF
    refine wpAny_handleBy_cons (codeAny_handlers_test ?_) (by intro q; cases q)
    have LT : PySem.W.Looks (model X.prog X.w) h3 (typeOf (.ref a)) cls := fun A Q E s k q => wpAny_typeOf_ref (k _ _ he3) (by rw [hz3.1]; exact q)
    have LM := PySem.W.exm_one (M := model X.prog X.w) (J3.kIn) LT hb1
    have test : ∀ {Q : Value → Shared → Prop} {E : Value → Shared → Prop}, Q c { s' with heap := h3 } → wpAny (model X.prog X.w) (X.A.mark (some (.ref a))) (eval (.Name x np) X.env) Q E { s' with heap := h3 } := fun {Q E} q => by
      obtain ⟨hg, hdbg, hm | ⟨hm, hv, hnn⟩⟩ := hc
      · exact ld_glob (X := X.suite a ((a, oe3) :: (X.pn ++ pins))) S3 hg hm q hdbg
      · exact ld_blt (X := X.suite a ((a, oe3) :: (X.pn ++ pins))) S3 hg hm hv q hnn hdbg
    refine test (LM.here ?_)
    cases b with
    | true =>
      refine codeAny_handlers_suite_as ?_
      refine HandSPX.lands_againZ fl3 fun h4 fl4 up4 => ?_
      have J4 : Inv X pins σ' H' { s' with heap := h4 } := J.landed nb fl4.1 ((up.trans up3).trans up4) os ag
      obtain ⟨oe4, vs4, he4, hz4, hd4⟩ := fl4.there
      have S4 := J4.suite he4 hd4 na nL nF
      refine store_ok (X := X.suite a ((a, oe4) :: (X.pn ++ pins))) (v := .ref a) S4 hN hi hloc rfl (fun s5 S5 => ?_) (.inr hln)
      refine wpAny_mono ((hsu a oe4 cls d (X.pn ++ pins) hz4 ⟨_, hd4⟩).run [] s5 _ H' _ S5 (hyes rfl a na)) (fun f s6 hsp => ?_) (fun _ _ z => False.elim z)
      have n0 : X.s_0.heap.get? a = none := by
        cases q : X.s_0.heap.get? a with
        | none => rfl
        | some o =>
          obtain ⟨o', e'⟩ := J.base.there a o q (by rw [hex]; simp)
          have z := nb a o' e' (by rw [hs]; exact nfr)
          rw [fl4.2.1] at z
          cases z
      have npn : ∀ p ∈ X.pn ++ pins, p.1 ≠ a := fun p hp z => by
        obtain ⟨e', _, _, _, _⟩ := J.pin p hp
        rw [z] at e'
        have z2 := nb a _ e' (by rw [hs]; exact nfr)
        rw [fl4.2.1] at z2
        cases z2
      have end_ : ∀ {σ6 : St} {H6 : Hp} {Q : Shared → Prop}, Inv (X.suite a ((a, oe4) :: (X.pn ++ pins))) [] σ6 H6 s6 → (∀ s7, Inv X pins (σ6.set i none) (upd H6 a (ExH cls d a)) s7 → Q s7) →
          wpAny (model X.prog X.w) X.A (do bindName X.env n .none; unbindBehindTheSuite X.env n pos') (fun _ s7 => Q s7) X.xe s6 := fun {σ6 H6 Q} S6 hq => by
        obtain ⟨p1, p2, p3, p4, p5⟩ := S6.pin (a, oe4) (List.mem_append_left _ List.mem_cons_self)
        have T6 : Inv X pins σ6 (upd H6 a (ExH cls d a)) s6 := inv_track (S6.unsuite ok) p1 hz4 hd4 p2 p3 n0 npn
        exact gone_ok T6 hN hi hln hq
      cases f with
      | next =>
        obtain ⟨σ6, H6, S6, q6⟩ := hsp
        exact end_ S6 fun s7 J7 => ⟨_, _, J7, q6⟩
      | brk =>
        obtain ⟨σ6, H6, S6, q6⟩ := hsp
        exact end_ S6 fun s7 J7 => ⟨_, _, J7, q6⟩
      | cont =>
        obtain ⟨σ6, H6, S6, q6⟩ := hsp
        exact end_ S6 fun s7 J7 => ⟨_, _, J7, q6⟩
      | ret u =>
        obtain ⟨v6, σ6, H6, S6, r6, q6⟩ := hsp
        exact end_ S6 fun s7 J7 => ⟨_, _, _, J7, r6, q6⟩
    | false =>
      show wpAny _ X.A (handleBy (.ref a) X.env []) _ _ _
      refine wpAny_handleBy_nil ?_
      obtain ⟨k1, k2, k3, oe, vs, T, oT, ts', he, hz, hd, h1, hr⟩ := id fl3
      unfold PySem.passOn
      refine wpAny_bind (wpAny_field he hd h1 ?_)
      rw [if_neg (show ¬ ((Value.ref T == Value.none) = true) from by simp)]
      have fin : wpAny (model X.prog X.w) X.A (setFlight (.ref a) X.env.frame) (fun _ s4 => wpAny (model X.prog X.w) X.A (throw (.ref a) : Sem Flow) (SP X pins D) X.xe s4) X.xe { s' with heap := h3 } := by
        rw [hf]
        refine HandSPX.setFlight_upZ fl3 fun h4 hh4 up4 => wpAny_throw (tk _ _ ?_)
        exact ⟨a, B, sI, pins, σ', H', cls, d, rfl, J, nb, (up.trans up3).trans up4, .inr (.inr (by rw [hs]; exact hh4)), na, os, ag, hno rfl⟩
      first
        | exact wpAny_bind (wpAny_pure (wpAny_bind fin))
        | exact wpAny_bind fin
  · cases f with
    | next =>
      obtain ⟨σ', H', J', q⟩ := hsp
      exact wpAny_execs_nil ⟨σ', H', J'.ofTry ok, q⟩
    | brk =>
      obtain ⟨σ', H', J', q⟩ := hsp
      exact ⟨σ', H', J'.ofTry ok, q⟩
    | cont =>
      obtain ⟨σ', H', J', q⟩ := hsp
      exact ⟨σ', H', J'.ofTry ok, q⟩
    | ret u =>
      obtain ⟨v, σ', H', J', r, q⟩ := hsp
      exact ⟨v, σ', H', J'.ofTry ok, r, q⟩
end
end Nw
set_option Elab.async false
set_option linter.all false
set_option maxRecDepth 100000
set_option maxHeartbeats 4000000
/-! Part Y: raise, try, draws, calls with new results. -/
namespace Nw
open PySem PySem.Spec L2
section
variable {S : Type}
def sRaise (c : Cl) : Sl → Mo S := fun r s => some (.thr ⟨c, []⟩ r, s)
/-- try: body / except c' as (slot i): (slot j) = (slot i) -/
def tryK (cs : List Cl) (c' : Cl) (i j : Nat) : Option (Flw × S) → Option (Flw × S)
  | some (.thr x r, s) => if x.c ∈ cs ∧ i < r.length then (if subC x.c c' = true then some (.next (((r.set i none).set j (some (.exc x.c x.fs))).set i none), s) else some (.thr x r, s)) else none
  | some (.next r, s) => some (.next r, s)
  | some (.rt d, s) => some (.rt d, s)
  | some (.brk r, s) => some (.brk r, s)
  | some (.cnt r, s) => some (.cnt r, s)
  | none => none
def sTryH (cs : List Cl) (c' : Cl) (i j : Nat) (f : Sl → Mo S) : Sl → Mo S := fun r s => tryK cs c' i j (f r s)
end
section
variable {X : Cx} {R : Reg} {W : WX} {fr : FrK} {O O' B : List Nat} {a b e o tg iter : Expr} {es : List Expr} {f g : Sl → M R.S D} {fb : Sl → Mo R.S} {fs : Sl → M R.S (List D)} {pos p apos cpos npos np pos' : Pos} {n i j : Nat} {x y z : Str} {body : List Stmt}
theorem ds_raise {m : Str} {jj : Nat} {p2 : Pos} {md : Bool} (cx : Cxt X R W n) (tk : TkM md X W) {c : Cl} (hx : c.name = x) (q : PySem.W.excIn X.K (eA X.K c) He.veBase "ValueError.__new__" = true) (gC : X.mg x = some (.ref (eA X.K c))) (kC : PySem.W.keepIn X.K (.ref (eA X.K c)) = true) (xc : XC X.K c) (hg : Gl X x) (hdb : (x == ("__debug__" : Str)) = false := by decide) :
    PS X (.Raise (some (.Call (.Name x p) [.Constant (.str m) jj p2] [] pos)) none pos') (tDS R W fr B O O' (sRaise c)) :=
  by
  cases md with
  | false =>
    exact ps_imp (ps_raise cx.calm tk (pmk_own PySem.F.excBase_ValueError q gC kC (raises_own xc.sub xc.ty) hg hdb)) fun E σ H h => by
      obtain ⟨F0, H0, F, r, s, w, st, sl, p⟩ := h
      obtain ⟨G, wG, stG, slG, sm, _⟩ := sl.all w st
      exact p σ G H _ _ wG stG slG ⟨by rw [cx.hK], .inl ⟨rfl, rfl⟩⟩
  | true =>
    exact ps_imp (L2N.ps_raise cx.calm tk (L2N.pmk_own PySem.F.excBase_ValueError q gC kC (raises_own xc.sub xc.ty) hg hdb)) fun E σ H h => by
      obtain ⟨F0, H0, F, r, s, w, st, sl, p⟩ := h
      obtain ⟨G, wG, stG, slG, sm, _⟩ := sl.all w st
      exact p σ G H _ _ wG stG slG ⟨by rw [cx.hK], .inl ⟨rfl, rfl⟩⟩
theorem Cxt.tr (cx : Cxt X R W n) {pn : List (Addr × Obj)} {xe : Value → Shared → Prop} (W' : WX) : Cxt (X.tr pn xe) R W' n := ⟨cx.hK, cx.hr, cx.nd, cx.calm⟩
theorem set_none_pu {F : Hp} {σ : L2.St} {r : Sl} (h : Pu R O F σ r) (v : Option V) : Pu R O F (σ.set i v) (r.set i none) := ⟨by rw [List.length_set, List.length_set]; exact h.len, fun k d hk e => by
  by_cases ek : i = k
  · subst ek
    by_cases hl : i < r.length
    · rw [List.getElem?_set_self hl] at e; cases e
    · rw [List.getElem?_eq_none (by rw [List.length_set]; omega)] at e; cases e
  · rw [List.getElem?_set_ne ek] at e ⊢
    exact h.at_ k d hk e⟩
theorem set_some_pu {F : Hp} {σ : L2.St} {r : Sl} (h : Pu R O F σ r) {d : D} {v : V} (rv : Rep R.K R.nm F d v) : Pu R O F (σ.set i (some v)) (r.set i (some d)) := ⟨by rw [List.length_set, List.length_set]; exact h.len, fun k d' hk e => by
  by_cases ek : i = k
  · subst ek
    by_cases hl : i < r.length
    · rw [List.getElem?_set_self hl] at e
      cases e
      exact ⟨v, List.getElem?_set_self (by rw [← h.len]; exact hl), rv⟩
    · rw [List.getElem?_eq_none (by rw [List.length_set]; omega)] at e; cases e
  · rw [List.getElem?_set_ne ek] at e ⊢
    exact h.at_ k d' hk e⟩
theorem slots_nil {H0 F H : Hp} {σ : L2.St} {r : Sl} (h : Pu R [] F σ r) : Slots R H0 [] F H σ r := ⟨h, (fun _ _ z => absurd z (by simp)), (fun _ _ z => absurd z (by simp)), fun _ _ _ _ _ z => absurd z (by simp)⟩
/-- try: .. except c' as y: z = y -/
theorem ds_tryH {cs : List Cl} {c' : Cl} {q1 q2 q3 : Pos} (cx : Cxt X R W n) (tk : TkM false X W) (xf : XF X.K cs) (hc' : c' ∈ cs) (hx : c'.name = x) (hex : X.ex = []) (hs : X.stack = X.env :: X.outer) (hf : X.env.frame = some X.env.locals) (hi : X.N[i]? = some y) (hln : X.env.kindOf y = some .local) (hj : X.N[j]? = some z) (hlz : X.env.scope.names.lookup z = some .local)
    (hg : Gl X x) (hm : X.mg x = some (.ref (eA X.K c'))) (hdy : (y == ("__debug__" : Str)) = false) (hcy : (y == ("__classdict__" : Str)) = false) (hsw : swapsWith (.Name y q2) (some (.Name z q1)) q3.line X.env = pure false) (hvy : Vis X.env.scope y)
    (hb : ∀ (W' : WX) (pn : List (Addr × Obj)) (xe : Value → Shared → Prop), Cxt (X.tr pn xe) R W' n → TkM false (X.tr pn xe) W' → PassesOwn (model X.prog X.w) X.A X.env xe → PSs (X.tr pn xe) body (tDS R W' fr B [] [] fb)) (hdb : (x == ("__debug__" : Str)) = false := by decide) :
    PS X (.Try body [.ExceptHandler (some (.Name x np)) (some y) [.Assign [.Name z q1] (.Name y q2) q3] pos'] [] [] pos) (tDS R W fr B [] [] (sTryH cs c' i j fb)) := by
  have suite : ∀ (a : Addr) (oe : Obj) (cls : Value) (d : Option Addr) (pn : List (Addr × Obj)), Zc cls d oe → (∃ vs, oe.data = .fields vs) → PSs (X.suite a ((a, oe) :: pn)) [.Assign [.Name z q1] (.Name y q2) q3] (tAsg (tVar i) (gName j)) := fun a oe cls d pn _ _ =>
    pss_one (ps_set (X := X.suite a ((a, oe) :: pn)) cx.nd hj (.inl hlz) (pe_var hi hvy hdy hcy) hsw (.inr hlz))
  refine ps_imp (ps_try_asT hex hs hf cx.nd hi hln ⟨hg, hdb, .inl hm⟩ tk (tb := fun W' => tDS R W' fr B [] [] fb) (fun W' pn xe tk po => hb W' pn xe (cx.tr W') tk po) suite) fun E σ H h => ?_
  obtain ⟨F0, H0, F, r, s, w, st, sl, p⟩ := h
  refine ⟨F0, H0, F, r, s, w, st, sl, ?_⟩
  unfold sTryH at p
  cases ef : fb r s with
  | none => rw [ef] at p; exact p
  | some q =>
    obtain ⟨fl, s'⟩ := q
    rw [ef] at p
    cases fl with
    | next r' => exact p
    | rt d => exact p
    | brk r' => exact p
    | cnt r' => exact p
    | thr xx r' =>
      have p : PostS R fr F0 H0 (if xx.c ∈ cs ∧ i < r'.length then (if subC xx.c c' = true then some (.next (((r'.set i none).set j (some (.exc xx.c xx.fs))).set i none), s') else some (.thr xx r', s')) else none) E W B [] := p
      by_cases hcs : xx.c ∈ cs ∧ i < r'.length
      · rw [if_pos hcs] at p
        obtain ⟨hcs, hir⟩ := hcs
        intro σ' F' H' cls dd w' st' sl' rx
        have hcls : cls = .ref (eA X.K xx.c) := by rw [rx.1, cx.hK]
        refine ⟨subC xx.c c', by rw [hcls]; exact xf.exm _ hcs _ hc', fun hb2 ad had => ?_, fun hb2 => ?_⟩
        · rw [if_pos hb2] at p
          have st2 : Stp R F' H' (upd F' ad (ExH cls dd ad)) (upd H' ad (ExH cls dd ad)) := Stp.new _ had (w'.free had)
          have w2 : Wd R (upd F' ad (ExH cls dd ad)) (upd H' ad (ExH cls dd ad)) s' := w'.new _ had
          have pu2 := sl'.pu.mono st2.fs
          have rv : Rep R.K R.nm (upd F' ad (ExH cls dd ad)) (.exc xx.c xx.fs) (.ref ad) := by
            obtain ⟨h1, h2⟩ := rx.mono st2.fs
            refine ⟨ad, dd, rfl, by rw [upd_same, h1], ?_⟩
            rcases h2 with ⟨h3, h4⟩ | h2
            · exact .inl ⟨h3, h4⟩
            · exact .inr h2
          have hil : i < σ'.length := by rw [← sl'.pu.len]; exact hir
          refine ⟨.ref ad, List.getElem?_set_self hil, ?_⟩
          exact p _ _ _ w2 (st'.trans st2) (slots_nil (set_none_pu (set_some_pu (set_none_pu pu2 _) rv) _))
        · rw [if_neg (by rw [hb2]; exact Bool.false_ne_true)] at p
          exact p σ' F' H' cls dd w' st' sl' rx
      · rw [if_neg hcs] at p; exact p.elim
/-! ### new results -/
theorem df_lc {elt : Expr} {ifs : List Expr} {scope : Scope} {own : List (Str × Nat)} {it : Sl → M R.S (List D)} {gt : TG} {tgt : D → Sl → Option Sl} {t : Sl → M R.S Bool} (c : Cxt X R W n) (hi : PI X tg iter (tDI R W O it)) (ok : BlkOk X.N X.env.scope scope own) (hgs : TgSat R gt (own.map (·.2)) tgt)
    (hg : ∀ (s : Shared) (H : Hp) (C : Addr) (cl : List (Str × Addr)) (fp : List Addr), PG (X.blk s H scope (compEnvC scope cl C X.env) fp) tg gt)
    (ht : ∀ (s : Shared) (H : Hp) (C : Addr) (cl : List (Str × Addr)) (fp : List Addr), Cxt (X.blk s H scope (compEnvC scope cl C X.env) fp) R W0 n → PTs (X.blk s H scope (compEnvC scope cl C X.env) fp) ifs (tDT R W0 O t))
    (he : ∀ (s : Shared) (H : Hp) (C : Addr) (cl : List (Str × Addr)) (fp : List Addr), Cxt (X.blk s H scope (compEnvC scope cl C X.env) fp) R W0 n → PE (X.blk s H scope (compEnvC scope cl C X.env) fp) elt (tD R W0 O f)) (hs : ∀ x, foldedSetIterable iter X.env x = pure x := by intro _; rfl) :
    PE X (.ListComp elt [⟨tg, iter, ifs, 0⟩] scope pos) (tDF R W O (dLc it tgt t f)) :=
  pe_imp (pe_lc c.calm c.nd hi ok hg (fun s H C cl fp => ht s H C cl fp (c.blk _ _ _ _ _)) (fun s H C cl fp => he s H C cl fp (c.blk _ _ _ _ _)) hs) (sat_lcF hgs)
/-- a def whose result is new -/
def spF (R : Reg) (n : Nat) (g : List D → M R.S D) : Sp := fun vs H Q E => vs.length = n ∧ ∃ F s ds, Wd R F H s ∧ Reps R.K R.nm F ds vs ∧
  Post R F H (g ds s) (fun d _ F' H' => ∀ v, Fre R H F' H' d v → Q v H') (fun x _ F' H' => ∀ cls dd, RepX R.K R.nm F' x cls dd → E cls dd H')
def spPF (K : PySem.W.Frag) (n : Nat) (g : List D → M Unit D) : Sp := fun vs H Q E => ∃ nm, spF (R0 K nm) n g vs H Q E
def spTF (K : PySem.W.Frag) (n : Nat) (g : List D → M Nat D) : Sp := fun vs H Q E => ∃ T, spF (RT K T) n g vs H Q E
theorem spF_of {n : Nat} {g : List D → M R.S D} {vs : List V} {H : Hp} {Q : VK} {E : XK} (h : spD R n g vs H Q E) : spF R n g vs H Q E := by
  obtain ⟨hn, F, s, ds, w, rs, p⟩ := h
  refine ⟨hn, F, s, ds, w, rs, ?_⟩
  cases eg : g ds s with
  | ok d s' =>
    rw [eg] at p
    intro F' H' w' st' v fv
    obtain ⟨G, wG, stG, rG⟩ := fv.give w' st'
    exact p G H' wG stG v rG
  | exc x s' => rw [eg] at p; exact p
  | bot => rw [eg] at p; exact p
theorem fre_0 {nm : Nat → Option Addr} {K : PySem.W.Frag} (hK : R.K = K) (hnm : R.nm = nm) {F H F' H' : Hp} {s : R.S} {d : D} {v : V} (w : Wd R F H s) (h : Fre R H F' H' d v) : Fre (R0 K nm) H F' H' d v := by
  subst hK hnm
  cases d with
  | row ds => obtain ⟨a, e, h1, h2, h3, h4⟩ := h; exact ⟨a, e, h1, h2, fun z => z, h4⟩
  | tab ds => obtain ⟨a, e, h1, h2, h3, h4⟩ := h; exact ⟨a, e, h1, h2, fun z => z, h4⟩
  | _ => exact h
theorem fre_of_0 {F H F' H' : Hp} {s : R.S} {d : D} {v : V} (w : Wd R F H s) (h : Fre (R0 R.K R.nm) H F' H' d v) : Fre R H F' H' d v := by
  cases d with
  | row ds => obtain ⟨a, e, h1, h2, h3, h4⟩ := h; exact ⟨a, e, h1, h2, w.notMu h1, h4⟩
  | tab ds => obtain ⟨a, e, h1, h2, h3, h4⟩ := h; exact ⟨a, e, h1, h2, w.notMu h1, h4⟩
  | _ => exact h
theorem df_callP {md : Bool} {k n : Nat} {g : List D → M Unit D} (c : Cxt X R W k) (tk : TkM md X W) (h : Has md X.prog X.w X.K X.mg X.base k x (spPF X.K n g)) (hg : Gl X x) (ha : PA X (e :: es) (tDA R W O fs)) (hdb : (x == ("__debug__" : Str)) = false := by decide)
    (he : starEach (e :: es) X.env = (false, eval e X.env) :: starEach es X.env := by rfl) (hpl : (backTo pos (starEach es X.env)).any (·.1) = false := by rfl) : PE X (.Call (.Name x p) (e :: es) [] pos) (tDF R W O (dCall n (fun ds => up (g ds)) fs)) := by
  obtain ⟨f, fd, ps, F, hm, hk, hb⟩ := h
  refine pe_imp (pe_callS F c.hr hg hm hk hb (fun σ => passM tk σ) ha hdb he hpl) fun σ H Q h => ?_
  obtain ⟨F, ρ, s, w, pu, p⟩ := h
  refine ⟨F, ρ, s, w, pu, p.bnd.imp (fun ds s1 F1 H1 w1 st1 p1 vs rvs => ?_) fun _ _ _ _ _ _ z => z⟩
  by_cases hn : ds.length = n
  · rw [if_pos hn] at p1
    refine ⟨R.nm, by rw [rvs.length]; exact hn, F1, (), ds, ?_, ?_, ?_⟩
    · rw [← c.hK]; exact wd_0 w1
    · rw [← c.hK]; exact rvs
    · rw [← c.hK]
      have p2 := post_up (k := fun d F' H' => ∀ v, Fre R H F' H' d v → Q v H') (x := fun x F' H' => ∀ cls dd, RepX R.K R.nm F' x cls dd → W cls dd σ H') w1 p1
      exact p2.imp (fun d _ F' H' w' st' q v fv => q v ((fre_of_0 w1 fv).base st1.th)) fun _ _ _ _ _ _ z => z
  · rw [if_neg hn] at p1
    exact False.elim p1
end
/-! ### the law's draws -/
section
variable {X : Cx} {K : PySem.W.Frag} {T : Addr} {W : WX} {fr : FrK} {B O : List Nat} {pos apos cpos npos q1 : Pos} {i jj : Nat} {x : Str} {n : Nat} {p : Pos}
def isTown (r : Sl) (i : Nat) : Bool := match getS r i with
  | some (.obj 0) => true
  | _ => false
def sTown (i : Nat) : Sl → Mo Nat := fun r s => if isTown r i = true ∧ s < sizeLine then some (.next r, s + 1) else none
def dTown (i : Nat) : Sl → M Nat D := fun r s => if isTown r i = true then .ok (.int (s : Nat)) s else .bot
theorem town_at {O : List Nat} {F : Hp} {σ : L2.St} {r : Sl} (hO : i ∉ O) (pu : Pu (RT K T) O F σ r) (h : isTown r i = true) : σ[i]? = some (some (.ref T)) := by
  unfold isTown at h
  split at h
  · rename_i e
    obtain ⟨v, h1, a, h2, h3⟩ := pu.at_ i _ hO (getS_some e)
    have h2 : some T = some a := h2
    cases h2
    rw [h1, h3]
  · cases h
theorem ds_town (i : Nat) (hO : i ∉ O) (hN : X.N[i]? = some x) (hv : Vis X.env.scope x) (hd : (x == ("__debug__" : Str)) = false := by decide) (hcd : (x == ("__classdict__" : Str)) = false := by decide)
    (hbase : attributeBase (.Name x npos) "append" X.env (eval (.Name x npos) X.env) = eval (.Name x npos) X.env := by rfl)
    (hfew : ((backTo cpos (starEach [.Constant (.int 0) jj q1] X.env)).all (fun x => !x.1) && (backToKw cpos (keywordEach [] X.env)).all (fun x => x.1.isSome)
      && decide (([Expr.Constant (.int 0) jj q1] : List Expr).length + ([] : List Keyword).length + (if ([] : List Keyword).isEmpty then 0 else 1) < 30)) = true := by rfl)
    (hline : (apos.endLine == cpos.line) = true := by rfl) (hst : starEach [.Constant (.int 0) jj q1] X.env = (false, eval (.Constant (.int 0) jj q1) X.env) :: starEach [] X.env := by rfl) (hplain : (backTo cpos (starEach [] X.env)).any (·.1) = false := by rfl) (hs : swapsWith (.Call (.Attribute (.Name x npos) "append" apos) [.Constant (.int 0) jj q1] [] cpos) none pos.line X.env = pure false := by rfl) :
    PS X (.Expr (.Call (.Attribute (.Name x npos) "append" apos) [.Constant (.int 0) jj q1] [] cpos) pos) (tDS (RT K T) W fr B O O (sTown i)) :=
  ps_imp (ps_expr (pe_bm F.plainAttrs_list F.slot_list_append F.type_list_append mt_append (pe_var hN hv hd hcd) (pa_cons pe_int pa_nil hst) hbase hfew hline hst hplain) hs) fun E σ H h => by
  obtain ⟨F0, H0, F, r, s, w, st, sl, p⟩ := h
  have p : PostS (RT K T) fr F0 H0 (if isTown r i = true ∧ s < sizeLine then some (.next r, s + 1) else none) E W B O := p
  by_cases hh : isTown r i = true ∧ s < sizeLine
  · rw [if_pos hh] at p
    have h1 := town_at hO sl.pu hh.1
    obtain ⟨hT, hz⟩ := w.si
    refine ⟨_, h1, .inl ⟨rfl, _, SqL.of hT⟩, T, _, .int 0, rfl, rfl, hT, by rw [List.length_replicate]; exact hh.2, ?_⟩
    have nT : ∀ a, ¬ (RT K T).Mu a → a ≠ T := fun a h z => h z
    have fT : F T = none := w.mu T rfl
    refine p σ F _ ⟨fun a o q => ?_, w.mu, ⟨?_, ?_⟩⟩ ⟨st.fs, fun a o m q => ?_, st.nw, fun a q => ?_⟩ ⟨sl.pu, fun k d hk hrt e => ?_, sl.ns, sl.sep⟩
    · rw [upd_ne fun z => by rw [z, fT] at q; cases q]; exact w.sub a o q
    · show upd H T _ T = _
      rw [upd_same, List.replicate_succ']
    · show s + 1 ≤ sizeLine
      exact hh.2
    · rw [upd_ne (nT a m)]; exact st.hs a o m q
    · by_cases e : a = T
      · rw [e, upd_same] at q; cases q
      · rw [upd_ne e] at q; exact st.th a q
    · obtain ⟨a, e1, e2⟩ := sl.ow k d hk hrt e
      exact ⟨a, e1, e2.other (nT a e2.2.2.1)⟩
  · rw [if_neg hh] at p; exact p.elim
theorem de_lenT (i : Nat) (hO : i ∉ O) (hN : X.N[i]? = some x) (hv : Vis X.env.scope x) (hg : Gl X "len") (hm : X.mg "len" = none) (hd : (x == ("__debug__" : Str)) = false := by decide) (hcd : (x == ("__classdict__" : Str)) = false := by decide)
    (he : starEach [.Name x npos] X.env = (false, eval (.Name x npos) X.env) :: starEach [] X.env := by rfl) (hpl : (backTo pos (starEach [] X.env)).any (·.1) = false := by rfl) : PE X (.Call (.Name "len" p) [.Name x npos] [] pos) (tD (RT K T) W O (dTown i)) :=
  pe_imp (pe_callB call_len_seq hg hm (by decide +kernel) (pa_cons (pe_var hN hv hd hcd) pa_nil he) (by decide) (by decide) he hpl) fun σ H Q h => by
  obtain ⟨F, r, s, w, pu, p⟩ := h
  unfold dTown at p
  by_cases hh : isTown r i = true
  · rw [if_pos hh] at p
    obtain ⟨hT, hz⟩ := w.si
    refine ⟨_, town_at hO pu hh, T, _, rfl, .inl (SqL.of hT), ?_⟩
    rw [List.length_replicate]
    exact p F H w Stp.refl _ rfl
  · rw [if_neg hh] at p; exact p.elim
end
end Nw
set_option Elab.async false
set_option linter.all false
set_option maxRecDepth 100000
set_option maxHeartbeats 4000000
/-! Part Z: defs. -/
namespace Nw
open PySem PySem.Spec L2
section
variable {S : Type}
def startD (m : Nat) (ds : List D) : Sl := ds.map some ++ List.replicate (m - ds.length) none
def endK : Option (Flw × S) → Res S D
  | some (.rt d, s) => .ok d s
  | some (.next _, s) => .ok .non s
  | some (.thr x _, s) => .exc x s
  | _ => .bot
/-- what a def with m slots computes -/
def fnD (m : Nat) (g : Sl → Mo S) : List D → M S D := fun ds s => endK (g (startD m ds) s)
end
section
variable {R : Reg} {F H : Hp}
theorem start_pu {N : List Str} {ds : List D} {vs : List V} (rs : Reps R.K R.nm F ds vs) : Pu R [] F (start N vs) (startD N.length ds) := by
  have hl := rs.length
  refine ⟨?_, fun i d _ e => ?_⟩
  · unfold L2.start startD
    rw [List.length_append, List.length_append, List.length_map, List.length_map, List.length_replicate, List.length_replicate, hl]
  · unfold startD at e
    unfold L2.start
    by_cases hi : i < ds.length
    · rw [List.getElem?_append_left (by rw [List.length_map]; exact hi), List.getElem?_map] at e
      rw [List.getElem?_append_left (by rw [List.length_map, hl]; exact hi), List.getElem?_map]
      have e2 : ds[i]? = some d := by
        rw [List.getElem?_eq_getElem hi] at e ⊢
        simpa using e
      obtain ⟨v, h1, h2⟩ := rs.get e2
      exact ⟨v, by rw [h1]; rfl, h2⟩
    · rw [List.getElem?_append_right (by rw [List.length_map]; omega), List.length_map, List.getElem?_replicate] at e
      split at e <;> simp at e
end
section
variable {P : Program} {w : World} {K : PySem.W.Frag} {mg : Str → Option Value} {base : Heap} {x qual : Str} {params : Arguments} {body : List Stmt} {scope : Scope} {kws : List (Str × V)} {f : Addr} {fd : FuncData} {N ps : List Str} {k : Nat} {md : Bool}
abbrev XO (md : Bool) (P : Program) (w : World) (K : PySem.W.Frag) (mg : Str → Option Value) (base : Heap) (N : List Str) (qual : Str) (scope : Scope) (f : Addr) (cdv : Value) (A : Around) (outer : List Env) (s : Shared) (H : Hp) (E : XK) : Cx := cxOf (CXm md P w) P w K mg base N qual scope f cdv A outer s H E
abbrev WO (E : XK) : WX := fun cls d _ H => E cls d H
/-- the body of a def, wherever it is called from -/
def BodyOk (md : Bool) (P : Program) (w : World) (K : PySem.W.Frag) (mg : Str → Option Value) (base : Heap) (N : List Str) (qual : Str) (scope : Scope) (body : List Stmt) (k : Nat) (R : Reg) (fr : FrK) (O' : List Nat) (g : Sl → Mo R.S) : Prop :=
  ∀ (f : Addr) (cdv : Value) (A : Around) (outer : List Env) (s : Shared) (H : Hp) (E : XK), Cxt (XO md P w K mg base N qual scope f cdv A outer s H E) R (WO E) k → TkM md (XO md P w K mg base N qual scope f cdv A outer s H E) (WO E) → PassesOwn (model P w) (XO md P w K mg base N qual scope f cdv A outer s H E).A (XO md P w K mg base N qual scope f cdv A outer s H E).env (XO md P w K mg base N qual scope f cdv A outer s H E).xe →
    PSs (XO md P w K mg base N qual scope f cdv A outer s H E) body (tDS R (WO E) fr [] [] O' g)
theorem body_run {R : Reg} {fr : FrK} {O' : List Nat} {g : Sl → Mo R.S} {vs : List V} {H F : Hp} {s' : R.S} {Q : VK} {E : XK} {ds : List D} (hw : Wd R F H s') (rs : Reps R.K R.nm F ds vs)
    (p : Post R F H (fnD N.length g ds s') (fun d _ F' H' => ∀ v, RetOk fr R H F' H' d v → Q v H') (fun x _ F' H' => ∀ cls dd, RepX R.K R.nm F' x cls dd → E cls dd H')) : tDS R (WO E) fr [] [] O' g { nx := fun _ H' => Q .non H', rt := Q } (start N vs) H := by
  refine ⟨F, H, F, startD N.length ds, s', hw, Stp.refl, slots_nil (start_pu rs), ?_⟩
  unfold fnD at p
  cases e : g (startD N.length ds) s' with
  | none => rw [e] at p; exact p
  | some q =>
    obtain ⟨fl, s2⟩ := q
    rw [e] at p
    cases fl with
    | next r => exact fun σ F' H' w' st' _ => p F' H' w' st' .non (by cases fr <;> first | exact rfl | exact ⟨rfl, trivial⟩)
    | rt d => exact fun v F' H' w' st' rv => p F' H' w' st' v rv
    | brk r => exact p.elim
    | cnt r => exact p.elim
    | thr xx r => exact fun σ F' H' cls dd w' st' _ rx => p F' H' w' st' cls dd rx
theorem takesM {f : Addr} {cdv : Value} {A : Around} {outer : List Env} {s : Shared} {H : Hp} (E : XK) : TkM md (XO md P w K mg base N qual scope f cdv A outer s H E) (WO E) := by
  cases md with
  | true => exact L2N.takes_of rfl rfl rfl rfl
  | false => exact L2.takes_of rfl rfl rfl rfl
theorem fn_run (F : FunD K x qual params body scope [] kws f fd) (S : FnScope N ps scope) {sp : Sp} (len : ∀ vs H Q E, sp vs H Q E → vs.length = ps.length)
    (hb : ∀ vs H Q E, sp vs H Q E → ∃ (R : Reg) (fr : FrK) (O' : List Nat) (g : Sl → Mo R.S), R.K = K ∧ BodyOk md P w K mg base N qual scope body k R fr O' g ∧ tDS R (WO E) fr [] [] O' g { nx := fun _ H' => Q .non H', rt := Q } (start N vs) H) : FnOk P w K mg base (CXm md P w) (k + 1) f fd ps sp := by
  refine F.ok S len fun cdv A outer s H vs Q E hr hsp => ?_
  obtain ⟨R, fr, O', g, hK, hB, ht⟩ := hb vs H Q E hsp
  exact ⟨_, hB f cdv A outer s H E ⟨hK, hr, S.nd, rfl⟩ (takesM E) (passes_of rfl), ht⟩
theorem fn_P (F : FunD K x qual params body scope [] kws f fd) (S : FnScope N ps scope) {O' : List Nat} {g : Sl → Mo Unit} (hb : ∀ nm, BodyOk md P w K mg base N qual scope body k (R0 K nm) .f O' g) : FnOk P w K mg base (CXm md P w) (k + 1) f fd ps (spP K ps.length (fnD N.length g)) :=
  fn_run F S (fun vs H Q E h => by obtain ⟨nm, hn, _⟩ := h; exact hn) fun vs H Q E h => by
    obtain ⟨nm, hn, G, s', ds, hw, rs, p⟩ := h
    exact ⟨R0 K nm, .f, O', g, rfl, hb nm, body_run hw rs p⟩
theorem fn_PF (F : FunD K x qual params body scope [] kws f fd) (S : FnScope N ps scope) {O' : List Nat} {g : Sl → Mo Unit} (hb : ∀ nm, BodyOk md P w K mg base N qual scope body k (R0 K nm) .t O' g) : FnOk P w K mg base (CXm md P w) (k + 1) f fd ps (spPF K ps.length (fnD N.length g)) :=
  fn_run F S (fun vs H Q E h => by obtain ⟨nm, hn, _⟩ := h; exact hn) fun vs H Q E h => by
    obtain ⟨nm, hn, G, s', ds, hw, rs, p⟩ := h
    exact ⟨R0 K nm, .t, O', g, rfl, hb nm, body_run hw rs p⟩
theorem fn_T (F : FunD K x qual params body scope [] kws f fd) (S : FnScope N ps scope) {O' : List Nat} {g : Sl → Mo Nat} (hb : ∀ T, BodyOk md P w K mg base N qual scope body k (RT K T) .f O' g) : FnOk P w K mg base (CXm md P w) (k + 1) f fd ps (spT K ps.length (fnD N.length g)) :=
  fn_run F S (fun vs H Q E h => by obtain ⟨nm, hn, _⟩ := h; exact hn) fun vs H Q E h => by
    obtain ⟨T, hn, G, s', ds, hw, rs, p⟩ := h
    exact ⟨RT K T, .f, O', g, rfl, hb T, body_run hw rs p⟩
theorem fn_TF (F : FunD K x qual params body scope [] kws f fd) (S : FnScope N ps scope) {O' : List Nat} {g : Sl → Mo Nat} (hb : ∀ T, BodyOk md P w K mg base N qual scope body k (RT K T) .t O' g) : FnOk P w K mg base (CXm md P w) (k + 1) f fd ps (spTF K ps.length (fnD N.length g)) :=
  fn_run F S (fun vs H Q E h => by obtain ⟨nm, hn, _⟩ := h; exact hn) fun vs H Q E h => by
    obtain ⟨T, hn, G, s', ds, hw, rs, p⟩ := h
    exact ⟨RT K T, .t, O', g, rfl, hb T, body_run hw rs p⟩
/-- a promise of nothing -/
theorem fn_none {sp : Sp} (h : ∀ vs H Q E, ¬ sp vs H Q E) : FnOk P w K mg base (CXm md P w) k f fd ps sp := ⟨fun vs H Q E z => (h vs H Q E z).elim, fun _ _ _ _ _ _ vs Q E _ _ _ _ z => (h _ _ _ _ z).elim⟩
def gBot {S : Type} : List D → M S D := fun _ => bot
theorem not_P {n : Nat} (vs : List V) (H : Hp) (Q : VK) (E : XK) : ¬ spP K n gBot vs H Q E := fun ⟨_, _, _, _, _, _, _, p⟩ => p
theorem not_PF {n : Nat} (vs : List V) (H : Hp) (Q : VK) (E : XK) : ¬ spPF K n gBot vs H Q E := fun ⟨_, _, _, _, _, _, _, p⟩ => p
theorem not_T {n : Nat} (vs : List V) (H : Hp) (Q : VK) (E : XK) : ¬ spT K n gBot vs H Q E := fun ⟨_, _, _, _, _, _, _, p⟩ => p
theorem not_TF {n : Nat} (vs : List V) (H : Hp) (Q : VK) (E : XK) : ¬ spTF K n gBot vs H Q E := fun ⟨_, _, _, _, _, _, _, p⟩ => p
theorem Has.imp {sp sp' : Sp} (h : Has md P w K mg base k x sp) (i : ∀ vs H Q E, sp' vs H Q E → sp vs H Q E) : Has md P w K mg base k x sp' := by
  obtain ⟨f, fd, ps, F, hm, hk, hb⟩ := h
  exact ⟨f, fd, ps, F.imp i, hm, hk, hb⟩
theorem Has.wk {sp : Sp} (h : Has true P w K mg base k x sp) : Has false P w K mg base k x sp := by
  obtain ⟨f, fd, ps, F, hm, hk, hb⟩ := h
  refine ⟨f, fd, ps, ⟨F.len, fun A outer s H args us vs Q E hr e0 b r hsp => codeAny_mono (F.run A outer s H args us vs Q E hr e0 b r hsp) fun rr s' hh => ?_⟩, hm, hk, hb⟩
  cases rr with
  | ok fl => cases fl <;> exact hh
  | error e =>
    obtain ⟨a, B, H', cls, d, e1, fl, r⟩ := (show L2N.CX P w outer H s E e s' from hh)
    exact (show L2.CX P w outer H s E e s' from ⟨a, B, H', cls, d, e1, L2H.flyingZ_imp (fun o z => z.zc) fl, r⟩)
theorem Has.ofPF {n : Nat} {g : List D → M Unit D} (h : Has md P w K mg base k x (spPF K n g)) : Has md P w K mg base k x (spP K n g) := h.imp fun vs H Q E ⟨nm, h⟩ => ⟨nm, spF_of h⟩
theorem Has.ofTF {n : Nat} {g : List D → M Nat D} (h : Has md P w K mg base k x (spTF K n g)) : Has md P w K mg base k x (spT K n g) := h.imp fun vs H Q E ⟨nm, h⟩ => ⟨nm, spF_of h⟩
end
section
variable {X : Cx} {K : PySem.W.Frag} {T : Addr} {W : WX} {O : List Nat} {e : Expr} {es : List Expr} {fs : Sl → M Nat (List D)} {pos : Pos} {x : Str} {p : Pos}
theorem df_callT {md : Bool} {k n : Nat} {g : List D → M Nat D} (c : Cxt X (RT K T) W k) (tk : TkM md X W) (h : Has md X.prog X.w X.K X.mg X.base k x (spTF X.K n g)) (hg : Gl X x) (ha : PA X (e :: es) (tDA (RT K T) W O fs)) (hdb : (x == ("__debug__" : Str)) = false := by decide)
    (he : starEach (e :: es) X.env = (false, eval e X.env) :: starEach es X.env := by rfl) (hpl : (backTo pos (starEach es X.env)).any (·.1) = false := by rfl) : PE X (.Call (.Name x p) (e :: es) [] pos) (tDF (RT K T) W O (dCall n g fs)) := by
  obtain ⟨f, fd, ps, F, hm, hk, hb⟩ := h
  have hK : K = X.K := c.hK
  subst hK
  refine pe_imp (pe_callS F c.hr hg hm hk hb (fun σ => passM tk σ) ha hdb he hpl) fun σ H Q h => ?_
  obtain ⟨F, ρ, s, w, pu, p⟩ := h
  refine ⟨F, ρ, s, w, pu, p.bnd.imp (fun ds s1 F1 H1 w1 st1 p1 vs rvs => ?_) fun _ _ _ _ _ _ z => z⟩
  by_cases hn : ds.length = n
  · rw [if_pos hn] at p1
    exact ⟨T, by rw [rvs.length]; exact hn, F1, s1, ds, w1, rvs, p1.imp (fun d s2 F' H' w' st' q v fv => q v (fv.base st1.th)) fun _ _ _ _ _ _ z => z⟩
  · rw [if_neg hn] at p1
    exact False.elim p1
end
end Nw
set_option Elab.async false
set_option linter.all false
set_option maxRecDepth 100000
set_option maxHeartbeats 4000000
/-! Part AA: a table beside the empty one. -/
namespace Nw
open PySem PySem.Spec L2
def eqTD (neg : Bool) : D → D → Option D
  | .tab a, .tab [] => some (.bl (if neg then !a.isEmpty else a.isEmpty))
  | _, _ => none
def rEqT0 (neg : Bool) : R2 := fun x y H Q => ∃ p q kvs, x = .ref p ∧ y = .ref q ∧ Rd H p (.dK kvs) ∧ Rd H q (.dK []) ∧ Q (.bl (if neg then !kvs.isEmpty else kvs.isEmpty)) H
section
variable {X : Cx} {R : Reg} {W : WX}
theorem op_eqT (hu : X.A.units + 64 < cLine) (neg : Bool) : OpR X (compareOp (if neg then .NotEq else .Eq)) (rEqT0 neg) := by
  intro pins s σ H x y v u Q I rx ry h
  obtain ⟨p, q, kvs, rfl, rfl, h1, h2, k⟩ := h
  cases rx
  cases ry
  obtain ⟨_, lo1, vs1, rel1, d1⟩ := dk_rd I.hok h1
  obtain ⟨_, lo2, vs2, rel2, d2⟩ := dk_rd I.hok h2
  cases rel2
  have hl : kvs.length = vs1.length := rel1.length
  have hits : vs1.length = ([] : List (Key × Value)).length → PySem.W.KeqHits X.A.in1 s ([] : List (Key × Value)) vs1 true := fun e => by
    cases vs1 with
    | nil => exact .nil
    | cons a b => cases e
  have ee : (vs1.length == ([] : List (Key × Value)).length && true) = kvs.isEmpty := by
    rw [Bool.and_true]
    cases kvs with
    | nil => cases vs1 with
      | nil => rfl
      | cons a b => cases hl
    | cons a b => cases vs1 with
      | nil => cases hl
      | cons a b => rfl
  cases neg with
  | false => exact PySem.W.keq_eq lo1 lo2 d1 d2 (by omega) hits ⟨.bl kvs.isEmpty, H, I, by rw [ee]; rfl, k⟩
  | true => exact PySem.W.keq_ne lo1 lo2 d1 d2 (by omega) hits ⟨.bl (!kvs.isEmpty), H, I, by rw [ee]; rfl, k⟩
theorem sat_eqT (neg : Bool) : OpSat R (rEqT0 neg) (eqTD neg) := fun x y d e d' F H s Q w rx ry h k => by
  unfold eqTD at h
  split at h
  · rename_i kvs
    cases h
    obtain ⟨a, ws, rfl, h1, _, h3⟩ := rx
    obtain ⟨b, us, rfl, h4, _, h6⟩ := ry
    rw [show us = [] from h6] at h4
    refine ⟨a, b, ws, rfl, rfl, w.sub.dK h1, w.sub.dK h4, ?_⟩
    have e : ws.isEmpty = kvs.isEmpty := by
      have := h3.length
      cases ws <;> cases kvs <;> first | rfl | cases this
    rw [e]
    exact k _ F H w Stp.refl rfl
  · cases h
theorem ck_eqT {n : Nat} (c : Cxt X R W n) : CmpOk X R .Eq (eqTD false) := ⟨_, op_eqT c.hr.units false, sat_eqT false⟩
theorem ck_neT {n : Nat} (c : Cxt X R W n) : CmpOk X R .NotEq (eqTD true) := ⟨_, op_eqT c.hr.units true, sat_eqT true⟩
end
end Nw
set_option Elab.async false
set_option linter.all false
set_option maxRecDepth 100000
set_option maxHeartbeats 4000000
/-! Part BB: the law itself. -/
namespace Nw
open PySem PySem.Spec L2
section
variable {P : Program} {w : World} {K : PySem.W.Frag} {mg : Str → Option Value} {base : Heap} {k : Nat} {f : Addr} {fd : FuncData} {ps : List Str}
theorem fn_cx0 {sp : Sp} (F : FnOk P w K mg base (CXm false P w) k f fd ps sp) (h : ∀ vs H Q E, sp vs H Q E → sp vs H Q E0) : FnOk P w K mg base CX0 k f fd ps sp :=
  ⟨F.len, fun A outer s H args us vs Q E hr e0 b r hsp => codeAny_mono (F.run A outer s H args us vs Q E0 hr e0 b r (h _ _ _ _ hsp)) fun rr s' hh => by
    cases rr with
    | ok fl => cases fl <;> exact hh
    | error e =>
      obtain ⟨_, _, _, _, _, _, _, _, _, _, _, _, z⟩ := (show L2.CX P w outer H s E0 e s' from hh)
      exact z.elim⟩
/-- the script, as the law gets it -/
def scriptD (ns : List Int) : D := .kro (ns.map D.int)
def spLaw (K : PySem.W.Frag) (m : Nat) : Sp := fun vs H Q _ => ∃ (a : Addr) (ns : List Int), vs = [.ref a] ∧ ns.length ≤ m ∧ SqL K H a (ns.map V.int) ∧ ∀ H', Q (.bl true) H'
/-- the law's slots behind town = [] -/
def lawSl (n : Nat) (ns : List Int) : Sl := (startD n [scriptD ns]).set 1 (some (.obj 0))
theorem fn_law {qual x : Str} {params : Arguments} {body rest : List Stmt} {scope : Scope} {kws : List (Str × V)} {N : List Str} {m : Nat} {q1 q2 q3 : Pos} {g : Sl → Mo Nat} (F : FunD K x qual params body scope [] kws f fd) (S : FnScope N ["script"] scope) (hb : body = .Assign [.Name "town" q1] (.List [] q2) q3 :: rest) (hN : N[1]? = some ("town" : Str))
    (hx : L2.Loc scope "town") (hr : ∀ T, BodyOk false P w K mg base N qual scope rest k (RT K T) .f [] g) (hm : m ≤ sizeLine)
    (hsw : ∀ f cdv A outer s H E, swapsWith (.List [] q2) (some (.Name "town" q1)) q3.line (XO false P w K mg base N qual scope f cdv A outer s H E).env = pure false)
    (hg : ∀ ns : List Int, ns.length ≤ m → ∃ s', g (lawSl N.length ns) 0 = some (.rt (.bl true), s')) : FnOk P w K mg base CX0 (k + 1) f fd ["script"] (spLaw K m) := by
  refine fn_cx0 (F.ok S (fun vs H Q E h => ?_) fun cdv A outer s H vs Q E hrm hsp => ?_) fun vs H Q E h => h
  · obtain ⟨a, ns, rfl, _⟩ := h
    rfl
  · obtain ⟨a, ns, rfl, hl, hs, hQ⟩ := hsp
    have cx : ∀ T, Cxt (XO false P w K mg base N qual scope f cdv A outer s H E) (RT K T) (WO E) k := fun T => ⟨rfl, hrm, S.nd, rfl⟩
    refine ⟨tSeq (tAsg (tLst tNil) (gName 1)) (fun D σ H1 => ∃ T, tDS (RT K T) (WO E) .f [] [] [] g D σ H1), ?_, ?_⟩
    · rw [hb]
      exact pss_cons (ps_set (X := XO false P w K mg base N qual scope f cdv A outer s H E) S.nd hN hx (pe_lst pa_nil) (hsw _ _ _ _ _ _ _) (.inl rfl)) ⟨fun pins s1 σ H1 D I ⟨T, h⟩ => (hr T f cdv A outer s H E (cx T) (takesM E) (passes_of rfl)).run pins s1 σ H1 D I h⟩
    · obtain ⟨s', hs'⟩ := hg ns hl
      refine ⟨Nat.zero_le _, fun p hp => ⟨p, H, upd H p (.lst []), H, lawSl N.length ns, 0, ?_, Stp.refl, ?_, ?_⟩⟩
      · exact ⟨fun b o q => .inl (by rw [upd_ne (ne_of_none q hp)]; exact q), fun b m => by rw [show b = p from m]; exact hp, upd_same, Nat.zero_le _⟩
      · refine slots_nil (set_some_pu (start_pu (ds := [scriptD ns]) ⟨.ref a, [], rfl, ⟨a, _, rfl, hs, by rw [List.length_map]; exact Nat.le_trans hl hm, reps_ints ns⟩, rfl⟩) ⟨p, rfl, rfl⟩)
      · rw [hs']
        intro v F' H' w' st' rv
        rw [show v = .bl true from rv]
        exact hQ H'
end
end Nw
set_option Elab.async false
set_option linter.all false
set_option maxRecDepth 100000
set_option maxHeartbeats 4000000
/-! Part CC: more statements and methods. -/
namespace Nw
open PySem PySem.Spec L2
section
variable {X : Cx} {R : Reg} {W : WX} {fr : FrK} {O O' B : List Nat} {a b e o tg iter : Expr} {es : List Expr} {f g fk fv : Sl → M R.S D} {c : Sl → M R.S Bool} {fs : Sl → M R.S (List D)} {pos p apos cpos npos : Pos} {n i : Nat} {x : Str}
/-- x.extend(e), x an own list, e a list -/
theorem ds_ext (i : Nat) (hO : i ∈ O) (hN : X.N[i]? = some x) (hv : Vis X.env.scope x) (he : PE X e (tD R W O f)) (hd : (x == ("__debug__" : Str)) = false := by decide) (hcd : (x == ("__classdict__" : Str)) = false := by decide)
    (hbase : attributeBase (.Name x npos) "extend" X.env (eval (.Name x npos) X.env) = eval (.Name x npos) X.env := by rfl)
    (hfew : ((backTo cpos (starEach [e] X.env)).all (fun x => !x.1) && (backToKw cpos (keywordEach [] X.env)).all (fun x => x.1.isSome)
      && decide (([e] : List Expr).length + ([] : List Keyword).length + (if ([] : List Keyword).isEmpty then 0 else 1) < 30)) = true := by rfl)
    (hline : (apos.endLine == cpos.line) = true := by rfl) (hst : starEach [e] X.env = (false, eval e X.env) :: starEach [] X.env := by rfl) (hplain : (backTo cpos (starEach [] X.env)).any (·.1) = false := by rfl) (hs : swapsWith (.Call (.Attribute (.Name x npos) "extend" apos) [e] [] cpos) none pos.line X.env = pure false := by rfl) :
    PS X (.Expr (.Call (.Attribute (.Name x npos) "extend" apos) [e] [] cpos) pos) (tDS R W fr B O O (sOwn1 "list" i extD f)) :=
  ps_imp (ps_expr (pe_bm F.plainAttrs_list F.slot_list_extend F.type_list_extend mt_extend (pe_var hN hv hd hcd) (pa_cons he pa_nil hst) hbase hfew hline hst hplain) hs) fun E σ H h => by
  obtain ⟨F0, H0, F, r, s, w, st, sl, p⟩ := h
  obtain ⟨d, eg, p⟩ := opt_post p
  obtain ⟨d0, eg0, e2⟩ := bind_some eg
  obtain ⟨u, eu, e3⟩ := map_some e2
  have e3 : d0 = d := e3
  subst e3
  clear eg e2
  have eg := eg0
  cases d0 with
  | row xs =>
    obtain ⟨ad, h1, h2⟩ := sl.ow i _ hO rfl (getS_some eg)
    obtain ⟨ws0, e10, e20, e30⟩ := h2.2.2.2
    refine ⟨_, h1, .inl ⟨rfl, ws0, SqL.of e10⟩, F, r, s, w, sl.pu, (postS_x w st sl p).imp (fun v s1 F1 H1 w1 st1 q vv rv => ?_) fun _ _ _ _ _ _ z => z⟩
    obtain ⟨w2, st2, sl2, p2⟩ := q
    obtain ⟨d', ed, p4⟩ := put_post p2
    have h3 := h2.step st1
    obtain ⟨ws, e1, e2, e3⟩ := h3.2.2.2
    cases v with
    | row ys =>
      have ed : (if xs.length + ys.length ≤ sizeLine then some (D.row (xs ++ ys)) else none) = some d' := ed
      obtain ⟨bd, us, rfl, f1, f2, f3⟩ := rv
      by_cases hz : xs.length + ys.length ≤ sizeLine
      · rw [if_pos hz] at ed
        cases ed
        refine ⟨ad, bd, ws, us, rfl, rfl, e1, w2.sub.lst f1, by rw [e3.length, f3.length]; exact hz, ?_⟩
        obtain ⟨a1, a2, a3⟩ := own_write (o := .lst (ws ++ us)) w2 st2 sl2 hO (getS_some eg) h1 h3 (d' := .row (xs ++ ys)) ⟨_, rfl, by rw [List.length_append]; exact hz, e3.append f3⟩
        exact p4 σ F1 _ a1 a2 a3
      · rw [if_neg hz] at ed; cases ed
    | _ => cases ed
  | _ => cases eu
/-! ### d.get(k), d.get(k, x) -/
def get1D : D → List D → Option D
  | .tab kvs, [k] => (keyD k).map fun k => (valD kvs k).getD .non
  | _, _ => none
def get2D : D → List D → Option D
  | .tab kvs, [k, x] => (keyD k).map fun k => (valD kvs k).getD x
  | _, _ => none
theorem mt_get1 (hu : X.A.units + 1 < cLine) : MtR X "dict.get" (fun x xs H Q => ∃ a y ov, x = .ref a ∧ xs = [y] ∧ DGet H a y ov ∧ Q (ov.getD .non) H) := by
  intro pins s σ H x xs v us Q I rx rxs h
  obtain ⟨a, y, ov, rfl, rfl, g, q⟩ := h
  cases rx
  obtain ⟨u, rfl, ru⟩ := rxs.one
  exact d_get1 hu I g ru fun w' s' I' rw' => ⟨_, H, I', rw', q⟩
theorem mt_get2 (hu : X.A.units + 1 < cLine) : MtR X "dict.get" (fun x xs H Q => ∃ a y z ov, x = .ref a ∧ xs = [y, z] ∧ DGet H a y ov ∧ Q (ov.getD z) H) := by
  intro pins s σ H x xs v us Q I rx rxs h
  obtain ⟨a, y, z, ov, rfl, rfl, g, q⟩ := h
  cases rx
  obtain ⟨u, u2, rfl, ru, ru2⟩ := rxs.two
  exact d_get2 hu I g ru ru2 fun w' s' I' rw' => ⟨_, H, I', rw', q⟩
theorem get_rep {F H : Hp} {kvs : List (Key × D)} {ws : List (Key × V)} {k : Key} {dz : D} {z : V} (rk : RepsK R.K R.nm F kvs ws) (rz : Rep R.K R.nm F dz z) : Rep R.K R.nm F ((valD kvs k).getD dz) ((valV ws k).getD z) := by
  rcases repsK_val k rk with ⟨h1, h2⟩ | ⟨d, v, h1, h2, h3⟩
  · rw [h1, h2]; exact rz
  · rw [h1, h2]; exact h3
theorem sat_get1 : MtSat R (fun x xs H Q => ∃ a y ov, x = .ref a ∧ xs = [y] ∧ DGet H a y ov ∧ Q (ov.getD .non) H) get1D := fun x xs d ds d' F H s Q w rx rs h k => by
  unfold get1D at h
  split at h
  · rename_i kvs kk
    obtain ⟨key, ek, rfl⟩ := map_some h
    obtain ⟨a, ws, rfl, h1, _, h3⟩ := rx
    obtain ⟨y, ys, rfl, ry, e2⟩ := rs
    rw [show ys = [] from e2]
    obtain ⟨q1, q2⟩ := keyD_ok ry ek
    exact ⟨a, y, valV ws key, rfl, rfl, .inl ⟨ws, key, w.sub.dK h1, q1, rfl⟩, k _ F H w Stp.refl (get_rep (H := H) h3 rfl)⟩
  · cases h
theorem sat_get2 : MtSat R (fun x xs H Q => ∃ a y z ov, x = .ref a ∧ xs = [y, z] ∧ DGet H a y ov ∧ Q (ov.getD z) H) get2D := fun x xs d ds d' F H s Q w rx rs h k => by
  unfold get2D at h
  split at h
  · rename_i kvs kk dz
    obtain ⟨key, ek, rfl⟩ := map_some h
    obtain ⟨a, ws, rfl, h1, _, h3⟩ := rx
    obtain ⟨y, ys, rfl, ry, z, zs, rfl, rz, e2⟩ := rs
    rw [show zs = [] from e2]
    obtain ⟨q1, q2⟩ := keyD_ok ry ek
    exact ⟨a, y, z, valV ws key, rfl, rfl, .inl ⟨ws, key, w.sub.dK h1, q1, rfl⟩, k _ F H w Stp.refl (get_rep (H := H) h3 rz)⟩
  · cases h
end
end Nw
set_option Elab.async false
set_option linter.all false
set_option maxRecDepth 100000
set_option maxHeartbeats 4000000
/-! Part DD: several names at once. -/
namespace Nw
open PySem PySem.Spec L2
def setAll : Sl → List Nat → List D → Sl
  | r, i :: is, d :: ds => setAll (r.set i (some d)) is ds
  | r, _, _ => r
def tgT (is : List Nat) : D → Sl → Option Sl := fun d r => match d with
  | .tup ds => if ds.length = is.length then some (setAll r is ds) else none
  | _ => none
def gNms : List Nat → TGs
  | [] => gNil
  | i :: is => gCons (gName i) (gNms is)
section
variable {R : Reg} {F H : Hp}
theorem setAt_refl {σ : L2.St} {r : Sl} : SetAt R F [] σ σ r r := ⟨rfl, rfl, fun _ _ => ⟨rfl, rfl⟩, fun j d h => absurd h (by simp)⟩
theorem SetAt.trans {i : Nat} {is : List Nat} {σ σ1 σ2 : L2.St} {r r1 r2 : Sl} (a : SetAt R F [i] σ σ1 r r1) (b : SetAt R F is σ1 σ2 r1 r2) : SetAt R F (i :: is) σ σ2 r r2 where
  len := b.len.trans a.len
  lenr := b.lenr.trans a.lenr
  off := fun j hj => by
    obtain ⟨h1, h2⟩ := b.off j fun z => hj (List.mem_cons_of_mem _ z)
    obtain ⟨h3, h4⟩ := a.off j fun z => hj (by rw [List.mem_singleton.mp z]; exact List.mem_cons_self)
    exact ⟨h1.trans h3, h2.trans h4⟩
  on := fun j d hj e => by
    by_cases hb : j ∈ is
    · exact b.on j d hb e
    · obtain ⟨h1, h2⟩ := b.off j hb
      rw [h2] at e
      rw [h1]
      rcases List.mem_cons.mp hj with hj | hj
      · exact a.on j d (by rw [hj]; exact List.mem_singleton.mpr rfl) e
      · exact absurd hj hb
theorem tgs_names : ∀ (is : List Nat) (ds : List D) (vs : List V) (σ : L2.St) (r : Sl) (Q : L2.St → Hp → Prop), Reps R.K R.nm F ds vs → r.length = σ.length → ds.length = is.length → (∀ σ', SetAt R F is σ σ' r (setAll r is ds) → Q σ' H) → gNms is vs σ H Q
  | [], [], vs, σ, r, Q, rs, hl, _, k => ⟨rs, k σ setAt_refl⟩
  | i :: is, d :: ds, vs, σ, r, Q, rs, hl, hn, k => by
    obtain ⟨v, ws, rfl, rv, rws⟩ := rs
    have s1 : SetAt R F [i] σ (σ.set i (some v)) r (r.set i (some d)) := setAt_one hl rv
    exact ⟨v, ws, rfl, tgs_names is ds ws (σ.set i (some v)) (r.set i (some d)) Q rws (by rw [List.length_set, List.length_set]; exact hl) (by simpa using hn) fun σ' s2 => k σ' (s1.trans s2)⟩
  | [], _ :: _, _, _, _, _, _, _, hn, _ => by simp at hn
  | _ :: _, [], _, _, _, _, _, _, hn, _ => by simp at hn
theorem tg_names {K : PySem.W.Frag} (is : List Nat) : TgSat R (gTup K is.length (gNms is)) is (tgT is) := fun v d σ r r' F H Q sb rv hl e k => by
  cases d with
  | tup ds =>
    have e : (if ds.length = is.length then some (setAll r is ds) else none) = some r' := e
    by_cases hn : ds.length = is.length
    · rw [if_pos hn] at e
      cases e
      obtain ⟨a, vs, rfl, h1, _, h3⟩ := rv
      exact ⟨a, vs, rfl, SqT.of (sb.tup h1), by rw [h3.length, hn], tgs_names is ds vs σ r Q h3 hl hn k⟩
    · rw [if_neg hn] at e; cases e
  | _ => cases e
end
section
variable {X : Cx} {R : Reg} {W : WX} {fr : FrK} {O O' B : List Nat} {e tg o : Expr} {f fe : Sl → M R.S D} {fs : Sl → M R.S (List D)} {pos apos cpos : Pos} {n : Nat} {es : List Expr}
/-- a, b = e -/
theorem ds_asg {gt : TG} {vs : List Nat} {tgt : D → Sl → Option Sl} (hg : PG X tg gt) (hgs : TgSat R gt vs tgt) (he : PE X e (tD R W O fe)) (h1 : ∀ j ∈ O', j ∈ O ∧ j ∉ vs) (h2 : ∀ j ∈ O, j ∉ vs → j ∈ O') (hs : swapsWithSole [tg] e pos.line X.env = pure false := by rfl) (hw : swappedStores [tg] e X.env = pure none := by rfl) (ha : (assignEach [tg] X.env).map (·.2) = [assign tg X.env] := by rfl) :
    PS X (.Assign [tg] e pos) (tDS R W fr B O O' (sAsg tgt fe)) := ps_imp (ps_asg he hg hs hw ha) (sat_asg hgs h1 h2)
/-- d.get(k), d.get(k, x) -/
theorem de_get1 (c : Cxt X R W n) (ho : PE X o (tD R W O f)) (ha : PA X [e] (tDA R W O fs))
    (hbase : attributeBase o "get" X.env (eval o X.env) = eval o X.env := by rfl)
    (hfew : ((backTo cpos (starEach [e] X.env)).all (fun x => !x.1) && (backToKw cpos (keywordEach [] X.env)).all (fun x => x.1.isSome)
      && decide (([e] : List Expr).length + ([] : List Keyword).length + (if ([] : List Keyword).isEmpty then 0 else 1) < 30)) = true := by rfl)
    (hline : (apos.endLine == cpos.line) = true := by rfl) (hst : starEach [e] X.env = (false, eval e X.env) :: starEach [] X.env := by rfl) (hplain : (backTo cpos (starEach [] X.env)).any (·.1) = false := by rfl) :
    PE X (.Call (.Attribute o "get" apos) [e] [] cpos) (tD R W O (dMt "dict" get1D f fs)) := de_mt PySem.F.plainAttrs_dict PySem.F.slot_dict_get PySem.F.type_dict_get (mt_get1 (by have := c.hr.units; omega)) c.hK sat_get1 ho ha hbase hfew hline hst hplain
theorem de_get2 {e2 : Expr} (c : Cxt X R W n) (ho : PE X o (tD R W O f)) (ha : PA X [e, e2] (tDA R W O fs))
    (hbase : attributeBase o "get" X.env (eval o X.env) = eval o X.env := by rfl)
    (hfew : ((backTo cpos (starEach [e, e2] X.env)).all (fun x => !x.1) && (backToKw cpos (keywordEach [] X.env)).all (fun x => x.1.isSome)
      && decide (([e, e2] : List Expr).length + ([] : List Keyword).length + (if ([] : List Keyword).isEmpty then 0 else 1) < 30)) = true := by rfl)
    (hline : (apos.endLine == cpos.line) = true := by rfl) (hst : starEach [e, e2] X.env = (false, eval e X.env) :: starEach [e2] X.env := by rfl) (hplain : (backTo cpos (starEach [e2] X.env)).any (·.1) = false := by rfl) :
    PE X (.Call (.Attribute o "get" apos) [e, e2] [] cpos) (tD R W O (dMt "dict" get2D f fs)) := de_mt PySem.F.plainAttrs_dict PySem.F.slot_dict_get PySem.F.type_dict_get (mt_get2 (by have := c.hr.units; omega)) c.hK sat_get2 ho ha hbase hfew hline hst hplain
end
end Nw
set_option Elab.async false
set_option linter.all false
set_option maxRecDepth 100000
set_option maxHeartbeats 4000000
/-! Part EE: copies of tables. -/
namespace Nw
open PySem PySem.Spec L2
section
variable {X : Cx} {R : Reg} {W : WX} {O : List Nat} {o : Expr} {f : Sl → M R.S D} {apos cpos : Pos} {n : Nat}
theorem mt_copyD : MtR X "dict.copy" (fun x xs H Q => ∃ a kvs, x = .ref a ∧ xs = [] ∧ Rd H a (.dK kvs) ∧ ∀ p, H p = none → Q (.ref p) (upd H p (.dK kvs))) := by
  intro pins s σ H x xs v us Q I rx rxs h
  obtain ⟨a, kvs, rfl, rfl, hd, q⟩ := h
  cases rx
  cases rxs
  obtain ⟨z, lo, vs, rel, dd⟩ := dk_rd I.hok hd
  have hm : (s.heap.objs.size == sysModules) = false := beq_eq_false_iff_ne.mpr (Nat.ne_of_gt I.big)
  refine call_meetsIn PySem.F.slot_dict_copy dd.typeIs PySem.F.entry_dict_copy (PySem.F.args_dict_copy_1 _) (meets_dict_copy (mixKind X.prog X.w) a lo) ⟨vs, dd, by rw [← rel.length]; exact z, fun h' d' _ hs => ?_⟩
  exact ⟨.ref s.heap.objs.size, upd H s.heap.objs.size (.dK kvs), I.laid (t' := s.toks) hs (Nat.le_refl _)
    (show ObjOk X.prog X.w _ _ _ (.dK kvs) from ⟨z, hm, vs, rel, d'⟩), rfl, q _ (I.hok.fresh (Nat.le_refl _))⟩
def copyTD : D → Option D
  | .tab kvs => some (.tab kvs)
  | _ => none
theorem df_copy (c : Cxt X R W n) (ho : PE X o (tD R W O f)) (hbase : attributeBase o "copy" X.env (eval o X.env) = eval o X.env := by rfl) (hline : (apos.endLine == cpos.line) = true := by rfl) :
    PE X (.Call (.Attribute o "copy" apos) [] [] cpos) (tDF R W O (dUn copyTD f)) :=
  pe_imp (pe_bw0 PySem.F.plainAttrs_dict PySem.F.slot_dict_copy PySem.F.type_dict_copy mt_copyD ho hbase hline) fun σ H Q h => by
    obtain ⟨F, ρ, s, w, pu, p⟩ := h
    refine ⟨F, ρ, s, w, pu, p.bnd.imp (fun d s1 F1 H1 w1 st1 p1 v rv => ?_) fun _ _ _ _ _ _ z => z⟩
    obtain ⟨d', e', k⟩ := p1.lift
    cases d with
    | tab kvs =>
      cases e'
      obtain ⟨a, ws, rfl, h1, h2, h3⟩ := rv
      have hr := w1.sub.dK h1
      refine ⟨.inr ⟨rfl, a, ws, rfl, hr⟩, a, ws, rfl, rfl, hr, fun q hq => ?_⟩
      obtain ⟨g1, g2, g3⟩ := fre_tab w1 st1 hq h2 h3
      exact k F1 _ g1 (Stp.newH _ hq) _ g3
    | _ => cases e'
end
end Nw
set_option Elab.async false
set_option linter.all false
set_option maxRecDepth 100000
set_option maxHeartbeats 4000000
/-! Part FF: max, min. -/
namespace Nw
open PySem PySem.Spec L2
def maxL : Int → List Int → Int
  | m, [] => m
  | m, x :: r => maxL (if x > m then x else m) r
def minL : Int → List Int → Int
  | m, [] => m
  | m, x :: r => minL (if x < m then x else m) r
theorem maxL_spec : ∀ (r : List Int) (m : Int), (maxL m r = m ∨ maxL m r ∈ r) ∧ m ≤ maxL m r ∧ ∀ y ∈ r, y ≤ maxL m r
  | [], m => ⟨.inl rfl, Int.le_refl _, fun y hy => by cases hy⟩
  | x :: r, m => by
    obtain ⟨h1, h2, h3⟩ := maxL_spec r (if x > m then x else m)
    have e : maxL m (x :: r) = maxL (if x > m then x else m) r := rfl
    rw [e]
    by_cases hx : x > m
    · rw [if_pos hx] at h1 h2 h3 ⊢
      refine ⟨?_, by omega, fun y hy => ?_⟩
      · rcases h1 with h1 | h1
        · rw [h1]; exact .inr List.mem_cons_self
        · exact .inr (List.mem_cons_of_mem _ h1)
      · rcases List.mem_cons.mp hy with rfl | hy
        · exact h2
        · exact h3 y hy
    · rw [if_neg hx] at h1 h2 h3 ⊢
      refine ⟨h1.imp id (List.mem_cons_of_mem _), h2, fun y hy => ?_⟩
      rcases List.mem_cons.mp hy with rfl | hy
      · omega
      · exact h3 y hy
theorem minL_spec : ∀ (r : List Int) (m : Int), (minL m r = m ∨ minL m r ∈ r) ∧ minL m r ≤ m ∧ ∀ y ∈ r, minL m r ≤ y
  | [], m => ⟨.inl rfl, Int.le_refl _, fun y hy => by cases hy⟩
  | x :: r, m => by
    obtain ⟨h1, h2, h3⟩ := minL_spec r (if x < m then x else m)
    have e : minL m (x :: r) = minL (if x < m then x else m) r := rfl
    rw [e]
    by_cases hx : x < m
    · rw [if_pos hx] at h1 h2 h3 ⊢
      refine ⟨?_, by omega, fun y hy => ?_⟩
      · rcases h1 with h1 | h1
        · rw [h1]; exact .inr List.mem_cons_self
        · exact .inr (List.mem_cons_of_mem _ h1)
      · rcases List.mem_cons.mp hy with rfl | hy
        · exact h2
        · exact h3 y hy
    · rw [if_neg hx] at h1 h2 h3 ⊢
      refine ⟨h1.imp id (List.mem_cons_of_mem _), h2, fun y hy => ?_⟩
      rcases List.mem_cons.mp hy with rfl | hy
      · omega
      · exact h3 y hy
def maxD : List D → Option D
  | [.row ds] => (intsD ds).bind fun ns => match ns with | [] => none | n :: r => some (.int (maxL n r))
  | [.int i, .int j] => some (.int (if j > i then j else i))
  | _ => none
def minD : List D → Option D
  | [.row ds] => (intsD ds).bind fun ns => match ns with | [] => none | n :: r => some (.int (minL n r))
  | [.int i, .int j] => some (.int (if j < i then j else i))
  | _ => none
section
variable {X : Cx} {R : Reg} {W : WX} {O : List Nat} {e : Expr} {es : List Expr} {fs : Sl → M R.S (List D)} {pos : Pos} {n : Nat}
theorem call_maxA (hc : X.calm = true) : CallR X (.builtin "max") (fun xs H Q => rMax X.K xs H Q ∨ ∃ i j, xs = [.int i, .int j] ∧ Q (.int (if j > i then j else i)) H) := fun pins s σ H xs us Q I rs q => q.elim (cr_max hc pins s σ H xs us Q I rs) (call_max2 hc pins s σ H xs us Q I rs)
theorem call_minA (hc : X.calm = true) : CallR X (.builtin "min") (fun xs H Q => rMin X.K xs H Q ∨ ∃ i j, xs = [.int i, .int j] ∧ Q (.int (if j < i then j else i)) H) := fun pins s σ H xs us Q I rs q => q.elim (cr_min hc pins s σ H xs us Q I rs) (call_min2 hc pins s σ H xs us Q I rs)
theorem sat_max : CallSat R (fun xs H Q => rMax R.K xs H Q ∨ ∃ i j, xs = [.int i, .int j] ∧ Q (.int (if j > i then j else i)) H) maxD := fun xs ds d' F H s Q w rs h k => by
  unfold maxD at h
  split at h
  · rename_i ds
    obtain ⟨ns, e1, h⟩ := bind_some h
    cases ns with
    | nil => cases h
    | cons a r =>
      cases h
      rw [intsD_some e1] at rs
      obtain ⟨v, ws, rfl, ⟨p, vs, rfl, h1, _, h2⟩, e2⟩ := rs
      rw [show ws = [] from e2]
      refine .inl ⟨p, a :: r, rfl, by rw [← reps_int h2]; exact SqL.of (w.sub.lst h1), Nat.succ_pos _, fun m hm hall => ?_⟩
      obtain ⟨s1, s2, s3⟩ := maxL_spec r a
      have e3 : m = maxL a r := by
        have g1 : maxL a r ≤ m := by
          rcases s1 with s1 | s1
          · rw [s1]; exact hall a List.mem_cons_self
          · exact hall _ (List.mem_cons_of_mem _ s1)
        have g2 : m ≤ maxL a r := by
          rcases List.mem_cons.mp hm with rfl | hm
          · exact s2
          · exact s3 m hm
        omega
      exact k _ F H w Stp.refl (by rw [e3]; rfl)
  · cases h
    obtain ⟨v, ws, rfl, rfl, u, us, rfl, rfl, e2⟩ := rs
    rw [show us = [] from e2]
    exact .inr ⟨_, _, rfl, k _ F H w Stp.refl rfl⟩
  · cases h
theorem sat_min : CallSat R (fun xs H Q => rMin R.K xs H Q ∨ ∃ i j, xs = [.int i, .int j] ∧ Q (.int (if j < i then j else i)) H) minD := fun xs ds d' F H s Q w rs h k => by
  unfold minD at h
  split at h
  · rename_i ds
    obtain ⟨ns, e1, h⟩ := bind_some h
    cases ns with
    | nil => cases h
    | cons a r =>
      cases h
      rw [intsD_some e1] at rs
      obtain ⟨v, ws, rfl, ⟨p, vs, rfl, h1, _, h2⟩, e2⟩ := rs
      rw [show ws = [] from e2]
      refine .inl ⟨p, a :: r, rfl, by rw [← reps_int h2]; exact SqL.of (w.sub.lst h1), Nat.succ_pos _, fun m hm hall => ?_⟩
      obtain ⟨s1, s2, s3⟩ := minL_spec r a
      have e3 : m = minL a r := by
        have g1 : m ≤ minL a r := by
          rcases s1 with s1 | s1
          · rw [s1]; exact hall a List.mem_cons_self
          · exact hall _ (List.mem_cons_of_mem _ s1)
        have g2 : minL a r ≤ m := by
          rcases List.mem_cons.mp hm with rfl | hm
          · exact s2
          · exact s3 m hm
        omega
      exact k _ F H w Stp.refl (by rw [e3]; rfl)
  · cases h
    obtain ⟨v, ws, rfl, rfl, u, us, rfl, rfl, e2⟩ := rs
    rw [show us = [] from e2]
    exact .inr ⟨_, _, rfl, k _ F H w Stp.refl rfl⟩
  · cases h
theorem de_max {p : Pos} (c : Cxt X R W n) (hg : Gl X "max") (hm : X.mg "max" = none) (ha : PA X (e :: es) (tDA R W O fs)) (he : starEach (e :: es) X.env = (false, eval e X.env) :: starEach es X.env := by rfl) (hpl : (backTo pos (starEach es X.env)).any (·.1) = false := by rfl) :
    PE X (.Call (.Name "max" p) (e :: es) [] pos) (tD R W O (dAll maxD fs)) := de_callB (call_maxA c.calm) (by rw [← c.hK]; exact sat_max) hg hm (by decide +kernel) ha (he := he) (hpl := hpl)
theorem de_min {p : Pos} (c : Cxt X R W n) (hg : Gl X "min") (hm : X.mg "min" = none) (ha : PA X (e :: es) (tDA R W O fs)) (he : starEach (e :: es) X.env = (false, eval e X.env) :: starEach es X.env := by rfl) (hpl : (backTo pos (starEach es X.env)).any (·.1) = false := by rfl) :
    PE X (.Call (.Name "min" p) (e :: es) [] pos) (tD R W O (dAll minD fs)) := de_callB (call_minA c.calm) (by rw [← c.hK]; exact sat_min) hg hm (by decide +kernel) ha (he := he) (hpl := hpl)
end
end Nw
set_option Elab.async false
set_option linter.all false
set_option maxRecDepth 100000
set_option maxHeartbeats 4000000
/-! Part GG: try without a name. -/
namespace Nw
open PySem PySem.Spec L2
section
variable {S : Type}
def tryO (cs : List Cl) (c' : Cl) (g : Sl → Mo S) : Option (Flw × S) → Option (Flw × S)
  | some (.thr x r, s) => if x.c ∈ cs then (if subC x.c c' = true then g r s else some (.thr x r, s)) else none
  | some (.next r, s) => some (.next r, s)
  | some (.rt d, s) => some (.rt d, s)
  | some (.brk r, s) => some (.brk r, s)
  | some (.cnt r, s) => some (.cnt r, s)
  | none => none
def sTryO (cs : List Cl) (c' : Cl) (f g : Sl → Mo S) : Sl → Mo S := fun r s => tryO cs c' g (f r s)
end
section
variable {X : Cx} {R : Reg} {W : WX} {fr : FrK} {B : List Nat} {fb fg : Sl → Mo R.S} {pos np pos' : Pos} {n : Nat} {x : Str} {body suite : List Stmt} {b₀ : Stmt}
theorem ds_tryO {cs : List Cl} {c' : Cl} (cx : Cxt X R W n) (tk : TkM false X W) (xf : XF X.K cs) (hc' : c' ∈ cs) (hx : c'.name = x) (hs : X.stack = X.env :: X.outer) (hf : X.env.frame = some X.env.locals)
    (hg : Gl X x) (hm : X.mg x = some (.ref (eA X.K c')))
    (hb : ∀ (W' : WX) (pn : List (Addr × Obj)) (xe : Value → Shared → Prop), Cxt (X.tr pn xe) R W' n → TkM false (X.tr pn xe) W' → PassesOwn (model X.prog X.w) X.A X.env xe → PSs (X.tr pn xe) body (tDS R W' fr B [] [] fb))
    (hsu : ∀ (a : Addr) (oe : Obj) (pn : List (Addr × Obj)), PSs (X.suite a ((a, oe) :: pn)) (b₀ :: suite) (tDS R W fr B [] [] fg)) (hdb : (x == ("__debug__" : Str)) = false := by decide) :
    PS X (.Try body [.ExceptHandler (some (.Name x np)) none (b₀ :: suite) pos'] [] [] pos) (tDS R W fr B [] [] (sTryO cs c' fb fg)) := by
  refine ps_imp (ps_try_only hs hf ⟨hg, hdb, .inl hm⟩ tk (tb := fun W' => tDS R W' fr B [] [] fb) (fun W' pn xe tk po => hb W' pn xe (cx.tr W') tk po) (fun a oe cls d pn _ _ => hsu a oe pn)) fun E σ H h => ?_
  obtain ⟨F0, H0, F, r, s, w, st, sl, p⟩ := h
  refine ⟨F0, H0, F, r, s, w, st, sl, ?_⟩
  unfold sTryO at p
  cases ef : fb r s with
  | none => rw [ef] at p; exact p
  | some q =>
    obtain ⟨fl, s'⟩ := q
    rw [ef] at p
    cases fl with
    | next r' => exact p
    | rt d => exact p
    | brk r' => exact p
    | cnt r' => exact p
    | thr xx r' =>
      have p : PostS R fr F0 H0 (if xx.c ∈ cs then (if subC xx.c c' = true then fg r' s' else some (.thr xx r', s')) else none) E W B [] := p
      by_cases hcs : xx.c ∈ cs
      · rw [if_pos hcs] at p
        intro σ' F' H' cls dd w' st' sl' rx
        have hcls : cls = .ref (eA X.K xx.c) := by rw [rx.1, cx.hK]
        refine ⟨subC xx.c c', by rw [hcls]; exact xf.exm _ hcs _ hc', fun hb2 ad had => ?_, fun hb2 => ?_⟩
        · rw [if_pos hb2] at p
          exact ⟨F0, H0, F', r', s', w', st', sl', p⟩
        · rw [if_neg (by rw [hb2]; exact Bool.false_ne_true)] at p
          exact p σ' F' H' cls dd w' st' sl' rx
      · rw [if_neg hcs] at p; exact p.elim
end
end Nw
set_option Elab.async false
set_option linter.all false
set_option maxRecDepth 100000
set_option maxHeartbeats 4000000
/-! Part HH: a comprehension into a local name. -/
namespace Nw
open PySem PySem.Spec L2
section
variable {X : Cx} {R : Reg} {W : WX} {fr : FrK} {O O' B : List Nat} {elt iter tg : Expr} {ifs : List Expr} {scope : Scope} {own : List (Str × Nat)} {it : Sl → M R.S (List D)} {g : TG} {tgt : D → Sl → Option Sl} {t : Sl → M R.S Bool} {f : Sl → M R.S D} {n i : Nat} {y : Str} {py pos spos : Pos}
theorem ds_setLc (c : Cxt X R W n) (i : Nat) (hy : X.N[i]? = some y) (hyl : X.env.scope.names.lookup y = some .local) (hi : PI X tg iter (tDI R W O it)) (ok : BlkOk X.N X.env.scope scope own) (hgs : TgSat R g (own.map (·.2)) tgt)
    (hg : ∀ (s : Shared) (H : Hp) (C : Addr) (cl : List (Str × Addr)) (fp : List Addr), PG (X.blk s H scope (compEnvC scope cl C X.env) fp) tg g)
    (ht : ∀ (s : Shared) (H : Hp) (C : Addr) (cl : List (Str × Addr)) (fp : List Addr), Cxt (X.blk s H scope (compEnvC scope cl C X.env) fp) R W0 n → PTs (X.blk s H scope (compEnvC scope cl C X.env) fp) ifs (tDT R W0 O t))
    (he : ∀ (s : Shared) (H : Hp) (C : Addr) (cl : List (Str × Addr)) (fp : List Addr), Cxt (X.blk s H scope (compEnvC scope cl C X.env) fp) R W0 n → PE (X.blk s H scope (compEnvC scope cl C X.env) fp) elt (tD R W0 O f))
    (h1 : ∀ j ∈ O', j ∈ O ∧ j ∉ [i]) (h2 : ∀ j ∈ O, j ∉ [i] → j ∈ O') (hsw : swapsWith (.ListComp elt [⟨tg, iter, ifs, 0⟩] scope pos) (some (.Name y py)) spos.line X.env = pure true := by rfl) (hs : ∀ x, foldedSetIterable iter X.env x = pure x := by intro _; rfl) :
    PS X (.Assign [.Name y py] (.ListComp elt [⟨tg, iter, ifs, 0⟩] scope pos) spos) (tDS R W fr B O O' (sAsg (tgN i) (dLc it tgt t f))) :=
  ps_imp (ps_setLc c.calm c.nd hy hyl hsw hi ok hg (fun s H C cl fp => ht s H C cl fp (c.blk _ _ _ _ _)) (fun s H C cl fp => he s H C cl fp (c.blk _ _ _ _ _)) hs) fun E σ H h => sat_lc hgs σ H _ (sat_asg tg_name h1 h2 E σ H h)
end
end Nw
set_option Elab.async false
set_option linter.all false
set_option maxRecDepth 100000
set_option maxHeartbeats 4000000
/-! Part II: a result that may be new. -/
namespace Nw
open PySem PySem.Spec L2
section
variable {X : Cx} {R : Reg} {W : WX} {fr : FrK} {O O1 O' B : List Nat} {e : Expr} {rest : List Stmt} {f : Sl → M R.S D} {g : Sl → Mo R.S} {pos pos' : Pos} {i : Nat} {x : Str}
theorem pss_or2 {st : List Stmt} {t t' : TS} (h : PSs X st t) (h' : PSs X st t') : PSs X st (fun D σ H => t D σ H ∨ t' D σ H) := ⟨fun pins s σ H D I q => q.elim (h.run pins s σ H D I) (h'.run pins s σ H D I)⟩
theorem dss_setM (i : Nat) (hN : X.N.Nodup) (hi : X.N[i]? = some x) (hx : Loc X.env.scope x) (he : PE X e (tDF R W O f)) (hiO : i ∉ O) (hO : i ∈ O1) (h1 : ∀ j ∈ O1, j = i ∨ j ∈ O) (h2 : ∀ j ∈ O, j ≠ i → j ∈ O1)
    (ha : PSs X rest (tDS R W fr B O1 O' g)) (hb : PSs X rest (tDS R W fr B O O' g)) (hs : swapsWith e (some (.Name x pos')) pos.line X.env = pure false := by rfl) (hf : X.fn x = true ∨ X.env.scope.names.lookup x = some .local := by first | exact .inl rfl | exact .inr rfl | assumption) :
    PSs X (.Assign [.Name x pos'] e pos :: rest) (tDS R W fr B O O' (sSeq (sAsg (tgN i) f) g)) := pss_imp (pss_cons (ps_set hN hi hx he hs hf) (pss_or2 ha hb)) fun E σ H h => by
  obtain ⟨F0, H0, F, r, s, w, st, sl, p⟩ := h
  have ep : sSeq (sAsg (tgN i) f) g r s = liftX (f r) r (fun d s => g (r.set i (some d)) s) s := by
    unfold sSeq sAsg liftX
    cases f r s <;> rfl
  rw [ep] at p
  refine ⟨F, r, s, w, sl.pu, (postS_x w st sl p).imp (fun d s1 F1 H1 w1 st1 q v fv => ?_) fun _ _ _ _ _ _ z => z⟩
  obtain ⟨w2, st2, sl2, p2⟩ := q
  cases er : isRT d with
  | true =>
    obtain ⟨q, rfl, hq⟩ := fv.own er
    have hqq : OwnAt R H0 F1 H1 q d := ⟨st.th q hq.1, hq.2⟩
    refine .inl ⟨F0, H0, F1, _, s1, w2, st2, sl2.setO hO h1 h2 hqq fun j d' ad hj ne hrt e1 e2 ea => ?_, p2⟩
    subst ea
    obtain ⟨ad', e3, h4⟩ := sl.ow j d' hj hrt e1
    rw [e2] at e3
    cases e3
    obtain ⟨o, ho⟩ := h4.there
    rw [hq.1] at ho
    cases ho
  | false =>
    have rv : Rep R.K R.nm F1 d v := by
      cases d with
      | row ds => cases er
      | tab ds => cases er
      | _ => exact fv
    exact .inr ⟨F0, H0, F1, _, s1, w2, st2, sl2.setAt (setAt_one sl2.pu.len rv) (fun j hj => ⟨hj, fun z => hiO (by rw [← List.mem_singleton.mp z]; exact hj)⟩) fun j hj _ => hj, p2⟩
end
end Nw
set_option Elab.async false
set_option linter.all false
set_option maxRecDepth 100000
set_option maxHeartbeats 4000000
/-! Part JJ: sorted(set(list)), keys that are texts or ints. -/
namespace Nw
open PySem PySem.Spec L2 PyProof.Rows
/-! ### a set of keys that can be walked -/
def kyM (e : Int × Value) : Key := match e.2 with | .int k _ => .inl k | .str x _ => .inr x | _ => .inl 0
def GdM (w : World) (e : Int × Value) : Prop := keyIs (kyM e) e.2 = true ∧ e.1 = keyH w (kyM e)
def SetM (w : World) (h : Heap) (a : Addr) (L : List Key) : Prop :=
  ∃ o es ep t, h.get? a = some o ∧ o.ExactSet ∧ o.data = .set es ep t ∧ (∀ e ∈ es.toList, GdM w e) ∧ (es.toList.map kyM).Nodup ∧ (∀ k, k ∈ L ↔ k ∈ es.toList.map kyM) ∧
    es.size < scanBound ∧ t.fits es.size = true ∧ es.size ≤ L.length ∧ Ris t.place.toList ∧ (w.params.followText "set-order" = true ∨ t.led = true)
section
variable {P : Program} {w : World} {h h' : Heap} {a : Addr} {L : List Key}
theorem SetM.at (R : SetM w h a L) (k : ∀ o, h.get? a = some o → h'.get? a = some o) : SetM w h' a L := by
  obtain ⟨o, es, ep, t, ho, r⟩ := R; exact ⟨o, es, ep, t, k o ho, r⟩
theorem kyM_of {k : Key} {v : Value} {i : Int} (h : keyIs k v = true) : kyM (i, v) = k := by
  rcases keyIs_shape h with ⟨j, t, rfl, rfl⟩ | ⟨x, t, rfl, rfl⟩ <;> rfl
theorem gdM_el {l : List (Int × Value)} (g : ∀ e ∈ l, GdM w e) : ElemsOf (mixKind P w) l := fun e he => by
  obtain ⟨h1, h2⟩ := g e he
  refine ⟨⟨kyM e, h1, h2⟩, ?_⟩
  rcases keyIs_shape h1 with ⟨j, t, _, e2⟩ | ⟨x, t, _, e2⟩ <;> rw [e2] <;> rfl
theorem gdM_is {e : Int × Value} (g : GdM w e) (k : Key) : (mixKind P w).is k e.2 = true ↔ kyM e = k := by
  constructor
  · intro q
    obtain ⟨i, v⟩ := e
    exact kyM_of q
  · intro q
    rw [← q]; exact g.1
theorem gdM_mem {l : List (Int × Value)} (g : ∀ e ∈ l, GdM w e) (k : Key) : k ∈ l.map kyM ↔ ∃ e ∈ l, (mixKind P w).is k e.2 = true := by
  rw [List.mem_map]
  exact ⟨fun ⟨e, he, q⟩ => ⟨e, he, (gdM_is (g e he) k).2 q⟩, fun ⟨e, he, q⟩ => ⟨e, he, (gdM_is (g e he) k).1 q⟩⟩
end
section
variable {P : Program} {w : World} {A : Around} {E : Value → Shared → Prop} {s : Shared} {a : Addr} {L : List Key}
theorem setM_tail {g : Bool → Sem Unit} (hg : ∀ (b : Bool) (s₁ : Shared) (Q' : Unit → Shared → Prop), Q' () s₁ → wpAny (model P w) A (g b) Q' E s₁)
    {o : Obj} {es : Array (Int × Value)} {ep : Nat} {t : SetTable} (ho : s.heap.get? a = some o) (hex : o.ExactSet) (hd : o.data = .set es ep t)
    {es1 : Array (Int × Value)} {t2 : SetTable} {L' : List Key} (g1 : ∀ e ∈ es1.toList, GdM w e) (nd1 : (es1.toList.map kyM).Nodup) (m1 : ∀ k, k ∈ L' ↔ k ∈ es1.toList.map kyM) (hz1 : es1.size ≤ L'.length)
    (hb1 : es1.size < scanBound) (hf2 : t2.fits es1.size = true) (hr : Ris t2.place.toList) (hl : w.params.followText "set-order" = true ∨ t2.led = true) {wasDummy : Bool} {R : Option Bool → Shared → Prop}
    (hR : ∀ h', Heap.SameBut a s.heap h' → SetM w h' a L' → R (some true) { s with heap := h' }) :
    wpAny (model P w) A (do
        storeSet a es1 t2
        if (!wasDummy && t2.tooFull) = true then do
            g (relayAll t2 es1 (SetTable.grown es1.size)).2.2
            storeSet a (relayAll t2 es1 (SetTable.grown es1.size)).1 (relayAll t2 es1 (SetTable.grown es1.size)).2.1
            pure (some true)
          else pure (some true)) R E s := by
  refine wpAny_bind (wpAny_storeSet_of ho hd ?_ (fits_of_scanBound hb1))
  have ho1 := store_at (es' := es1) (t' := t2) ho hd
  have sb1 := Heap.SameBut.update s.heap a (Obj.putSet es1 t2)
  split
  · have pm := relayAll_perm t2 es1 (SetTable.grown es1.size)
    have hf3 := relayAll_fits t2 es1 (SetTable.grown es1.size)
    have hr3 := relayAll_ris t2 es1 (SetTable.grown es1.size)
    have hl3 := relayAll_led t2 es1 (SetTable.grown es1.size)
    generalize relayAll t2 es1 (SetTable.grown es1.size) = Z at pm hf3 hr3 hl3 ⊢
    obtain ⟨es2, t3, gave⟩ := Z
    dsimp only at pm hf3 hr3 hl3 ⊢
    have hsz : es2.size = es1.size := by rw [← Array.length_toList, pm.length_eq, Array.length_toList]
    have hb2 : es2.size < scanBound := by rw [hsz]; exact hb1
    refine wpAny_bind (hg _ _ _ ?_)
    refine wpAny_bind (wpAny_storeSet_of ho1 rfl ?_ (fits_of_scanBound hb2))
    have ho2 := store_at (es' := es2) (t' := t3) ho1 rfl
    refine wpAny_pure (hR _ (sb1.trans (Heap.SameBut.update _ a _)) ?_)
    exact ⟨_, es2, _, t3, ho2, hex, rfl, fun e he => g1 e (pm.mem_iff.mp he), (pm.map kyM).nodup_iff.mpr nd1, fun k => (m1 k).trans (pm.map kyM).mem_iff.symm, hb2, hf3, by rw [hsz]; exact hz1, hr3,
      hl.imp id fun z => by rw [hl3]; exact z⟩
  · exact wpAny_pure (hR _ sb1 ⟨_, es1, _, t2, ho1, hex, rfl, g1, nd1, m1, hb1, hf2, hz1, hr, hl⟩)
theorem setM_add {k : Key} {v : Value} {Q : Bool → Shared → Prop} (R : SetM w s.heap a L) (hkey : keyIs k v = true) (room : L.length + 1 < scanBound)
    (hQ : ∀ h' b, Heap.SameBut a s.heap h' → SetM w h' a (L ++ [k]) → Q b { s with heap := h' }) :
    wpAny (model P w) A (setAddHashed a v ((mixKind P w).hash k)) Q E s := by
  obtain ⟨o, es, ep, t, ho, hex, hd, g, nd, hm, hb, hf, hn, hr, hl⟩ := R
  have hsc : v.scannable = true := by rcases keyIs_shape hkey with ⟨j, t, _, e2⟩ | ⟨x, t, _, e2⟩ <;> rw [e2] <;> rfl
  have hel : ElemsOf (mixKind P w) es.toList := gdM_el g
  unfold setAddHashed setAddHashedIn
  refine wpAny_holding (wpAny_bind (wpAny_setState_of ho hd hf ?_))
  dsimp only
  rw [byScan_of hsc hb hel]
  simp only [↓reduceIte]
  unfold setAddByScan
  refine wpAny_bind (wpAny_bind (wpAny_rule ?_))
  refine wpAny_bind (wpAny_setScan_of (knd := mixKind P w) hkey ho hd hf hel ?_)
  cases hfi : List.findIdx? (fun e => (mixKind P w).is k e.2) es.toList with
  | some j =>
    dsimp only
    obtain ⟨hj, pj, _⟩ := List.findIdx?_eq_some_iff_getElem.mp hfi
    have hkL : k ∈ L := (hm k).2 ((gdM_mem (P := P) g k).2 ⟨es.toList[j], List.getElem_mem hj, pj⟩)
    refine wpAny_pure (wpAny_pure ?_)
    exact hQ s.heap _ (Heap.SameBut.refl a s.heap) ⟨o, es, ep, t, ho, hex, hd, g, nd, fun i => by
      rw [← hm i, List.mem_append, List.mem_singleton]
      exact ⟨fun z => z.elim id (fun e => e ▸ hkL), .inl⟩, hb, hf, by rw [List.length_append]; exact Nat.le_trans hn (Nat.le_add_right _ _), hr, hl⟩
  | none =>
    dsimp only
    have hnk : k ∉ es.toList.map kyM := fun z => by
      obtain ⟨e, he, q⟩ := (gdM_mem (P := P) g k).1 z
      have c := List.findIdx?_eq_none_iff.mp hfi e he
      rw [q] at c; cases c
    have hgw : ∀ (b : Bool) {s₁ : Shared} {Q' : Unit → Shared → Prop}, Q' () s₁ → wpAny (model P w) A (match b with | true => rule "set.scan.the-table-gave-way" | false => pure ()) Q' E s₁ :=
      fun b s₁ Q' q => by cases b <;> first | exact wpAny_pure q | exact wpAny_rule q
    have pm := layNew_perm t es ((mixKind P w).hash k) v
    have hf1 := layNew_fits t es ((mixKind P w).hash k) v
    have hr1 := layNew_ris t es ((mixKind P w).hash k) v hr
    have hl1 := layNew_led t es ((mixKind P w).hash k) v
    generalize layNew t es ((mixKind P w).hash k) v = Z at pm hf1 hr1 hl1 ⊢
    obtain ⟨es1, t1, wasDummy, gave⟩ := Z
    dsimp only at pm hf1 hr1 hl1 ⊢
    rw [Array.toList_push] at pm
    have pc : es1.toList.Perm (((mixKind P w).hash k, v) :: es.toList) := pm.trans (List.perm_append_singleton _ _)
    have pk : (es1.toList.map kyM).Perm (k :: es.toList.map kyM) := by
      have q := pc.map kyM
      rw [List.map_cons, kyM_of hkey] at q
      exact q
    have g1 : ∀ e ∈ es1.toList, GdM w e := fun e he => by
      rcases List.mem_cons.mp (pc.mem_iff.mp he) with z | z
      · rw [z]
        refine ⟨?_, ?_⟩
        · rw [kyM_of hkey]; exact hkey
        · rw [kyM_of hkey]; rfl
      · exact g e z
    have nd1 : (es1.toList.map kyM).Nodup := pk.nodup_iff.mpr (List.nodup_cons.mpr ⟨hnk, nd⟩)
    have m1 : ∀ i, i ∈ L ++ [k] ↔ i ∈ es1.toList.map kyM := fun i => by
      rw [List.mem_append, List.mem_singleton, hm i, pk.mem_iff, List.mem_cons]
      exact Or.comm
    have hsz : es1.size = es.size + 1 := by rw [← Array.length_toList, pc.length_eq, List.length_cons, Array.length_toList]
    have hz1 : es1.size ≤ (L ++ [k]).length := by rw [hsz, List.length_append]; exact Nat.succ_le_succ hn
    have hb1 : es1.size < scanBound := by rw [hsz]; omega
    have hled : w.params.followText "set-order" = true ∨ t1.led = true := hl.imp id fun z => by rw [hl1]; exact z
    refine wpAny_bind (hgw _ ?_)
    split
    · refine wpAny_bind ?_
      rw [hashByValue_scannable 8 hsc]
      refine wpAny_pure ?_
      refine setM_tail ?_ ho hex hd g1 nd1 m1 hz1 hb1 ?_ ?_ ?_ ?_
      · intro b s₁ Q' q; cases b <;> first | exact wpAny_pure q | exact wpAny_rule q
      · first | (split <;> first | exact hf1 | exact SetTable.fits_plain_off hf1) | exact hf1
      · first | (split <;> exact hr1) | exact hr1
      · first | (split <;> exact hled) | exact hled
      · intro h' sb r; dsimp only; exact wpAny_pure (hQ h' _ sb r)
    · refine wpAny_bind (wpAny_pure ?_)
      simp only [↓reduceIte]
      refine setM_tail ?_ ho hex hd g1 nd1 m1 hz1 hb1 hf1 hr1 hled ?_
      · intro b s₁ Q' q; cases b <;> first | exact wpAny_pure q | exact wpAny_rule q
      · intro h' sb r; dsimp only; exact wpAny_pure (hQ h' _ sb r)
theorem setM_fresh {h : Heap} {a : Addr} (w : World) (ho : h.get? a = some { cls := .type "set", dict := none, data := .set #[] 0 (.fresh 0 0 (!w.params.followText "set-order")) }) : SetM w h a [] :=
  ⟨_, #[], 0, _, ho, ⟨rfl, rfl, rfl⟩, rfl, (fun e he => by simp at he), (by simp), (fun k => by simp), (by decide), (by rfl), Nat.le_refl _, List.Pairwise.nil, by
    show _ ∨ (!w.params.followText "set-order") = true
    cases w.params.followText "set-order"
    · exact .inr rfl
    · exact .inl rfl⟩
theorem setM_loop {I : Addr} {fp wr : List Addr} {G : Array GenState → Array GenState → Prop} {n : Nat} {Pv : Nat → Value → Prop} {St : Nat → Shared → Prop} {R : Result → Shared → Prop}
    (W : WalksS P w A.in1 I fp wr G n Pv St) (S : Addr) (hSf : S ∉ fp) (ks : List Key) (hn : n = ks.length) (hb : ks.length + 1 < scanBound) (hval : ∀ i v, Pv i v → ∃ k, ks[i]? = some k ∧ keyIs k v = true) :
    ∀ (k i : Nat) (s : Shared), n - i = k → i ≤ n → St i s → SetM w s.heap S (ks.take i) → (∀ s', Moved (S :: wr) G s s' → SetM w s'.heap S ks → R (.ok (.ret .none)) s') →
      codeAny (model P w) A (.builtin "set.update.loop" ⟨[.ref S, .ref I], []⟩) R s := by
  have hSw : S ∉ wr := fun h => hSf (W.sub _ h)
  have hsub : ∀ b ∈ wr, b ∈ S :: wr := fun b hb => List.mem_cons_of_mem _ hb
  intro k
  induction k with
  | zero =>
    intro i s hk' hi hst hS hR
    have hin : i = n := by omega
    subst hin
    refine codeAny_builtin F.entry_set_update_loop ?_
    rw [Around.under_plainId F.plain_set_update_loop _]
    show wpAny _ A.in1 (pyNext (.ref I) >>= _) _ _ s
    refine wpAny_bind (W.done s _ _ hst fun s' hm => ?_)
    show wpAny _ A.in1 (PySem.ret Value.none) _ _ s'
    rw [hn, List.take_length] at hS
    exact wpAny_pure (hR s' (hm.mono hsub) (hS.at fun o e => hm.heap S o hSw e))
  | succ k ih =>
    intro i s hk' hi hst hS hR
    have hlt : i < n := by omega
    refine codeAny_builtin F.entry_set_update_loop ?_
    rw [Around.under_plainId F.plain_set_update_loop _]
    show wpAny _ A.in1 (pyNext (.ref I) >>= _) _ _ s
    refine wpAny_bind (W.item i s _ _ hlt hst fun v s' hP hst' hm => ?_)
    obtain ⟨p, hp, hkv⟩ := hval i v hP
    have hS' : SetM w s'.heap S (ks.take i) := hS.at fun o e => hm.heap S o hSw e
    show wpAny _ A.in1 (holding [v] (setAdd S v) >>= _) _ _ s'
    refine wpAny_bind (wpAny_holding ?_)
    unfold setAdd
    refine wpAny_holding ?_
    refine wpAny_bind ((mixKind P w).pyHash (k := p) hkv ?_)
    refine setM_add (s := { s' with toks := s'.toks + 1 }) hS' hkv (by rw [List.length_take]; omega) fun h' b hsb hS2 => ?_
    rw [show ks.take i ++ [p] = ks.take (i + 1) by rw [List.take_succ, hp]; rfl] at hS2
    refine wpAny_pure ⟨plainId_quiet F.plain_set_update_loop _, ih (i + 1) _ (by omega) hlt (W.frame _ s' _ _ hst' (Nat.le_add_right _ _) fun b hb o e => ?_) hS2 fun s'' hm'' hS'' => ?_⟩
    · rw [hsb.2 b (fun h : b = S => hSf (by rw [← h]; exact hb))]; exact e
    · refine hR s'' (Moved.trans W.gtrans ((hm.mono hsub).then_heap (Nat.le_add_right _ _) fun b o hb e => ?_) hm'') hS''
      rw [hsb.2 b (fun h : b = S => hb (by rw [h]; exact List.mem_cons_self))]; exact e
theorem call_setM {l : Addr} {items : Array Value} (ks : List Key) {Q : Value → Shared → Prop} (hh : A.handled = none) (hl : s.heap.IsList l items) (hit : ∀ (i : Nat) (v : Value), items[i]? = some v → ∃ k, ks[i]? = some k ∧ keyIs k v = true) (hisz : items.size = ks.length)
    (hb : ks.length + 1 < scanBound)
    (h : ∀ (h' : Heap) (tk : Nat), SetM w h' s.heap.objs.size ks → (∀ b o, s.heap.get? b = some o → h'.get? b = some o) → Q (.ref s.heap.objs.size) { s with heap := h', toks := tk }) :
    wpAny (model P w) A (call (.type "set") [.ref l]) Q E s := by
  obtain ⟨c, tl, hmro⟩ := F.called_set.mro
  have hmade := F.called_set.made
  have hsub := F.called_set.sub
  refine wpAny_call (codeAny_of_tree ?_)
  show wpAny _ _ (callAny (.type "set") _) _ _ _
  refine wpAny_pure ⟨Code.quiet_builtin _ (by decide +kernel), codeAny_builtin F.entry_type_call ?_⟩
  rw [Around.under_plain (weight_type_call_type "set" [.ref l] []) rfl]
  have h1 := F.called_set.notType
  have h2 := F.called_set.canCreate
  have hct := F.typeCall_set_1 (.ref l)
  repeat (any_goals (first | assumption | wp_step))
  refine codeAny_mono (code_set_led1 (.ref l) (E := E) (Q₁ := fun obj s₁ => obj = .ref s.heap.objs.size ∧ s₁ = { s with heap := s.heap.push { cls := .type "set", dict := none, data := .set #[] 0 (.fresh 0 0 (!w.params.followText "set-order")) } }) ⟨rfl, rfl⟩) fun r s₁ hr => ?_
  cases r with
  | error e => exact hr
  | ok fl =>
    cases fl with
    | ret obj =>
      obtain ⟨rfl, rfl⟩ := hr
      have hS : (s.heap.push { cls := .type "set", dict := none, data := .set #[] 0 (.fresh 0 0 (!w.params.followText "set-order")) }).get? s.heap.objs.size = some { cls := .type "set", dict := none, data := .set #[] 0 (.fresh 0 0 (!w.params.followText "set-order")) } := Heap.get?_push_size _ rfl
      have hT : Shared.TypeIs { s with heap := s.heap.push { cls := .type "set", dict := none, data := .set #[] 0 (.fresh 0 0 (!w.params.followText "set-order")) } } (.ref s.heap.objs.size) "set" := ⟨_, hS, rfl⟩
      have hli := F.called_set.init.lookup
      have hbi := F.called_set.init.bind (.ref s.heap.objs.size)
      repeat (any_goals (first | assumption | wp_step))
      refine codeAny_mono (codeAny_call_builtin (R := wants (fun r s₂ => r = .none ∧ ∃ h' tk, s₂ = { s with heap := h', toks := tk } ∧ SetM w h' s.heap.objs.size ks ∧ (∀ b o, s.heap.get? b = some o → h'.get? b = some o)) E) F.called_set.init.plain F.entry_set_init (check_set_init_1 hT ?_)) fun r₂ s₂ hr₂ => ?_
      · obtain ⟨ol, hol, hcl, nl, hdl⟩ := hl
        obtain ⟨ocls, odict, odata, oslots⟩ := ol
        simp only at hcl hdl
        subst hcl; subst hdl
        have hol' : (s.heap.push { cls := .type "set", dict := none, data := .set #[] 0 (.fresh 0 0 (!w.params.followText "set-order")) }).get? l = some { cls := .type "list", dict := odict, data := .seq items nl, slots := oslots } := Heap.get?_push_of_some _ hol
        have hsls := F.sub_list_set
        have hslf := F.sub_list_frozenset
        have hne : (Value.type "list" == Value.type "dict") = false := by decide
        have hl1 : (s.heap.push { cls := .type "set", dict := none, data := .set #[] 0 (.fresh 0 0 (!w.params.followText "set-order")) }).IsList l items := ⟨_, hol', rfl, nl, rfl⟩
        unfold Builtin.«set.__init__» noKeywords Builtin.Frozenset.updateFrom
        generalize hPI : pyIter = PI
        wp_walk
        subst hPI
        refine wpAny_pyIter_list hl1 ?_
        refine wpAny_bind (wpAny_runValue ?_)
        have hlS : l < s.heap.objs.size := Heap.lt_size hol
        have hh3 : A.in1.in1.in1.handled = none := by simp [hh]
        have hneI : l ≠ (s.heap.push { cls := .type "set", dict := none, data := .set #[] 0 (.fresh 0 0 (!w.params.followText "set-order")) }).objs.size := by
          rw [Heap.size_push]; exact Nat.ne_of_lt (Nat.lt_succ_of_lt hlS)
        have hSf : s.heap.objs.size ∉ [(s.heap.push { cls := .type "set", dict := none, data := .set #[] 0 (.fresh 0 0 (!w.params.followText "set-order")) }).objs.size, l] := by
          rw [Heap.size_push]; simp only [List.mem_cons, List.mem_singleton, List.not_mem_nil, or_false, not_or]
          exact ⟨Nat.ne_of_lt (Nat.lt_succ_self _), Nat.ne_of_gt hlS⟩
        refine setM_loop ((Walks.list hh3 _ l hneI items).toS) s.heap.objs.size hSf ks hisz hb hit (items.size - 0) 0 _ (by omega) (Nat.zero_le _)
          ⟨⟨_, Heap.get?_push_size _ rfl, rfl, rfl⟩, (hl1.push _)⟩ ?hS0 ?hR
        case hS0 => exact setM_fresh w (Heap.get?_push_of_some _ hS)
        case hR =>
          intro s' hm hS'
          have hkp : ∀ b o, s.heap.get? b = some o → s'.heap.get? b = some o := fun b o e => by
            have hb : b < s.heap.objs.size := Heap.lt_size e
            refine hm.heap b o ?_ (Heap.get?_push_of_some _ (Heap.get?_push_of_some _ e))
            intro z
            rcases List.mem_cons.mp z with z | z
            · exact absurd hb (by rw [z]; exact Nat.lt_irrefl _)
            · have hz := List.mem_singleton.mp z
              rw [hz, Heap.size_push] at hb
              exact absurd hb (Nat.not_lt_of_le (Nat.le_succ _))
          obtain ⟨h', g2, d', tk', os'⟩ := s'
          have eg : g2 = s.gens := hm.gens
          have ed : d' = s.drawn := hm.drawn
          have eo : os' = s.os := hm.os
          subst eg; subst ed; subst eo
          show wpAny _ _ _ _ _ _
          refine wpAny_pure ?_
          show wpAny _ _ (PySem.ret Value.none) _ _ _
          exact wpAny_pure ⟨rfl, h', tk', rfl, hS', hkp⟩
      · cases r₂ with
        | error e => exact hr₂
        | ok fl₂ =>
          cases fl₂ with
          | ret r =>
            obtain ⟨rfl, h', tk, rfl, hS', hk'⟩ := hr₂
            repeat (any_goals (first | assumption | wp_step))
            exact h _ _ hS' hk'
          | _ => exact hr₂.elim
    | _ => exact hr.elim
/-- sorted: all texts -/
theorem sortedM_txt {xs : List Str} {Q : Value → Shared → Prop} (R : SetM w s.heap a (xs.map Sum.inr)) (hh : A.handled = none) (hz : xs.length ≤ sizeLine)
    (hQ : ∀ s' p (out : Array Value) (c : Nat) (ys : List Str), (∀ b o, s.heap.get? b = some o → s'.heap.get? b = some o) → s'.gens = s.gens → s'.os = s.os → s.heap.objs.size ≤ p →
      s'.heap.get? p = some (seqObj "list" out c) → StrsAre out.toList ys → ys.Nodup → (∀ x, x ∈ ys ↔ x ∈ xs) → sortedS ys = true → ys.length ≤ xs.length → Q (.ref p) s') :
    wpAny (model P w) A (call (.builtin "sorted") [.ref a]) Q E s := by
  obtain ⟨o, es, ep, t, ho, hex, hd, g, nd, hm, hb, hf, hn, hr, hl⟩ := R
  rw [List.length_map] at hn
  refine Calls.call_function_entry kind_sorted plain_sorted entry_sorted (args_sorted1 _) ?_
  unfold Builtin.«sorted»
  refine wpAny_bind (m := checkCount "sorted" 1 1 _) (wpAny_pure ?_)
  refine wpAny_bind (collect_set (A := A.in1) hh ⟨o, ho, hex.1, hd⟩ hf hb hr hl fun s1 vs k1 hz1 g1 o1 pm => ?_)
  have hvl : vs.length ≤ xs.length := by rw [pm.length_eq, List.length_map, Array.length_toList]; exact hn
  have hes : ∀ e ∈ es.toList, ∃ x tk, kyM e = Sum.inr x ∧ e.2 = Value.str x tk := fun e he => by
    have h1 := (hm (kyM e)).2 (List.mem_map_of_mem he)
    obtain ⟨x, _, hx⟩ := List.mem_map.mp h1
    have h2 := (g e he).1
    rw [← hx] at h2
    rcases keyIs_shape h2 with ⟨j, t, e1, e2⟩ | ⟨y, t, e1, e2⟩
    · cases e1
    · cases e1; exact ⟨x, t, hx.symm, e2⟩
  have hS : ∀ l : List (Int × Value), (∀ e ∈ l, ∃ x tk, kyM e = Sum.inr x ∧ e.2 = Value.str x tk) → ∃ ys, StrsAre (l.map (·.2)) ys ∧ l.map kyM = ys.map Sum.inr := by
    intro l
    induction l with
    | nil => intro _; exact ⟨[], .nil, rfl⟩
    | cons e l ih =>
      intro hl2
      obtain ⟨ys, h1, h2⟩ := ih fun e he => hl2 e (List.mem_cons_of_mem _ he)
      obtain ⟨x, tk, h3, h4⟩ := hl2 e List.mem_cons_self
      refine ⟨x :: ys, ?_, ?_⟩
      · rw [List.map_cons, h4]; exact .cons x tk h1
      · rw [List.map_cons, List.map_cons, h2, h3]
  obtain ⟨ys0, hy1, hy2⟩ := hS es.toList hes
  have hv : ∃ zs, StrsAre vs zs ∧ zs.Perm ys0 := by
    have q : ∀ (a b : List Value) (zs : List Str), a.Perm b → StrsAre b zs → ∃ ws, StrsAre a ws ∧ ws.Perm zs := by
      intro a b zs p
      have p' := p.symm
      clear p
      induction p' generalizing zs with
      | nil => intro h; cases h; exact ⟨[], .nil, .nil⟩
      | @cons x l1 l2 p ih =>
        intro h
        cases h with
        | cons x tk hr => obtain ⟨ws, h1, h2⟩ := ih _ hr; exact ⟨x :: ws, .cons x tk h1, h2.cons x⟩
      | @swap x y l =>
        intro h
        cases h with
        | cons x1 t1 hr =>
          cases hr with
          | cons x2 t2 hr2 => exact ⟨x2 :: x1 :: _, .cons x2 t2 (.cons x1 t1 hr2), .swap _ _ _⟩
      | trans p1 p2 ih1 ih2 =>
        intro h
        obtain ⟨ws, h1, h2⟩ := ih1 _ h
        obtain ⟨us, h3, h4⟩ := ih2 _ h1
        exact ⟨us, h3, h4.trans h2⟩
    exact q _ _ _ pm hy1
  obtain ⟨zs, hzs, hzp⟩ := hv
  refine wpAny_bind (wpAny_newList ?_ (Nat.le_trans hvl hz))
  have hoL : (s1.heap.push (seqObj "list" vs.toArray 0)).get? s1.heap.objs.size = some (seqObj "list" vs.toArray 0) := Heap.get?_push_size _ rfl
  refine wpAny_bind (wpAny_holding (wpAny_call_entry slot_list_sort ⟨_, hoL, rfl⟩ entry_list_sort (list_sort_treeKAny strKind_oneLt hoL hzs.keysOf (fun v₁ v₂ rest e => keyKind_strs (by rw [← e]; exact hzs)) (Nat.le_trans hvl hz) fun st' hp hs => ⟨_, rfl, ?_⟩) (args_list_sort _)))
  obtain ⟨ys, g1', g2', g3'⟩ := sorted_out_str hzs hp hs
  obtain ⟨c, hc⟩ := sortedHeap_at (vs := vs) (out := (arrOf st').map (·.2)) hoL
  have pn : ys.Perm ys0 := g2'.trans hzp
  have ndy : ys0.Nodup := by rw [hy2] at nd; exact List.Pairwise.of_map Sum.inr (fun _ _ hne e => hne (congrArg Sum.inr e)) nd
  refine wpAny_pure ⟨_, rfl, hQ _ s1.heap.objs.size _ c ys (fun b u e => ?_) g1 o1 hz1 hc g1' (pn.nodup_iff.mpr ndy) (fun x => ?_) g3' ?_⟩
  · have q := k1 b u e
    have hlt := Heap.lt_size q
    show (sortedHeap (s1.heap.push (seqObj "list" vs.toArray 0)) s1.heap.objs.size vs _).get? b = some u
    rw [sortedHeap_old (Nat.ne_of_lt hlt) (by rw [size_push']; exact Nat.lt_succ_of_lt hlt)]
    exact Heap.get?_push_of_some _ q
  · rw [pn.mem_iff]
    have h1 := hm (Sum.inr x)
    rw [hy2] at h1
    constructor
    · intro h2
      obtain ⟨y, hy, e⟩ := List.mem_map.mp (h1.2 (List.mem_map_of_mem h2))
      cases e; exact hy
    · intro h2
      obtain ⟨y, hy, e⟩ := List.mem_map.mp (h1.1 (List.mem_map_of_mem h2))
      cases e; exact hy
  · have h1 := congrArg List.length hy2
    rw [List.length_map, List.length_map, Array.length_toList] at h1
    rw [pn.length_eq, ← h1]; exact hn
end
end Nw
set_option Elab.async false
set_option linter.all false
set_option maxRecDepth 100000
set_option maxHeartbeats 4000000
/-! Part KK: sorted(set(e)) on plain data; a module's tables and lists. -/
namespace Nw
open PySem PySem.Spec L2
def ddS : List Str → List Str
  | [] => []
  | x :: r => if x ∈ r then ddS r else x :: ddS r
theorem ddS_mem : ∀ (l : List Str) (x : Str), x ∈ ddS l ↔ x ∈ l
  | [], x => Iff.rfl
  | y :: r, x => by
    unfold ddS
    split
    · rename_i h
      rw [ddS_mem r x, List.mem_cons]
      exact ⟨.inr, fun z => z.elim (fun e => e ▸ h) id⟩
    · rw [List.mem_cons, List.mem_cons, ddS_mem r x]
theorem ddS_nodup : ∀ (l : List Str), (ddS l).Nodup
  | [] => List.nodup_nil
  | y :: r => by
    unfold ddS
    split
    · exact ddS_nodup r
    · rename_i h
      exact List.nodup_cons.mpr ⟨fun z => h ((ddS_mem r y).mp z), ddS_nodup r⟩
theorem ddS_len : ∀ (l : List Str), (ddS l).length ≤ l.length
  | [] => Nat.le_refl _
  | y :: r => by
    unfold ddS
    split
    · exact Nat.le_succ_of_le (ddS_len r)
    · exact Nat.succ_le_succ (ddS_len r)
theorem perm_of_mem {l m : List Str} (h1 : l.Nodup) (h2 : m.Nodup) (h : ∀ x, x ∈ l ↔ x ∈ m) : l.Perm m := (List.perm_ext_iff_of_nodup h1 h2).mpr h
/-- sorted(set(e)) -/
def sortSetD : D → Option D
  | .row ds => (strsD ds).bind fun xs => if xs.length + 1 < PySem.scanBound then some (.row ((sortS (ddS xs)).map D.str)) else none
  | _ => none
def SetMO (w : World) (a : Addr) (L : List Key) : HO := .ext fun h => SetM w h a L
section
variable {X : Cx}
theorem setMO_new {w : World} {P : Program} {H : Hp} {h : Heap} {a : Addr} {L : List Key} (R : SetM w h a L) : ObjOk P w H h a (SetMO w a L) := by
  have ⟨o, _, _, _, ho, _⟩ := R
  exact ⟨R, ⟨o, ho⟩, fun h1 h2 p k => SetM.at p k⟩
theorem setMO_get {pins : List (Addr × Obj)} {σ : L2.St} {H : Hp} {s : Shared} {a : Addr} {L : List Key} (I : Inv X pins σ H s) (ha : H a = some (SetMO X.w a L)) : SetM X.w s.heap a L := (I.hok a _ ha).1
def rSetM (K : PySem.W.Frag) (w : World) : List V → Hp → VK → Prop := fun vs H Q => ∃ (l : Addr) (xs : List Str), vs = [V.ref l] ∧ SqL K H l (xs.map V.str) ∧ xs.length + 1 < PySem.scanBound ∧ ∀ p, H p = none → Q (.ref p) (upd H p (SetMO w p (xs.map Sum.inr)))
theorem cr_setM (hc : X.calm = true) : CallR X (.type "set") (rSetM X.K X.w) := by
  intro pins s σ H vs us Q I r h
  obtain ⟨l, xs, rfl, hl, hb, q⟩ := h
  rw [Vals.ref1 r]
  obtain ⟨its, r1, ⟨ob, m, ho1, ho2, ho3, ho4⟩, hz⟩ := I.list hl
  have hlen := r1.length
  rw [List.length_map] at hlen
  refine call_setM (P := X.prog) (xs.map Sum.inr) (I.ok.hd hc) ⟨ob, ho1, ho2, m, ho4⟩ (fun i v hv => ?_) (by rw [List.length_map, List.size_toArray, hlen]) (by rw [List.length_map]; exact hb) fun h' tk hS hk => ?_
  · have hv' : its[i]? = some v := by rw [← hv, List.getElem?_toArray]
    have hi : i < xs.length := by
      have := (List.getElem?_eq_some_iff.mp hv').1
      omega
    have e1 : (xs.map V.str)[i]? = some (V.str xs[i]) := by rw [List.getElem?_map, List.getElem?_eq_getElem hi]; rfl
    obtain ⟨u, hu1, hu2⟩ := r1.get e1
    rw [hv'] at hu1
    cases hu1
    obtain ⟨t, rfl⟩ := hu2
    exact ⟨Sum.inr xs[i], by rw [List.getElem?_map, List.getElem?_eq_getElem hi]; rfl, keyIs_str _ _⟩
  · exact ⟨.ref s.heap.objs.size, upd H s.heap.objs.size (SetMO X.w s.heap.objs.size (xs.map Sum.inr)), I.laid (t' := tk) hk (Nat.le_refl _) (setMO_new hS), rfl, q _ (I.hok.fresh (Nat.le_refl _))⟩
def rSortM (w : World) : List V → Hp → VK → Prop := fun vs H Q => ∃ (a : Addr) (xs : List Str), vs = [V.ref a] ∧ H a = some (SetMO w a (xs.map Sum.inr)) ∧ xs.length ≤ sizeLine ∧ ∀ p, H p = none → Q (.ref p) (upd H p (.lst ((sortS (ddS xs)).map V.str)))
theorem cr_sortM (hc : X.calm = true) : CallR X (.builtin "sorted") (rSortM X.w) := by
  intro pins s σ H vs us Q I r h
  obtain ⟨a, xs, rfl, ha, hz, q⟩ := h
  rw [Vals.ref1 r]
  refine sortedM_txt (P := X.prog) (setMO_get I ha) (I.ok.hd hc) hz fun s' p out c ys k g o hp hg hi hnd hmem hs hl => ?_
  have hlen : (ys.map V.str).length ≤ sizeLine := by rw [List.length_map]; exact Nat.le_trans hl hz
  have hn : H p = none := I.hok.fresh hp
  have J : Inv X pins σ (upd H p (.lst (ys.map V.str))) { s with heap := s'.heap, gens := s'.gens, drawn := s'.drawn, toks := s'.toks } :=
    I.call (ch := []) (Un.laid k hp hn) (I.hok.laid k hp ⟨hlen, out.toList, c, vals_of_strs hi, hg⟩) (by rw [g]; exact I.bare) (fun _ z => nomatch z)
  have e : s' = { s with heap := s'.heap, gens := s'.gens, drawn := s'.drawn, toks := s'.toks } := by
    cases s'
    cases s
    cases o
    rfl
  rw [e]
  have hu : ys = sortS (ddS xs) := sortS_uniq (perm_of_mem hnd (ddS_nodup xs) fun x => (hmem x).trans (ddS_mem xs x).symm) hs
  rw [hu] at J
  exact ⟨.ref p, _, J, rfl, q p hn⟩
end
section
variable {X : Cx} {R : Reg} {W : WX} {O : List Nat} {a e o : Expr} {f g : Sl → M R.S D} {pos p p2 pos2 apos cpos : Pos} {n : Nat}
theorem de_sortSet (c : Cxt X R W n) (hg : Gl X "sorted") (hm : X.mg "sorted" = none) (hg2 : Gl X "set") (hm2 : X.mg "set" = none) (he : PE X e (tD R W O f))
    (h1 : starEach [e] X.env = (false, eval e X.env) :: starEach [] X.env := by rfl) (h2 : starEach [.Call (.Name "set" p2) [e] [] pos2] X.env = (false, eval (.Call (.Name "set" p2) [e] [] pos2) X.env) :: starEach [] X.env := by rfl)
    (hpl : (backTo pos (starEach [] X.env)).any (·.1) = false := by rfl) (hpl2 : (backTo pos2 (starEach [] X.env)).any (·.1) = false := by rfl) :
    PE X (.Call (.Name "sorted" p) [.Call (.Name "set" p2) [e] [] pos2] [] pos) (tD R W O (dUn sortSetD f)) :=
  pe_imp (pe_callB (cr_sortM c.calm) hg hm (by decide +kernel) (pa_cons (pe_callTy (cr_setM c.calm) hg2 hm2 (by decide +kernel) (pa_cons he pa_nil h1) (by decide) (by decide) h1 hpl2) pa_nil h2) (by decide) (by decide) h2 hpl) fun σ H Q h => by
    obtain ⟨F, ρ, s, w, pu, p⟩ := h
    refine ⟨F, ρ, s, w, pu, p.bnd.imp (fun d s1 F1 H1 w1 st1 p1 v rv => ?_) fun _ _ _ _ _ _ z => z⟩
    obtain ⟨d', e0, k⟩ := p1.lift
    clear p1
    cases d with
    | row ds =>
      have e' : ((strsD ds).bind fun xs => if xs.length + 1 < PySem.scanBound then some (D.row ((sortS (ddS xs)).map D.str)) else none) = some d' := e0
      clear e0
      cases ex : strsD ds with
      | none => rw [ex] at e'; cases e'
      | some xs =>
        rw [ex] at e'
        have e3 : (if xs.length + 1 < PySem.scanBound then some (D.row ((sortS (ddS xs)).map D.str)) else none) = some d' := e'
        have hds := strsD_some ex
        clear e' ex
        subst hds
        by_cases hb : xs.length + 1 < PySem.scanBound
        · rw [if_pos hb] at e3
          cases e3
          obtain ⟨a, vs, rfl, q1, q2, q3⟩ := rv
          rw [List.length_map] at q2
          have hxs : ∀ x ∈ xs, x.length ≤ sizeLine := by
            have gen : ∀ (l : List Str) (us : List V), Reps R.K R.nm F1 (l.map D.str) us → ∀ x ∈ l, x.length ≤ sizeLine := by
              intro l
              induction l with
              | nil => intro us _ x hx; cases hx
              | cons y l ih =>
                intro us r x hx
                obtain ⟨v, ws, _, hv, hw⟩ := r
                rcases List.mem_cons.mp hx with rfl | hx
                · exact hv.2
                · exact ih ws hw x hx
            exact gen xs vs q3
          have hvs : vs = xs.map V.str := by
            have gen : ∀ (l : List Str) (us : List V), Reps R.K R.nm F1 (l.map D.str) us → us = l.map V.str := by
              intro l
              induction l with
              | nil => intro us r; exact r
              | cons y l ih =>
                intro us r
                obtain ⟨v, ws, rfl, hv, hw⟩ := r
                rw [ih ws hw, hv.1]; rfl
            exact gen xs vs q3
          subst hvs
          have hsl : SqL X.K H1 a (xs.map V.str) := SqL.of (w1.sub.lst q1)
          refine ⟨a, xs, rfl, hsl, hb, fun q hq => ?_⟩
          have st2 : Stp R F1 H1 F1 (upd H1 q (SetMO X.w q (xs.map Sum.inr))) := Stp.newH _ hq
          have w2 : Wd R F1 (upd H1 q (SetMO X.w q (xs.map Sum.inr))) s1 := w1.newH _ hq
          refine ⟨q, xs, rfl, upd_same, q2, fun q' hq' => ?_⟩
          refine new_row w2 ?_ (reps_strs _ fun x hx => hxs x ?_) hq' fun v F' H' w' st' r' => k F' H' w' (st2.trans st') v r'
          · rw [List.length_map, (sortS_perm _).length_eq]
            exact Nat.le_trans (ddS_len xs) q2
          · exact (ddS_mem xs x).mp ((sortS_perm _).mem_iff.mp hx)
        · rw [if_neg hb] at e3; cases e3
    | _ => cases e0
end
/-! ### a module's table of numbers, by texts -/
def entI (e : DictEntry) : Option (Str × Int) := match e.key, e.val with
  | .str x _, .int i _ => some (x, i)
  | _, _ => none
def tabB (K : PySem.W.Frag) (a : Addr) (kvs : List (Str × Int)) : Bool := match K.lookup a with
  | some ⟨_, _, .dict es _, _⟩ => decide (es.toList.map entI = kvs.map some)
  | _ => false
def assI : List (Str × Int) → Str → Option Int
  | [], _ => none
  | (k, i) :: r, x => if k = x then some i else assI r x
def KTab (K : PySem.W.Frag) (w : World) (a : Addr) (kvs : List (Str × Int)) : Prop := ∃ es n, KDict K w a es n ∧ ∀ x, match assI kvs x with
  | none => findBy Value.isStrOf es x = none
  | some i => ∃ t, findBy Value.isStrOf es x = some (.int i t)
theorem find_entI : ∀ (l : List DictEntry) (kvs : List (Str × Int)), l.map entI = kvs.map some → ∀ x, match assI kvs x with
    | none => (l.find? fun e => Value.isStrOf x e.key).map (·.val) = none
    | some i => ∃ t, (l.find? fun e => Value.isStrOf x e.key).map (·.val) = some (.int i t)
  | [], [], _, x => rfl
  | [], _ :: _, h, x => by cases h
  | _ :: _, [], h, x => by cases h
  | e :: l, (k, i) :: kvs, h, x => by
    have h1 : entI e :: l.map entI = some (k, i) :: kvs.map some := h
    injection h1 with h2 h3
    have ih := find_entI l kvs h3 x
    obtain ⟨hh, ek, ev⟩ := e
    cases ek with
    | str y t =>
      cases ev with
      | int j t2 =>
        cases h2
        show match (if k = x then some i else assI kvs x) with
          | none => (List.find? (fun e => Value.isStrOf x e.key) (⟨hh, .str k t, .int i t2⟩ :: l)).map (·.val) = none
          | some j => ∃ t', (List.find? (fun e => Value.isStrOf x e.key) (⟨hh, .str k t, .int i t2⟩ :: l)).map (·.val) = some (.int j t')
        by_cases hx : k = x
        · subst hx
          rw [if_pos rfl]
          refine ⟨t2, ?_⟩
          rw [List.find?_cons_of_pos (by simp [Value.isStrOf])]
          rfl
        · rw [if_neg hx, List.find?_cons_of_neg (by simp [Value.isStrOf, hx])]
          exact ih
      | _ => cases h2
    | _ => cases ev <;> cases h2
theorem ktab_of {K : PySem.W.Frag} {w : World} {a : Addr} {kvs : List (Str × Int)} (h : ∃ es n, KDict K w a es n) (hb : tabB K a kvs = true) : KTab K w a kvs := by
  obtain ⟨es, n, kd⟩ := h
  refine ⟨es, n, kd, fun x => ?_⟩
  unfold tabB at hb
  rw [kd.at_] at hb
  have h2 := find_entI es.toList kvs (of_decide_eq_true hb) x
  unfold findBy
  rw [← Array.find?_toList]
  exact h2
def kgetD (kvs : List (Str × Int)) : List D → Option D
  | [.str x, d] => some (match assI kvs x with | some i => .int i | none => d)
  | _ => none
section
variable {X : Cx} {R : Reg} {W : WX} {O : List Nat} {e1 e2 : Expr} {fs : Sl → M R.S (List D)} {pos np apos cpos : Pos} {n : Nat}
theorem kd_tyis {pins : List (Addr × Obj)} {σ : L2.St} {H : Hp} {s : Shared} {d : Addr} {es : Array DictEntry} {n : Nat} (D : KDict X.K X.w d es n) (I : Inv X pins σ H s) :
    s.TypeIs (.ref d) "dict" ∧ ∀ a, Value.ref d = .ref a → ∃ ob, s.heap.get? a = some ob ∧ ob.dict = none := by
  refine ⟨kd_type D I, fun a e => ?_⟩
  cases e
  exact ⟨_, I.kIn _ _ D.at_, rfl⟩
theorem de_kget {x : Str} {a : Addr} {kvs : List (Str × Int)} (c : Cxt X R W n) (hk : KTab X.K X.w a kvs) (hg : Gl X x) (hm : X.mg x = some (.ref a)) (ha : PA X [e1, e2] (tDA R W O fs)) (hd : (x == ("__debug__" : Str)) = false := by decide)
    (hbase : attributeBase (.Name x np) "get" X.env (eval (.Name x np) X.env) = eval (.Name x np) X.env := by rfl)
    (hfew : ((backTo cpos (starEach [e1, e2] X.env)).all (fun x => !x.1) && (backToKw cpos (keywordEach [] X.env)).all (fun x => x.1.isSome)
      && decide (([e1, e2] : List Expr).length + ([] : List Keyword).length + (if ([] : List Keyword).isEmpty then 0 else 1) < 30)) = true := by rfl)
    (hline : (apos.endLine == cpos.line) = true := by rfl) (hs : starEach [e1, e2] X.env = (false, eval e1 X.env) :: starEach [e2] X.env := by rfl) (hplain : (backTo cpos (starEach [e2] X.env)).any (·.1) = false := by rfl) :
    PE X (.Call (.Attribute (.Name x np) "get" apos) [e1, e2] [] cpos) (tD R W O (dAll (kgetD kvs) fs)) := by
  obtain ⟨es, m, D, hf⟩ := hk
  have ho : PE X (.Name x np) (tC (.ref a)) := pe_glob hg hm rfl hd
  refine ⟨fun pins s σ H Q I h => ?_⟩
  obtain ⟨F, ρ, st, w, pu, p⟩ := h
  refine wpAny_Call_method_late hbase hfew hline rfl (thn (ho.run pins s σ H (fun v H1 => v = .ref a ∧ H1 = H) I ⟨rfl, rfl⟩) fun v s1 ⟨x1, H1, I1, r1, e1, e2⟩ => ?_)
  subst e1 e2
  cases r1
  obtain ⟨h1, h2⟩ := kd_tyis D I1
  refine ⟨"dict", "dict.get", PySem.F.plainAttrs_dict, PySem.F.slot_dict_get, PySem.F.type_dict_get, h1, h2, ?_⟩
  have hA := ha.run cpos pins s1 σ H1 (fun vs H2 => ∃ z y v', vs = [V.str z, y] ∧ (match assI kvs z with | none => v' = y | some i => v' = .int i) ∧ Q v' H2) I1 ⟨F, ρ, st, w, pu, p.bnd.imp (fun ds s2 F2 H2 w2 st2 p2 vs rv => by
    obtain ⟨d', e', k⟩ := p2.lift
    unfold kgetD at e'
    split at e'
    · rename_i z dd
      cases e'
      obtain ⟨u1, us, rfl, ru1, u2, us2, rfl, ru2, e3⟩ := rv
      rw [show us2 = [] from e3, ru1.1]
      cases q : assI kvs z with
      | none =>
        rw [q] at k
        exact ⟨z, u2, u2, rfl, by rw [q], k F2 H2 w2 Stp.refl _ ru2⟩
      | some i =>
        rw [q] at k
        exact ⟨z, u2, .int i, rfl, by rw [q], k F2 H2 w2 Stp.refl _ rfl⟩
    · cases e') fun _ _ _ _ _ _ z => z⟩
  rw [hs] at hA ⊢
  refine Calls.callWith_builtin (by show (false || (backTo cpos (starEach [e2] X.env)).any (·.1)) = false; rw [hplain] <;> rfl) (Calls.evalArgs_plain ?_)
  refine thn hA fun us s2 ⟨vs, H2, I2, r2, z, y, v', ev, hv, q2⟩ => ?_
  subst ev
  obtain ⟨uz, uy, rfl, ruz, ruy⟩ := r2.two
  obtain ⟨t, rfl⟩ := ruz
  refine call_meetsIn PySem.F.slot_dict_get (kd_tyis D I2).1 PySem.F.entry_dict_get (PySem.F.args_dict_get_3 _ _ _) (meets_dict_get_default (strKind X.prog X.w) a (strKind_is X.prog X.w z t) D.low uy) ⟨_, PySem.W.mapOf_K (prog := X.prog) I2.kIn D.at_ D.lit, ?_⟩
  have hz := hf z
  cases q : assI kvs z with
  | none =>
    rw [q] at hz hv
    rw [hz]
    cases hv
    exact ⟨y, H2, I2.tok _, ruy, q2⟩
  | some i =>
    rw [q] at hz hv
    obtain ⟨t2, hz⟩ := hz
    rw [hz]
    cases hv
    exact ⟨.int i, H2, I2.tok _, ⟨t2, rfl⟩, q2⟩
end
/-! ### a module's list of texts -/
def lstB (K : PySem.W.Frag) (a : Addr) (xs : List Str) : Bool := match K.lookup a with
  | some ⟨.type c, none, .seq its _, _⟩ => decide (c = "list") && decide (its.toList.map (fun v => match v with | .str x _ => some x | _ => none) = xs.map some)
  | _ => false
def KLst (K : PySem.W.Frag) (a : Addr) (xs : List Str) : Prop := ∃ (o : Obj) (its : Array Value) (n : Nat), K.lookup a = some o ∧ o.cls = .type "list" ∧ o.dict = none ∧ o.data = .seq its n ∧ its.size = xs.length ∧ Vals (xs.map V.str) its.toList
theorem klst_of {K : PySem.W.Frag} {a : Addr} {xs : List Str} (h : lstB K a xs = true) : KLst K a xs := by
  unfold lstB at h
  split at h
  · rename_i c its m sl q
    have h1 := (Bool.and_eq_true _ _).mp h
    have h2 := of_decide_eq_true h1.1
    have h3 := of_decide_eq_true h1.2
    subst h2
    have gen : ∀ (l : List Value) (ys : List Str), l.map (fun v => match v with | .str x _ => some x | _ => none) = ys.map some → Vals (ys.map V.str) l := by
      intro l
      induction l with
      | nil => intro ys h; cases ys with
        | nil => exact .nil
        | cons _ _ => cases h
      | cons v l ih =>
        intro ys h
        cases ys with
        | nil => cases h
        | cons y ys =>
          rw [List.map_cons, List.map_cons] at h
          injection h with h4 h5
          cases v with
          | str x t =>
            cases h4
            exact .cons ⟨t, rfl⟩ (ih ys h5)
          | _ => cases h4
    have hl := congrArg List.length h3
    rw [List.length_map, List.length_map, Array.length_toList] at hl
    exact ⟨_, its, m, q, rfl, rfl, rfl, hl, gen _ _ h3⟩
  · cases h
theorem de_klst {X : Cx} {R : Reg} {W : WX} {O : List Nat} {x : Str} {a : Addr} {xs : List Str} {pos : Pos} (hK : R.K = X.K) (hk : KLst X.K a xs) (hz : xs.length ≤ sizeLine) (hx : ∀ y ∈ xs, y.length ≤ sizeLine) (hg : Gl X x) (hm : X.mg x = some (.ref a)) (hd : (x == ("__debug__" : Str)) = false := by decide) :
    PE X (.Name x pos) (tD R W O (dC (.kro (xs.map D.str)))) := by
  refine de_c _ (pe_glob (v := .ref a) hg hm rfl hd) fun F => ?_
  obtain ⟨o, its, n, h1, h2, h3, h4, h5, h6⟩ := hk
  exact ⟨a, xs.map V.str, rfl, .inr ⟨o, its, n, by rw [hK]; exact h1, h2, h3, h4, by rw [h5]; exact hz, h6⟩, by rw [List.length_map]; exact hz, reps_strs xs hx⟩
end Nw
set_option Elab.async false
set_option linter.all false
set_option maxRecDepth 100000
set_option maxHeartbeats 4000000
/-! Part LL: a chain of three comparisons; a comprehension over a table's keys into a local name. -/
namespace Nw
open PySem PySem.Spec L2 PyProof.Rows
section
variable {X : Cx} {R : Reg} {W : WX} {O : List Nat} {a b c d : Expr} {f g h i : Sl → M R.S D} {ta tb tc td : TE} {pos : Pos}
def tChain3 (r r' r'' : R2) (ta tb tc td : TE) : TE := fun σ H Q => ta σ H fun x H1 => tb σ H1 fun y H2 => r x y H2 fun z H3 => ∃ k, z = .bl k ∧
  (if k = true then (tc σ H3 fun u H4 => r' y u H4 fun z2 H5 => ∃ k2, z2 = .bl k2 ∧ (if k2 = true then td σ H5 fun w' H6 => r'' u w' H6 Q else Q (.bl false) H5)) else Q (.bl false) H3)
theorem pe_chain3 {o o' o'' : CmpOp} {r r' r'' : R2} (ho : OpR X (compareOp o) r) (ho' : OpR X (compareOp o') r') (ho'' : OpR X (compareOp o'') r'') (ha : PE X a ta) (hb : PE X b tb) (hc : PE X c tc) (hd : PE X d td)
    (hm : lastMarks [o, o', o''] [b, c, d] = false := by with_unfolding_all rfl) : PE X (.Compare a [o, o', o''] [b, c, d] pos) (tChain3 r r' r'' ta tb tc td) := by
  refine ⟨fun pins s σ H Q I h => ?_⟩
  refine Compare_chain (thn (ha.run pins s σ H _ I h) fun v s1 ⟨x, H1, I1, r1, q1⟩ => chain_link (thn (hb.run pins s1 σ H1 _ I1 q1) fun u s2 ⟨y, H2, I2, r2, q2⟩ =>
    thn (ho pins s2 σ H2 x y v u _ I2 r1 r2 q2) fun e s3 ⟨z, H3, I3, r3, k, ez, q3⟩ => ?_)) hm
  subst ez
  cases r3
  refine wpAny_truthy_bool ?_
  cases k with
  | false => exact ite_ff ⟨.bl false, H3, I3, rfl, q3⟩
  | true =>
    refine ite_tt (chain_link (thn (hc.run pins s3 σ H3 _ I3 q3) fun w' s4 ⟨z', H4, I4, r4, q4⟩ => thn (ho' pins s4 σ H4 y z' u w' _ I4 r2 r4 q4) fun e5 s5 ⟨z5, H5, I5, r5, k5, e6, q5⟩ => ?_))
    subst e6
    cases r5
    refine wpAny_truthy_bool ?_
    cases k5 with
    | false => exact ite_ff ⟨.bl false, H5, I5, rfl, q5⟩
    | true => exact ite_tt (chain_last (thn (hd.run pins s5 σ H5 _ I5 q5) fun w6 s6 ⟨z6, H6, I6, r6, q6⟩ => ho'' pins s6 σ H6 z' z6 w' w6 Q I6 r4 r6 q6))
def dChain3 {S : Type} (op op' op'' : D → D → Option D) (f g h i : Sl → M S D) : Sl → M S D := fun r => bnd (f r) fun x => bnd (g r) fun y => bnd (lift ((op x y).bind isBl)) fun b => if b = true then (bnd (h r) fun z => bnd (lift ((op' y z).bind isBl)) fun b' => if b' = true then bnd (i r) fun u => lift (op'' z u) else ret (.bl false)) else ret (.bl false)
theorem sat_chain3 {r r' r'' : R2} {op op' op'' : D → D → Option D} (hs : OpSat R r op) (hs' : OpSat R r' op') (hs'' : OpSat R r'' op'') (σ : L2.St) (H : Hp) (Q : VK) (p : tD R W O (dChain3 op op' op'' f g h i) σ H Q) : tChain3 r r' r'' (tD R W O f) (tD R W O g) (tD R W O h) (tD R W O i) σ H Q := by
  obtain ⟨F, ρ, s, w, pu, p⟩ := p
  refine ⟨F, ρ, s, w, pu, p.bnd.imp (fun d s1 F1 H1 w1 st1 p1 v rv => ?_) fun _ _ _ _ _ _ z => z⟩
  refine ⟨F1, ρ, s1, w1, pu.mono st1.fs, p1.bnd.imp (fun e s2 F2 H2 w2 st2 p2 u ru => ?_) fun _ _ _ _ _ _ z => z⟩
  obtain ⟨b, eb, p3⟩ := p2.bnd.lift
  cases eo : op d e with
  | none => rw [eo] at eb; cases eb
  | some z =>
    rw [eo] at eb
    cases z <;> try cases eb
    refine hs v u d e _ F2 H2 s2 _ w2 (rv.mono st2.fs) ru eo fun v' F3 H3 w3 st3 r3 => ?_
    refine ⟨b, r3, ?_⟩
    have p4 := p3 F3 H3 w3 st3
    cases b with
    | false => rw [if_neg Bool.false_ne_true] at p4 ⊢; exact p4 F3 H3 w3 Stp.refl _ rfl
    | true =>
      rw [if_pos rfl] at p4 ⊢
      have pu3 := (pu.mono (st1.fs.trans st2.fs)).mono st3.fs
      refine ⟨F3, ρ, s2, w3, pu3, p4.bnd.imp (fun e' s5 F5 H5 w5 st5 p5 u' ru' => ?_) fun _ _ _ _ _ _ z => z⟩
      obtain ⟨b, eb, p6⟩ := p5.bnd.lift
      cases eo : op' e e' with
      | none => rw [eo] at eb; cases eb
      | some z =>
        rw [eo] at eb
        cases z <;> try cases eb
        refine hs' u u' e e' _ F5 H5 s5 _ w5 ((ru.mono st3.fs).mono st5.fs) ru' eo fun v' F6 H6 w6 st6 r6 => ?_
        refine ⟨b, r6, ?_⟩
        have p7 := p6 F6 H6 w6 st6
        cases b with
        | false => rw [if_neg Bool.false_ne_true] at p7 ⊢; exact p7 F6 H6 w6 Stp.refl _ rfl
        | true =>
          rw [if_pos rfl] at p7 ⊢
          refine ⟨F6, ρ, s5, w6, (pu3.mono st5.fs).mono st6.fs, p7.bnd.imp (fun e8 s8 F8 H8 w8 st8 p8 u8 ru8 => ?_) fun _ _ _ _ _ _ z => z⟩
          obtain ⟨d9, e9, k⟩ := p8.lift
          exact hs'' u' u8 e' e8 d9 F8 H8 s8 Q w8 ((ru'.mono st6.fs).mono st8.fs) ru8 e9 fun v' F' H' w' st' r' => k F' H' w' st' v' r'
theorem de_chain3 {o o' o'' : CmpOp} {op op' op'' : D → D → Option D} (k : CmpOk X R o op) (k' : CmpOk X R o' op') (k'' : CmpOk X R o'' op'') (ha : PE X a (tD R W O f)) (hb : PE X b (tD R W O g)) (hc : PE X c (tD R W O h)) (hd : PE X d (tD R W O i)) (hm : lastMarks [o, o', o''] [b, c, d] = false := by with_unfolding_all rfl) :
    PE X (.Compare a [o, o', o''] [b, c, d] pos) (tD R W O (dChain3 op op' op'' f g h i)) := let ⟨_, h1, h2⟩ := k.ok; let ⟨_, h3, h4⟩ := k'.ok; let ⟨_, h5, h6⟩ := k''.ok; pe_imp (pe_chain3 h1 h3 h5 ha hb hc hd hm) (sat_chain3 h2 h4 h6)
end
section
variable {X : Cx} {R : Reg} {W : WX} {fr : FrK} {O O' B : List Nat} {elt iter tg : Expr} {ifs : List Expr} {scope : Scope} {own : List (Str × Nat)} {g : TG} {tgt : D → Sl → Option Sl} {t : Sl → M R.S Bool} {f : Sl → M R.S D} {n i : Nat} {y : Str} {py pos spos : Pos}
theorem ds_setLcW {gk : D → Option (List D)} (hgt : ∀ d l, gk d = some l → ∃ kvs, d = .tab kvs) (hO : i ∉ O) (c : Cxt X R W n) (i2 : Nat) (hy : X.N[i2]? = some y) (hyl : X.env.scope.names.lookup y = some .local) (hi : PI X tg iter (fun σ H Q => Lk i σ H ∧ tDI R W O (fun r => bnd (dVar i r) fun x => lift (gk x)) σ H Q)) (ok : BlkOk X.N X.env.scope scope own) (hgs : TgSat R g (own.map (·.2)) tgt)
    (hg : ∀ (s : Shared) (H : Hp) (C : Addr) (cl : List (Str × Addr)) (fp : List Addr), PG (X.blk s H scope (compEnvC scope cl C X.env) fp) tg g)
    (ht : ∀ (s : Shared) (H : Hp) (C : Addr) (cl : List (Str × Addr)) (fp : List Addr), Cxt (X.blk s H scope (compEnvC scope cl C X.env) fp) R W0 n → PTs (X.blk s H scope (compEnvC scope cl C X.env) fp) ifs (tDT R W0 O t))
    (he : ∀ (s : Shared) (H : Hp) (C : Addr) (cl : List (Str × Addr)) (fp : List Addr), Cxt (X.blk s H scope (compEnvC scope cl C X.env) fp) R W0 n → PE (X.blk s H scope (compEnvC scope cl C X.env) fp) elt (tD R W0 O f))
    (h1 : ∀ j ∈ O', j ∈ O ∧ j ∉ [i2]) (h2 : ∀ j ∈ O, j ∉ [i2] → j ∈ O') (hsw : swapsWith (.ListComp elt [⟨tg, iter, ifs, 0⟩] scope pos) (some (.Name y py)) spos.line X.env = pure true := by rfl) (hs : ∀ x, foldedSetIterable iter X.env x = pure x := by intro _; rfl) :
    PS X (.Assign [.Name y py] (.ListComp elt [⟨tg, iter, ifs, 0⟩] scope pos) spos) (tDS R W fr B O O' (sAsg (tgN i2) (dLc (fun r => bnd (dVar i r) fun x => lift (gk x)) tgt t f))) := by
  have base := ps_setLc (pos := pos) (py := py) (spos := spos) c.calm c.nd hy hyl hsw hi ok hg (fun s H C cl fp => ht s H C cl fp (c.blk _ _ _ _ _)) (fun s H C cl fp => he s H C cl fp (c.blk _ _ _ _ _)) hs
  refine ps_imp (ps_or2 base (ps_lk base)) fun E σ H h => ?_
  have h' := sat_asg (W := W) (tg_name (i := i2)) h1 h2 E σ H h
  have h'' := h'
  obtain ⟨F, r, s, w, pu, p⟩ := h''
  obtain ⟨kvs, l, a, ws, e1, el, e2, e3, e4, _⟩ := slot_tab hgt hO w pu p.bnd
  rcases w.sub.dK e2 with q | ⟨ob, q⟩
  · refine .inr ⟨a, _, q, mut_dK, fun od => ⟨lk_now e1 upd_same, ?_⟩⟩
    exact sat_lc hgs σ _ _ ⟨F, r, s, w.lock e2, pu, p.from (Stp.refl.lock e2 q)⟩
  · exact .inl ⟨lk_now e1 q, sat_lc hgs σ H _ h'⟩
end
end Nw
set_option Elab.async false
set_option linter.all false
set_option maxRecDepth 100000
set_option maxHeartbeats 4000000
/-! Part MM: an own table that is read while it grows. -/
namespace Nw
open PySem PySem.Spec L2
/-- an expression that may read the own thing in slot i -/
def tDw (R : Reg) (W : WX) (O : List Nat) (i : Nat) (f : Sl → M R.S D) : TE := fun σ H Q => ∃ F r s, Wd R F H s ∧ Pu R O F σ r ∧ (∀ d, isRT d = true → r[i]? = some (some d) → ∃ ad H0, σ[i]? = some (some (.ref ad)) ∧ OwnAt R H0 F H ad d) ∧ Post R F H (f r s) (fun d _ F' H' => ∀ v, Rep R.K R.nm F' d v → Q v H') (fun x _ F' H' => ∀ cls dd, RepX R.K R.nm F' x cls dd → W cls dd σ H')
section
variable {X : Cx} {R : Reg} {W : WX} {fr : FrK} {O B : List Nat} {a b e e1 e2 : Expr} {f g fk fv : Sl → M R.S D} {fs : Sl → M R.S (List D)} {pos npos apos cpos : Pos} {n i : Nat} {x : Str}
theorem de_wk (h : PE X e (tD R W O f)) : PE X e (tDw R W O i f) := pe_imp h fun σ H Q ⟨F, r, s, w, pu, _, p⟩ => ⟨F, r, s, w, pu, p⟩
theorem de_getO (i : Nat) (c : Cxt X R W n) (hN : X.N[i]? = some x) (hv : Vis X.env.scope x) (ha : PA X [e1, e2] (tDA R W O fs)) (hd : (x == ("__debug__" : Str)) = false := by decide) (hcd : (x == ("__classdict__" : Str)) = false := by decide)
    (hbase : attributeBase (.Name x npos) "get" X.env (eval (.Name x npos) X.env) = eval (.Name x npos) X.env := by rfl)
    (hfew : ((backTo cpos (starEach [e1, e2] X.env)).all (fun x => !x.1) && (backToKw cpos (keywordEach [] X.env)).all (fun x => x.1.isSome)
      && decide (([e1, e2] : List Expr).length + ([] : List Keyword).length + (if ([] : List Keyword).isEmpty then 0 else 1) < 30)) = true := by rfl)
    (hline : (apos.endLine == cpos.line) = true := by rfl) (hst : starEach [e1, e2] X.env = (false, eval e1 X.env) :: starEach [e2] X.env := by rfl) (hplain : (backTo cpos (starEach [e2] X.env)).any (·.1) = false := by rfl) :
    PE X (.Call (.Attribute (.Name x npos) "get" apos) [e1, e2] [] cpos) (tDw R W O i (dMt "dict" get2D (dVar i) fs)) :=
  pe_imp (pe_bw PySem.F.plainAttrs_dict PySem.F.slot_dict_get PySem.F.type_dict_get (mt_get2 (by have := c.hr.units; omega)) (pe_var hN hv hd hcd) ha hbase hfew hline hst hplain) fun σ H Q h => by
    obtain ⟨F, r, s, w, pu, ow, p⟩ := h
    obtain ⟨d, e, p1⟩ := Post.lift0 (m := getS r i) p
    obtain ⟨u, eu, p2⟩ := p1.lift0
    cases d with
    | tab kvs =>
      obtain ⟨ad, H0, h1, h2⟩ := ow _ rfl (getS_some e)
      obtain ⟨ws, q1, q2, q3⟩ := h2.2.2.2
      refine ⟨_, h1, .inr ⟨rfl, ad, ws, rfl, .inl q1⟩, F, r, s, w, pu, p2.bnd.imp (fun ds s1 F1 H1 w1 st1 p3 vs rvs => ?_) fun _ _ _ _ _ _ z => z⟩
      obtain ⟨d', e', k⟩ := p3.lift
      obtain ⟨ws2, q4, q5, q6⟩ := (h2.step st1).2.2.2
      unfold get2D at e'
      split at e'
      · rename_i kvs' kk dz heq
        cases heq
        obtain ⟨key, ek, rfl⟩ := map_some e'
        obtain ⟨y, ys, rfl, ry, z, zs, rfl, rz, e2⟩ := rvs
        rw [show zs = [] from e2]
        obtain ⟨k1, k2⟩ := keyD_ok ry ek
        exact ⟨ad, y, z, valV ws2 key, rfl, rfl, .inl ⟨ws2, key, .inl q4, k1, rfl⟩, k F1 H1 w1 Stp.refl _ (get_rep (H := H1) q6 rz)⟩
      · cases e'
    | _ => cases eu
theorem sat_opW {r : R2} {op : D → D → Option D} (hs : OpSat R r op) (σ : L2.St) (H : Hp) (Q : VK) (h : tDw R W O i (dOp op f g) σ H Q) : tOp r (tDw R W O i f) (tD R W O g) σ H Q := by
  obtain ⟨F, ρ, s, w, pu, ow, p⟩ := h
  refine ⟨F, ρ, s, w, pu, ow, p.bnd.imp (fun d s1 F1 H1 w1 st1 p1 v rv => ?_) fun _ _ _ _ _ _ z => z⟩
  refine ⟨F1, ρ, s1, w1, pu.mono st1.fs, p1.bnd.imp (fun e s2 F2 H2 w2 st2 p2 u ru => ?_) fun _ _ _ _ _ _ z => z⟩
  obtain ⟨d', e', k⟩ := p2.lift
  exact hs v u d e d' F2 H2 s2 Q w2 (rv.mono st2.fs) ru e' fun v' F' H' w' st' r' => k F' H' w' st' v' r'
theorem de_addW (hK : R.K = X.K) (ha : PE X a (tDw R W O i f)) (hb : PE X b (tD R W O g)) : PE X (.BinOp a .Add b pos) (tDw R W O i (dOp addD f g)) := pe_imp (pe_op op_addA ha hb) (sat_opW (sat_add X.K))
theorem ds_setTw (i : Nat) {pos' : Pos} (cx : Cxt X R W n) (hO : i ∈ O) (hN : X.N[i]? = some x) (hv : Vis X.env.scope x) (hk : PE X b (tD R W O fk)) (he : PE X e (tDw R W O i fv)) (hs : swapsWith e (some (.Subscript (.Name x npos) b pos')) pos.line X.env = pure false := by rfl) (hd : (x == ("__debug__" : Str)) = false := by decide) (hcd : (x == ("__classdict__" : Str)) = false := by decide) :
    PS X (.Assign [.Subscript (.Name x npos) b pos'] e pos) (tDS R W fr B O O (sOwn2 i setTD fk fv)) := ps_imp (ps_dput (by have := cx.hr.units; omega) (pe_var hN hv hd hcd) hk he hs) fun E σ H h => by
  obtain ⟨F0, H0, F, r, s, w, st, sl, p⟩ := h
  refine ⟨F, r, s, w, sl.pu, (fun d hrt hd => by obtain ⟨ad, h1, h2⟩ := sl.ow i d hO hrt hd; exact ⟨ad, _, h1, h2⟩), (postS_x w st sl p).imp (fun v s1 F1 H1 w1 st1 q vv rv => ?_) fun _ _ _ _ _ _ z => z⟩
  obtain ⟨w2, st2, sl2, p2⟩ := q
  obtain ⟨d, eg, p2⟩ := opt_post p2
  obtain ⟨cv, h1, hfre⟩ := sl2.fre hO (getS_some eg)
  refine ⟨_, h1, F1, r, s1, w2, sl2.pu, (postS_x w2 st2 sl2 p2).imp (fun k s3 F3 H3 w3 st3 q kv rk => ?_) fun _ _ _ _ _ _ z => z⟩
  obtain ⟨w4, st4, sl4, p4⟩ := q
  obtain ⟨d', ed, p4⟩ := put_post p4
  cases d with
  | tab kvs =>
    obtain ⟨ad, rfl, h2⟩ := hfre
    have h3 := h2.step st3
    obtain ⟨kk, ek, ed⟩ := bind_some (show (keyD k).bind (fun k => if kvs.length < sizeLine then some (D.tab (putD kvs k v)) else none) = some d' from ed)
    by_cases hz : kvs.length < sizeLine
    · rw [if_pos hz] at ed
      cases ed
      obtain ⟨ws, e1, e2, e3⟩ := h3.2.2.2
      obtain ⟨k1, k2⟩ := keyD_ok rk ek
      refine ⟨ad, upd H3 ad (.dK (putK ws kk vv)), rfl, ?_, ?_⟩
      · rw [k1]; exact DPut.k e1 (by rw [e3.length]; exact hz)
      · obtain ⟨a1, a2, a3⟩ := own_write (o := .dK (putK ws kk vv)) w4 st4 sl4 hO (getS_some eg) h1 h3 (d' := .tab (putD kvs kk v)) ⟨_, rfl, by have := putD_length kvs kk v; omega, e3.put k2 (rv.mono st3.fs)⟩
        exact p4 σ F3 _ a1 a2 a3
    · rw [if_neg hz] at ed; cases ed
  | _ => exact absurd ed (by simp [setTD])
end
end Nw
set_option Elab.async false
set_option linter.all false
set_option maxRecDepth 100000
set_option maxHeartbeats 4000000
/-! Part NN: a new list of two. -/
namespace Nw
open PySem PySem.Spec L2
def addRD : D → D → Option D
  | .row xs, .row ys => if xs.length + ys.length ≤ sizeLine then some (.row (xs ++ ys)) else none
  | _, _ => none
section
variable {X : Cx} {R : Reg} {W : WX} {O : List Nat} {a b : Expr} {f g : Sl → M R.S D} {pos : Pos}
theorem df_add (ha : PE X a (tD R W O f)) (hb : PE X b (tD R W O g)) : PE X (.BinOp a .Add b pos) (tDF R W O (dOp addRD f g)) := pe_imp (pe_op op_cat ha hb) fun σ H Q h => by
  obtain ⟨F, ρ, s, w, pu, p⟩ := h
  refine ⟨F, ρ, s, w, pu, p.bnd.imp (fun d s1 F1 H1 w1 st1 p1 v rv => ?_) fun _ _ _ _ _ _ z => z⟩
  refine ⟨F1, ρ, s1, w1, pu.mono st1.fs, p1.bnd.imp (fun e s2 F2 H2 w2 st2 p2 u ru => ?_) fun _ _ _ _ _ _ z => z⟩
  obtain ⟨d', e', k⟩ := p2.lift
  unfold addRD at e'
  split at e'
  · rename_i xs ys
    split at e'
    · rename_i hz
      cases e'
      obtain ⟨p, vs, rfl, h1, _, h3⟩ := rv.mono st2.fs
      obtain ⟨q, us, rfl, h4, _, h6⟩ := ru
      refine ⟨p, q, vs, us, rfl, rfl, w2.sub.lst h1, w2.sub.lst h4, by rw [h3.length, h6.length]; exact hz, fun z hz' => ?_⟩
      obtain ⟨c1, c2, c3⟩ := fre_row w2 (st1.trans st2) hz' (by rw [List.length_append]; exact hz) (h3.append h6)
      exact k F2 _ c1 (Stp.newH _ hz') _ c3
    · cases e'
  · cases e'
end
end Nw
set_option Elab.async false
set_option linter.all false
set_option maxRecDepth 100000
set_option maxHeartbeats 4000000
/-! Part OO: sorted(set(list)) of numbers too. -/
namespace Nw
open PySem PySem.Spec L2 PyProof.Rows
section
variable {P : Program} {w : World} {A : Around} {E : Value → Shared → Prop} {s : Shared} {a : Addr}
theorem intsPerm : ∀ (a b : List Value) (zs : List Int), a.Perm b → IntsAre b zs → ∃ ws, IntsAre a ws ∧ ws.Perm zs := by
  intro a b zs p
  have p' := p.symm
  clear p
  induction p' generalizing zs with
  | nil => intro h; cases h; exact ⟨[], .nil, .nil⟩
  | @cons x l1 l2 p ih =>
    intro h
    cases h with
    | cons x tk hr => obtain ⟨ws, h1, h2⟩ := ih _ hr; exact ⟨x :: ws, .cons x tk h1, h2.cons x⟩
  | @swap x y l =>
    intro h
    cases h with
    | cons x1 t1 hr =>
      cases hr with
      | cons x2 t2 hr2 => exact ⟨x2 :: x1 :: _, .cons x2 t2 (.cons x1 t1 hr2), .swap _ _ _⟩
  | trans p1 p2 ih1 ih2 =>
    intro h
    obtain ⟨ws, h1, h2⟩ := ih1 _ h
    obtain ⟨us, h3, h4⟩ := ih2 _ h1
    exact ⟨us, h3, h4.trans h2⟩
theorem sortedM_int {xs : List Int} {Q : Value → Shared → Prop} (R : SetM w s.heap a (xs.map Sum.inl)) (hh : A.handled = none) (hz : xs.length < 64)
    (hQ : ∀ s' p (out : Array Value) (c : Nat) (ys : List Int), (∀ b o, s.heap.get? b = some o → s'.heap.get? b = some o) → s'.gens = s.gens → s'.os = s.os → s.heap.objs.size ≤ p →
      s'.heap.get? p = some (seqObj "list" out c) → IntsAre out.toList ys → ys.Nodup → (∀ x, x ∈ ys ↔ x ∈ xs) → ys.Pairwise (· ≤ ·) → ys.length ≤ xs.length → Q (.ref p) s') :
    wpAny (model P w) A (call (.builtin "sorted") [.ref a]) Q E s := by
  obtain ⟨o, es, ep, t, ho, hex, hd, g, nd, hm, hb, hf, hn, hr, hl⟩ := R
  rw [List.length_map] at hn
  refine Calls.call_function_entry kind_sorted plain_sorted entry_sorted (args_sorted1 _) ?_
  unfold Builtin.«sorted»
  refine wpAny_bind (m := checkCount "sorted" 1 1 _) (wpAny_pure ?_)
  refine wpAny_bind (collect_set (A := A.in1) hh ⟨o, ho, hex.1, hd⟩ hf hb hr hl fun s1 vs k1 hz1 g1 o1 pm => ?_)
  have hvl : vs.length ≤ xs.length := by rw [pm.length_eq, List.length_map, Array.length_toList]; exact hn
  have hes : ∀ e ∈ es.toList, ∃ x tk, kyM e = Sum.inl x ∧ e.2 = Value.int x tk := fun e he => by
    have h1 := (hm (kyM e)).2 (List.mem_map_of_mem he)
    obtain ⟨x, _, hx⟩ := List.mem_map.mp h1
    have h2 := (g e he).1
    rw [← hx] at h2
    rcases keyIs_shape h2 with ⟨j, t, e1, e2⟩ | ⟨y, t, e1, e2⟩
    · cases e1; exact ⟨x, t, hx.symm, e2⟩
    · cases e1
  have hS : ∀ l : List (Int × Value), (∀ e ∈ l, ∃ x tk, kyM e = Sum.inl x ∧ e.2 = Value.int x tk) → ∃ ys, IntsAre (l.map (·.2)) ys ∧ l.map kyM = ys.map Sum.inl := by
    intro l
    induction l with
    | nil => intro _; exact ⟨[], .nil, rfl⟩
    | cons e l ih =>
      intro hl2
      obtain ⟨ys, h1, h2⟩ := ih fun e he => hl2 e (List.mem_cons_of_mem _ he)
      obtain ⟨x, tk, h3, h4⟩ := hl2 e List.mem_cons_self
      refine ⟨x :: ys, ?_, ?_⟩
      · rw [List.map_cons, h4]; exact .cons x tk h1
      · rw [List.map_cons, List.map_cons, h2, h3]
  obtain ⟨ys0, hy1, hy2⟩ := hS es.toList hes
  obtain ⟨zs, hzs, hzp⟩ := intsPerm _ _ _ pm hy1
  refine wpAny_bind (wpAny_newList ?_ (by rw [sizeLine_eq]; omega))
  have hoL : (s1.heap.push (seqObj "list" vs.toArray 0)).get? s1.heap.objs.size = some (seqObj "list" vs.toArray 0) := Heap.get?_push_size _ rfl
  refine wpAny_bind (wpAny_holding (wpAny_call_entry slot_list_sort ⟨_, hoL, rfl⟩ entry_list_sort (list_sort_tree hoL hzs (by omega) fun out ys a1 a2 a3 => ⟨_, rfl, ?_⟩) (args_list_sort _)))
  obtain ⟨c, hc⟩ := sortedHeap_at (vs := vs) (out := out) hoL
  have pn : ys.Perm ys0 := a2.trans hzp
  have ndy : ys0.Nodup := by rw [hy2] at nd; exact List.Pairwise.of_map Sum.inl (fun _ _ hne e => hne (congrArg Sum.inl e)) nd
  refine wpAny_pure ⟨_, rfl, hQ _ s1.heap.objs.size _ c ys (fun b u e => ?_) g1 o1 hz1 hc a1 (pn.nodup_iff.mpr ndy) (fun x => ?_) a3 ?_⟩
  · have q := k1 b u e
    have hlt := Heap.lt_size q
    show (sortedHeap (s1.heap.push (seqObj "list" vs.toArray 0)) s1.heap.objs.size vs _).get? b = some u
    rw [sortedHeap_old (Nat.ne_of_lt hlt) (by rw [size_push']; exact Nat.lt_succ_of_lt hlt)]
    exact Heap.get?_push_of_some _ q
  · rw [pn.mem_iff]
    have h1 := hm (Sum.inl x)
    rw [hy2] at h1
    constructor
    · intro h2
      obtain ⟨y, hy, e⟩ := List.mem_map.mp (h1.2 (List.mem_map_of_mem h2))
      cases e; exact hy
    · intro h2
      obtain ⟨y, hy, e⟩ := List.mem_map.mp (h1.1 (List.mem_map_of_mem h2))
      cases e; exact hy
  · have h1 := congrArg List.length hy2
    rw [List.length_map, List.length_map, Array.length_toList] at h1
    rw [pn.length_eq, ← h1]; exact hn
end
/-! ### numbers in order, each once -/
def insI (x : Int) : List Int → List Int
  | [] => [x]
  | y :: r => if x < y then x :: y :: r else if x = y then y :: r else y :: insI x r
def sortI : List Int → List Int
  | [] => []
  | x :: r => insI x (sortI r)
theorem insI_mem (x z : Int) : ∀ l : List Int, z ∈ insI x l ↔ z = x ∨ z ∈ l
  | [] => by simp [insI]
  | y :: r => by
    unfold insI
    split
    · simp
    · split
      · rename_i h; subst h; simp
      · rw [List.mem_cons, insI_mem x z r, List.mem_cons]
        constructor
        · rintro (h | h | h)
          · exact .inr (.inl h)
          · exact .inl h
          · exact .inr (.inr h)
        · rintro (h | h | h)
          · exact .inr (.inl h)
          · exact .inl h
          · exact .inr (.inr h)
theorem insI_lt (x : Int) : ∀ l : List Int, l.Pairwise (· < ·) → (insI x l).Pairwise (· < ·)
  | [], _ => by simp [insI]
  | y :: r, h => by
    obtain ⟨h1, h2⟩ := List.pairwise_cons.mp h
    unfold insI
    split
    · rename_i hx
      refine List.pairwise_cons.mpr ⟨fun z hz => ?_, h⟩
      rcases List.mem_cons.mp hz with rfl | hz
      · exact hx
      · have := h1 z hz; omega
    · split
      · exact h
      · refine List.pairwise_cons.mpr ⟨fun z hz => ?_, insI_lt x r h2⟩
        rcases (insI_mem x z r).mp hz with rfl | hz
        · omega
        · exact h1 z hz
theorem sortI_mem (z : Int) : ∀ l : List Int, z ∈ sortI l ↔ z ∈ l
  | [] => Iff.rfl
  | x :: r => by unfold sortI; rw [insI_mem, sortI_mem z r, List.mem_cons]
theorem sortI_lt : ∀ l : List Int, (sortI l).Pairwise (· < ·)
  | [] => List.Pairwise.nil
  | x :: r => insI_lt x _ (sortI_lt r)
theorem lt_uniq : ∀ {l m : List Int}, l.Pairwise (· < ·) → m.Pairwise (· < ·) → (∀ x, x ∈ l ↔ x ∈ m) → l = m
  | [], [], _, _, _ => rfl
  | [], b :: m, _, _, h => absurd ((h b).mpr List.mem_cons_self) (by simp)
  | a :: l, [], _, _, h => absurd ((h a).mp List.mem_cons_self) (by simp)
  | a :: l, b :: m, h1, h2, h => by
    obtain ⟨p1, p2⟩ := List.pairwise_cons.mp h1
    obtain ⟨q1, q2⟩ := List.pairwise_cons.mp h2
    have hab : a = b := by
      rcases List.mem_cons.mp ((h a).mp List.mem_cons_self) with e | e
      · exact e
      · rcases List.mem_cons.mp ((h b).mpr List.mem_cons_self) with e2 | e2
        · exact e2.symm
        · have := q1 a e; have := p1 b e2; omega
    subst hab
    rw [lt_uniq p2 q2 fun x => ?_]
    constructor
    · intro hx
      rcases List.mem_cons.mp ((h x).mp (List.mem_cons_of_mem _ hx)) with e | e
      · have := p1 x hx; omega
      · exact e
    · intro hx
      rcases List.mem_cons.mp ((h x).mpr (List.mem_cons_of_mem _ hx)) with e | e
      · have := q1 x hx; omega
      · exact e
/-- sorted(set(e)) -/
def sortSetD2 : D → Option D
  | .row ds => (match strsD ds with
    | some _ => sortSetD (.row ds)
    | none => (intsD ds).bind fun ns => if ns.length < 64 then some (.row ((sortI ns).map D.int)) else none)
  | _ => none
section
variable {X : Cx}
def rSetM2 (K : PySem.W.Frag) (w : World) : List V → Hp → VK → Prop := fun vs H Q => rSetM K w vs H Q ∨ ∃ (l : Addr) (xs : List Int), vs = [V.ref l] ∧ SqL K H l (xs.map V.int) ∧ xs.length < 64 ∧ ∀ p, H p = none → Q (.ref p) (upd H p (SetMO w p (xs.map Sum.inl)))
theorem cr_setM2 (hc : X.calm = true) : CallR X (.type "set") (rSetM2 X.K X.w) := by
  intro pins s σ H vs us Q I r h
  rcases h with h | h
  · exact cr_setM hc pins s σ H vs us Q I r h
  · obtain ⟨l, xs, rfl, hl, hb, q⟩ := h
    rw [Vals.ref1 r]
    obtain ⟨its, r1, ⟨ob, m, ho1, ho2, ho3, ho4⟩, hz⟩ := I.list hl
    have hlen := r1.length
    rw [List.length_map] at hlen
    refine call_setM (P := X.prog) (xs.map Sum.inl) (I.ok.hd hc) ⟨ob, ho1, ho2, m, ho4⟩ (fun i v hv => ?_) (by rw [List.length_map, List.size_toArray, hlen]) (by rw [List.length_map]; show xs.length + 1 < 4096; omega) fun h' tk hS hk => ?_
    · have hv' : its[i]? = some v := by rw [← hv, List.getElem?_toArray]
      have hi : i < xs.length := by
        have := (List.getElem?_eq_some_iff.mp hv').1
        omega
      have e1 : (xs.map V.int)[i]? = some (V.int xs[i]) := by rw [List.getElem?_map, List.getElem?_eq_getElem hi]; rfl
      obtain ⟨u, hu1, hu2⟩ := r1.get e1
      rw [hv'] at hu1
      cases hu1
      obtain ⟨t, rfl⟩ := hu2
      exact ⟨Sum.inl xs[i], by rw [List.getElem?_map, List.getElem?_eq_getElem hi]; rfl, keyIs_int _ _⟩
    · exact ⟨.ref s.heap.objs.size, upd H s.heap.objs.size (SetMO X.w s.heap.objs.size (xs.map Sum.inl)), I.laid (t' := tk) hk (Nat.le_refl _) (setMO_new hS), rfl, q _ (I.hok.fresh (Nat.le_refl _))⟩
def rSortM2 (w : World) : List V → Hp → VK → Prop := fun vs H Q => rSortM w vs H Q ∨ ∃ (a : Addr) (xs : List Int), vs = [V.ref a] ∧ H a = some (SetMO w a (xs.map Sum.inl)) ∧ xs.length < 64 ∧ ∀ p, H p = none → Q (.ref p) (upd H p (.lst ((sortI xs).map V.int)))
theorem cr_sortM2 (hc : X.calm = true) : CallR X (.builtin "sorted") (rSortM2 X.w) := by
  intro pins s σ H vs us Q I r h
  rcases h with h | h
  · exact cr_sortM hc pins s σ H vs us Q I r h
  · obtain ⟨a, xs, rfl, ha, hz, q⟩ := h
    rw [Vals.ref1 r]
    refine sortedM_int (P := X.prog) (setMO_get I ha) (I.ok.hd hc) hz fun s' p out c ys k g o hp hg hi hnd hmem hs hl => ?_
    have hlen : (ys.map V.int).length ≤ sizeLine := by rw [List.length_map, sizeLine_eq]; omega
    have hn : H p = none := I.hok.fresh hp
    have J : Inv X pins σ (upd H p (.lst (ys.map V.int))) { s with heap := s'.heap, gens := s'.gens, drawn := s'.drawn, toks := s'.toks } :=
      I.call (ch := []) (Un.laid k hp hn) (I.hok.laid k hp ⟨hlen, out.toList, c, vals_of_ints hi, hg⟩) (by rw [g]; exact I.bare) (fun _ z => nomatch z)
    have e : s' = { s with heap := s'.heap, gens := s'.gens, drawn := s'.drawn, toks := s'.toks } := by
      cases s'
      cases s
      cases o
      rfl
    rw [e]
    have hu : ys = sortI xs := lt_uniq (lt_of_le_nodup ys hs hnd) (sortI_lt xs) fun x => (hmem x).trans (sortI_mem x xs).symm
    rw [hu] at J
    exact ⟨.ref p, _, J, rfl, q p hn⟩
end
theorem sortI_len (l : List Int) : (sortI l).length ≤ l.length := by
  induction l with
  | nil => exact Nat.le_refl _
  | cons x r ih =>
    have gen : ∀ l : List Int, (insI x l).length ≤ l.length + 1 := by
      intro l
      induction l with
      | nil => exact Nat.le_refl _
      | cons y r ih2 =>
        unfold insI
        split
        · exact Nat.le_refl _
        · split
          · exact Nat.le_succ _
          · exact Nat.succ_le_succ ih2
    have h := gen (sortI r)
    show (insI x (sortI r)).length ≤ r.length + 1
    omega
section
variable {X : Cx} {R : Reg} {W : WX} {O : List Nat} {e : Expr} {f : Sl → M R.S D} {pos p p2 pos2 : Pos} {n : Nat}
theorem de_sortSet2 (c : Cxt X R W n) (hg : Gl X "sorted") (hm : X.mg "sorted" = none) (hg2 : Gl X "set") (hm2 : X.mg "set" = none) (he : PE X e (tD R W O f))
    (h1 : starEach [e] X.env = (false, eval e X.env) :: starEach [] X.env := by rfl) (h2 : starEach [.Call (.Name "set" p2) [e] [] pos2] X.env = (false, eval (.Call (.Name "set" p2) [e] [] pos2) X.env) :: starEach [] X.env := by rfl)
    (hpl : (backTo pos (starEach [] X.env)).any (·.1) = false := by rfl) (hpl2 : (backTo pos2 (starEach [] X.env)).any (·.1) = false := by rfl) :
    PE X (.Call (.Name "sorted" p) [.Call (.Name "set" p2) [e] [] pos2] [] pos) (tD R W O (dUn sortSetD2 f)) :=
  pe_imp (pe_or2 (de_sortSet c hg hm hg2 hm2 he h1 h2 hpl hpl2) (pe_callB (cr_sortM2 c.calm) hg hm (by decide +kernel) (pa_cons (pe_callTy (cr_setM2 c.calm) hg2 hm2 (by decide +kernel) (pa_cons he pa_nil h1) (by decide) (by decide) h1 hpl2) pa_nil h2) (by decide) (by decide) h2 hpl)) fun σ H Q h => by
    have key : ∀ (d : D) (ds : List D), d = .row ds → strsD ds = none → ∀ d', sortSetD2 d = some d' → ∃ ns, intsD ds = some ns ∧ ns.length < 64 ∧ d' = .row ((sortI ns).map D.int) := fun d ds e hs d' h => by
      subst e
      have h : (match strsD ds with | some _ => sortSetD (.row ds) | none => (intsD ds).bind fun ns => if ns.length < 64 then some (D.row ((sortI ns).map D.int)) else none) = some d' := h
      rw [hs] at h
      obtain ⟨ns, q1, q2⟩ := bind_some h
      by_cases hz : ns.length < 64
      · rw [if_pos hz] at q2; exact ⟨ns, q1, hz, (Option.some.inj q2).symm⟩
      · rw [if_neg hz] at q2; cases q2
    right
    obtain ⟨F, ρ, s, w, pu, p⟩ := h
    refine ⟨F, ρ, s, w, pu, p.bnd.imp (fun d s1 F1 H1 w1 st1 p1 v rv => ?_) fun _ _ _ _ _ _ z => z⟩
    obtain ⟨d', e0, k⟩ := p1.lift
    clear p1
    cases d with
    | row ds =>
      cases ex : strsD ds with
      | some xs =>
        have e1 : sortSetD (.row ds) = some d' := by
          have h : (match strsD ds with | some _ => sortSetD (.row ds) | none => _) = some d' := e0
          rw [ex] at h; exact h
        have e1 : ((strsD ds).bind fun xs => if xs.length + 1 < PySem.scanBound then some (D.row ((sortS (ddS xs)).map D.str)) else none) = some d' := e1
        rw [ex] at e1
        have e3 : (if xs.length + 1 < PySem.scanBound then some (D.row ((sortS (ddS xs)).map D.str)) else none) = some d' := e1
        have hds := strsD_some ex
        clear e1 e0 ex
        subst hds
        by_cases hb : xs.length + 1 < PySem.scanBound
        · rw [if_pos hb] at e3
          cases e3
          obtain ⟨a, vs, rfl, q1, q2, q3⟩ := rv
          rw [List.length_map] at q2
          have hxs : ∀ (l : List Str) (us : List V), Reps R.K R.nm F1 (l.map D.str) us → (∀ x ∈ l, x.length ≤ sizeLine) ∧ us = l.map V.str := by
            intro l
            induction l with
            | nil => intro us r; exact ⟨(fun x hx => nomatch hx), r⟩
            | cons y l ih =>
              intro us r
              obtain ⟨v, ws, rfl, hv, hw⟩ := r
              obtain ⟨i1, i2⟩ := ih ws hw
              refine ⟨fun x hx => ?_, by rw [i2, hv.1]; rfl⟩
              rcases List.mem_cons.mp hx with rfl | hx
              · exact hv.2
              · exact i1 x hx
          obtain ⟨hx1, hx2⟩ := hxs xs vs q3
          subst hx2
          refine .inl ⟨a, xs, rfl, SqL.of (w1.sub.lst q1), hb, fun q hq => ?_⟩
          have st2 : Stp R F1 H1 F1 (upd H1 q (SetMO X.w q (xs.map Sum.inr))) := Stp.newH _ hq
          have w2 : Wd R F1 (upd H1 q (SetMO X.w q (xs.map Sum.inr))) s1 := w1.newH _ hq
          refine .inl ⟨q, xs, rfl, upd_same, q2, fun q' hq' => ?_⟩
          refine new_row w2 ?_ (reps_strs _ fun x hx => hx1 x ?_) hq' fun v F' H' w' st' r' => k F' H' w' (st2.trans st') v r'
          · rw [List.length_map, (sortS_perm _).length_eq]
            exact Nat.le_trans (ddS_len xs) q2
          · exact (ddS_mem xs x).mp ((sortS_perm _).mem_iff.mp hx)
        · rw [if_neg hb] at e3; cases e3
      | none =>
        obtain ⟨ns, hns, hz, rfl⟩ := key _ ds rfl ex d' e0
        have hds := intsD_some hns
        clear e0 ex
        subst hds
        obtain ⟨a, vs, rfl, q1, q2, q3⟩ := rv
        have hxs : ∀ (l : List Int) (us : List V), Reps R.K R.nm F1 (l.map D.int) us → us = l.map V.int := by
          intro l
          induction l with
          | nil => intro us r; exact r
          | cons y l ih =>
            intro us r
            obtain ⟨v, ws, rfl, hv, hw⟩ := r
            rw [ih ws hw, show v = V.int y from hv]; rfl
        have hx2 := hxs ns vs q3
        subst hx2
        refine .inr ⟨a, ns, rfl, SqL.of (w1.sub.lst q1), hz, fun q hq => ?_⟩
        have st2 : Stp R F1 H1 F1 (upd H1 q (SetMO X.w q (ns.map Sum.inl))) := Stp.newH _ hq
        have w2 : Wd R F1 (upd H1 q (SetMO X.w q (ns.map Sum.inl))) s1 := w1.newH _ hq
        refine .inr ⟨q, ns, rfl, upd_same, hz, fun q' hq' => ?_⟩
        exact new_row w2 (by rw [List.length_map, sizeLine_eq]; have := sortI_len ns; omega) (reps_ints _) hq' fun v F' H' w' st' r' => k F' H' w' (st2.trans st') v r'
    | _ => cases e0
end
end Nw
set_option Elab.async false
set_option linter.all false
set_option maxRecDepth 100000
set_option maxHeartbeats 4000000
/-! Part PP: own things that are read by a test, and stay own. -/
namespace Nw
open PySem PySem.Spec L2
def unl (As : List Addr) (H H1 : Hp) : Hp := fun a => if a ∈ As then H a else H1 a
theorem unl_in {As : List Addr} {H H1 : Hp} {a : Addr} (h : a ∈ As) : unl As H H1 a = H a := by unfold unl; rw [if_pos h]
theorem unl_out {As : List Addr} {H H1 : Hp} {a : Addr} (h : a ∉ As) : unl As H H1 a = H1 a := by unfold unl; rw [if_neg h]
def Lkd (H H1 : Hp) (a : Addr) : Prop := H1 a = H a ∨ ∃ ob ws, H a = some (.dK ws) ∧ H1 a = some (.frz ob (.dK ws))
theorem inv_unl {X : Cx} {pins : List (Addr × Obj)} {σ : L2.St} {s : Shared} {H : Hp} : ∀ (As : List Addr) {H1 : Hp}, Inv X pins σ H1 s → (∀ a ∈ As, Lkd H H1 a) → (∀ a ∈ As, ∀ o' u', X.H_0 a ≠ some (.frz o' u')) → Inv X pins σ (unl As H H1) s
  | [], H1, I, _, _ => by
    have e : unl [] H H1 = H1 := funext fun a => unl_out (by simp)
    rw [e]; exact I
  | a :: As, H1, I, h, hn => by
    have key : ∃ H2, Inv X pins σ H2 s ∧ H2 a = H a ∧ ∀ b, b ≠ a → H2 b = H1 b := by
      rcases h a List.mem_cons_self with e | ⟨ob, ws, e1, e2⟩
      · exact ⟨H1, I, e, fun _ _ => rfl⟩
      · exact ⟨upd H1 a (.dK ws), I.unlock e2 (hn a List.mem_cons_self), by rw [upd_same, e1], fun b hb => upd_ne hb⟩
    obtain ⟨H2, I2, ea, eb⟩ := key
    have J := inv_unl As (H1 := H2) I2 (fun b hb => by
      by_cases hba : b = a
      · subst hba; exact .inl ea
      · have := h b (List.mem_cons_of_mem _ hb)
        unfold Lkd at this ⊢
        rw [eb b hba]; exact this) fun b hb => hn b (List.mem_cons_of_mem _ hb)
    have e : unl As H H2 = unl (a :: As) H H1 := funext fun b => by
      by_cases hb : b ∈ As
      · rw [unl_in hb, unl_in (List.mem_cons_of_mem _ hb)]
      · rw [unl_out hb]
        by_cases hba : b = a
        · subst hba; rw [ea, unl_in List.mem_cons_self]
        · rw [eb b hba, unl_out fun z => (List.mem_cons.mp z).elim hba hb]
    rw [← e]; exact J
/-- the own things' places -/
def ownAs (O : List Nat) (σ : L2.St) (r : Sl) : List Addr := O.filterMap fun i => match σ[i]?, r[i]? with
  | some (some (V.ref a)), some (some d) => if isRT d = true then some a else none
  | _, _ => none
section
variable {R : Reg} {H0 F H : Hp} {O : List Nat} {σ : L2.St} {r : Sl} {s : R.S}
theorem ownAs_in {a : Addr} (sl : Slots R H0 O F H σ r) (h : a ∈ ownAs O σ r) : ∃ i d, i ∈ O ∧ r[i]? = some (some d) ∧ σ[i]? = some (some (.ref a)) ∧ OwnAt R H0 F H a d := by
  obtain ⟨i, hi, e⟩ := List.mem_filterMap.mp h
  split at e
  · rename_i b d e1 e2
    by_cases hrt : isRT d = true
    · rw [if_pos hrt] at e
      cases e
      obtain ⟨a', h1, h2⟩ := sl.ow i d hi hrt e2
      rw [e1] at h1
      cases h1
      exact ⟨i, d, hi, e2, e1, h2⟩
    · rw [if_neg hrt] at e; cases e
  · cases e
theorem ownAs_of {a : Addr} {i : Nat} {d : D} (hi : i ∈ O) (hrt : isRT d = true) (e1 : r[i]? = some (some d)) (e2 : σ[i]? = some (some (.ref a))) : a ∈ ownAs O σ r := by
  refine List.mem_filterMap.mpr ⟨i, hi, ?_⟩
  rw [e2, e1]
  show (if isRT d = true then some a else none) = some a
  rw [if_pos hrt]
theorem OwnAt.obj {a : Addr} {d : D} (h : OwnAt R H0 F H a d) : ∃ o, H a = some o ∧ ∀ o' u', o ≠ .frz o' u' := by
  obtain ⟨_, _, _, h⟩ := h
  cases d with
  | row ds => obtain ⟨vs, e, _⟩ := h; exact ⟨_, e, fun _ _ z => nomatch z⟩
  | tab ds => obtain ⟨vs, e, _⟩ := h; exact ⟨_, e, fun _ _ z => nomatch z⟩
  | _ => exact h.elim
/-- what is plain, with the own things for a while -/
def lend (O : List Nat) (σ : L2.St) (r : Sl) (F H : Hp) : Hp := unl (ownAs O σ r) H F
theorem lend_same (sl : Slots R H0 O F H σ r) : Same F (lend O σ r F H) := fun a o e => by
  unfold lend
  rw [unl_out fun z => by
    obtain ⟨_, _, _, _, _, h⟩ := ownAs_in sl z
    rw [h.2.1] at e; cases e]
  exact e
theorem lend_wd (sl : Slots R H0 O F H σ r) (w : Wd R F H s) : Wd R (lend O σ r F H) H s where
  sub := fun a o e => by
    unfold lend at e
    by_cases h : a ∈ ownAs O σ r
    · rw [unl_in h] at e; exact .inl e
    · rw [unl_out h] at e; exact w.sub a o e
  mu := fun a m => by
    unfold lend
    rw [unl_out fun z => by
      obtain ⟨_, _, _, _, _, h⟩ := ownAs_in sl z
      exact h.2.2.1 m]
    exact w.mu a m
  si := w.si
theorem lend_pu (sl : Slots R H0 O F H σ r) : Pu R [] (lend O σ r F H) σ r := ⟨sl.pu.len, fun i d _ e => by
  by_cases hi : i ∈ O
  · cases hrt : isRT d with
    | false =>
      obtain ⟨v, h1, h2⟩ := sl.ns i d hi hrt e
      exact ⟨v, h1, h2.mono (lend_same sl)⟩
    | true =>
      obtain ⟨a, h1, h2⟩ := sl.ow i d hi hrt e
      refine ⟨.ref a, h1, ?_⟩
      have hF : lend O σ r F H a = H a := unl_in (ownAs_of hi hrt e h1)
      have sm := lend_same sl
      obtain ⟨_, _, _, h2⟩ := h2
      cases d with
      | row ds => obtain ⟨vs, q1, q2, q3⟩ := h2; exact ⟨a, vs, rfl, hF.trans q1, q2, q3.mono sm⟩
      | tab ds => obtain ⟨vs, q1, q2, q3⟩ := h2; exact ⟨a, vs, rfl, hF.trans q1, q2, q3.mono sm⟩
      | _ => exact h2.elim
  · obtain ⟨v, h1, h2⟩ := sl.pu.at_ i d hi e
    exact ⟨v, h1, h2.mono (lend_same sl)⟩⟩
/-- .. taken back -/
theorem lend_back (sl : Slots R H0 O F H σ r) {F1 H1 : Hp} {s1 : R.S} (w1 : Wd R F1 H1 s1) (st : Stp R (lend O σ r F H) H F1 H1) :
    ∃ F2, Wd R F2 (unl (ownAs O σ r) H H1) s1 ∧ Stp R F H F2 (unl (ownAs O σ r) H H1) ∧ ∀ a ∈ ownAs O σ r, Lkd H H1 a := by
  have hM : ∀ a, R.Mu a → a ∉ ownAs O σ r := fun a m z => by
    obtain ⟨_, _, _, _, _, h⟩ := ownAs_in sl z
    exact h.2.2.1 m
  refine ⟨fun a => if a ∈ ownAs O σ r then none else F1 a, ⟨fun a o e => ?_, fun a m => ?_, ?_⟩, ⟨fun a o e => ?_, fun a o m e => ?_, fun a e => ?_, fun a e => ?_⟩, fun a ha => ?_⟩
  · by_cases h : a ∈ ownAs O σ r
    · rw [if_pos h] at e; cases e
    · rw [if_neg h] at e
      rw [unl_out h]; exact w1.sub a o e
  · rw [if_neg (hM a m)]; exact w1.mu a m
  · exact R.loc s1 H1 _ w1.si fun a m => unl_out (hM a m)
  · have h : a ∉ ownAs O σ r := fun z => by
      obtain ⟨_, _, _, _, _, h⟩ := ownAs_in sl z
      rw [h.2.1] at e; cases e
    rw [if_neg h]; exact st.fs a o (lend_same sl a o e)
  · by_cases h : a ∈ ownAs O σ r
    · rw [unl_in h]; exact .inl e
    · rw [unl_out h, if_neg h]; exact st.hs a o m e
  · by_cases h : a ∈ ownAs O σ r
    · rw [if_pos h] at e; exact absurd rfl e
    · rw [if_neg h] at e
      rcases st.nw a e with z | z
      · unfold lend at z; rw [unl_out h] at z; exact .inl z
      · exact .inr z
  · by_cases h : a ∈ ownAs O σ r
    · rw [unl_in h] at e; exact e
    · rw [unl_out h] at e; exact st.th a e
  · obtain ⟨_, _, _, _, _, h⟩ := ownAs_in sl ha
    obtain ⟨o, ho, _⟩ := h.obj
    rcases st.hs a o h.2.2.1 ho with z | ⟨_, kvs, ob, e1, e2⟩
    · exact .inl (by rw [z, ho])
    · subst e1; exact .inr ⟨ob, kvs, ho, e2⟩
end
def tDTB (R : Reg) (W : WX) (O : List Nat) (f : Sl → M R.S Bool) : TT := fun σ H Q => ∃ F H0 r s, Wd R F H s ∧ Slots R H0 O F H σ r ∧ Post R F H (nox (f r) s) (fun b _ _ H' => Q b H') (fun x _ F' H' => ∀ cls dd, RepX R.K R.nm F' x cls dd → W cls dd σ H')
section
variable {X : Cx} {R : Reg} {W : WX} {fr : FrK} {O O' B : List Nat} {e : Expr} {c : Sl → M R.S Bool} {f g : Sl → Mo R.S} {pos : Pos}
theorem dt_borrow (h : PT X e (tDT R W [] c)) : PT X e (tDTB R W O c) := ⟨fun pins s σ H Q I hq => by
  obtain ⟨F, H0, r, st, w, sl, p⟩ := hq
  have hrun := h.run pins s σ H (fun b H1 => Q b (unl (ownAs O σ r) H H1) ∧ ∀ a ∈ ownAs O σ r, Lkd H H1 a) I ⟨lend O σ r F H, r, st, lend_wd sl w, lend_pu sl, by
    cases ec : c r st with
    | ok b s1 =>
      have p : ∀ F' H', Wd R F' H' s1 → Stp R F H F' H' → Q b H' := by
        have e2 : nox (c r) st = .ok b s1 := by unfold nox; rw [ec]
        rw [e2] at p; exact p
      intro F1 H1 w1 st1
      obtain ⟨F2, q1, q2, q3⟩ := lend_back sl w1 st1
      exact ⟨p F2 _ q1 q2, q3⟩
    | exc x s1 =>
      have e2 : nox (c r) st = .bot := by unfold nox; rw [ec]
      rw [e2] at p; exact p.elim
    | bot =>
      have e2 : nox (c r) st = .bot := by unfold nox; rw [ec]
      rw [e2] at p; exact p.elim⟩
  refine thn hrun fun b s' hb => ?_
  obtain ⟨H1, I1, q1, q2⟩ := hb
  refine ⟨_, inv_unl _ I1 q2 fun a ha o' u' z => ?_, q1⟩
  obtain ⟨_, _, _, _, _, ho⟩ := ownAs_in sl ha
  obtain ⟨o, e1, e2⟩ := ho.obj
  have e3 := I.base.frzs a o' u' z
  rw [e1] at e3
  exact e2 _ _ (Option.some.inj e3)⟩
/-- if, its test reads own things -/
theorem ds_ifB {t : Expr} {a b : List Stmt} (hc : PT X t (tDT R W [] c)) (ha : PSs X a (tDS R W fr B O O' f)) (hb : PSs X b (tDS R W fr B O O' g)) : PS X (.If t a b pos) (tDS R W fr B O O' (sIf (fun r => nox (c r)) f g)) := ps_imp (ps_if (dt_borrow (O := O) hc) ha hb) fun E σ H h => by
  obtain ⟨F0, H0, F, r, s, w, st, sl, p⟩ := h
  refine ⟨F, H0, r, s, w, sl, (postS_x w st sl p).imp (fun k s1 F1 H1 w1 st1 q => ?_) fun _ _ _ _ _ _ z => z⟩
  obtain ⟨w2, st2, sl2, p2⟩ := q
  cases k with
  | true => rw [if_pos rfl] at p2 ⊢; exact ⟨F0, H0, F1, r, s1, w2, st2, sl2, p2⟩
  | false => rw [if_neg Bool.false_ne_true] at p2 ⊢; exact ⟨F0, H0, F1, r, s1, w2, st2, sl2, p2⟩
end
end Nw
set_option Elab.async false
set_option linter.all false
set_option maxRecDepth 100000
set_option maxHeartbeats 4000000
/-! Part QQ: sorted(d.keys()), all keys numbers. -/
namespace Nw
open PySem PySem.Spec L2 PyProof.Rows
theorem ints_at2 : ∀ {us : List Value} {ns : List Int}, us.length = ns.length → (∀ (j : Nat) (v : Value), us[j]? = some v → ∃ i t, ns[j]? = some i ∧ v = .int i t) → IntsAre us ns
  | [], [], _, _ => .nil
  | [], _ :: _, h, _ => by simp at h
  | _ :: _, [], h, _ => by simp at h
  | u :: us, n :: ns, h, f => by
    obtain ⟨i, t, e1, rfl⟩ := f 0 u rfl
    have e1 : n = i := by simpa using e1
    subst e1
    exact .cons n t (ints_at2 (by simpa using h) fun j v e => by
      obtain ⟨i, t, h1, h2⟩ := f (j + 1) v (by simpa using e)
      exact ⟨i, t, by simpa using h1, h2⟩)
section
variable {X : Cx}
theorem call_sortedVI (hcalm : X.calm = true) : CallR X (.builtin "sorted") (fun xs H Q => ∃ (a d : Addr) (kvs : List (Key × V)) (ks : List Int), xs = [.ref a] ∧ H a = some (VwO "dict_keys" d a) ∧ Rd H d (.dK kvs) ∧ kvs.map (·.1) = ks.map Sum.inl ∧ ks.length < 64 ∧ ks.Nodup ∧
    ∀ p, H p = none → Q (.ref p) (upd H p (.lst ((sortI ks).map V.int)))) := by
  intro pins s σ H xs us Q I r q
  obtain ⟨v, a, kvs, ks, ex, hv, hd, hks, h64, hnd, q⟩ := q
  subst ex
  obtain ⟨u, eu, rx⟩ := vals1 r
  subst eu
  cases rx
  obtain ⟨hview, _, _⟩ := (show ObjOk X.prog X.w H s.heap v (VwO "dict_keys" a v) from I.hok v _ hv)
  obtain ⟨z, lo, vs, rel, dd⟩ := dk_rd I.hok hd
  obtain ⟨ep, hat⟩ := dd.dictAt
  have hkeys : vs.map (·.1) = ks.map Sum.inl := rel.keys.symm.trans hks
  have hl : vs.length = ks.length := by
    have e := congrArg List.length hkeys
    rw [List.length_map, List.length_map] at e
    exact e
  have h16 : vs.length ≤ sizeLine := by rw [← rel.length]; exact z
  refine Calls.call_function_entry PyProof.Rows.kind_sorted PyProof.Rows.plain_sorted PyProof.Rows.entry_sorted (PyProof.Rows.args_sorted1 _) ?_
  unfold Builtin.«sorted»
  refine wpAny_bind (m := checkCount "sorted" 1 1 _) (wpAny_pure ?_)
  refine wpAny_bind (PySem.W.kdu_collect (A := X.A.in1) (PySem.W.kdl_keys (r := v) (d := a) (knd := mixKind X.prog X.w) (kvs := vs) (ep := ep)) (I.ok.hd hcalm) ⟨⟨_, hview, rfl, rfl⟩, hat⟩ h16 fun h' tk acc hk hacc => ?_)
  have hal : acc.toList.length = ks.length := by rw [Array.length_toList, hacc.1, hl]
  have hS : IntsAre acc.toList ks := ints_at2 hal fun j v e => by
    obtain ⟨k, x, e1, e2⟩ := hacc.2 j v (by rw [← Array.getElem?_toList]; exact e)
    have e3 : (vs.map (·.1))[j]? = some k := by rw [List.getElem?_map, e1]; all_goals rfl
    rw [hkeys, List.getElem?_map] at e3
    cases e4 : ks[j]? with
    | none => rw [e4] at e3; cases e3
    | some y =>
      rw [e4] at e3
      have e5 : Sum.inl y = k := Option.some.inj e3
      subst e5
      obtain ⟨t, ev⟩ := Value.isInt_shape (k := y) (v := v) e2
      exact ⟨y, t, rfl, ev⟩
  have I1 : Inv X pins σ H { s with heap := h', toks := tk } := I.kept hk
  refine wpAny_bind (wpAny_newList ?_ (by rw [hal, ← hl]; exact h16))
  have hoL : (h'.push (seqObj "list" acc.toList.toArray 0)).get? h'.objs.size = some (seqObj "list" acc.toList.toArray 0) := Heap.get?_push_size _ rfl
  show wpAny _ _ _ _ _ { s with heap := h'.push (seqObj "list" acc.toList.toArray 0), toks := tk }
  refine wpAny_bind (wpAny_holding (wpAny_call_entry slot_list_sort ⟨_, hoL, rfl⟩ entry_list_sort
    (list_sort_tree (s := { s with heap := h'.push (seqObj "list" acc.toList.toArray 0), toks := tk }) hoL hS (by rw [hal]; exact h64) fun out ys a1 a2 a3 => ⟨_, rfl, ?_⟩) (args_list_sort _)))
  obtain ⟨e', he'⟩ := sortedHeap_at (vs := acc.toList) (out := out) hoL
  have hu : ys = sortI ks := lt_uniq (lt_of_le_nodup ys a3 (a2.nodup_iff.mpr hnd)) (sortI_lt ks) fun x => (a2.mem_iff).trans (sortI_mem x ks).symm
  have hlen : (ys.map V.int).length ≤ sizeLine := by
    rw [List.length_map, a2.length_eq, ← hl]
    exact h16
  have q' := q
  rw [← hu] at q'
  refine wpAny_pure ⟨_, rfl, .ref h'.objs.size, upd H h'.objs.size (.lst (ys.map V.int)), I1.laid (t' := tk) (fun b u e => ?_) (Nat.le_refl _)
    (show ObjOk X.prog X.w _ _ _ (.lst (ys.map V.int)) from ⟨hlen, out.toList, e', vals_of_ints a1, by rw [Array.toArray_toList]; exact he'⟩), rfl, q' _ (I1.hok.fresh (Nat.le_refl _))⟩
  have hb : b < h'.objs.size := Heap.lt_size e
  rw [sortedHeap_old (Nat.ne_of_lt hb) (by rw [size_push']; exact Nat.lt_succ_of_lt hb)]
  exact Heap.get?_push_of_some _ e
end
def intKeys : List (Key × D) → Option (List Int)
  | [] => some []
  | (.inl x, _) :: r => (intKeys r).map fun l => x :: l
  | _ :: _ => none
theorem intKeys_some : ∀ {kvs : List (Key × D)} {ks : List Int}, intKeys kvs = some ks → kvs.map (·.1) = ks.map Sum.inl
  | [], ks, h => by cases h; rfl
  | (.inr i, d) :: r, ks, h => by cases h
  | (.inl x, d) :: r, ks, h => by
    have h : (intKeys r).map (fun l => x :: l) = some ks := h
    cases e : intKeys r with
    | none => rw [e] at h; cases h
    | some l => rw [e] at h; cases h; rw [List.map_cons, List.map_cons, intKeys_some e]
def sortKD2 : D → Option D
  | .tab kvs => (intKeys kvs).bind fun ks => if ks.length < 64 ∧ ks.Nodup then some (.row ((sortI ks).map D.int)) else none
  | _ => none
section
variable {X : Cx} {R : Reg} {W : WX} {O : List Nat} {o : Expr} {f : Sl → M R.S D} {pos p apos cpos : Pos} {n : Nat}
theorem de_sortedK2 (c : Cxt X R W n) (hg : Gl X "sorted") (hm : X.mg "sorted" = none) (ho : PE X o (tD R W O f)) (hbase : attributeBase o "keys" X.env (eval o X.env) = eval o X.env := by rfl) (hline : (apos.endLine == cpos.line) = true := by rfl)
    (he : starEach [.Call (.Attribute o "keys" apos) [] [] cpos] X.env = (false, eval (.Call (.Attribute o "keys" apos) [] [] cpos) X.env) :: starEach [] X.env := by rfl) (hpl : (backTo pos (starEach [] X.env)).any (·.1) = false := by rfl) :
    PE X (.Call (.Name "sorted" p) [.Call (.Attribute o "keys" apos) [] [] cpos] [] pos) (tD R W O (dUn sortKD2 f)) :=
  pe_imp (pe_callB (call_sortedVI c.calm) hg hm (by decide +kernel) (pa_cons (pe_bw0 PySem.F.plainAttrs_dict PySem.F.slot_dict_keys PySem.F.type_dict_keys mt_keysV ho hbase hline) pa_nil he) (by decide) (by decide) he hpl)
    (sat_view c.hK (tab_of fun d hd => by cases d <;> first | rfl | exact absurd rfl (hd _)) fun v d kvs ws d' F H s Q w hv hF hd hz rk e k => by
      obtain ⟨ks, ek, e⟩ := bind_some (show (intKeys kvs).bind (fun ks => if ks.length < 64 ∧ ks.Nodup then some (D.row ((sortI ks).map D.int)) else none) = some d' from e)
      by_cases hh : ks.length < 64 ∧ ks.Nodup
      · rw [if_pos hh] at e
        cases e
        exact ⟨v, d, ws, ks, rfl, hv, hd, by rw [rk.keys]; exact intKeys_some ek, hh.1, hh.2, fun q hq => new_row w (by rw [List.length_map, sizeLine_eq]; have := sortI_len ks; omega) (reps_ints _) hq k⟩
      · rw [if_neg hh] at e; cases e)
end
end Nw
set_option Elab.async false
set_option linter.all false
set_option maxRecDepth 100000
set_option maxHeartbeats 4000000
/-! Part RR: own slots that hold anything: set, kept through a try, told. -/
namespace Nw
open PySem PySem.Spec L2
/-- a value that is neither a list nor a dict -/
def plD (d : D) : Option D := if isRT d = true then none else some d
def plainAt (O : List Nat) (r : Sl) : Bool := O.all fun i => match r[i]? with
  | some (some d) => !isRT d
  | _ => true
theorem plainAt_at {O : List Nat} {r : Sl} (h : plainAt O r = true) {i : Nat} {d : D} (hi : i ∈ O) (e : r[i]? = some (some d)) : isRT d = false := by
  have h1 := List.all_eq_true.mp h i hi
  rw [e] at h1
  have h1 : (!isRT d) = true := h1
  cases hd : isRT d with
  | false => rfl
  | true => rw [hd] at h1; cases h1
section
variable {R : Reg} {H0 F H F0 : Hp} {O O' : List Nat} {σ : L2.St} {r : Sl} {s : R.S}
theorem slots_plain (h : Pu R [] F σ r) (hp : plainAt O r = true) : Slots R H0 O F H σ r where
  pu := ⟨h.len, fun i d _ e => h.at_ i d (by simp) e⟩
  ow := fun i d hi hrt e => by rw [plainAt_at hp hi e] at hrt; cases hrt
  ns := fun i d hi _ e => h.at_ i d (by simp) e
  sep := fun i j a d e hi hj hr _ e1 => by rw [plainAt_at hp hi e1] at hr; cases hr
theorem Fre.rep {d : D} {v : V} (h : Fre R H0 F H d v) (hr : isRT d = false) : Rep R.K R.nm F d v := by
  cases d with
  | row ds => cases hr
  | tab ds => cases hr
  | _ => exact h
theorem fre_rep {d : D} {v : V} (h : Rep R.K R.nm F d v) (hr : isRT d = false) : Fre R H0 F H d v := by
  cases d with
  | row ds => cases hr
  | tab ds => cases hr
  | _ => exact h
/-- a slot set to something plain, own all the same -/
theorem Slots.setP {d : D} {v : V} {i : Nat} (h : Slots R H0 O F H σ r) (h1 : ∀ j ∈ O', j = i ∨ j ∈ O) (h2 : ∀ j ∈ O, j ≠ i → j ∈ O') (hr : isRT d = false) (rv : Rep R.K R.nm F d v) : Slots R H0 O' F H (σ.set i (some v)) (r.set i (some d)) where
  pu := ⟨by rw [List.length_set, List.length_set]; exact h.pu.len, fun j d' hj e => by
    by_cases ej : i = j
    · subst ej
      by_cases hl : i < r.length
      · rw [List.getElem?_set_self hl] at e
        cases e
        exact ⟨v, List.getElem?_set_self (by rw [← h.pu.len]; exact hl), rv⟩
      · rw [List.getElem?_eq_none (by rw [List.length_set]; omega)] at e; cases e
    · rw [List.getElem?_set_ne ej] at e ⊢
      exact h.pu.at_ j d' (fun z => hj (h2 j z (fun w => ej w.symm))) e⟩
  ow := fun j d' hj hrt e => by
    by_cases ej : i = j
    · subst ej
      by_cases hl : i < r.length
      · rw [List.getElem?_set_self hl] at e
        cases e
        rw [hr] at hrt; cases hrt
      · rw [List.getElem?_eq_none (by rw [List.length_set]; omega)] at e; cases e
    · rw [List.getElem?_set_ne ej] at e ⊢
      exact h.ow j d' ((h1 j hj).resolve_left fun z => ej z.symm) hrt e
  ns := fun j d' hj hrt e => by
    by_cases ej : i = j
    · subst ej
      by_cases hl : i < r.length
      · rw [List.getElem?_set_self hl] at e
        cases e
        exact ⟨v, List.getElem?_set_self (by rw [← h.pu.len]; exact hl), rv⟩
      · rw [List.getElem?_eq_none (by rw [List.length_set]; omega)] at e; cases e
    · rw [List.getElem?_set_ne ej] at e ⊢
      exact h.ns j d' ((h1 j hj).resolve_left fun z => ej z.symm) hrt e
  sep := fun j k ad d1 d2 hj hk hr1 hr2 e1 e2 e3 e4 => by
    have ne : ∀ m dm, isRT dm = true → (r.set i (some d))[m]? = some (some dm) → i ≠ m := fun m dm hm e z => by
      subst z
      by_cases hl : i < r.length
      · rw [List.getElem?_set_self hl] at e
        cases e
        rw [hr] at hm; cases hm
      · rw [List.getElem?_eq_none (by rw [List.length_set]; omega)] at e; cases e
    have n1 := ne j d1 hr1 e1
    have n2 := ne k d2 hr2 e2
    rw [List.getElem?_set_ne n1] at e1 e3
    rw [List.getElem?_set_ne n2] at e2 e4
    exact h.sep j k ad d1 d2 ((h1 j hj).resolve_left fun z => n1 z.symm) ((h1 k hk).resolve_left fun z => n2 z.symm) hr1 hr2 e1 e2 e3 e4
end
section
variable {X : Cx} {R : Reg} {W : WX} {fr : FrK} {O O' B : List Nat} {a b e : Expr} {f g : Sl → M R.S D} {c : Sl → M R.S Bool} {fb : Sl → Mo R.S} {pos np pos' npos : Pos} {n i j : Nat} {x y z : Str} {body : List Stmt}
theorem df_pl (h : PE X e (tD R W O f)) : PE X e (tDF R W O (dUn plD f)) := pe_imp h fun σ H Q h => by
  obtain ⟨F, r, s, w, pu, p⟩ := h
  refine ⟨F, r, s, w, pu, p.bnd.imp (fun d s1 F1 H1 w1 st1 p1 v rv => ?_) fun _ _ _ _ _ _ z => z⟩
  obtain ⟨d', e', k⟩ := p1.lift
  have e' : (if isRT d = true then none else some d) = some d' := e'
  cases hr : isRT d with
  | true => rw [hr, if_pos rfl] at e'; cases e'
  | false =>
    rw [hr, if_neg Bool.false_ne_true] at e'
    cases e'
    exact k F1 H1 w1 Stp.refl v (fre_rep rv hr)
/-- name = something new, or plain; the slot is own behind -/
theorem ds_setA (i : Nat) {pos' : Pos} (hN : X.N.Nodup) (hi : X.N[i]? = some x) (hx : Loc X.env.scope x) (he : PE X e (tDF R W O f)) (hO : i ∈ O') (h1 : ∀ j ∈ O', j = i ∨ j ∈ O) (h2 : ∀ j ∈ O, j ≠ i → j ∈ O') (hs : swapsWith e (some (.Name x pos')) pos.line X.env = pure false := by rfl) (hf : X.fn x = true ∨ X.env.scope.names.lookup x = some .local := by first | exact .inl rfl | exact .inr rfl | assumption) :
    PS X (.Assign [.Name x pos'] e pos) (tDS R W fr B O O' (sAsg (tgN i) f)) := ps_imp (ps_set hN hi hx he hs hf) fun E σ H h => by
  obtain ⟨F0, H0, F, r, s, w, st, sl, p⟩ := h
  have ep : sAsg (tgN i) f r s = liftX (f r) r (fun d s => some (.next (r.set i (some d)), s)) s := rfl
  rw [ep] at p
  refine ⟨F, r, s, w, sl.pu, (postS_x w st sl p).imp (fun d s1 F1 H1 w1 st1 q v fv => ?_) fun _ _ _ _ _ _ z => z⟩
  obtain ⟨w2, st2, sl2, p2⟩ := q
  cases er : isRT d with
  | false => exact p2 _ F1 H1 w2 st2 (sl2.setP h1 h2 er (fv.rep er))
  | true =>
    obtain ⟨q, rfl, hq⟩ := fv.own er
    have hqq : OwnAt R H0 F1 H1 q d := ⟨st.th q hq.1, hq.2⟩
    refine p2 _ F1 H1 w2 st2 (sl2.setO hO h1 h2 hqq fun j d' ad hj ne hrt e1 e2 ea => ?_)
    subst ea
    obtain ⟨ad', e3, h4⟩ := sl.ow j d' hj hrt e1
    rw [e2] at e3
    cases e3
    obtain ⟨o, ho⟩ := h4.there
    rw [hq.1] at ho
    cases ho
/-- return x if c else e: an own thing, or a new one -/
theorem ds_retIf {t : Expr} {p2 : Pos} (i : Nat) (hc : PT X t (tDT R W O c)) (hO : i ∈ O) (hN : X.N[i]? = some x) (hv : Vis X.env.scope x) (hb : PE X b (tDF R W O g)) (hd : (x == ("__debug__" : Str)) = false := by decide) (hcd : (x == ("__classdict__" : Str)) = false := by decide) :
    PS X (.Return (some (.IfExp t (.Name x npos) b p2)) pos) (tDS R W .t B O O' (sIf c (sRetO i) (sRet g))) := ps_imp (ps_ret (pe_ifExp hc (pe_var hN hv hd hcd) hb)) fun E σ H h => by
  obtain ⟨F0, H0, F, r, s, w, st, sl, p⟩ := h
  refine ⟨F, r, s, w, sl.pu, (postS_x w st sl p).imp (fun k s1 F1 H1 w1 st1 q => ?_) fun _ _ _ _ _ _ z => z⟩
  obtain ⟨w2, st2, sl2, p2⟩ := q
  cases k with
  | true =>
    rw [if_pos rfl] at p2
    refine iteT ?_
    have p2 : PostS R .t F0 H0 (match getS r i with | some d => some (.rt d, s1) | none => none) E W B O' := p2
    cases eg : getS r i with
    | none => rw [eg] at p2; exact p2.elim
    | some d =>
      rw [eg] at p2
      obtain ⟨v, h1, h2⟩ := sl2.fre hO (getS_some eg)
      exact ⟨_, h1, p2 _ F1 H1 w2 st2 h2⟩
  | false =>
    rw [if_neg Bool.false_ne_true] at p2
    refine iteF ⟨F1, r, s1, w2, sl2.pu, (postS_x w2 st2 sl2 p2).imp (fun d s3 F3 H3 w3 st3 q v fv => q.2.2.2 v F3 H3 q.1 q.2.1 (show Fre R H0 F3 H3 d v from fv.base st2.th)) fun _ _ _ _ _ _ z => z⟩
/-- try: .. except c' as y: z = y, with own slots -/
def tryKO {S : Type} (cs : List Cl) (c' : Cl) (i j : Nat) (O : List Nat) : Option (Flw × S) → Option (Flw × S)
  | some (.thr x r, s) => if x.c ∈ cs ∧ i < r.length then (if subC x.c c' = true then (if plainAt O (((r.set i none).set j (some (.exc x.c x.fs))).set i none) = true then some (.next (((r.set i none).set j (some (.exc x.c x.fs))).set i none), s) else none) else some (.thr x r, s)) else none
  | some (.next r, s) => some (.next r, s)
  | some (.rt d, s) => some (.rt d, s)
  | some (.brk r, s) => some (.brk r, s)
  | some (.cnt r, s) => some (.cnt r, s)
  | none => none
def sTryHO {S : Type} (cs : List Cl) (c' : Cl) (i j : Nat) (O : List Nat) (f : Sl → Mo S) : Sl → Mo S := fun r s => tryKO cs c' i j O (f r s)
theorem ds_tryHO {cs : List Cl} {c' : Cl} {q1 q2 q3 : Pos} (cx : Cxt X R W n) (tk : TkM false X W) (xf : XF X.K cs) (hc' : c' ∈ cs) (hx : c'.name = x) (hex : X.ex = []) (hs : X.stack = X.env :: X.outer) (hf : X.env.frame = some X.env.locals) (hi : X.N[i]? = some y) (hln : X.env.kindOf y = some .local) (hj : X.N[j]? = some z) (hlz : X.env.scope.names.lookup z = some .local)
    (hg : Gl X x) (hm : X.mg x = some (.ref (eA X.K c'))) (hdy : (y == ("__debug__" : Str)) = false) (hcy : (y == ("__classdict__" : Str)) = false) (hsw : swapsWith (.Name y q2) (some (.Name z q1)) q3.line X.env = pure false) (hvy : Vis X.env.scope y)
    (hb : ∀ (W' : WX) (pn : List (Addr × Obj)) (xe : Value → Shared → Prop), Cxt (X.tr pn xe) R W' n → TkM false (X.tr pn xe) W' → PassesOwn (model X.prog X.w) X.A X.env xe → PSs (X.tr pn xe) body (tDS R W' fr B O O' fb)) (hdb : (x == ("__debug__" : Str)) = false := by decide) :
    PS X (.Try body [.ExceptHandler (some (.Name x np)) (some y) [.Assign [.Name z q1] (.Name y q2) q3] pos'] [] [] pos) (tDS R W fr B O O' (sTryHO cs c' i j O' fb)) := by
  have suite : ∀ (a : Addr) (oe : Obj) (cls : Value) (d : Option Addr) (pn : List (Addr × Obj)), Zc cls d oe → (∃ vs, oe.data = .fields vs) → PSs (X.suite a ((a, oe) :: pn)) [.Assign [.Name z q1] (.Name y q2) q3] (tAsg (tVar i) (gName j)) := fun a oe cls d pn _ _ =>
    pss_one (ps_set (X := X.suite a ((a, oe) :: pn)) cx.nd hj (.inl hlz) (pe_var hi hvy hdy hcy) hsw (.inr hlz))
  refine ps_imp (ps_try_asT hex hs hf cx.nd hi hln ⟨hg, hdb, .inl hm⟩ tk (tb := fun W' => tDS R W' fr B O O' fb) (fun W' pn xe tk po => hb W' pn xe (cx.tr W') tk po) suite) fun E σ H h => ?_
  obtain ⟨F0, H0, F, r, s, w, st, sl, p⟩ := h
  refine ⟨F0, H0, F, r, s, w, st, sl, ?_⟩
  unfold sTryHO at p
  cases ef : fb r s with
  | none => rw [ef] at p; exact p
  | some q =>
    obtain ⟨fl, s'⟩ := q
    rw [ef] at p
    cases fl with
    | next r' => exact p
    | rt d => exact p
    | brk r' => exact p
    | cnt r' => exact p
    | thr xx r' =>
      have p : PostS R fr F0 H0 (if xx.c ∈ cs ∧ i < r'.length then (if subC xx.c c' = true then (if plainAt O' (((r'.set i none).set j (some (.exc xx.c xx.fs))).set i none) = true then some (.next (((r'.set i none).set j (some (.exc xx.c xx.fs))).set i none), s') else none) else some (.thr xx r', s')) else none) E W B O' := p
      by_cases hcs : xx.c ∈ cs ∧ i < r'.length
      · rw [if_pos hcs] at p
        obtain ⟨hcs, hir⟩ := hcs
        intro σ' F' H' cls dd w' st' sl' rx
        have hcls : cls = .ref (eA X.K xx.c) := by rw [rx.1, cx.hK]
        refine ⟨subC xx.c c', by rw [hcls]; exact xf.exm _ hcs _ hc', fun hb2 ad had => ?_, fun hb2 => ?_⟩
        · rw [if_pos hb2] at p
          by_cases hpl : plainAt O' (((r'.set i none).set j (some (.exc xx.c xx.fs))).set i none) = true
          · rw [if_pos hpl] at p
            have st2 : Stp R F' H' (upd F' ad (ExH cls dd ad)) (upd H' ad (ExH cls dd ad)) := Stp.new _ had (w'.free had)
            have w2 : Wd R (upd F' ad (ExH cls dd ad)) (upd H' ad (ExH cls dd ad)) s' := w'.new _ had
            have pu2 := sl'.pu.mono st2.fs
            have rv : Rep R.K R.nm (upd F' ad (ExH cls dd ad)) (.exc xx.c xx.fs) (.ref ad) := by
              obtain ⟨h1, h2⟩ := rx.mono st2.fs
              refine ⟨ad, dd, rfl, by rw [upd_same, h1], ?_⟩
              rcases h2 with ⟨h3, h4⟩ | h2
              · exact .inl ⟨h3, h4⟩
              · exact .inr h2
            have hil : i < σ'.length := by rw [← sl'.pu.len]; exact hir
            refine ⟨.ref ad, List.getElem?_set_self hil, ?_⟩
            exact p _ _ _ w2 (st'.trans st2) (slots_plain (set_none_pu (set_some_pu (set_none_pu pu2 _) rv) _) hpl)
          · rw [if_neg hpl] at p; exact p.elim
        · rw [if_neg (by rw [hb2]; exact Bool.false_ne_true)] at p
          exact p σ' F' H' cls dd w' st' sl' rx
      · rw [if_neg hcs] at p; exact p.elim
end
end Nw
set_option Elab.async false
set_option linter.all false
set_option maxRecDepth 100000
set_option maxHeartbeats 4000000
/-! Part SS: d.pop(k); errors with a field: raised, raised out of an except suite, read. -/
namespace Nw
open PySem PySem.Spec L2
/-! ### pop -/
def dropD (kvs : List (Key × D)) (k : Key) : List (Key × D) := kvs.filter fun kv => decide (kv.1 ≠ k)
theorem RepsK.drop {K : PySem.W.Frag} {nm : Nat → Option Addr} {F : Hp} (k : Key) : ∀ {kvs : List (Key × D)} {ws : List (Key × V)}, RepsK K nm F kvs ws → RepsK K nm F (dropD kvs k) (dropK ws k)
  | [], ws, r => by rw [show ws = [] from r]; rfl
  | (j, d) :: kvs, ws, r => by
    obtain ⟨v, ws', rfl, hk, r1, r2⟩ := r
    have ih := RepsK.drop k r2
    unfold dropD dropK at ih ⊢
    by_cases e : j = k
    · rw [List.filter_cons_of_neg (by simp [e]), List.filter_cons_of_neg (by simp [e])]; exact ih
    · rw [List.filter_cons_of_pos (by simp [e]), List.filter_cons_of_pos (by simp [e])]
      exact ⟨v, _, rfl, hk, r1, ih⟩
theorem dropD_len (kvs : List (Key × D)) (k : Key) : (dropD kvs k).length ≤ kvs.length := List.length_filter_le _ _
theorem dropD_none {kvs : List (Key × D)} {k : Key} (h : valD kvs k = none) : dropD kvs k = kvs := by
  unfold dropD
  rw [List.filter_eq_self]
  intro p hp
  refine decide_eq_true fun e => ?_
  unfold valD at h
  cases hf : kvs.find? fun kv => decide (kv.1 = k) with
  | none =>
    have := List.find?_eq_none.mp hf p hp
    rw [decide_eq_true_eq] at this
    exact this e
  | some q => rw [hf] at h; cases h
def popD1 : D → D → Option D
  | .tab kvs, k => (keyD k).bind fun k => if (valD kvs k).isSome = true then some (.tab (dropD kvs k)) else none
  | _, _ => none
def popD2 : D → D → Option D
  | .tab kvs, k => (keyD k).map fun k => .tab (dropD kvs k)
  | _, _ => none
section
variable {X : Cx} {R : Reg} {W : WX} {fr : FrK} {O O' B : List Nat} {a b e : Expr} {f g : Sl → M R.S D} {pos p apos cpos npos q1 : Pos} {n i jj : Nat} {x : Str}
/-- x.pop(e), x an own table -/
theorem ds_pop1 (i : Nat) (hO : i ∈ O) (hN : X.N[i]? = some x) (hv : Vis X.env.scope x) (he : PE X e (tD R W O f)) (hd : (x == ("__debug__" : Str)) = false := by decide) (hcd : (x == ("__classdict__" : Str)) = false := by decide)
    (m : M1 X (.Name x npos) "pop" apos e cpos := by exact ⟨rfl, rfl, rfl, rfl⟩) (hs : swapsWith (.Call (.Attribute (.Name x npos) "pop" apos) [e] [] cpos) none pos.line X.env = pure false := by rfl) :
    PS X (.Expr (.Call (.Attribute (.Name x npos) "pop" apos) [e] [] cpos) pos) (tDS R W fr B O O (sOwn1 "dict" i popD1 f)) :=
  ps_imp (ps_expr (pe_dpop1 (pe_var hN hv hd hcd) he m) hs) fun E σ H h => by
  obtain ⟨F0, H0, F, r, s, w, st, sl, p⟩ := h
  obtain ⟨d, eg, p⟩ := opt_post p
  obtain ⟨d0, eg0, e2⟩ := bind_some eg
  obtain ⟨u, eu, e3⟩ := map_some e2
  have e3 : d0 = d := e3
  subst e3
  clear eg e2
  have eg := eg0
  cases d0 with
  | tab kvs =>
    obtain ⟨ad, h1, h2⟩ := sl.ow i _ hO rfl (getS_some eg)
    obtain ⟨ws0, e10, e20, e30⟩ := h2.2.2.2
    refine ⟨_, h1, ad, rfl, .inl ⟨ws0, .inl e10⟩, F, r, s, w, sl.pu, (postS_x w st sl p).imp (fun v s1 F1 H1 w1 st1 q vv rv => ?_) fun _ _ _ _ _ _ z => z⟩
    obtain ⟨w2, st2, sl2, p2⟩ := q
    obtain ⟨d', ed, p4⟩ := put_post p2
    have h3 := h2.step st1
    obtain ⟨ws, e1, e2, e3⟩ := h3.2.2.2
    obtain ⟨kk, ek, ed⟩ := bind_some (show (keyD v).bind (fun k => if (valD kvs k).isSome = true then some (D.tab (dropD kvs k)) else none) = some d' from ed)
    by_cases hz : (valD kvs kk).isSome = true
    · rw [if_pos hz] at ed
      cases ed
      obtain ⟨k1, k2⟩ := keyD_ok rv ek
      rcases repsK_val kk e3 with ⟨z, _⟩ | ⟨dv, vv', z1, z2, z3⟩
      · rw [z] at hz; cases hz
      · refine ⟨ws, kk, vv', e1, k1, z2, ?_⟩
        obtain ⟨a1, a2, a3⟩ := own_write (o := .dK (dropK ws kk)) w2 st2 sl2 hO (getS_some eg) h1 h3 (d' := .tab (dropD kvs kk)) ⟨_, rfl, by have := dropD_len kvs kk; omega, e3.drop kk⟩
        exact p4 σ F1 _ a1 a2 a3
    · rw [if_neg hz] at ed; cases ed
  | _ => cases eu
/-- x.pop(e, None), x an own table -/
theorem ds_pop2 (i : Nat) (hO : i ∈ O) (hN : X.N[i]? = some x) (hv : Vis X.env.scope x) (he : PE X e (tD R W O f)) (hd : (x == ("__debug__" : Str)) = false := by decide) (hcd : (x == ("__classdict__" : Str)) = false := by decide)
    (m : M2 X (.Name x npos) "pop" apos e (.Constant .none jj q1) cpos := by exact ⟨rfl, rfl, rfl, rfl⟩) (hs : swapsWith (.Call (.Attribute (.Name x npos) "pop" apos) [e, .Constant .none jj q1] [] cpos) none pos.line X.env = pure false := by rfl) :
    PS X (.Expr (.Call (.Attribute (.Name x npos) "pop" apos) [e, .Constant .none jj q1] [] cpos) pos) (tDS R W fr B O O (sOwn1 "dict" i popD2 f)) :=
  ps_imp (ps_expr (pe_dpop2 (pe_var hN hv hd hcd) he pe_non m) hs) fun E σ H h => by
  obtain ⟨F0, H0, F, r, s, w, st, sl, p⟩ := h
  obtain ⟨d, eg, p⟩ := opt_post p
  obtain ⟨d0, eg0, e2⟩ := bind_some eg
  obtain ⟨u, eu, e3⟩ := map_some e2
  have e3 : d0 = d := e3
  subst e3
  clear eg e2
  have eg := eg0
  cases d0 with
  | tab kvs =>
    obtain ⟨ad, h1, h2⟩ := sl.ow i _ hO rfl (getS_some eg)
    obtain ⟨ws0, e10, e20, e30⟩ := h2.2.2.2
    refine ⟨_, h1, ad, rfl, .inl ⟨ws0, .inl e10⟩, F, r, s, w, sl.pu, (postS_x w st sl p).imp (fun v s1 F1 H1 w1 st1 q vv rv => ?_) fun _ _ _ _ _ _ z => z⟩
    obtain ⟨w2, st2, sl2, p2⟩ := q
    obtain ⟨d', ed, p4⟩ := put_post p2
    have h3 := h2.step st1
    obtain ⟨ws, e1, e2, e3⟩ := h3.2.2.2
    obtain ⟨kk, ek, ed⟩ := map_some (show (keyD v).map (fun k => D.tab (dropD kvs k)) = some d' from ed)
    subst ed
    obtain ⟨k1, k2⟩ := keyD_ok rv ek
    refine ⟨ws, kk, e1, k1, fun vv' _ => ?_, fun hn => ?_⟩
    · obtain ⟨a1, a2, a3⟩ := own_write (o := .dK (dropK ws kk)) w2 st2 sl2 hO (getS_some eg) h1 h3 (d' := .tab (dropD kvs kk)) ⟨_, rfl, by have := dropD_len kvs kk; omega, e3.drop kk⟩
      exact p4 σ F1 _ a1 a2 a3
    · have hnd : valD kvs kk = none := by
        rcases repsK_val kk e3 with ⟨z, _⟩ | ⟨dv, vv', z1, z2, z3⟩
        · exact z
        · rw [hn] at z2; cases z2
      rw [dropD_none hnd] at p4
      refine p4 σ F1 H1 w2 st2 ?_
      have er : r.set i (some (.tab kvs)) = r := by
        have := getS_some eg
        obtain ⟨hl, hh⟩ := List.getElem?_eq_some_iff.mp this
        rw [← hh, List.set_getElem_self]
      rw [er]; exact sl2
  | _ => cases eu
/-! ### a field of an error that is held -/
def fldD (c : Cl) (m : Str) : D → Option D
  | .exc c' fs => if c' = c then fs.lookup m else none
  | _ => none
theorem repsF_look {K : PySem.W.Frag} {nm : Nat → Option Addr} {F : Hp} {m : Str} : ∀ {fs : List (Str × D)} {ws : List (Str × V)} {d : D}, RepsF K nm F fs ws → fs.lookup m = some d → ∃ v, ws.lookup m = some v ∧ Rep K nm F d v
  | [], ws, d, r, h => by cases h
  | (k, d0) :: fs, ws, d, r, h => by
    obtain ⟨v, ws', rfl, r1, r2⟩ := r
    rw [List.lookup_cons] at h ⊢
    by_cases e : (m == k) = true
    · rw [e] at h ⊢
      cases h
      exact ⟨v, rfl, r1⟩
    · have e : (m == k) = false := by cases hb : (m == k) <;> first | rfl | exact absurd hb e
      rw [e] at h ⊢
      exact repsF_look r2 h
theorem XC.xfC {K : PySem.W.Frag} {c : Cl} (h : XC K c) : XfC K (eA K c) := ⟨h.ga, h.gt, h.sub, h.dc⟩
theorem de_fld {c : Cl} {m : Str} (cx : Cxt X R W n) (xc : XC X.K c) (hno : PySem.W.findIn X.K (.ref (eA X.K c)) m = some none) (he : PE X e (tD R W O f)) (hb : attributeBase e m X.env (eval e X.env) = eval e X.env := by rfl) : PE X (.Attribute e m pos) (tD R W O (dUn (fldD c m) f)) := by
  have T := xc.xfC
  refine ⟨fun pins s σ H Q I h => ?_⟩
  obtain ⟨F, ρ, st, w, pu, p⟩ := h
  refine attr_of hb (thn (he.run pins s σ H (fun x H1 => ∃ (a dd : Addr) (fs : List (Str × V)) (v : V), x = .ref a ∧ H1 a = some (ExH (.ref (eA X.K c)) (some dd) a) ∧ H1 dd = some (.xd fs) ∧ fs.lookup m = some v ∧ Q v H1) I ⟨F, ρ, st, w, pu, p.bnd.imp (fun d s1 F1 H1 w1 st1 p1 v rv => ?_) fun _ _ _ _ _ _ z => z⟩) fun u s1 hh => ?_)
  · obtain ⟨d', e', k⟩ := p1.lift
    cases d with
    | exc c' fs =>
      have e2 : (if c' = c then fs.lookup m else none) = some d' := e'
      by_cases hc : c' = c
      · rw [if_pos hc] at e2
        clear e'
        subst hc
        obtain ⟨a, dd, rfl, h1, h2⟩ := rv
        rcases h2 with ⟨h3, _⟩ | ⟨d, ws, rfl, h3, h4⟩
        · rw [h3] at e2; cases e2
        · obtain ⟨v', h5, h6⟩ := repsF_look h4 e2
          refine ⟨a, d, ws, v', rfl, ?_, ?_, h5, k F1 H1 w1 Stp.refl v' h6⟩
          · rw [← cx.hK]
            rcases w1.sub a _ h1 with z | ⟨_, _, z, _⟩
            · exact z
            · cases z
          · rcases w1.sub d _ h3 with z | ⟨_, _, z, _⟩
            · exact z
            · cases z
      · rw [if_neg hc] at e2; cases e2
    | _ => cases e'
  · obtain ⟨x, H1, I1, rx, a, dd, fs, v, ex, ea, ed, l, q⟩ := hh
    subst ex
    obtain rfl : u = Value.ref a := rx
    obtain ⟨⟨oe, ha, hz, vs, hd⟩, _, _⟩ := (show ObjOk X.prog X.w H1 s1.heap a (ExH (.ref (eA X.K c)) (some dd) a) from I1.hok a _ ea)
    have hx : ObjOk X.prog X.w H1 s1.heap dd (.xd fs) := I1.hok dd _ ed
    obtain ⟨mA, hns, hr⟩ := hx
    obtain ⟨od, ho, hl⟩ := lookIn_ns hns
    obtain ⟨u, hu, ru⟩ := RelO.some_of (v := v) (o := mA m) (by rw [← l]; exact hr m)
    have J : PySem.W.InstAt s1.heap a oe (eA X.K c) (some od) := ⟨ha, hz.1, by unfold PySem.W.notCls; rw [hd] <;> rfl, by rw [hz.2]; exact ho⟩
    exact HandSPX.exc_get I1.kIn J T.ga T.gg T.exC (PySem.W.findObj_own T.hdC hno rfl (by rw [hl, hu])) (handed_of ru) ⟨v, H1, I1.tok _, ru, q⟩
end
end Nw
set_option Elab.async false
set_option linter.all false
set_option maxRecDepth 100000
set_option maxHeartbeats 4000000
/-! Part TT: raise C(e) of a class whose __init__ keeps one field; the same out of an except suite, from None. -/
namespace Nw
open PySem PySem.Spec L2
/-- what the classes say: C's __init__(self, m): self.m = m -/
def oexB (K : PySem.W.Frag) (C : Addr) : Bool := match K.lookup C with
  | some ⟨.type "type", _, .cls cd, sl⟩ => (match cd.mro, sl.toList with
    | .ref C' :: bm, [_, _, _, _, some (.builtin n), _] => C' == C && n == "ValueError.__new__" && !cd.hasDel && cd.hasDict && PySem.HandSPX.refsVE bm
    | _, _ => false)
  | _ => false
theorem oex_cls {K : PySem.W.Frag} {C : Addr} (q : oexB K C = true) : ∃ nm q N bs bm sn sub ab col dd k0 k1 k2 k3 k5, K.lookup C = some (excClassObj nm q C N bs bm true sn sub ab col dd k0 k1 k2 k3 k5 "ValueError.__new__") ∧ PySem.HandSPX.refsVE bm = true := by
  unfold oexB at q
  split at q
  · rename_i dd cd sl ho
    split at q
    · rename_i C' bm k0 k1 k2 k3 n k5 hm hs
      simp only [Bool.and_eq_true, beq_iff_eq, Bool.not_eq_true'] at q
      obtain ⟨⟨⟨⟨rfl, rfl⟩, hdel⟩, hdct⟩, ht⟩ := q
      obtain ⟨nm, bs, mro, ns, qn, hd, sn, sub, ab, col, del⟩ := cd
      dsimp only at hm hdel hdct
      subst hm hdel hdct
      have hsl : sl = #[k0, k1, k2, k3, some (.builtin "ValueError.__new__"), k5] := by
        obtain ⟨l⟩ := sl
        simp only at hs
        rw [hs]
      subst hsl
      exact ⟨nm, qn, ns, bs, bm, sn, sub, ab, col, dd, k0, k1, k2, k3, k5, ho, ht⟩
    · cases q
  · cases q
structure IniC (K : PySem.W.Frag) (c : Cl) (m : Str) (st : List Stmt) (ar : Arguments) (sc : Scope) (qn : Str) : Prop where
  T : OexC K (eA K c)
  xc : XC K c
  ini : PySem.W.findIn K (.ref (eA K c)) "__init__" = some (some (.ref (He.ma K (eA K c) "__init__")))
  ty : PySem.W.typeIn K (.ref (He.ma K (eA K c) "__init__")) = some (.type "function")
  no : PySem.W.findIn K (.ref (eA K c)) m = some none
  fn : ∃ fd, FunD K "__init__" qn ar st sc [] [] (He.ma K (eA K c) "__init__") fd
def iniB (K : PySem.W.Frag) (c : Cl) (m : Str) : Bool := oexB K (eA K c) && (decide (PySem.W.findIn K (.ref (eA K c)) "__setattr__" = some (some (.builtin "object.__setattr__"))) && (PySem.W.keepIn K (.ref (eA K c)) && (decide (PySem.W.findIn K (.ref (eA K c)) "__init__" = some (some (.ref (He.ma K (eA K c) "__init__")))) && (decide (PySem.W.typeIn K (.ref (He.ma K (eA K c) "__init__")) = some (.type "function")) && decide (PySem.W.findIn K (.ref (eA K c)) m = some none)))))
theorem iniC_of {K : PySem.W.Frag} {c : Cl} {m : Str} {st : List Stmt} {ar : Arguments} {sc : Scope} {qn : Str} (h : iniB K c m = true) (xc : XC K c) (fn : ∃ fd, FunD K "__init__" qn ar st sc [] [] (He.ma K (eA K c) "__init__") fd) : IniC K c m st ar sc qn := by
  obtain ⟨h1, h⟩ := Bool.and_eq_true_iff.mp h
  obtain ⟨h2, h⟩ := Bool.and_eq_true_iff.mp h
  obtain ⟨h3, h⟩ := Bool.and_eq_true_iff.mp h
  obtain ⟨h4, h⟩ := Bool.and_eq_true_iff.mp h
  obtain ⟨h5, h6⟩ := Bool.and_eq_true_iff.mp h
  exact ⟨⟨oex_cls h1, of_decide_eq_true h2, xc.sub, xc.ty, h3⟩, xc, of_decide_eq_true h4, of_decide_eq_true h5, of_decide_eq_true h6, fn⟩
/-- what the __init__ promises -/
def spIni (C : Addr) (m : Str) : Sp := fun vs H Q _ => ∃ (a : Addr) (v : V), vs = [.ref a, v] ∧ H a = some (exo a C none) ∧ ∀ d, H d = none → d ≠ a → Q .non (upd (upd H d (exd d [(m, v)])) a (exo a C (some d)))
section
variable {P : Program} {w : World} {K : PySem.W.Frag} {mg : Str → Option Value} {base : Heap} {qual : Str} {params : Arguments} {scope : Scope} {f : Addr} {fd : FuncData} {C : Addr} {m : Str} {p1 p2 p3 p4 : Pos} {CX : CXT} {k : Nat}
theorem fn_ini (F : FunD K "__init__" qual params [.Assign [.Attribute (.Name "self" p1) m p2] (.Name m p3) p4] scope [] [] f fd) (S : FnScope ["self", m] ["self", m] scope) (T : OexC K C) (hno : PySem.W.findIn K (.ref C) m = some none) (hv1 : Vis scope "self") (hv2 : Vis scope m) (hm1 : (m == ("__debug__" : Str)) = false) (hm2 : (m == ("__classdict__" : Str)) = false)
    (hs : ∀ env : Env, swapsWith (.Name m p3) (some (.Attribute (.Name "self" p1) m p2)) p4.line env = pure false) : FnOk P w K mg base CX (k + 1) f fd ["self", m] (spIni C m) := by
  refine F.ok S (fun vs H Q E h => by obtain ⟨a, v, rfl, _⟩ := h; rfl) fun cdv A outer s H vs Q E hr hsp => ?_
  obtain ⟨a, v, rfl, ha, hq⟩ := hsp
  refine ⟨_, pss_one (ps_ost (X := cxOf CX P w K mg base ["self", m] qual scope f cdv A outer s H E) (pe_var (i := 0) rfl hv1 (by decide) (by decide)) (pe_var (i := 1) rfl hv2 hm1 hm2) (hs _)), ?_⟩
  exact ⟨v, rfl, .ref a, rfl, a, C, rfl, T, hno, .inl ⟨ha, fun dx n ne => hq dx n ne⟩⟩
theorem fn_iniH (F : FunD K "__init__" qual params [.Assign [.Attribute (.Name "self" p1) m p2] (.Name m p3) p4] scope [] [] f fd) (S : FnScope ["self", m] ["self", m] scope) (T : OexC K C) (hno : PySem.W.findIn K (.ref C) m = some none) (hv1 : Vis scope "self") (hv2 : Vis scope m) (hm1 : (m == ("__debug__" : Str)) = false) (hm2 : (m == ("__classdict__" : Str)) = false)
    (hs : ∀ env : Env, swapsWith (.Name m p3) (some (.Attribute (.Name "self" p1) m p2)) p4.line env = pure false) : L2H.FnH P w K mg base CX (k + 1) f fd ["self", m] (spIni C m) := by
  obtain ⟨oc, od, dV, kV, doc, pm, an, cdv, ct, osl, rfl, lk, hcd, _, _⟩ := F.ex
  refine L2H.fn_ofH lk hcd S (fun vs H Q E h => by obtain ⟨a, v, rfl, _⟩ := h; rfl) fun A outer s H vs Q E p hot hr hsp => ?_
  obtain ⟨a, v, rfl, ha, hq⟩ := hsp
  refine ⟨_, pss_one (ps_ost (X := L2H.cxH CX P w K mg base ["self", m] qual scope f cdv A outer s H E p) (pe_var (i := 0) rfl hv1 (by decide) (by decide)) (pe_var (i := 1) rfl hv2 hm1 hm2) (hs _)), ?_⟩
  exact ⟨v, rfl, .ref a, rfl, a, C, rfl, T, hno, .inl ⟨ha, fun dx n ne => hq dx n ne⟩⟩
end
/-- the __init__ of a class, wherever it is called -/
structure IniF (P : Program) (w : World) (K : PySem.W.Frag) (mg : Str → Option Value) (base : Heap) (c : Cl) (m : Str) : Prop where
  T : OexC K (eA K c)
  xc : XC K c
  no : PySem.W.findIn K (.ref (eA K c)) m = some none
  mgx : mg c.name = some (.ref (eA K c))
  ex : ∃ fI fd, PySem.W.findIn K (.ref (eA K c)) "__init__" = some (some (.ref fI)) ∧ PySem.W.typeIn K (.ref fI) = some (.type "function") ∧ Binds K fd ["self", m] [] ∧ (FnOk P w K mg base (L2.CX P w) 1 fI fd ["self", m] (spIni (eA K c) m)) ∧ L2H.FnH P w K mg base (L2.CX P w) 1 fI fd ["self", m] (spIni (eA K c) m)
theorem iniF_of {P : Program} {w : World} {K : PySem.W.Frag} {mg : Str → Option Value} {base : Heap} {c : Cl} {m : Str} {ar : Arguments} {sc : Scope} {qn : Str} {p1 p2 p3 p4 : Pos} (h : IniC K c m [.Assign [.Attribute (.Name "self" p1) m p2] (.Name m p3) p4] ar sc qn) (hm : mg c.name = some (.ref (eA K c)))
    (S : FnScope ["self", m] ["self", m] sc) (hv1 : Vis sc "self") (hv2 : Vis sc m) (hm1 : (m == ("__debug__" : Str)) = false) (hm2 : (m == ("__classdict__" : Str)) = false) (hs : ∀ env : Env, swapsWith (.Name m p3) (some (.Attribute (.Name "self" p1) m p2)) p4.line env = pure false)
    (hb : ∀ (kV doc pm : Value) (an : Option Addr) (cdv ct : Value) (us : List Value), us.length = (["self", m] : List Str).length → bindArgs (PySem.W.fnOf "__init__" qn ar [.Assign [.Attribute (.Name "self" p1) m p2] (.Name m p3) p4] sc .none kV doc pm an cdv ct) ⟨us, []⟩ = pure ((["self", m] : List Str).zip us)) : IniF P w K mg base c m := by
  obtain ⟨fd, F⟩ := h.fn
  exact ⟨h.T, h.xc, h.no, hm, _, fd, h.ini, h.ty, F.bindsN hb, fn_ini F S h.T h.no hv1 hv2 hm1 hm2 hs, fn_iniH F S h.T h.no hv1 hv2 hm1 hm2 hs⟩
def clsFn (s : Stmt) (j : Nat) : Stmt := match s with
  | .ClassDef _ _ _ body _ _ _ _ _ _ _ => body.getD j (.Pass ⟨0, 0, 0, 0⟩)
  | s => s
section
variable {S : Type}
def sRaiseF (c : Cl) (m : Str) (f : Sl → M S D) : Sl → Mo S := fun r => liftX (f r) r fun d s => some (.thr ⟨c, [(m, d)]⟩ r, s)
end
section
variable {X : Cx} {R : Reg} {W : WX} {fr : FrK} {O O' B : List Nat} {e : Expr} {f : Sl → M R.S D} {fb : Sl → Mo R.S} {pos p np pos' cpos pp rp : Pos} {n : Nat} {x m : Str} {c : Cl} {body : List Stmt} {jj : Nat}
theorem passes0 {X : Cx} : Passes (L2.CX X.prog X.w) X (fun _ _ _ => False) := fun _ _ _ _ _ _ _ ⟨_, _, _, _, _, _, _, _, _, _, _, _, z⟩ => z.elim
theorem heap_back {H : Hp} {a d : Addr} {v : V} {C : Addr} {o : HO} (ha : H a = none) (hda : d ≠ a) : upd (del (upd (upd (upd H a o) d (exd d [(m, v)])) a (exo a C (some d))) a) d (.xd [(m, v)]) = upd H d (.xd [(m, v)]) := by
  funext b
  by_cases hb : b = d
  · subst hb; rw [upd_same, upd_same]
  · rw [upd_ne hb, upd_ne hb]
    by_cases hba : b = a
    · subst hba; rw [del_same, ha]
    · rw [del_ne hba, upd_ne hba, upd_ne hb, upd_ne hba]
/-- what the making of the error asks, by plain data -/
theorem sat_mkO (hK : R.K = X.K) (E : Ends) (σ : L2.St) (H : Hp) (h : tDS R W fr B O O' (sRaiseF c m f) E σ H) : tMkO (eA X.K c) (spIni (eA X.K c) m) [] (tDA R W O (dCons f dNil)) σ H fun cls d H' => W cls d σ H' := by
  obtain ⟨F0, H0, F, r, s, w, st, sl, p⟩ := h
  refine ⟨F, r, s, w, sl.pu, ?_⟩
  have p2 := postS_x w st sl p
  cases ef : f r s with
  | bot => rw [ef] at p2; exact p2.elim
  | exc xx s1 =>
    rw [ef] at p2
    have e2 : dCons f dNil r s = .exc xx s1 := by
      show bnd (f r) _ s = _
      rw [bnd_exc ef]
    rw [e2]
    exact p2
  | ok d s1 =>
    rw [ef] at p2
    have e2 : dCons f dNil r s = .ok [d] s1 := by
      show bnd (f r) _ s = _
      rw [bnd_ok ef]; rfl
    rw [e2]
    intro F1 H1 w1 st1 vs rvs
    obtain ⟨w2, st2, sl2, p4⟩ := p2 F1 H1 w1 st1
    obtain ⟨v, us, rfl, rv, e3⟩ := rvs
    rw [show us = [] from e3]
    refine ⟨by show 1 ≤ 1000; decide, fun a ha => ⟨a, v, rfl, upd_same, fun dx hdx hne => ⟨rfl, dx, [(m, v)], upd_same, by rw [upd_ne hne, upd_same], ?_, ?_⟩⟩⟩
    · rw [upd_ne hne] at hdx; exact hdx
    · rw [heap_back ha hne]
      have hd0 : H1 dx = none := by rw [upd_ne hne] at hdx; exact hdx
      obtain ⟨G, wG, stG, slG, sm, _⟩ := sl2.all w2 st2
      have st3 : Stp R G H1 (upd G dx (.xd [(m, v)])) (upd H1 dx (.xd [(m, v)])) := Stp.new _ hd0 (wG.free hd0)
      refine p4 σ _ _ _ _ (wG.new _ hd0) (stG.trans st3) (slG.step st3) ⟨by rw [hK], .inr ⟨dx, [(m, v)], rfl, upd_same, v, [], rfl, (rv.mono sm).mono st3.fs, rfl⟩⟩
/-- raise C(e) -/
theorem ds_raiseF (cx : Cxt X R W n) (tk : TkM false X W) (hx : c.name = x) (ic : IniF X.prog X.w X.K X.mg X.base c m) (hn : 2 ≤ n) (he : PE X e (tD R W O f)) (hg : Gl X x) (hdb : (x == ("__debug__" : Str)) = false := by decide)
    (hst : starEach [e] X.env = (false, eval e X.env) :: starEach [] X.env := by rfl) (hpl : (backTo pos (starEach [] X.env)).any (·.1) = false := by rfl) :
    PS X (.Raise (some (.Call (.Name x p) [e] [] pos)) none pos') (tDS R W fr B O O' (sRaiseF c m f)) := by
  obtain ⟨fI, fd, h1, h2, hb, F1, _⟩ := ic.ex
  subst hx
  exact ps_imp (ps_raise cx.calm tk (pmk_oex (dvs := []) (ds := []) ic.T h1 h2 F1 (cx.hr.mono (by omega)) hb .nil passes0 hg ic.mgx (da_cons he da_nil hst) hdb hst hpl)) fun E σ H h => sat_mkO cx.hK E σ H h
/-- try: .. except c': raise C(e) from None -/
theorem ds_tryX {cs : List Cl} {c' : Cl} (cx : Cxt X R W n) (tk : TkM false X W) (xf : XF X.K cs) (hc' : c' ∈ cs) (hx : c'.name = x) (hs : X.stack = X.env :: X.outer) (hf : X.env.frame = some X.env.locals)
    (hpa : ∀ hd : Option Value, PassesOwnAt (model X.prog X.w) (X.A.mark hd) X.A X.env X.xe)
    (hg : Gl X x) (hm : X.mg x = some (.ref (eA X.K c'))) {y : Str} (hy : c.name = y) (ic : IniF X.prog X.w X.K X.mg X.base c m) (hn : 2 ≤ n) (hgy : Gl X y)
    (hb : ∀ (W' : WX) (pn : List (Addr × Obj)) (xe : Value → Shared → Prop), Cxt (X.tr pn xe) R W' n → TkM true (X.tr pn xe) W' → PassesOwn (model X.prog X.w) X.A X.env xe → PSs (X.tr pn xe) body (tDS R W' fr B [] [] fb))
    (he : ∀ (a : Addr) (oe : Obj) (pn : List (Addr × Obj)), PE (L2H.suiteX X a ((a, oe) :: pn)) e (tD R W [] f)) (hdb : (x == ("__debug__" : Str)) = false := by decide) (hdy : (y == ("__debug__" : Str)) = false := by decide)
    (hst : starEach [e] X.env = (false, eval e X.env) :: starEach [] X.env := by rfl) (hpl : (backTo pp (starEach [] X.env)).any (·.1) = false := by rfl) :
    PS X (.Try body [.ExceptHandler (some (.Name x np)) none [.Raise (some (.Call (.Name y p) [e] [] pp)) (some (.Constant .none jj cpos)) rp] pos'] [] [] pos) (tDS R W fr B [] [] (sTryO cs c' fb (sRaiseF c m f))) := by
  obtain ⟨fI, fd, h1, h2, hbi, _, FH⟩ := ic.ex
  subst hy
  have suite : ∀ (a : Addr) (oe : Obj) (cls : Value) (d : Option Addr) (pn : List (Addr × Obj)), L2N.Zn cls d oe → (∃ vs, oe.data = .fields vs) → L2.Takes (L2H.suiteX X a ((a, oe) :: pn)) W → L2H.HotC (L2H.suiteX X a ((a, oe) :: pn)) →
      PSs (L2H.suiteX X a ((a, oe) :: pn)) [.Raise (some (.Call (.Name c.name p) [e] [] pp)) (some (.Constant .none jj cpos)) rp] (tDS R W fr B [] [] (sRaiseF c m f)) := fun a oe cls d pn _ _ tk2 hot =>
    pss_one (ps_imp (L2H.ps_raiseHN hot tk2 (L2H.pmk5_oexH (X := L2H.suiteX X a ((a, oe) :: pn)) ic.T h1 h2 FH (L2H.roomH_mark (cx.hr.mono (by omega)) _) hot hbi passes0 hgy ic.mgx (da_cons (he a oe pn) da_nil hst) hdy hst hpl)) fun E σ H h => sat_mkO (X := L2H.suiteX X a ((a, oe) :: pn)) cx.hK E σ H h)
  refine ps_imp (L2H.ps_try_onlyX hs hf ⟨hg, hdb, .inl hm⟩ hpa tk (tb := fun W' => tDS R W' fr B [] [] fb) (ts := fun _ _ _ => tDS R W fr B [] [] (sRaiseF c m f)) (fun W' pn xe tk1 _ po => hb W' pn xe (cx.tr W') tk1 po) suite) fun E σ H h => ?_
  obtain ⟨F0, H0, F, r, s, w, st, sl, p⟩ := h
  refine ⟨F0, H0, F, r, s, w, st, sl, ?_⟩
  unfold sTryO at p
  cases ef : fb r s with
  | none => rw [ef] at p; exact p
  | some q =>
    obtain ⟨fl, s'⟩ := q
    rw [ef] at p
    cases fl with
    | next r' => exact p
    | rt d => exact p
    | brk r' => exact p
    | cnt r' => exact p
    | thr xx r' =>
      have p : PostS R fr F0 H0 (if xx.c ∈ cs then (if subC xx.c c' = true then sRaiseF c m f r' s' else some (.thr xx r', s')) else none) E W B [] := p
      by_cases hcs : xx.c ∈ cs
      · rw [if_pos hcs] at p
        intro σ' F' H' cls dd w' st' sl' rx
        have hcls : cls = .ref (eA X.K xx.c) := by rw [rx.1, cx.hK]
        refine ⟨subC xx.c c', by rw [hcls]; exact xf.exm _ hcs _ hc', fun hb2 ad had => ?_, fun hb2 => ?_⟩
        · rw [if_pos hb2] at p
          exact ⟨F0, H0, F', r', s', w', st', sl', p⟩
        · rw [if_neg (by rw [hb2]; exact Bool.false_ne_true)] at p
          exact p σ' F' H' cls dd w' st' sl' rx
      · rw [if_neg hcs] at p; exact p.elim
end
end Nw
set_option Elab.async false
set_option linter.all false
set_option maxRecDepth 100000
set_option maxHeartbeats 4000000
/-! Part UU: own things read by an expression whose result is no object. -/
namespace Nw
open PySem PySem.Spec L2
def scal0 : D → Option D
  | .non => some .non
  | .bl b => some (.bl b)
  | .int i => some (.int i)
  | .str x => some (.str x)
  | _ => none
theorem scal0_some {d d' : D} (h : scal0 d = some d') : d' = d ∧ ∀ {K : PySem.W.Frag} {nm : Nat → Option Addr} {F G : Hp} {v : V}, Rep K nm F d v → Rep K nm G d v := by
  cases d <;> cases h <;> exact ⟨rfl, fun r => r⟩
def tDB (R : Reg) (W : WX) (O : List Nat) (f : Sl → M R.S D) : TE := fun σ H Q => ∃ F H0 r s, Wd R F H s ∧ Slots R H0 O F H σ r ∧ Post R F H (bnd (nox (f r)) (fun d => lift (scal0 d)) s) (fun d _ F' H' => ∀ v, Rep R.K R.nm F' d v → Q v H') (fun x _ F' H' => ∀ cls dd, RepX R.K R.nm F' x cls dd → W cls dd σ H')
section
variable {X : Cx} {R : Reg} {W : WX} {fr : FrK} {O O' B : List Nat} {e : Expr} {f : Sl → M R.S D} {pos : Pos} {x : Str}
theorem de_borrow (h : PE X e (tD R W [] f)) : PE X e (tDB R W O f) := ⟨fun pins s σ H Q I hq => by
  obtain ⟨F, H0, r, st, w, sl, p⟩ := hq
  have hrun := h.run pins s σ H (fun v H1 => Q v (unl (ownAs O σ r) H H1) ∧ ∀ a ∈ ownAs O σ r, Lkd H H1 a) I ⟨lend O σ r F H, r, st, lend_wd sl w, lend_pu sl, by
    cases ec : f r st with
    | ok d s1 =>
      have e2 : nox (f r) st = .ok d s1 := by unfold nox; rw [ec]
      rw [bnd_ok e2] at p
      obtain ⟨d', hd, pk⟩ := Post.lift p
      obtain ⟨e5, hrep⟩ := scal0_some hd
      subst e5
      intro F1 H1 w1 st1 v rv
      obtain ⟨F2, q1, q2, q3⟩ := lend_back sl w1 st1
      exact ⟨pk F2 _ q1 q2 v (hrep rv), q3⟩
    | exc x s1 =>
      have e2 : nox (f r) st = .bot := by unfold nox; rw [ec]
      rw [bnd_bot e2] at p; exact p.elim
    | bot =>
      have e2 : nox (f r) st = .bot := by unfold nox; rw [ec]
      rw [bnd_bot e2] at p; exact p.elim⟩
  refine thn hrun fun b s' hb => ?_
  obtain ⟨v, H1, I1, rv, q1, q2⟩ := hb
  refine ⟨v, _, inv_unl _ I1 q2 fun a ha o' u' z => ?_, rv, q1⟩
  obtain ⟨_, _, _, _, _, ho⟩ := ownAs_in sl ha
  obtain ⟨o, e1, e2⟩ := ho.obj
  have e3 := I.base.frzs a o' u' z
  rw [e1] at e3
  exact e2 _ _ (Option.some.inj e3)⟩
def dBor {S : Type} (f : Sl → M S D) : Sl → M S D := fun r => bnd (nox (f r)) fun d => lift (scal0 d)
/-- name = e, e reads own things, its value is no object -/
theorem ds_setB {i : Nat} {pos' : Pos} (hN : X.N.Nodup) (hi : X.N[i]? = some x) (hx : Loc X.env.scope x) (he : PE X e (tD R W [] f)) (h1 : ∀ j ∈ O', j ∈ O ∧ j ∉ [i]) (h2 : ∀ j ∈ O, j ∉ [i] → j ∈ O') (hs : swapsWith e (some (.Name x pos')) pos.line X.env = pure false := by rfl) (hf : X.fn x = true ∨ X.env.scope.names.lookup x = some .local := by first | exact .inl rfl | exact .inr rfl | assumption) :
    PS X (.Assign [.Name x pos'] e pos) (tDS R W fr B O O' (sAsg (tgN i) (dBor f))) := ps_imp (ps_set hN hi hx (de_borrow (O := O) he) hs hf) fun E σ H h => by
  obtain ⟨F0, H0, F, r, s, w, st, sl, p⟩ := h
  have ep : sAsg (tgN i) (dBor f) r s = liftX (dBor f r) r (fun d s => some (.next (r.set i (some d)), s)) s := rfl
  rw [ep] at p
  refine ⟨F, H0, r, s, w, sl, (postS_x w st sl p).imp (fun d s1 F1 H1 w1 st1 q v rv => ?_) fun _ _ _ _ _ _ z => z⟩
  obtain ⟨w2, st2, sl2, p2⟩ := q
  exact p2 _ F1 H1 w2 st2 (sl2.setAt (setAt_one sl2.pu.len rv) h1 h2)
end
end Nw
set_option Elab.async false
set_option linter.all false
set_option maxRecDepth 100000
set_option maxHeartbeats 4000000
/-! Part VV: expressions that read own things. -/
namespace Nw
open PySem PySem.Spec L2
def tDv (R : Reg) (W : WX) (O : List Nat) (f : Sl → M R.S D) : TE := fun σ H Q => ∃ F H0 r s, Wd R F H s ∧ Slots R H0 O F H σ r ∧ Post R F H (f r s) (fun d _ F' H' => ∀ v, Rep R.K R.nm F' d v → Q v H') (fun x _ F' H' => ∀ cls dd, RepX R.K R.nm F' x cls dd → W cls dd σ H')
def tDAv (R : Reg) (W : WX) (O : List Nat) (f : Sl → M R.S (List D)) : TA := fun σ H Q => ∃ F H0 r s, Wd R F H s ∧ Slots R H0 O F H σ r ∧ Post R F H (f r s) (fun ds _ F' H' => ∀ vs, Reps R.K R.nm F' ds vs → Q vs H') (fun x _ F' H' => ∀ cls dd, RepX R.K R.nm F' x cls dd → W cls dd σ H')
def dIxO {S : Type} (i : Nat) (g : Sl → M S D) : Sl → M S D := fun r => bnd (dVar i r) fun d => bnd (lift (ownIs "list" d)) fun _ => bnd (g r) fun k => lift (ixD d k)
section
variable {X : Cx} {R : Reg} {W : WX} {fr : FrK} {O O' B : List Nat} {a b e : Expr} {es : List Expr} {f g fk fv fe : Sl → M R.S D} {fs : Sl → M R.S (List D)} {pos npos apos cpos : Pos} {n i : Nat} {x : Str}
theorem de_wkV (h : PE X e (tD R W O f)) : PE X e (tDv R W O f) := pe_imp h fun σ H Q ⟨F, H0, r, s, w, sl, p⟩ => ⟨F, r, s, w, sl.pu, p⟩
theorem de_borV (h : PE X e (tD R W [] f)) : PE X e (tDv R W O (dBor f)) := de_borrow h
theorem de_wV (hO : i ∈ O) (h : PE X e (tDw R W O i f)) : PE X e (tDv R W O f) := pe_imp h fun σ H Q ⟨F, H0, r, s, w, sl, p⟩ => ⟨F, r, s, w, sl.pu, (fun d hrt hd => by obtain ⟨ad, h1, h2⟩ := sl.ow i d hO hrt hd; exact ⟨ad, _, h1, h2⟩), p⟩
theorem da_nilV : PA X [] (tDAv R W O dNil) := pa_imp pa_nil fun σ H Q h => by
  obtain ⟨F, H0, ρ, s, w, sl, p⟩ := h
  exact p F H w Stp.refl [] rfl
theorem da_consV (ha : PE X e (tDv R W O f)) (hr : PA X es (tDAv R W O fs)) (hs : starEach (e :: es) X.env = (false, eval e X.env) :: starEach es X.env := by rfl) : PA X (e :: es) (tDAv R W O (dCons f fs)) := pa_imp (pa_cons ha hr hs) fun σ H Q h => by
  obtain ⟨F, H0, ρ, s, w, sl, p⟩ := h
  refine ⟨F, H0, ρ, s, w, sl, p.bnd.imp (fun d s1 F1 H1 w1 st1 p1 v rv => ?_) fun _ _ _ _ _ _ z => z⟩
  refine ⟨F1, H0, ρ, s1, w1, sl.step st1, p1.bnd.imp (fun ds s2 F2 H2 w2 st2 p2 vs rvs => ?_) fun _ _ _ _ _ _ z => z⟩
  exact p2 F2 H2 w2 Stp.refl (v :: vs) ⟨v, vs, rfl, rv.mono st2.fs, rvs⟩
/-- an own list, by a place -/
theorem de_ixV (i : Nat) (hO : i ∈ O) (hN : X.N[i]? = some x) (hv : Vis X.env.scope x) (hb : PE X b (tDv R W O g)) (hs : PlainIx b := by exact fun _ _ => rfl) (hd : (x == ("__debug__" : Str)) = false := by decide) (hcd : (x == ("__classdict__" : Str)) = false := by decide) :
    PE X (.Subscript (.Name x npos) b pos) (tDv R W O (dIxO i g)) :=
  pe_imp (pe_ix ix_seq (pe_var hN hv hd hcd) hb hs) fun σ H Q h => by
    obtain ⟨F, H0, r, s, w, sl, p⟩ := h
    obtain ⟨d, e, p1⟩ := Post.lift0 (m := getS r i) p
    obtain ⟨u, eu, p2⟩ := p1.lift0
    cases d with
    | row xs =>
      obtain ⟨ad, h1, h2⟩ := sl.ow i _ hO rfl (getS_some e)
      refine ⟨_, h1, F, H0, r, s, w, sl, p2.bnd.imp (fun k s1 F1 H1 w1 st1 p3 v rv => ?_) fun _ _ _ _ _ _ z => z⟩
      obtain ⟨d', e', kk⟩ := p3.lift
      obtain ⟨vs, q1, q2, q3⟩ := (h2.step st1).2.2.2
      cases k with
      | int j =>
        have e' : atI xs j = some d' := e'
        obtain ⟨v', h3, h4⟩ := atI_rep q3 e'
        exact .inl ⟨ad, vs, _, v', rfl, rv, SqL.of q1, h3, kk F1 H1 w1 Stp.refl v' h4⟩
      | _ => exact absurd e' (by simp [ixD])
    | _ => cases eu
theorem sat_opV {r : R2} {op : D → D → Option D} (hs : OpSat R r op) (σ : L2.St) (H : Hp) (Q : VK) (h : tDv R W O (dOp op f g) σ H Q) : tOp r (tDv R W O f) (tDv R W O g) σ H Q := by
  obtain ⟨F, H0, ρ, s, w, sl, p⟩ := h
  refine ⟨F, H0, ρ, s, w, sl, p.bnd.imp (fun d s1 F1 H1 w1 st1 p1 v rv => ?_) fun _ _ _ _ _ _ z => z⟩
  refine ⟨F1, H0, ρ, s1, w1, sl.step st1, p1.bnd.imp (fun e s2 F2 H2 w2 st2 p2 u ru => ?_) fun _ _ _ _ _ _ z => z⟩
  obtain ⟨d', e', k⟩ := p2.lift
  exact hs v u d e d' F2 H2 s2 Q w2 (rv.mono st2.fs) ru e' fun v' F' H' w' st' r' => k F' H' w' st' v' r'
theorem sat_callPV {n : Nat} {g : List D → M Unit D} (σ : L2.St) (H : Hp) (Q : VK) (h : tDv R W O (dCall n (fun ds => up (g ds)) fs) σ H Q) : tCallS (spP R.K n g) (WE W) (tDAv R W O fs) σ H Q := by
  obtain ⟨F, H0, ρ, s, w, sl, p⟩ := h
  refine ⟨F, H0, ρ, s, w, sl, p.bnd.imp (fun ds s1 F1 H1 w1 st1 p1 vs rvs => ?_) fun _ _ _ _ _ _ z => z⟩
  split at p1
  · rename_i hn
    exact ⟨R.nm, by rw [rvs.length]; exact hn, F1, (), ds, wd_0 w1, rvs, post_up (k := fun d F' H' => ∀ v, Rep R.K R.nm F' d v → Q v H') (x := fun x F' H' => ∀ cls dd, RepX R.K R.nm F' x cls dd → W cls dd σ H') w1 p1⟩
  · exact False.elim p1
theorem de_callPV {md : Bool} {k n : Nat} {g : List D → M Unit D} {p : Pos} (c : Cxt X R W k) (tk : TkM md X W) (h : Has md X.prog X.w X.K X.mg X.base k x (spP X.K n g)) (hg : Gl X x) (ha : PA X (e :: es) (tDAv R W O fs)) (hdb : (x == ("__debug__" : Str)) = false := by decide)
    (he : starEach (e :: es) X.env = (false, eval e X.env) :: starEach es X.env := by rfl) (hpl : (backTo pos (starEach es X.env)).any (·.1) = false := by rfl) : PE X (.Call (.Name x p) (e :: es) [] pos) (tDv R W O (dCall n (fun ds => up (g ds)) fs)) := by
  obtain ⟨f, fd, ps, F, hm, hk, hb⟩ := h
  rw [← c.hK] at F
  exact pe_imp (pe_callS (sp := spP R.K n g) (by rw [← c.hK]; exact F) c.hr hg hm hk hb (fun σ => passM tk σ) ha hdb he hpl) sat_callPV
/-- x.append(e) -/
theorem ds_appV (i : Nat) (hO : i ∈ O) (hN : X.N[i]? = some x) (hv : Vis X.env.scope x) (he : PE X e (tDv R W O f)) (hd : (x == ("__debug__" : Str)) = false := by decide) (hcd : (x == ("__classdict__" : Str)) = false := by decide)
    (hbase : attributeBase (.Name x npos) "append" X.env (eval (.Name x npos) X.env) = eval (.Name x npos) X.env := by rfl)
    (hfew : ((backTo cpos (starEach [e] X.env)).all (fun x => !x.1) && (backToKw cpos (keywordEach [] X.env)).all (fun x => x.1.isSome)
      && decide (([e] : List Expr).length + ([] : List Keyword).length + (if ([] : List Keyword).isEmpty then 0 else 1) < 30)) = true := by rfl)
    (hline : (apos.endLine == cpos.line) = true := by rfl) (hst : starEach [e] X.env = (false, eval e X.env) :: starEach [] X.env := by rfl) (hplain : (backTo cpos (starEach [] X.env)).any (·.1) = false := by rfl) (hs : swapsWith (.Call (.Attribute (.Name x npos) "append" apos) [e] [] cpos) none pos.line X.env = pure false := by rfl) :
    PS X (.Expr (.Call (.Attribute (.Name x npos) "append" apos) [e] [] cpos) pos) (tDS R W fr B O O (sOwn1 "list" i appD f)) :=
  ps_imp (ps_expr (pe_bm F.plainAttrs_list F.slot_list_append F.type_list_append mt_append (pe_var hN hv hd hcd) (pa_cons he pa_nil hst) hbase hfew hline hst hplain) hs) fun E σ H h => by
  obtain ⟨F0, H0, F, r, s, w, st, sl, p⟩ := h
  obtain ⟨d, eg, p⟩ := opt_post p
  obtain ⟨d0, eg0, e2⟩ := bind_some eg
  obtain ⟨u, eu, e3⟩ := map_some e2
  have e3 : d0 = d := e3
  subst e3
  clear eg e2
  have eg := eg0
  cases d0 with
  | row xs =>
    obtain ⟨ad, h1, h2⟩ := sl.ow i _ hO rfl (getS_some eg)
    obtain ⟨ws0, e10, e20, e30⟩ := h2.2.2.2
    refine ⟨_, h1, .inl ⟨rfl, ws0, SqL.of e10⟩, F, H0, r, s, w, sl, (postS_x w st sl p).imp (fun v s1 F1 H1 w1 st1 q vv rv => ?_) fun _ _ _ _ _ _ z => z⟩
    obtain ⟨w2, st2, sl2, p2⟩ := q
    obtain ⟨d', ed, p4⟩ := put_post p2
    have h3 := h2.step st1
    obtain ⟨ws, e1, e2, e3⟩ := h3.2.2.2
    have ed : (if xs.length < sizeLine then some (D.row (xs ++ [v])) else none) = some d' := ed
    by_cases hz : xs.length < sizeLine
    · rw [if_pos hz] at ed
      cases ed
      refine ⟨ad, ws, vv, rfl, rfl, e1, by rw [e3.length]; exact hz, ?_⟩
      obtain ⟨a1, a2, a3⟩ := own_write (o := .lst (ws ++ [vv])) w2 st2 sl2 hO (getS_some eg) h1 h3 (d' := .row (xs ++ [v])) ⟨_, rfl, by rw [List.length_append, List.length_singleton]; omega, e3.append ⟨vv, [], rfl, rv, rfl⟩⟩
      exact p4 σ F1 _ a1 a2 a3
    · rw [if_neg hz] at ed; cases ed
  | _ => cases eu
/-- name = e -/
theorem ds_setV {pos' : Pos} (hN : X.N.Nodup) (hi : X.N[i]? = some x) (hx : Loc X.env.scope x) (he : PE X e (tDv R W O fe)) (h1 : ∀ j ∈ O', j ∈ O ∧ j ∉ [i]) (h2 : ∀ j ∈ O, j ∉ [i] → j ∈ O') (hs : swapsWith e (some (.Name x pos')) pos.line X.env = pure false := by rfl) (hf : X.fn x = true ∨ X.env.scope.names.lookup x = some .local := by first | exact .inl rfl | exact .inr rfl | assumption) :
    PS X (.Assign [.Name x pos'] e pos) (tDS R W fr B O O' (sAsg (tgN i) fe)) := ps_imp (ps_set hN hi hx he hs hf) fun E σ H h => by
  obtain ⟨F0, H0, F, r, s, w, st, sl, p⟩ := h
  refine ⟨F, H0, r, s, w, sl, (postS_x w st sl p).imp (fun d s1 F1 H1 w1 st1 q v rv => ?_) fun _ _ _ _ _ _ z => z⟩
  obtain ⟨w2, st2, sl2, p2⟩ := q
  exact tg_name v d σ r _ F1 H1 _ w2.sub rv sl2.pu.len rfl fun σ' sa => p2 σ' F1 H1 w2 st2 (sl2.setAt sa h1 h2)
/-- x[k] = e, x an own table -/
theorem ds_setTV (i : Nat) {pos' : Pos} (cx : Cxt X R W n) (hO : i ∈ O) (hN : X.N[i]? = some x) (hv : Vis X.env.scope x) (hk : PE X b (tD R W O fk)) (he : PE X e (tDv R W O fv)) (hs : swapsWith e (some (.Subscript (.Name x npos) b pos')) pos.line X.env = pure false := by rfl) (hd : (x == ("__debug__" : Str)) = false := by decide) (hcd : (x == ("__classdict__" : Str)) = false := by decide) :
    PS X (.Assign [.Subscript (.Name x npos) b pos'] e pos) (tDS R W fr B O O (sOwn2 i setTD fk fv)) := ps_imp (ps_dput (by have := cx.hr.units; omega) (pe_var hN hv hd hcd) hk he hs) fun E σ H h => by
  obtain ⟨F0, H0, F, r, s, w, st, sl, p⟩ := h
  refine ⟨F, H0, r, s, w, sl, (postS_x w st sl p).imp (fun v s1 F1 H1 w1 st1 q vv rv => ?_) fun _ _ _ _ _ _ z => z⟩
  obtain ⟨w2, st2, sl2, p2⟩ := q
  obtain ⟨d, eg, p2⟩ := opt_post p2
  obtain ⟨cv, h1, hfre⟩ := sl2.fre hO (getS_some eg)
  refine ⟨_, h1, F1, r, s1, w2, sl2.pu, (postS_x w2 st2 sl2 p2).imp (fun k s3 F3 H3 w3 st3 q kv rk => ?_) fun _ _ _ _ _ _ z => z⟩
  obtain ⟨w4, st4, sl4, p4⟩ := q
  obtain ⟨d', ed, p4⟩ := put_post p4
  cases d with
  | tab kvs =>
    obtain ⟨ad, rfl, h2⟩ := hfre
    have h3 := h2.step st3
    obtain ⟨kk, ek, ed⟩ := bind_some (show (keyD k).bind (fun k => if kvs.length < sizeLine then some (D.tab (putD kvs k v)) else none) = some d' from ed)
    by_cases hz : kvs.length < sizeLine
    · rw [if_pos hz] at ed
      cases ed
      obtain ⟨ws, e1, e2, e3⟩ := h3.2.2.2
      obtain ⟨k1, k2⟩ := keyD_ok rk ek
      refine ⟨ad, upd H3 ad (.dK (putK ws kk vv)), rfl, ?_, ?_⟩
      · rw [k1]; exact DPut.k e1 (by rw [e3.length]; exact hz)
      · obtain ⟨a1, a2, a3⟩ := own_write (o := .dK (putK ws kk vv)) w4 st4 sl4 hO (getS_some eg) h1 h3 (d' := .tab (putD kvs kk v)) ⟨_, rfl, by have := putD_length kvs kk v; omega, e3.put k2 (rv.mono st3.fs)⟩
        exact p4 σ F3 _ a1 a2 a3
    · rw [if_neg hz] at ed; cases ed
  | _ => exact absurd ed (by simp [setTD])
end
section
variable {X : Cx} {K : PySem.W.Frag} {T : Addr} {W : WX} {O : List Nat} {e : Expr} {es : List Expr} {fs : Sl → M Nat (List D)} {pos : Pos}
theorem sat_callTV {n : Nat} {g : List D → M Nat D} (σ : L2.St) (H : Hp) (Q : VK) (h : tDv (RT K T) W O (dCall n g fs) σ H Q) : tCallS (spT K n g) (WE W) (tDAv (RT K T) W O fs) σ H Q := by
  obtain ⟨F, H0, ρ, s, w, sl, p⟩ := h
  refine ⟨F, H0, ρ, s, w, sl, p.bnd.imp (fun ds s1 F1 H1 w1 st1 p1 vs rvs => ?_) fun _ _ _ _ _ _ z => z⟩
  by_cases hn : ds.length = n
  · rw [if_pos hn] at p1
    exact ⟨T, by rw [rvs.length]; exact hn, F1, s1, ds, w1, rvs, p1⟩
  · rw [if_neg hn] at p1
    exact False.elim p1
theorem de_callTV {md : Bool} {k n : Nat} {g : List D → M Nat D} {x : Str} {p : Pos} (c : Cxt X (RT K T) W k) (tk : TkM md X W) (h : Has md X.prog X.w X.K X.mg X.base k x (spT X.K n g)) (hg : Gl X x) (ha : PA X (e :: es) (tDAv (RT K T) W O fs)) (hdb : (x == ("__debug__" : Str)) = false := by decide)
    (he : starEach (e :: es) X.env = (false, eval e X.env) :: starEach es X.env := by rfl) (hpl : (backTo pos (starEach es X.env)).any (·.1) = false := by rfl) : PE X (.Call (.Name x p) (e :: es) [] pos) (tDv (RT K T) W O (dCall n g fs)) := by
  obtain ⟨f, fd, ps, F, hm, hk, hb⟩ := h
  have hK : K = X.K := c.hK
  subst hK
  exact pe_imp (pe_callS F c.hr hg hm hk hb (fun σ => passM tk σ) ha hdb he hpl) sat_callTV
end
end Nw
set_option Elab.async false
set_option linter.all false
set_option maxRecDepth 100000
set_option maxHeartbeats 4000000
/-! Part WW: a comprehension within a comprehension. -/
namespace Nw
open PySem PySem.Spec L2
theorem lookup_kinds {g : Str → NameKind → NameKind} : ∀ {ns : List (Str × NameKind)} {x : Str} {k : NameKind}, ns.lookup x = some k → (ns.map fun y => (y.1, g y.1 y.2)).lookup x = some (g x k)
  | [], x, k, h => by cases h
  | (n, k0) :: r, x, k, h => by
    cases e : x == n with
    | true =>
      have hx : x = n := by simpa using e
      simp only [List.lookup_cons, e] at h
      cases h
      simp only [List.map_cons, List.lookup_cons, e]
      rw [hx]
    | false =>
      simp only [List.lookup_cons, e] at h
      simp only [List.map_cons, List.lookup_cons, e]
      exact lookup_kinds h
theorem blkOk_in {N : List Str} {sc scope : Scope} {own : List (Str × Nat)} {env : Env} (h : blkC N sc scope own = true) : BlkOk N (relabel sc env) scope own := by
  have ok := blkOk_by h
  refine ⟨ok.kind, ok.uniq, ok.ix, fun y hy e => ?_, ok.own⟩
  have key : ∀ k, sc.names.lookup y.1 = some k → (relabel sc env).names.lookup y.1 = some (if (k == .free && env.scope.kind == .function && env.kindOf y.1 == some .cell) = true then .cell else k) := fun k hk => by
    have := lookup_kinds (g := fun n k => if (k == .free && env.scope.kind == .function && env.kindOf n == some .cell) = true then .cell else k) hk
    rw [← this]
    unfold relabel
    congr 1
    refine List.map_congr_left fun z _ => ?_
    obtain ⟨n, k0⟩ := z
    show (if _ then (n, NameKind.cell) else (n, k0)) = _
    split <;> rfl
  rcases ok.free y hy e with k | k
  · have := key _ k
    exact .inl (by rw [this]; rfl)
  · have := key _ k
    rw [this]
    split
    · exact .inl rfl
    · exact .inr rfl
end Nw
set_option Elab.async false
set_option linter.all false
set_option maxRecDepth 100000
set_option maxHeartbeats 4000000
/-! Part XX: results whose rows and tables straight within are new; a zone, behind which what came within it may have changed. -/
namespace Nw
open PySem PySem.Spec L2
def elD (d : D) : Option D := match d with
  | .row ds => if ds.any isRT = true then none else some (.row ds)
  | .tup ds => if ds.any isRT = true then none else some (.tup ds)
  | .tab _ => none
  | d => some d
theorem elD_some {d d' : D} (h : elD d = some d') : d' = d ∧ ∀ {H0 F : Hp} {v : V}, NewEl H0 F d v := by
  have key : ∀ ds : List D, ds.any isRT ≠ true → ∀ (i : Nat) (x : D), ds[i]? = some x → isRT x = true → False := fun ds hn i x e hr => hn (List.any_eq_true.mpr ⟨x, List.mem_of_getElem? e, hr⟩)
  cases d with
  | row ds =>
    by_cases c : ds.any isRT = true
    · have h : (if ds.any isRT = true then none else some _) = some d' := h; rw [if_pos c] at h; cases h
    · have h : (if ds.any isRT = true then none else some _) = some d' := h; rw [if_neg c] at h; cases h
      exact ⟨rfl, fun a vs _ _ i x e hr => (key ds c i x e hr).elim⟩
  | tup ds =>
    by_cases c : ds.any isRT = true
    · have h : (if ds.any isRT = true then none else some _) = some d' := h; rw [if_pos c] at h; cases h
    · have h : (if ds.any isRT = true then none else some _) = some d' := h; rw [if_neg c] at h; cases h
      exact ⟨rfl, fun a vs _ _ i x e hr => (key ds c i x e hr).elim⟩
  | tab _ => cases h
  | _ => cases h; exact ⟨rfl, trivial⟩
section
variable {S : Type}
/-- return (e, x), x own; return [x], x own -/
def sRetT2 (i : Nat) (f : Sl → M S D) : Sl → Mo S := fun r => liftX (f r) r fun d s => if isRT d = true then none else match getS r i with
  | some y => some (.rt (.tup [d, y]), s)
  | none => none
def sRetL1 (i : Nat) : Sl → Mo S := fun r s => match getS r i with
  | some y => some (.rt (.row [y]), s)
  | none => none
end
section
variable {X : Cx} {R : Reg} {W : WX} {O O' B : List Nat} {a b e : Expr} {es : List Expr} {f g : Sl → M R.S D} {c : Sl → M R.S Bool} {fs : Sl → M R.S (List D)} {pos npos tpos : Pos} {n i : Nat} {x : Str}
theorem ds_retE (he : PE X e (tD R W O f)) : PS X (.Return (some e) pos) (tDS R W .e B O O' (sRet (dUn elD f))) := ps_imp (ps_ret he) fun E σ H h => by
  obtain ⟨F0, H0, F, r, s, w, st, sl, p⟩ := h
  refine ⟨F, r, s, w, sl.pu, (postS_x w st sl p).bnd.imp (fun d s1 F1 H1 w1 st1 q v rv => ?_) fun _ _ _ _ _ _ z => z⟩
  obtain ⟨d', ed, k⟩ := q.lift
  obtain ⟨rfl, hn⟩ := elD_some ed
  obtain ⟨w2, st2, sl2, p2⟩ := k F1 H1 w1 Stp.refl
  exact p2 v F1 H1 w2 st2 ⟨rv, hn⟩
/-- an own thing given out, its place new -/
theorem own_out {F0 H0 F H : Hp} {σ : L2.St} {r : Sl} {s : R.S} {y : D} (w : Wd R F H s) (st : Stp R F0 H0 F H) (sl : Slots R H0 O F H σ r) (hO : i ∈ O) (e : r[i]? = some (some y)) : ∃ v F', σ[i]? = some (some v) ∧ Wd R F' H s ∧ Stp R F0 H0 F' H ∧ Same F F' ∧ Rep R.K R.nm F' y v ∧ (isRT y = true → ∃ p : Addr, v = .ref p ∧ H0 p = none) := by
  cases hr : isRT y with
  | false =>
    obtain ⟨v, h1, h2⟩ := sl.ns i y hO hr e
    exact ⟨v, F, h1, w, st, fun _ _ z => z, h2, fun z => nomatch z⟩
  | true =>
    obtain ⟨ad, h1, h2⟩ := sl.ow i y hO hr e
    obtain ⟨h0, hF, hm, h3⟩ := h2
    have sm : ∀ o, Same F (upd F ad o) := fun o b u q => by rw [upd_ne (ne_of_none q hF)]; exact q
    cases y with
    | row ds =>
      obtain ⟨vs, q1, q2, q3⟩ := h3
      exact ⟨.ref ad, upd F ad (.lst vs), h1, w.frz q1 hm, st.frz h0 hF _, sm _, ⟨ad, vs, rfl, upd_same, q2, q3.mono (sm _)⟩, fun _ => ⟨ad, rfl, h0⟩⟩
    | tab ds =>
      obtain ⟨vs, q1, q2, q3⟩ := h3
      exact ⟨.ref ad, upd F ad (.dK vs), h1, w.frz q1 hm, st.frz h0 hF _, sm _, ⟨ad, vs, rfl, upd_same, q2, q3.mono (sm _)⟩, fun _ => ⟨ad, rfl, h0⟩⟩
    | _ => cases hr
/-- return (e, x) -/
theorem ds_retT2 (i : Nat) {x1 : Nat} (ha : PE X a (tD R W O f)) (hO : i ∈ O) (hN : X.N[i]? = some x) (hv : Vis X.env.scope x) (hd : (x == ("__debug__" : Str)) = false := by decide) (hcd : (x == ("__classdict__" : Str)) = false := by decide)
    (h1 : starEach [a, .Name x npos] X.env = (false, eval a X.env) :: starEach [.Name x npos] X.env := by rfl) (h2 : starEach [.Name x npos] X.env = (false, eval (.Name x npos) X.env) :: starEach [] X.env := by rfl) :
    PS X (.Return (some (.Tuple [a, .Name x npos] x1 tpos)) pos) (tDS R W .e B O O' (sRetT2 i f)) := ps_imp (ps_ret (pe_tup (pa_cons ha (pa_cons (pe_var hN hv hd hcd) pa_nil h2) h1))) fun E σ H h => by
  obtain ⟨F0, H0, F, r, s, w, st, sl, p⟩ := h
  refine ⟨F, r, s, w, sl.pu, (postS_x w st sl p).imp (fun d s1 F1 H1 w1 st1 q v rv => ?_) fun _ _ _ _ _ _ z => z⟩
  obtain ⟨w2, st2, sl2, p2⟩ := q
  by_cases hr : isRT d = true
  · have p2 : PostS R .e F0 H0 (if isRT d = true then none else match getS r i with | some y => some (.rt (.tup [d, y]), s1) | none => none) E W B O' := p2
    rw [if_pos hr] at p2; exact p2.elim
  · have p2 : PostS R .e F0 H0 (if isRT d = true then none else match getS r i with | some y => some (.rt (.tup [d, y]), s1) | none => none) E W B O' := p2
    rw [if_neg hr] at p2
    cases eg : getS r i with
    | none => rw [eg] at p2; exact p2.elim
    | some y =>
      rw [eg] at p2
      obtain ⟨u, F2, k1, k2, k3, k4, k5, k6⟩ := own_out w2 st2 sl2 hO (getS_some eg)
      refine ⟨u, k1, (show 2 ≤ sizeLine by decide), fun q hq => ?_⟩
      have hF2 : F2 q = none := k2.free hq
      have sm : Same F2 (upd F2 q (.tup [v, u])) := fun b o z => by rw [upd_ne (ne_of_none z hF2)]; exact z
      refine p2 (.ref q) (upd F2 q (.tup [v, u])) _ (k2.new _ hq) (k3.trans (Stp.new _ hq hF2)) ⟨⟨q, [v, u], rfl, upd_same, (show 2 ≤ sizeLine by decide), v, [u], rfl, (rv.mono k4).mono sm, u, [], rfl, k5.mono sm, rfl⟩, ?_⟩
      intro a2 vs e1 e2 j z ez hz
      cases e1
      rw [upd_same] at e2
      cases e2
      match j, ez with
      | 0, ez => cases ez; exact absurd hz hr
      | 1, ez =>
        cases ez
        obtain ⟨pp, e3, e4⟩ := k6 hz
        exact ⟨pp, by rw [e3]; rfl, e4⟩
/-- return [x] if c else b -/
theorem ds_retL1 (i : Nat) {t : Expr} {p2 lpos : Pos} (hc : PT X t (tDT R W O c)) (hO : i ∈ O) (hN : X.N[i]? = some x) (hv : Vis X.env.scope x) (hb : PE X b (tD R W O g)) (hd : (x == ("__debug__" : Str)) = false := by decide) (hcd : (x == ("__classdict__" : Str)) = false := by decide)
    (h2 : starEach [.Name x npos] X.env = (false, eval (.Name x npos) X.env) :: starEach [] X.env := by rfl) :
    PS X (.Return (some (.IfExp t (.List [.Name x npos] lpos) b p2)) pos) (tDS R W .e B O O' (sIf c (sRetL1 i) (sRet (dUn elD g)))) := ps_imp (ps_ret (pe_ifExp hc (pe_lst (pa_cons (pe_var hN hv hd hcd) pa_nil h2)) hb)) fun E σ H h => by
  obtain ⟨F0, H0, F, r, s, w, st, sl, p⟩ := h
  refine ⟨F, r, s, w, sl.pu, (postS_x w st sl p).imp (fun k s1 F1 H1 w1 st1 q => ?_) fun _ _ _ _ _ _ z => z⟩
  obtain ⟨w2, st2, sl2, p2⟩ := q
  cases k with
  | true =>
    rw [if_pos rfl] at p2
    refine iteT ?_
    have p2 : PostS R .e F0 H0 (match getS r i with | some y => some (.rt (.row [y]), s1) | none => none) E W B O' := p2
    cases eg : getS r i with
    | none => rw [eg] at p2; exact p2.elim
    | some y =>
      rw [eg] at p2
      obtain ⟨u, F2, k1, k2, k3, k4, k5, k6⟩ := own_out w2 st2 sl2 hO (getS_some eg)
      refine ⟨u, k1, (show 1 ≤ sizeLine by decide), fun q hq => ?_⟩
      have hF2 : F2 q = none := k2.free hq
      have sm : Same F2 (upd F2 q (.lst [u])) := fun b o z => by rw [upd_ne (ne_of_none z hF2)]; exact z
      refine p2 (.ref q) (upd F2 q (.lst [u])) _ (k2.new _ hq) (k3.trans (Stp.new _ hq hF2)) ⟨⟨q, [u], rfl, upd_same, (show 1 ≤ sizeLine by decide), u, [], rfl, k5.mono sm, rfl⟩, ?_⟩
      intro a2 vs e1 e2 j z ez hz
      cases e1
      rw [upd_same] at e2
      cases e2
      match j, ez with
      | 0, ez =>
        cases ez
        obtain ⟨pp, e3, e4⟩ := k6 hz
        exact ⟨pp, by rw [e3]; rfl, e4⟩
  | false =>
    rw [if_neg Bool.false_ne_true] at p2
    refine iteF ⟨F1, r, s1, w2, sl2.pu, (postS_x w2 st2 sl2 p2).bnd.imp (fun d s3 F3 H3 w3 st3 q v rv => ?_) fun _ _ _ _ _ _ z => z⟩
    obtain ⟨d', ed, k⟩ := q.lift
    obtain ⟨rfl, hn⟩ := elD_some ed
    obtain ⟨w4, st4, sl4, p4⟩ := k F3 H3 w3 Stp.refl
    exact p4 v F3 H3 w4 st4 ⟨rv, hn⟩
end
/-- what a def that tells such a thing promises -/
def spE (R : Reg) (n : Nat) (g : List D → M R.S D) : Sp := fun vs H Q E => vs.length = n ∧ ∃ F s ds, Wd R F H s ∧ Reps R.K R.nm F ds vs ∧
  Post R F H (g ds s) (fun d _ F' H' => ∀ v, Rep R.K R.nm F' d v → NewEl H F' d v → Q v H') (fun x _ F' H' => ∀ cls dd, RepX R.K R.nm F' x cls dd → E cls dd H')
def spPE (K : PySem.W.Frag) (n : Nat) (g : List D → M Unit D) : Sp := fun vs H Q E => ∃ nm, spE (R0 K nm) n g vs H Q E
section
variable {P : Program} {w : World} {K : PySem.W.Frag} {mg : Str → Option Value} {base : Heap} {x qual : Str} {params : Arguments} {body : List Stmt} {scope : Scope} {kws : List (Str × V)} {f : Addr} {fd : FuncData} {N ps : List Str} {k : Nat} {md : Bool}
theorem fn_PE (F : FunD K x qual params body scope [] kws f fd) (S : FnScope N ps scope) {O' : List Nat} {g : Sl → Mo Unit} (hb : ∀ nm, BodyOk md P w K mg base N qual scope body k (R0 K nm) .e O' g) : FnOk P w K mg base (CXm md P w) (k + 1) f fd ps (spPE K ps.length (fnD N.length g)) :=
  fn_run F S (fun vs H Q E h => by obtain ⟨nm, hn, _⟩ := h; exact hn) fun vs H Q E h => by
    obtain ⟨nm, hn, G, s', ds, hw, rs, p⟩ := h
    exact ⟨R0 K nm, .e, O', g, rfl, hb nm, body_run hw rs (p.imp (fun d s1 F1 H1 w1 st1 q v rv => q v rv.1 rv.2) fun _ _ _ _ _ _ z => z)⟩
theorem not_PE {n : Nat} (vs : List V) (H : Hp) (Q : VK) (E : XK) : ¬ spPE K n gBot vs H Q E := fun ⟨_, _, _, _, _, _, _, p⟩ => p
theorem Has.ofPE {n : Nat} {g : List D → M Unit D} (h : Has md P w K mg base k x (spPE K n g)) : Has md P w K mg base k x (spP K n g) := h.imp fun vs H Q E ⟨nm, hn, F, s, ds, hw, rs, p⟩ => ⟨nm, hn, F, s, ds, hw, rs, p.imp (fun d s1 F1 H1 w1 st1 q v rv _ => q v rv) fun _ _ _ _ _ _ z => z⟩
end
def tDN (R : Reg) (W : WX) (O : List Nat) (f : Sl → M R.S D) : TE := fun σ H Q => ∃ F r s, Wd R F H s ∧ Pu R O F σ r ∧ Post R F H (f r s) (fun d _ F' H' => ∀ v, Rep R.K R.nm F' d v → NewEl H F' d v → Q v H') (fun x _ F' H' => ∀ cls dd, RepX R.K R.nm F' x cls dd → W cls dd σ H')
section
variable {X : Cx} {R : Reg} {W : WX} {O : List Nat} {e : Expr} {es : List Expr} {fs : Sl → M R.S (List D)} {pos : Pos} {x : Str} {p : Pos}
theorem dn_callPE {md : Bool} {k n : Nat} {g : List D → M Unit D} (c : Cxt X R W k) (tk : TkM md X W) (h : Has md X.prog X.w X.K X.mg X.base k x (spPE X.K n g)) (hg : Gl X x) (ha : PA X (e :: es) (tDA R W O fs)) (hdb : (x == ("__debug__" : Str)) = false := by decide)
    (he : starEach (e :: es) X.env = (false, eval e X.env) :: starEach es X.env := by rfl) (hpl : (backTo pos (starEach es X.env)).any (·.1) = false := by rfl) : PE X (.Call (.Name x p) (e :: es) [] pos) (tDN R W O (dCall n (fun ds => up (g ds)) fs)) := by
  obtain ⟨f, fd, ps, F, hm, hk, hb⟩ := h
  rw [← c.hK] at F
  refine pe_imp (pe_callS (sp := spPE R.K n g) (by rw [← c.hK]; exact F) c.hr hg hm hk hb (fun σ => passM tk σ) ha hdb he hpl) fun σ H Q h => ?_
  obtain ⟨F, ρ, s, w, pu, p⟩ := h
  refine ⟨F, ρ, s, w, pu, p.bnd.imp (fun ds s1 F1 H1 w1 st1 p1 vs rvs => ?_) fun _ _ _ _ _ _ z => z⟩
  split at p1
  · rename_i hn
    refine ⟨R.nm, by rw [rvs.length]; exact hn, F1, (), ds, wd_0 w1, rvs, post_up (k := fun d F' H' => ∀ v, Rep R.K R.nm F' d v → NewEl H1 F' d v → Q v H') (x := fun x F' H' => ∀ cls dd, RepX R.K R.nm F' x cls dd → W cls dd σ H') w1 ?_⟩
    exact p1.imp (fun d s2 F2 H2 w2 st2 q v rv hn2 => q v rv (hn2.base st1.th)) fun _ _ _ _ _ _ z => z
  · exact False.elim p1
end
/-! ### the zone -/
/-- two lists of the very same things -/
def Twin (F : Hp) (σ : L2.St) (i j : Nat) : Prop := ∃ (a b : Addr) (vs : List V), σ[i]? = some (some (.ref a)) ∧ σ[j]? = some (some (.ref b)) ∧ F a = some (.lst vs) ∧ F b = some (.lst vs) ∧ ∀ v ∈ vs, ∃ c : Addr, v = .ref c
structure ZS (X : Cx) (R : Reg) (pn nw : List Nat) (tw : List (Nat × Nat)) (F0 H0 Fb Hb F H : Hp) (σ : L2.St) (r : Sl) (s : R.S) : Prop where
  hfz : ∀ a o u, X.H_0 a = some (.frz o u) → Hb a ≠ none
  st0 : Stp R F0 H0 Fb Hb
  sb : Sub Fb Hb
  w : Wd R F H s
  st : Stp R Fb Hb F H
  pu : Pu R [] F σ r
  pin : ∀ i ∈ pn, ∀ d, r[i]? = some (some d) → ∃ v, σ[i]? = some (some v) ∧ Rep R.K R.nm Fb d v
  tws : ∀ q ∈ tw, q.1 ∈ pn ∧ q.2 ∈ pn ∧ Twin Fb σ q.1 q.2
  new : ∀ i ∈ nw, ∀ d, r[i]? = some (some d) → ∃ v, σ[i]? = some (some v) ∧ Rep R.K R.nm F d v ∧ NewEl Hb F d v
def PostZ (X : Cx) (R : Reg) (pn nw : List Nat) (tw : List (Nat × Nat)) (B : List Nat) (F0 H0 Fb Hb : Hp) (o : Option (Flw × R.S)) (E : Ends) (W : WX) : Prop := match o with
  | some (.next r, s) => ∀ σ F H, ZS X R pn nw tw F0 H0 Fb Hb F H σ r s → E.nx σ H
  | some (.rt d, s) => PostS R .f F0 H0 (some (.rt d, s)) E W B []
  | some (.brk r, s) => PostS R .f F0 H0 (some (.brk r, s)) E W B []
  | some (.cnt r, s) => PostS R .f F0 H0 (some (.cnt r, s)) E W B []
  | some (.thr x r, s) => PostS R .f F0 H0 (some (.thr x r, s)) E W B []
  | none => False
def tDZ (X : Cx) (R : Reg) (W : WX) (B pn nw : List Nat) (tw : List (Nat × Nat)) (f : Sl → Mo R.S) : TS := fun E σ H => ∃ F0 H0 Fb Hb F r s, ZS X R pn nw tw F0 H0 Fb Hb F H σ r s ∧ PostZ X R pn nw tw B F0 H0 Fb Hb (f r s) E W
section
variable {X : Cx} {R : Reg} {W : WX} {B pn nw : List Nat} {tw : List (Nat × Nat)} {F0 H0 Fb Hb F H F1 H1 : Hp} {σ : L2.St} {r : Sl} {s s1 : R.S} {E : Ends}
theorem ZS.step (z : ZS X R pn nw tw F0 H0 Fb Hb F H σ r s) (w1 : Wd R F1 H1 s1) (st1 : Stp R F H F1 H1) : ZS X R pn nw tw F0 H0 Fb Hb F1 H1 σ r s1 where
  hfz := z.hfz
  st0 := z.st0
  sb := z.sb
  w := w1
  st := z.st.trans st1
  pu := z.pu.mono st1.fs
  pin := z.pin
  tws := z.tws
  new := fun i hi d e => let ⟨v, h1, h2, h3⟩ := z.new i hi d e; ⟨v, h1, h2.mono st1.fs, h3.mono st1.fs h2⟩
theorem postZ_x {α : Type} {m : M R.S α} {k : α → Mo R.S} (z : ZS X R pn nw tw F0 H0 Fb Hb F H σ r s) (h : PostZ X R pn nw tw B F0 H0 Fb Hb (liftX m r k s) E W) :
    Post R F H (m s) (fun a s1 F1 H1 => ZS X R pn nw tw F0 H0 Fb Hb F1 H1 σ r s1 ∧ PostZ X R pn nw tw B F0 H0 Fb Hb (k a s1) E W) (fun x _ F' H' => ∀ cls dd, RepX R.K R.nm F' x cls dd → W cls dd σ H') := by
  unfold liftX at h
  cases e : m s with
  | ok a s1 => rw [e] at h; exact fun F1 H1 w1 st1 => ⟨z.step w1 st1, h⟩
  | exc x s1 =>
    rw [e] at h
    intro F1 H1 w1 st1 cls dd rx
    have z1 := z.step w1 st1
    exact h σ F1 H1 cls dd w1 (z.st0.trans z1.st) (slots_nil z1.pu) rx
  | bot => rw [e] at h; exact h.elim
theorem ZS.set {i : Nat} {d : D} {v : V} (z : ZS X R pn nw tw F0 H0 Fb Hb F H σ r s) (hp : ∀ j ∈ pn, j ≠ i) (rv : Rep R.K R.nm F d v) (hn : ∀ j ∈ nw, j = i → NewEl Hb F d v) : ZS X R pn nw tw F0 H0 Fb Hb F H (σ.set i (some v)) (r.set i (some d)) s where
  hfz := z.hfz
  st0 := z.st0
  sb := z.sb
  w := z.w
  st := z.st
  pu := set_some_pu z.pu rv
  pin := fun j hj d' e => by
    rw [List.getElem?_set_ne fun q => hp j hj q.symm] at e
    rw [List.getElem?_set_ne fun q => hp j hj q.symm]
    exact z.pin j hj d' e
  tws := fun q hq => by
    obtain ⟨h1, h2, a, b, vs, e1, e2, e3⟩ := z.tws q hq
    exact ⟨h1, h2, a, b, vs, by rw [List.getElem?_set_ne fun c => hp _ h1 c.symm]; exact e1, by rw [List.getElem?_set_ne fun c => hp _ h2 c.symm]; exact e2, e3⟩
  new := fun j hj d' e => by
    by_cases hji : j = i
    · subst hji
      have hl : j < r.length := by
        have := (List.getElem?_eq_some_iff.mp e).1
        rwa [List.length_set] at this
      rw [List.getElem?_set_self hl] at e
      cases e
      exact ⟨v, List.getElem?_set_self (by rw [← z.pu.len]; exact hl), rv, hn j hj rfl⟩
    · rw [List.getElem?_set_ne fun q => hji q.symm] at e
      rw [List.getElem?_set_ne fun q => hji q.symm]
      exact z.new j hj d' e
end
section
variable {X : Cx} {R : Reg} {W : WX} {B pn nw : List Nat} {tw : List (Nat × Nat)} {st : Stmt} {rest ss : List Stmt} {f g : Sl → Mo R.S} {pos : Pos} {e : Expr} {fe : Sl → M R.S D} {c : Sl → M R.S Bool} {i : Nat} {x : Str}
theorem dz_nil : PSs X [] (tDZ X R W B pn nw tw sNil) := pss_imp pss_nil fun E σ H h => by
  obtain ⟨F0, H0, Fb, Hb, F, r, s, z, p⟩ := h
  exact p σ F H z
theorem dz_cons (h1 : PS X st (tDZ X R W B pn nw tw f)) (h2 : PSs X rest (tDZ X R W B pn nw tw g)) : PSs X (st :: rest) (tDZ X R W B pn nw tw (sSeq f g)) := pss_imp (pss_cons h1 h2) fun E σ H h => by
  obtain ⟨F0, H0, Fb, Hb, F, r, s, z, p⟩ := h
  refine ⟨F0, H0, Fb, Hb, F, r, s, z, ?_⟩
  unfold sSeq at p
  cases e : f r s with
  | none => rw [e] at p; exact p
  | some q =>
    obtain ⟨fl, s'⟩ := q
    rw [e] at p
    cases fl with
    | next r' => exact fun σ' F' H' z' => ⟨F0, H0, Fb, Hb, F', r', s', z', p⟩
    | rt d => exact p
    | brk r' => exact p
    | cnt r' => exact p
    | thr x r' => exact p
theorem dz_one (h1 : PS X st (tDZ X R W B pn nw tw f)) : PSs X [st] (tDZ X R W B pn nw tw f) := pss_imp (pss_one h1) fun E σ H h => h
theorem dz_set (i : Nat) {pos' : Pos} (hN : X.N.Nodup) (hi : X.N[i]? = some x) (hx : Loc X.env.scope x) (he : PE X e (tD R W [] fe)) (h1 : ∀ j ∈ pn, j ≠ i) (h2 : ∀ j ∈ nw, j ≠ i) (hs : swapsWith e (some (.Name x pos')) pos.line X.env = pure false := by rfl) (hf : X.fn x = true ∨ X.env.scope.names.lookup x = some .local := by first | exact .inl rfl | exact .inr rfl | assumption) :
    PS X (.Assign [.Name x pos'] e pos) (tDZ X R W B pn nw tw (sAsg (tgN i) fe)) := ps_imp (ps_set hN hi hx he hs hf) fun E σ H h => by
  obtain ⟨F0, H0, Fb, Hb, F, r, s, z, p⟩ := h
  refine ⟨F, r, s, z.w, z.pu, (postZ_x z p).imp (fun d s1 F1 H1 w1 st1 q v rv => ?_) fun _ _ _ _ _ _ z => z⟩
  obtain ⟨z2, p2⟩ := q
  exact p2 _ F1 H1 (z2.set h1 rv fun j hj e => absurd e (h2 j hj))
/-- .. of what is new straight within -/
theorem dz_setN (i : Nat) {pos' : Pos} (hN : X.N.Nodup) (hi : X.N[i]? = some x) (hx : Loc X.env.scope x) (he : PE X e (tDN R W [] fe)) (h1 : ∀ j ∈ pn, j ≠ i) (hs : swapsWith e (some (.Name x pos')) pos.line X.env = pure false := by rfl) (hf : X.fn x = true ∨ X.env.scope.names.lookup x = some .local := by first | exact .inl rfl | exact .inr rfl | assumption) :
    PS X (.Assign [.Name x pos'] e pos) (tDZ X R W B pn nw tw (sAsg (tgN i) fe)) := ps_imp (ps_set hN hi hx he hs hf) fun E σ H h => by
  obtain ⟨F0, H0, Fb, Hb, F, r, s, z, p⟩ := h
  refine ⟨F, r, s, z.w, z.pu, (postZ_x z p).imp (fun d s1 F1 H1 w1 st1 q v rv hn => ?_) fun _ _ _ _ _ _ z => z⟩
  obtain ⟨z2, p2⟩ := q
  exact p2 _ F1 H1 (z2.set h1 rv fun j hj e => hn.base z.st.th)
theorem dz_ret (he : PE X e (tD R W [] fe)) : PS X (.Return (some e) pos) (tDZ X R W B pn nw tw (sRet fe)) := ps_imp (ps_ret he) fun E σ H h => by
  obtain ⟨F0, H0, Fb, Hb, F, r, s, z, p⟩ := h
  refine ⟨F, r, s, z.w, z.pu, (postZ_x z p).imp (fun d s1 F1 H1 w1 st1 q v rv => ?_) fun _ _ _ _ _ _ z => z⟩
  obtain ⟨z2, p2⟩ := q
  exact p2 v F1 H1 z2.w (z2.st0.trans z2.st) rv
theorem dz_if {t : Expr} {a b : List Stmt} (hc : PT X t (tDT R W [] c)) (ha : PSs X a (tDZ X R W B pn nw tw f)) (hb : PSs X b (tDZ X R W B pn nw tw g)) : PS X (.If t a b pos) (tDZ X R W B pn nw tw (sIf c f g)) := ps_imp (ps_if hc ha hb) fun E σ H h => by
  obtain ⟨F0, H0, Fb, Hb, F, r, s, z, p⟩ := h
  refine ⟨F, r, s, z.w, z.pu, (postZ_x z p).imp (fun k s1 F1 H1 w1 st1 q => ?_) fun _ _ _ _ _ _ z => z⟩
  obtain ⟨z2, p2⟩ := q
  cases k with
  | true => rw [if_pos rfl] at p2 ⊢; exact ⟨F0, H0, Fb, Hb, F1, r, s1, z2, p2⟩
  | false => rw [if_neg Bool.false_ne_true] at p2 ⊢; exact ⟨F0, H0, Fb, Hb, F1, r, s1, z2, p2⟩
/-- only the slots named stay -/
def keepA (pn : List Nat) : Nat → Sl → Sl
  | _, [] => []
  | n, d :: r => (if n ∈ pn then d else none) :: keepA pn (n + 1) r
def keepS (pn : List Nat) (r : Sl) : Sl := keepA pn 0 r
theorem keepA_len {pn : List Nat} : ∀ (n : Nat) (r : Sl), (keepA pn n r).length = r.length
  | _, [] => rfl
  | n, d :: r => by show (keepA pn (n + 1) r).length + 1 = r.length + 1; rw [keepA_len]
theorem keepA_at {pn : List Nat} {d : D} : ∀ {n : Nat} {r : Sl} {i : Nat}, (keepA pn n r)[i]? = some (some d) → n + i ∈ pn ∧ r[i]? = some (some d)
  | n, [], i, h => by simp [keepA] at h
  | n, q :: r, 0, h => by
    have h : some (if n ∈ pn then q else none) = some (some d) := h
    by_cases hi : n ∈ pn
    · rw [if_pos hi] at h; exact ⟨hi, h⟩
    · rw [if_neg hi] at h; cases h
  | n, q :: r, i + 1, h => by
    obtain ⟨h1, h2⟩ := keepA_at (n := n + 1) (r := r) (i := i) h
    exact ⟨by rw [show n + (i + 1) = n + 1 + i by omega]; exact h1, h2⟩
theorem keepS_at {pn : List Nat} {r : Sl} {i : Nat} {d : D} (h : (keepS pn r)[i]? = some (some d)) : i ∈ pn ∧ r[i]? = some (some d) := by
  have := keepA_at h
  rw [Nat.zero_add] at this
  exact this
theorem keepS_len {pn : List Nat} {r : Sl} : (keepS pn r).length = r.length := keepA_len 0 r
/-- behind the zone, to the def's end -/
def outK {S : Type} : Option (Flw × S) → Option (Flw × S)
  | some (.rt d, s) => some (.rt d, s)
  | some (.thr x r, s) => some (.thr x r, s)
  | _ => none
def sOut {S : Type} (pn : List Nat) (g : Sl → Mo S) : Sl → Mo S := fun r s => outK (g (keepS pn r) s)
theorem dz_out (h : PSs X ss (tDS R W .f B [] [] g)) : PSs X ss (tDZ X R W B pn nw tw (sOut pn g)) := pss_imp h fun E σ H h => by
  obtain ⟨F0, H0, Fb, Hb, F, r, s, z, p⟩ := h
  have pu : Pu R [] F σ (keepS pn r) := ⟨by rw [keepS_len]; exact z.pu.len, fun i d hi e => z.pu.at_ i d hi (keepS_at e).2⟩
  refine ⟨F0, H0, F, keepS pn r, s, z.w, z.st0.trans z.st, slots_nil pu, ?_⟩
  have p : PostZ X R pn nw tw B F0 H0 Fb Hb (outK (g (keepS pn r) s)) E W := p
  cases e : g (keepS pn r) s with
  | none => rw [e] at p; exact p
  | some q =>
    obtain ⟨fl, s'⟩ := q
    rw [e] at p
    cases fl with
    | next r' => exact p.elim
    | rt d => exact p
    | brk r' => exact p.elim
    | cnt r' => exact p.elim
    | thr x r' => exact p
/-- into the zone -/
def sZone {S : Type} (nw : List Nat) (f : Sl → Mo S) : Sl → Mo S := fun r s => if nw.all (fun i => (getS r i).isNone) = true then f r s else none
theorem dss_zone (pn nw : List Nat) (h : PSs X ss (tDZ X R W B pn nw [] f)) : PSs X ss (tDS R W .f B [] [] (sZone nw f)) := ⟨fun pins s σ H D I hq => h.run pins s σ H D I (by
  obtain ⟨F0, H0, F, r, s', w, st, sl, p⟩ := hq
  have p : PostS R .f F0 H0 (if nw.all (fun i => (getS r i).isNone) = true then f r s' else none) D W B [] := p
  by_cases hn : nw.all (fun i => (getS r i).isNone) = true
  · rw [if_pos hn] at p
    refine ⟨F0, H0, F, H, F, r, s', ⟨(fun a o u e => by rw [I.base.frzs a o u e]; exact fun z => nomatch z), st, w.sub, w, Stp.refl, sl.pu, fun i _ d e => sl.pu.at_ i d (by simp) e, (fun q hq => by cases hq), fun i hi d e => ?_⟩, ?_⟩
    · have := List.all_eq_true.mp hn i hi
      unfold getS at this
      rw [e] at this; cases this
    · cases e : f r s' with
      | none => rw [e] at p; exact p
      | some q =>
        obtain ⟨fl, s2⟩ := q
        rw [e] at p
        cases fl with
        | next r' => exact fun σ' F' H' z => p σ' F' H' z.w (z.st0.trans z.st) (slots_nil z.pu)
        | rt d => exact p
        | brk r' => exact p
        | cnt r' => exact p
        | thr x r' => exact p
  · rw [if_neg hn] at p; exact p.elim)⟩
end
end Nw
set_option Elab.async false
set_option linter.all false
set_option maxRecDepth 100000
set_option maxHeartbeats 4000000
/-! Part YY: what was told changes, late. -/
namespace Nw
open PySem PySem.Spec L2
/-! ### plain data, its size; one place changed -/
mutual
def pnD : D → Bool
  | .non => true
  | .bl _ => true
  | .int _ => true
  | .str _ => true
  | .row xs => pnL xs
  | .tup xs => pnL xs
  | .tab kvs => pnK kvs
  | _ => false
def pnL : List D → Bool
  | [] => true
  | d :: ds => pnD d && pnL ds
def pnK : List (Key × D) → Bool
  | [] => true
  | (_, d) :: ds => pnD d && pnK ds
end
mutual
def szD : D → Nat
  | .row xs => 1 + szL xs
  | .tup xs => 1 + szL xs
  | .tab kvs => 1 + szK kvs
  | _ => 0
def szL : List D → Nat
  | [] => 0
  | d :: ds => szD d + szL ds
def szK : List (Key × D) → Nat
  | [] => 0
  | (_, d) :: ds => szD d + szK ds
end
section
variable {K : PySem.W.Frag} {nm : Nat → Option Addr} {F : Hp}
mutual
theorem rep_sz : ∀ {d e : D} {v : V}, pnD d = true → pnD e = true → Rep K nm F d v → Rep K nm F e v → szD d = szD e
  | .non, e, v, hd, he, r, q => by
    rw [show v = V.non from r] at q
    cases e with
    | non => rfl
    | bl _ => cases q
    | int _ => cases q
    | str _ => cases q.1
    | row _ => obtain ⟨a, vs, e1, _⟩ := q; cases e1
    | tup _ => obtain ⟨a, vs, e1, _⟩ := q; cases e1
    | tab _ => obtain ⟨a, vs, e1, _⟩ := q; cases e1
    | _ => cases he
  | .bl b, e, v, hd, he, r, q => by
    rw [show v = V.bl b from r] at q
    cases e with
    | non => cases q
    | bl _ => rfl
    | int _ => cases q
    | str _ => cases q.1
    | row _ => obtain ⟨a, vs, e1, _⟩ := q; cases e1
    | tup _ => obtain ⟨a, vs, e1, _⟩ := q; cases e1
    | tab _ => obtain ⟨a, vs, e1, _⟩ := q; cases e1
    | _ => cases he
  | .int b, e, v, hd, he, r, q => by
    rw [show v = V.int b from r] at q
    cases e with
    | non => cases q
    | bl _ => cases q
    | int _ => rfl
    | str _ => cases q.1
    | row _ => obtain ⟨a, vs, e1, _⟩ := q; cases e1
    | tup _ => obtain ⟨a, vs, e1, _⟩ := q; cases e1
    | tab _ => obtain ⟨a, vs, e1, _⟩ := q; cases e1
    | _ => cases he
  | .str b, e, v, hd, he, r, q => by
    rw [r.1] at q
    cases e with
    | non => cases q
    | bl _ => cases q
    | int _ => cases q
    | str _ => rfl
    | row _ => obtain ⟨a, vs, e1, _⟩ := q; cases e1
    | tup _ => obtain ⟨a, vs, e1, _⟩ := q; cases e1
    | tab _ => obtain ⟨a, vs, e1, _⟩ := q; cases e1
    | _ => cases he
  | .row ds, e, v, hd, he, r, q => by
    obtain ⟨a, vs, rfl, f1, _, h1⟩ := r
    cases e with
    | non => cases q
    | bl _ => cases q
    | int _ => cases q
    | str _ => cases q.1
    | row es =>
      obtain ⟨b, ws, e1, f2, _, h2⟩ := q
      cases e1
      rw [f1] at f2
      cases f2
      show 1 + szL ds = 1 + szL es
      rw [reps_sz hd he h1 h2]
    | tup _ => obtain ⟨b, ws, e1, f2, _⟩ := q; cases e1; rw [f1] at f2; cases f2
    | tab _ => obtain ⟨b, ws, e1, f2, _⟩ := q; cases e1; rw [f1] at f2; cases f2
    | _ => cases he
  | .tup ds, e, v, hd, he, r, q => by
    obtain ⟨a, vs, rfl, f1, _, h1⟩ := r
    cases e with
    | non => cases q
    | bl _ => cases q
    | int _ => cases q
    | str _ => cases q.1
    | tup es =>
      obtain ⟨b, ws, e1, f2, _, h2⟩ := q
      cases e1
      rw [f1] at f2
      cases f2
      show 1 + szL ds = 1 + szL es
      rw [reps_sz hd he h1 h2]
    | row _ => obtain ⟨b, ws, e1, f2, _⟩ := q; cases e1; rw [f1] at f2; cases f2
    | tab _ => obtain ⟨b, ws, e1, f2, _⟩ := q; cases e1; rw [f1] at f2; cases f2
    | _ => cases he
  | .tab ds, e, v, hd, he, r, q => by
    obtain ⟨a, vs, rfl, f1, _, h1⟩ := r
    cases e with
    | non => cases q
    | bl _ => cases q
    | int _ => cases q
    | str _ => cases q.1
    | tab es =>
      obtain ⟨b, ws, e1, f2, _, h2⟩ := q
      cases e1
      rw [f1] at f2
      cases f2
      show 1 + szK ds = 1 + szK es
      rw [repsK_sz hd he h1 h2]
    | row _ => obtain ⟨b, ws, e1, f2, _⟩ := q; cases e1; rw [f1] at f2; cases f2
    | tup _ => obtain ⟨b, ws, e1, f2, _⟩ := q; cases e1; rw [f1] at f2; cases f2
    | _ => cases he
  | .kro _, e, v, hd, he, r, q => by cases hd
  | .exc _ _, e, v, hd, he, r, q => by cases hd
  | .obj _, e, v, hd, he, r, q => by cases hd
theorem reps_sz : ∀ {ds es : List D} {vs : List V}, pnL ds = true → pnL es = true → Reps K nm F ds vs → Reps K nm F es vs → szL ds = szL es
  | [], es, vs, hd, he, r, q => by
    rw [show vs = [] from r] at q
    cases es with
    | nil => rfl
    | cons e es => obtain ⟨_, _, e1, _⟩ := q; cases e1
  | d :: ds, es, vs, hd, he, r, q => by
    obtain ⟨v, ws, rfl, h1, h2⟩ := r
    cases es with
    | nil => cases (show v :: ws = [] from q)
    | cons e es =>
      obtain ⟨u, us, e1, h3, h4⟩ := q
      cases e1
      have hd : (pnD d && pnL ds) = true := hd
      have he : (pnD e && pnL es) = true := he
      rw [Bool.and_eq_true] at hd he
      show szD d + szL ds = szD e + szL es
      rw [rep_sz hd.1 he.1 h1 h3, reps_sz hd.2 he.2 h2 h4]
theorem repsK_sz : ∀ {ds es : List (Key × D)} {vs : List (Key × V)}, pnK ds = true → pnK es = true → RepsK K nm F ds vs → RepsK K nm F es vs → szK ds = szK es
  | [], es, vs, hd, he, r, q => by
    rw [show vs = [] from r] at q
    cases es with
    | nil => rfl
    | cons e es => obtain ⟨j, e⟩ := e; obtain ⟨_, _, e1, _⟩ := q; cases e1
  | (k, d) :: ds, es, vs, hd, he, r, q => by
    obtain ⟨v, ws, rfl, _, h1, h2⟩ := r
    cases es with
    | nil => cases (show (k, v) :: ws = [] from q)
    | cons e es =>
      obtain ⟨j, e⟩ := e
      obtain ⟨u, us, e1, _, h3, h4⟩ := q
      cases e1
      have hd : (pnD d && pnK ds) = true := hd
      have he : (pnD e && pnK es) = true := he
      rw [Bool.and_eq_true] at hd he
      show szD d + szK ds = szD e + szK es
      rw [rep_sz hd.1 he.1 h1 h3, repsK_sz hd.2 he.2 h2 h4]
end
variable {p : Addr} {o : HO}
mutual
theorem rep_upd : ∀ {d : D} {v : V}, pnD d = true → Rep K nm F d v → (∀ e, pnD e = true → szD e ≤ szD d → ¬ Rep K nm F e (.ref p)) → Rep K nm (upd F p o) d v
  | .non, v, hd, r, h => r
  | .bl _, v, hd, r, h => r
  | .int _, v, hd, r, h => r
  | .str _, v, hd, r, h => r
  | .row ds, v, hd, r, h => by
    have r0 := r
    obtain ⟨a, vs, rfl, f1, hz, h1⟩ := r
    have ne : a ≠ p := fun e => h (.row ds) hd (Nat.le_refl _) (by rw [← e]; exact r0)
    exact ⟨a, vs, rfl, by rw [upd_ne ne]; exact f1, hz, reps_upd hd h1 fun e he hs => h e he (by show szD e ≤ 1 + szL ds; omega)⟩
  | .tup ds, v, hd, r, h => by
    have r0 := r
    obtain ⟨a, vs, rfl, f1, hz, h1⟩ := r
    have ne : a ≠ p := fun e => h (.tup ds) hd (Nat.le_refl _) (by rw [← e]; exact r0)
    exact ⟨a, vs, rfl, by rw [upd_ne ne]; exact f1, hz, reps_upd hd h1 fun e he hs => h e he (by show szD e ≤ 1 + szL ds; omega)⟩
  | .tab ds, v, hd, r, h => by
    have r0 := r
    obtain ⟨a, vs, rfl, f1, hz, h1⟩ := r
    have ne : a ≠ p := fun e => h (.tab ds) hd (Nat.le_refl _) (by rw [← e]; exact r0)
    exact ⟨a, vs, rfl, by rw [upd_ne ne]; exact f1, hz, repsK_upd hd h1 fun e he hs => h e he (by show szD e ≤ 1 + szK ds; omega)⟩
  | .kro _, v, hd, r, h => by cases hd
  | .exc _ _, v, hd, r, h => by cases hd
  | .obj _, v, hd, r, h => by cases hd
theorem reps_upd : ∀ {ds : List D} {vs : List V}, pnL ds = true → Reps K nm F ds vs → (∀ e, pnD e = true → szD e ≤ szL ds → ¬ Rep K nm F e (.ref p)) → Reps K nm (upd F p o) ds vs
  | [], vs, hd, r, h => r
  | d :: ds, vs, hd, r, h => by
    obtain ⟨v, ws, rfl, h1, h2⟩ := r
    have hd : (pnD d && pnL ds) = true := hd
    rw [Bool.and_eq_true] at hd
    exact ⟨v, ws, rfl, rep_upd hd.1 h1 fun e he hs => h e he (by show szD e ≤ szD d + szL ds; omega), reps_upd hd.2 h2 fun e he hs => h e he (by show szD e ≤ szD d + szL ds; omega)⟩
theorem repsK_upd : ∀ {ds : List (Key × D)} {vs : List (Key × V)}, pnK ds = true → RepsK K nm F ds vs → (∀ e, pnD e = true → szD e ≤ szK ds → ¬ Rep K nm F e (.ref p)) → RepsK K nm (upd F p o) ds vs
  | [], vs, hd, r, h => r
  | (k, d) :: ds, vs, hd, r, h => by
    obtain ⟨v, ws, rfl, h0, h1, h2⟩ := r
    have hd : (pnD d && pnK ds) = true := hd
    rw [Bool.and_eq_true] at hd
    exact ⟨v, ws, rfl, h0, rep_upd hd.1 h1 fun e he hs => h e he (by show szD e ≤ szD d + szK ds; omega), repsK_upd hd.2 h2 fun e he hs => h e he (by show szD e ≤ szD d + szK ds; omega)⟩
end
theorem reps_of : ∀ {ds : List D} {vs : List V}, vs.length = ds.length → (∀ (i : Nat) (d : D), ds[i]? = some d → ∃ v, vs[i]? = some v ∧ Rep K nm F d v) → Reps K nm F ds vs
  | [], vs, hl, h => List.length_eq_zero_iff.mp hl
  | d :: ds, [], hl, h => by cases hl
  | d :: ds, v :: vs, hl, h => by
    obtain ⟨u, e, r⟩ := h 0 d rfl
    cases e
    exact ⟨v, vs, rfl, r, reps_of (by simpa using hl) fun i x e => h (i + 1) x e⟩
theorem szL_mem : ∀ {ds : List D} {i : Nat} {x : D}, ds[i]? = some x → szD x ≤ szL ds
  | d :: ds, 0, x, e => by cases e; show szD d ≤ szD d + szL ds; omega
  | d :: ds, i + 1, x, e => by
    have := szL_mem (ds := ds) (i := i) (x := x) e
    show szD x ≤ szD d + szL ds; omega
theorem pnL_cons {d : D} {ds : List D} (h : pnL (d :: ds) = true) : pnD d = true ∧ pnL ds = true := by
  have h : (pnD d && pnL ds) = true := h
  rw [Bool.and_eq_true] at h; exact h
theorem pnL_mem : ∀ {ds : List D} {i : Nat} {x : D}, pnL ds = true → ds[i]? = some x → pnD x = true
  | [], i, x, h, e => by simp at e
  | d :: ds, 0, x, h, e => by cases e; exact (pnL_cons h).1
  | d :: ds, i + 1, x, h, e => pnL_mem (pnL_cons h).2 e
end
/-! ### a row or tuple whose one part changes -/
def cds : D → Option (List D)
  | .tup ds => some ds
  | .row ds => some ds
  | _ => none
def cset : D → List D → D
  | .tup _, ds => .tup ds
  | .row _, ds => .row ds
  | d, _ => d
def lone (k : Nat) (ds : List D) : Bool := (List.range ds.length).all fun j => decide (j = k) || (match ds[j]? with | some x => (scal0 x).isSome | none => true)
theorem lone_at {k : Nat} {ds : List D} (h : lone k ds = true) {j : Nat} {x : D} (hj : j ≠ k) (e : ds[j]? = some x) : ∃ y, scal0 x = some y := by
  have hl : j < ds.length := (List.getElem?_eq_some_iff.mp e).1
  have := List.all_eq_true.mp h j (List.mem_range.mpr hl)
  rw [e, Bool.or_eq_true] at this
  rcases this with z | z
  · exact absurd (of_decide_eq_true z) hj
  · cases q : scal0 x with
    | none => simp only [q] at z; cases z
    | some y => exact ⟨y, rfl⟩
/-- the slot i holds a row or tuple, its part k one that may change, none other than itself an object -/
def lateAt (r : Sl) (i k : Nat) : Option D := (getS r i).bind fun c => (cds c).bind fun ds => if pnL ds = true ∧ lone k ds = true then ds[k]? else none
def lateS (pn : List Nat) (i k : Nat) (r : Sl) (x : D) : Sl := (keepS pn r).set i (((getS r i).bind fun c => (cds c).map fun ds => cset c (ds.set k x)))
section
variable {K : PySem.W.Frag} {nm : Nat → Option Addr} {F F' H0 : Hp} {c : D} {ds ds' : List D} {v : V} {a : Addr} {vs : List V}
def Cont (F : Hp) (a : Addr) (vs : List V) (c : D) (ds : List D) : Prop := (F a = some (.tup vs) ∧ c = .tup ds) ∨ (F a = some (.lst vs) ∧ c = .row ds)
theorem cont_of (rc : Rep K nm F c v) (ec : cds c = some ds) : ∃ a vs, v = .ref a ∧ Reps K nm F ds vs ∧ Cont F a vs c ds ∧ ds.length ≤ sizeLine := by
  cases c with
  | tup es => cases ec; obtain ⟨a, vs, e, f, z, r⟩ := rc; exact ⟨a, vs, e, r, .inl ⟨f, rfl⟩, z⟩
  | row es => cases ec; obtain ⟨a, vs, e, f, z, r⟩ := rc; exact ⟨a, vs, e, r, .inr ⟨f, rfl⟩, z⟩
  | _ => cases ec
theorem cont_mv (h : Cont F a vs c ds) (e : F' a = F a) : Cont F' a vs c ds := by
  rcases h with ⟨f, rfl⟩ | ⟨f, rfl⟩
  · exact .inl ⟨by rw [e]; exact f, rfl⟩
  · exact .inr ⟨by rw [e]; exact f, rfl⟩
theorem cont_to (h : Cont F a vs c ds) (hz : ds'.length ≤ sizeLine) (rr : Reps K nm F ds' vs) : Rep K nm F (cset c ds') (.ref a) := by
  rcases h with ⟨f, rfl⟩ | ⟨f, rfl⟩
  · exact ⟨a, vs, rfl, f, hz, rr⟩
  · exact ⟨a, vs, rfl, f, hz, rr⟩
theorem cont_new (h : Cont F a vs c ds) (hn : ∀ (j : Nat) (y : D), ds'[j]? = some y → isRT y = true → ∃ q : Addr, vs[j]? = some (V.ref q) ∧ H0 q = none) : NewEl H0 F (cset c ds') (.ref a) := by
  rcases h with ⟨f, rfl⟩ | ⟨f, rfl⟩
  · intro b ws e1 e2
    cases e1
    rw [f] at e2
    cases e2
    exact hn
  · intro b ws e1 e2
    cases e1
    rw [f] at e2
    cases e2
    exact hn
theorem cont_el (h : Cont F a vs c ds) (hn : NewEl H0 F c (.ref a)) : ∀ (j : Nat) (y : D), ds[j]? = some y → isRT y = true → ∃ q : Addr, vs[j]? = some (V.ref q) ∧ H0 q = none := by
  rcases h with ⟨f, rfl⟩ | ⟨f, rfl⟩
  · exact hn a vs rfl f
  · exact hn a vs rfl f
theorem cont_ix {Hx : Hp} (h : Cont Hx a vs c ds) {k : Nat} (e : vs[k]? = some v) {Q : VK} (q : Q v Hx) : rIx K (.ref a) (.int (k : Int)) Hx Q := by
  have hk : k < vs.length := (List.getElem?_eq_some_iff.mp e).1
  have ea : atI vs (k : Int) = some v := by
    unfold atI ixN
    rw [if_pos (Int.natCast_nonneg k), if_pos (by omega)]
    exact e
  rcases h with ⟨f, rfl⟩ | ⟨f, rfl⟩
  · exact .inr (.inl ⟨a, vs, _, v, rfl, rfl, .inl (.inl f), ea, q⟩)
  · exact .inl ⟨a, vs, _, v, rfl, rfl, SqL.of f, ea, q⟩
theorem cont_ne (h : Cont F a vs c ds) (hz : ds.length ≤ sizeLine) (rr : Reps K nm F ds vs) (hp : pnL ds = true) {k : Nat} {x : D} (e : ds[k]? = some x) {p : Addr} (rx : Rep K nm F x (.ref p)) : a ≠ p := by
  intro e1
  subst e1
  have s1 := szL_mem e
  have px := pnL_mem hp e
  rcases h with ⟨f, rfl⟩ | ⟨f, rfl⟩
  · have s2 := rep_sz (d := x) (e := .tup ds) px hp rx ⟨a, vs, rfl, f, hz, rr⟩
    have s2 : szD x = 1 + szL ds := s2
    omega
  · have s2 := rep_sz (d := x) (e := .row ds) px hp rx ⟨a, vs, rfl, f, hz, rr⟩
    have s2 : szD x = 1 + szL ds := s2
    omega
end
section
variable {X : Cx} {R : Reg} {pn nw : List Nat} {tw : List (Nat × Nat)} {F0 H0 Fb Hb F H F1 H1 : Hp} {σ : L2.St} {r : Sl} {s s1 : R.S} {i k : Nat} {x : D}
/-- what may change, and where -/
structure LA (R : Reg) (pn nw : List Nat) (Hb F : Hp) (σ : L2.St) (r : Sl) (i k : Nat) (x : D) (a p : Addr) (vs : List V) (c : D) (ds : List D) : Prop where
  at_ : σ[i]? = some (some (.ref a))
  eg : r[i]? = some (some c)
  ec : cds c = some ds
  pl : pnL ds = true
  lo : lone k ds = true
  ek : ds[k]? = some x
  hz : ds.length ≤ sizeLine
  ct : Cont F a vs c ds
  rr : Reps R.K R.nm F ds vs
  el : vs[k]? = some (.ref p)
  new : Hb p = none
  rx : Rep R.K R.nm F x (.ref p)
theorem late_la (z : ZS X R pn nw tw F0 H0 Fb Hb F H σ r s) (hi : i ∈ nw) (hl : lateAt r i k = some x) (hr : isRT x = true) : ∃ a p vs c ds, LA R pn nw Hb F σ r i k x a p vs c ds := by
  obtain ⟨c, eg, e2⟩ := bind_some hl
  obtain ⟨ds, ec, e3⟩ := bind_some e2
  by_cases hc : pnL ds = true ∧ lone k ds = true
  · rw [if_pos hc] at e3
    obtain ⟨v, h1, h2, h3⟩ := z.new i hi c (getS_some eg)
    obtain ⟨a, vs, rfl, rr, ct, hz⟩ := cont_of h2 ec
    obtain ⟨p, k1, k2⟩ := cont_el ct h3 k x e3 hr
    obtain ⟨u, k3, k4⟩ := rr.get e3
    rw [k1] at k3
    cases k3
    exact ⟨a, p, vs, c, ds, h1, getS_some eg, ec, hc.1, hc.2, e3, hz, ct, rr, k1, k2, k4⟩
  · rw [if_neg hc] at e3; cases e3
variable {a p : Addr} {vs : List V} {c : D} {ds : List D}
theorem LA.ne (la : LA R pn nw Hb F σ r i k x a p vs c ds) : a ≠ p := cont_ne la.ct la.hz la.rr la.pl la.ek la.rx
theorem LA.step (la : LA R pn nw Hb F σ r i k x a p vs c ds) (sm : Same F F1) : LA R pn nw Hb F1 σ r i k x a p vs c ds where
  at_ := la.at_
  eg := la.eg
  ec := la.ec
  pl := la.pl
  lo := la.lo
  ek := la.ek
  hz := la.hz
  ct := by
    rcases la.ct with ⟨f, e⟩ | ⟨f, e⟩
    · exact .inl ⟨sm _ _ f, e⟩
    · exact .inr ⟨sm _ _ f, e⟩
  rr := la.rr.mono sm
  el := la.el
  new := la.new
  rx := la.rx.mono sm
theorem LA.inH (la : LA R pn nw Hb F σ r i k x a p vs c ds) (sb : Sub F H) : Cont H a vs c ds := by
  rcases la.ct with ⟨f, e⟩ | ⟨f, e⟩
  · exact .inl ⟨sb.tup f, e⟩
  · exact .inr ⟨sb.lst f, e⟩
/-- .. it changes -/
theorem late_set {x' : D} {o : HO} (z : ZS X R pn nw tw F0 H0 Fb Hb F H σ r s) (la : LA R pn nw Hb F σ r i k x a p vs c ds) (hip : ∀ j ∈ pn, j ≠ i) (hr : isRT x = true) (rx : Rep R.K R.nm (upd F p o) x' (.ref p)) (hnw : ∀ j ∈ nw, j = i) :
    ZS X R pn nw tw F0 H0 Fb Hb (upd F p o) (upd H p o) σ (lateS pn i k r x') s := by
  have Fp : F p ≠ none := by
    have := la.rx
    cases x with
    | row _ => obtain ⟨b, ws, e1, f, _⟩ := this; cases e1; rw [f]; exact fun z => nomatch z
    | tab _ => obtain ⟨b, ws, e1, f, _⟩ := this; cases e1; rw [f]; exact fun z => nomatch z
    | _ => cases hr
  have nMu : ¬ R.Mu p := fun m => Fp (z.w.mu p m)
  have Fbp : Fb p = none := z.sb.free la.new
  have sm : Same Fb (upd F p o) := fun b u q => by rw [upd_ne (ne_of_none q Fbp)]; exact z.st.fs b u q
  have rs : lateS pn i k r x' = (keepS pn r).set i (some (cset c (ds.set k x'))) := by
    unfold lateS
    have : getS r i = some c := by unfold getS; rw [la.eg]; rfl
    rw [this]
    show (keepS pn r).set i ((cds c).map _) = _
    rw [la.ec]; rfl
  have hil : i < r.length := (List.getElem?_eq_some_iff.mp la.eg).1
  have ne := la.ne
  have ct : Cont (upd F p o) a vs c ds := cont_mv la.ct (upd_ne ne)
  have parts : Reps R.K R.nm (upd F p o) (ds.set k x') vs := by
    refine reps_of (by rw [List.length_set]; exact la.rr.length) fun j y e => ?_
    by_cases hj : j = k
    · subst hj
      rw [List.getElem?_set_self (List.getElem?_eq_some_iff.mp la.ek).1] at e
      cases e
      exact ⟨_, la.el, rx⟩
    · rw [List.getElem?_set_ne fun q => hj q.symm] at e
      obtain ⟨u, q1, q2⟩ := la.rr.get e
      obtain ⟨y', ey⟩ := lone_at la.lo hj e
      exact ⟨u, q1, (scal0_some ey).2 q2⟩
  have hz : (ds.set k x').length ≤ sizeLine := by rw [List.length_set]; exact la.hz
  have fresh : ∀ (j : Nat) (y : D), (ds.set k x')[j]? = some y → isRT y = true → ∃ q : Addr, vs[j]? = some (V.ref q) ∧ Hb q = none := fun j y e hy => by
    by_cases hj : j = k
    · subst hj; exact ⟨p, la.el, la.new⟩
    · rw [List.getElem?_set_ne fun q => hj q.symm] at e
      obtain ⟨y', ey⟩ := lone_at la.lo hj e
      cases y <;> first | (cases hy; done) | cases ey
  have rep := cont_to ct hz parts
  have new := cont_new (H0 := Hb) ct fresh
  refine ⟨z.hfz, z.st0, z.sb, ⟨fun b u e => ?_, fun b m => ?_, ?_⟩, ⟨sm, fun b u m e => ?_, fun b e => ?_, fun b e => ?_⟩, ⟨?_, fun j d _ e => ?_⟩, fun j hj d e => ?_, z.tws, fun j hj d e => ?_⟩
  · by_cases hb : b = p
    · subst hb; rw [upd_same] at e ⊢; exact .inl e
    · rw [upd_ne hb] at e ⊢; exact z.w.sub b u e
  · rw [upd_ne fun q => nMu (by rw [← q]; exact m)]; exact z.w.mu b m
  · exact R.loc s H _ z.w.si fun b m => upd_ne fun q => nMu (by rw [← q]; exact m)
  · have hb : b ≠ p := ne_of_none e la.new
    rw [upd_ne hb, upd_ne hb]; exact z.st.hs b u m e
  · by_cases hb : b = p
    · exact .inr (by rw [hb]; exact la.new)
    · rw [upd_ne hb] at e; exact z.st.nw b e
  · by_cases hb : b = p
    · rw [hb, upd_same] at e; cases e
    · rw [upd_ne hb] at e; exact z.st.th b e
  · rw [rs, List.length_set, keepS_len]; exact z.pu.len
  · rw [rs] at e
    by_cases hj : j = i
    · subst hj
      rw [List.getElem?_set_self (by rw [keepS_len]; exact hil)] at e
      cases e
      exact ⟨_, la.at_, rep⟩
    · rw [List.getElem?_set_ne fun q => hj q.symm] at e
      obtain ⟨e1, e2⟩ := keepS_at e
      obtain ⟨v, q1, q2⟩ := z.pin j e1 d e2
      exact ⟨v, q1, q2.mono sm⟩
  · rw [rs, List.getElem?_set_ne fun q => hip j hj q.symm] at e
    exact z.pin j hj d (keepS_at e).2
  · have hj := hnw j hj
    subst hj
    rw [rs, List.getElem?_set_self (by rw [keepS_len]; exact hil)] at e
    cases e
    exact ⟨_, la.at_, rep, new⟩
/-- parts of what changes stay -/
theorem LA.row (la : LA R pn nw Hb F σ r i k x a p vs c ds) {xs : List D} (ex : x = .row xs) (o : HO) : ∃ ws, F p = some (.lst ws) ∧ Reps R.K R.nm (upd F p o) xs ws := by
  subst ex
  obtain ⟨b, ws, e1, f, hz, rr⟩ := la.rx
  cases e1
  have px : pnL xs = true := pnL_mem la.pl la.ek
  refine ⟨ws, f, reps_upd px rr fun e he hs hr => ?_⟩
  have := rep_sz (d := e) (e := .row xs) he px hr ⟨p, ws, rfl, f, hz, rr⟩
  have : szD e = 1 + szL xs := this
  omega
theorem LA.tab (la : LA R pn nw Hb F σ r i k x a p vs c ds) {kvs : List (Key × D)} (ex : x = .tab kvs) (o : HO) : ∃ ws, F p = some (.dK ws) ∧ RepsK R.K R.nm (upd F p o) kvs ws := by
  subst ex
  obtain ⟨b, ws, e1, f, hz, rr⟩ := la.rx
  cases e1
  have px : pnK kvs = true := pnL_mem la.pl la.ek
  refine ⟨ws, f, repsK_upd px rr fun e he hs hr => ?_⟩
  have := rep_sz (d := e) (e := .tab kvs) he px hr ⟨p, ws, rfl, f, hz, rr⟩
  have : szD e = 1 + szK kvs := this
  omega
end
end Nw
set_option Elab.async false
set_option linter.all false
set_option maxRecDepth 100000
set_option maxHeartbeats 4000000
/-! Part ZZ: late changes as statements. -/
namespace Nw
open PySem PySem.Spec L2
def okY (y : D) : Bool := (scal0 y).isSome || (match y with | .row ys => ys.all fun z => (scal0 z).isSome | _ => false)
section
variable {S : Type}
def rowOf : D → Option (List D)
  | .row xs => some xs
  | _ => none
def sLateA (pn : List Nat) (i k : Nat) (f : Sl → M S D) : Sl → Mo S := fun r => optK ((lateAt r i k).bind rowOf) fun xs => liftX (f r) r fun y s => if xs.length < sizeLine ∧ okY y = true then some (.next (lateS pn i k r (.row (xs ++ [y]))), s) else none
def sLateP (pn : List Nat) (i k : Nat) (key : Str) (y : D) : Sl → Mo S := fun r s => match lateAt r i k with
  | some (.tab kvs) => if kvs.length < sizeLine then some (.next (lateS pn i k r (.tab (putD kvs (.inr key) y))), s) else none
  | _ => none
end
theorem reps_scal {K : PySem.W.Frag} {nm : Nat → Option Addr} {F G : Hp} : ∀ {ys : List D} {us : List V}, (ys.all fun z => (scal0 z).isSome) = true → Reps K nm F ys us → Reps K nm G ys us
  | [], us, h, r => r
  | y :: ys, us, h, r => by
    obtain ⟨v, ws, rfl, h1, h2⟩ := r
    rw [List.all_cons, Bool.and_eq_true] at h
    refine ⟨v, ws, rfl, ?_, reps_scal h.2 h2⟩
    cases e : scal0 y with
    | none => rw [e] at h; cases h.1
    | some z => exact (scal0_some e).2 h1
section
variable {X : Cx} {R : Reg} {W : WX} {B pn nw : List Nat} {tw : List (Nat × Nat)} {F0 H0 Fb Hb F H F1 H1 : Hp} {σ : L2.St} {r : Sl} {s s1 : R.S} {E : Ends} {i k n : Nat} {x : Str} {e : Expr} {fe : Sl → M R.S D} {pos npos kpos spos apos cpos pos' kp2 : Pos} {ki : Int}
theorem ZS.give {q : Addr} {o : HO} (z : ZS X R pn nw tw F0 H0 Fb Hb F H σ r s) (hq : Hb q = none) (hF : F q = none) (hH : H q = some o) (hm : ¬ R.Mu q) : ZS X R pn nw tw F0 H0 Fb Hb (upd F q o) H σ r s := by
  have sm : Same F (upd F q o) := fun b u e => by rw [upd_ne (ne_of_none e hF)]; exact e
  exact ⟨z.hfz, z.st0, z.sb, z.w.frz hH hm, z.st.frz hq hF _, z.pu.mono sm, z.pin, z.tws, fun j hj d e => let ⟨v, h1, h2, h3⟩ := z.new j hj d e; ⟨v, h1, h2.mono sm, h3.mono sm h2⟩⟩
/-- what is told, given out, whatever changes elsewhere -/
theorem give_y {y : D} {v : V} {p : Addr} (z : ZS X R pn nw tw F0 H0 Fb Hb F1 H1 σ r s) (hb : ∀ a, H a = none → Hb a = none) (hp : H p ≠ none) (fv : Fre R H F1 H1 y v) (oy : okY y = true) :
    ∃ F2, Same F1 F2 ∧ ZS X R pn nw tw F0 H0 Fb Hb F2 H1 σ r s ∧ ∀ o, Rep R.K R.nm (upd F2 p o) y v := by
  cases hs : scal0 y with
  | some y' =>
    refine ⟨F1, fun _ _ q => q, z, fun o => (scal0_some hs).2 (F := F1) ?_⟩
    cases y <;> first | exact fv | cases hs
  | none =>
    unfold okY at oy
    rw [hs] at oy
    cases y with
    | row ys =>
      have oy : (ys.all fun z => (scal0 z).isSome) = true := by simpa using oy
      obtain ⟨q, rfl, h0, hF, hm, us, e1, e2, e3⟩ := fv
      have hne : q ≠ p := fun c => hp (by rw [← c]; exact h0)
      refine ⟨upd F1 q (.lst us), fun b u c => by rw [upd_ne (ne_of_none c hF)]; exact c, z.give (hb q h0) hF e1 hm, fun o => ⟨q, us, rfl, by rw [upd_ne hne, upd_same], e2, reps_scal oy e3⟩⟩
    | _ => simp at oy
/-- x[k].append(e) -/
theorem dz_app (i k : Nat) {jj : Nat} (hki : ki = (k : Int)) (cx : Cxt X R W n) (hi : i ∈ nw) (hip : ∀ j ∈ pn, j ≠ i) (hnw : ∀ j ∈ nw, j = i) (hN : X.N[i]? = some x) (hv : Vis X.env.scope x) (he : PE X e (tDF R W [] fe)) (hd : (x == ("__debug__" : Str)) = false := by decide) (hcd : (x == ("__classdict__" : Str)) = false := by decide)
    (hsub : PlainIx (.Constant (.int ki) jj kpos) := by exact fun _ _ => rfl)
    (hbase : attributeBase (.Subscript (.Name x npos) (.Constant (.int ki) jj kpos) spos) "append" X.env (eval (.Subscript (.Name x npos) (.Constant (.int ki) jj kpos) spos) X.env) = eval (.Subscript (.Name x npos) (.Constant (.int ki) jj kpos) spos) X.env := by rfl)
    (hfew : ((backTo cpos (starEach [e] X.env)).all (fun x => !x.1) && (backToKw cpos (keywordEach [] X.env)).all (fun x => x.1.isSome)
      && decide (([e] : List Expr).length + ([] : List Keyword).length + (if ([] : List Keyword).isEmpty then 0 else 1) < 30)) = true := by rfl)
    (hline : (apos.endLine == cpos.line) = true := by rfl) (hst : starEach [e] X.env = (false, eval e X.env) :: starEach [] X.env := by rfl) (hplain : (backTo cpos (starEach [] X.env)).any (·.1) = false := by rfl) (hs : swapsWith (.Call (.Attribute (.Subscript (.Name x npos) (.Constant (.int ki) jj kpos) spos) "append" apos) [e] [] cpos) none pos.line X.env = pure false := by rfl) :
    PS X (.Expr (.Call (.Attribute (.Subscript (.Name x npos) (.Constant (.int ki) jj kpos) spos) "append" apos) [e] [] cpos) pos) (tDZ X R W B pn nw tw (sLateA pn i k fe)) :=
  ps_imp (ps_expr (pe_bm F.plainAttrs_list F.slot_list_append F.type_list_append mt_append (pe_ix ix_seq (pe_var hN hv hd hcd) pe_int hsub) (pa_cons he pa_nil hst) hbase hfew hline hst hplain) hs) fun E σ H h => by
  subst hki
  obtain ⟨F0, H0, Fb, Hb, F, r, s, z, p⟩ := h
  have p : PostZ X R pn nw tw B F0 H0 Fb Hb (optK ((lateAt r i k).bind rowOf) (fun xs => liftX (fe r) r fun y s => if xs.length < sizeLine ∧ okY y = true then some (.next (lateS pn i k r (.row (xs ++ [y]))), s) else none) s) E W := p
  cases el0 : (lateAt r i k).bind rowOf with
  | none => rw [el0] at p; exact p.elim
  | some xs =>
    rw [el0] at p
    obtain ⟨xx, el, er⟩ := bind_some el0
    have px := postZ_x z p
    cases xx with
    | row xs' =>
      cases er
      obtain ⟨a, p0, vs, c, ds, la⟩ := late_la z hi el rfl
      obtain ⟨ws, f0, _⟩ := la.row rfl (.lst [])
      have hp0 : H p0 = some (.lst ws) := z.w.sub.lst f0
      refine ⟨.ref a, la.at_, cont_ix (K := X.K) (la.inH z.w.sub) la.el ⟨.inl ⟨rfl, ws, SqL.of hp0⟩, F, r, s, z.w, z.pu, px.imp (fun y s1 F1 H1 w1 st1 q v fv => ?_) fun _ _ _ _ _ _ z => z⟩⟩
      obtain ⟨z1, p2⟩ := q
      have p2 : PostZ X R pn nw tw B F0 H0 Fb Hb (if xs.length < sizeLine ∧ okY y = true then some (.next (lateS pn i k r (.row (xs ++ [y]))), s1) else none) E W := p2
      by_cases hc : xs.length < sizeLine ∧ okY y = true
      · rw [if_pos hc] at p2
        obtain ⟨F2, sm2, z2, hy⟩ := give_y z1 z.st.th (by rw [hp0]; exact fun z => nomatch z) fv hc.2
        have la2 := (la.step st1.fs).step sm2
        have f1 : F1 p0 = some (.lst ws) := st1.fs _ _ f0
        have hlen : ws.length = xs.length := by
          obtain ⟨b, ws', e1, e2, _, e3⟩ := la.rx
          cases e1
          rw [f0] at e2
          cases e2
          exact e3.length
        refine ⟨p0, ws, v, rfl, rfl, w1.sub.lst f1, by rw [hlen]; exact hc.1, ?_⟩
        obtain ⟨ws2, f2, rs⟩ := la2.row rfl (.lst (ws ++ [v]))
        rw [sm2 _ _ f1] at f2
        cases f2
        have zz := late_set (x' := .row (xs ++ [y])) (o := .lst (ws ++ [v])) z2 la2 hip rfl ⟨p0, ws ++ [v], rfl, upd_same, by rw [List.length_append, List.length_singleton]; omega, rs.append ⟨v, [], rfl, hy _, rfl⟩⟩ hnw
        exact p2 _ _ _ zz
      · rw [if_neg hc] at p2; exact p2.elim
    | _ => cases er
/-- x[k][key] = e -/
theorem dz_put (i k : Nat) {jj j2 : Nat} {key : Str} {y : D} {ve : V} (hki : ki = (k : Int)) (cx : Cxt X R W n) (hi : i ∈ nw) (hip : ∀ j ∈ pn, j ≠ i) (hnw : ∀ j ∈ nw, j = i) (hN : X.N[i]? = some x) (hv : Vis X.env.scope x) (hk : key.length ≤ sizeLine) (he : PE X e (tC ve)) (hr : ∀ G, Rep R.K R.nm G y ve) (hd : (x == ("__debug__" : Str)) = false := by decide) (hcd : (x == ("__classdict__" : Str)) = false := by decide)
    (hsub : PlainIx (.Constant (.int ki) jj kpos) := by exact fun _ _ => rfl) (hs : swapsWith e (some (.Subscript (.Subscript (.Name x npos) (.Constant (.int ki) jj kpos) spos) (.Constant (.str key) j2 kp2) pos')) pos.line X.env = pure false := by rfl) :
    PS X (.Assign [.Subscript (.Subscript (.Name x npos) (.Constant (.int ki) jj kpos) spos) (.Constant (.str key) j2 kp2) pos'] e pos) (tDZ X R W B pn nw tw (sLateP pn i k key y)) := ⟨fun pins s σ H E I hq => by
  subst hki
  obtain ⟨F0, H0, Fb, Hb, F, r, st, z, p⟩ := hq
  have h := ps_dput (pos := pos) (pos' := pos') (X := X) (by have := cx.hr.units; omega) (pe_ix (pos := spos) ix_seq (pe_var (pos := npos) hN hv hd hcd) (pe_int (i := (k : Int)) (j := jj) (pos := kpos)) hsub) (pe_str (x := key) (j := j2) (pos := kp2)) he hs
  have p : PostZ X R pn nw tw B F0 H0 Fb Hb (match lateAt r i k with
    | some (.tab kvs) => if kvs.length < sizeLine then some (.next (lateS pn i k r (.tab (putD kvs (.inr key) y))), st) else none
    | _ => none) E W := p
  cases el : lateAt r i k with
  | none => rw [el] at p; exact p.elim
  | some xx =>
    rw [el] at p
    cases xx with
    | tab kvs =>
      have p : PostZ X R pn nw tw B F0 H0 Fb Hb (if kvs.length < sizeLine then some (.next (lateS pn i k r (.tab (putD kvs (.inr key) y))), st) else none) E W := p
      by_cases hc : kvs.length < sizeLine
      · rw [if_pos hc] at p
        obtain ⟨a, p0, vs, c, ds, la⟩ := late_la z hi el rfl
        obtain ⟨ws, f0, _⟩ := la.tab rfl (.lst [])
        have hlen : ws.length = kvs.length := by
          obtain ⟨b, ws', e1, e2, _, e3⟩ := la.rx
          cases e1
          rw [f0] at e2
          cases e2
          exact e3.length
        have ne := la.ne
        -- unlocked
        obtain ⟨H', I', hp', ho⟩ : ∃ H', Inv X pins σ H' s ∧ H' p0 = some (.dK ws) ∧ ∀ b, b ≠ p0 → H' b = H b := by
          rcases z.w.sub.dK f0 with q | ⟨ob, q⟩
          · exact ⟨H, I, q, fun _ _ => rfl⟩
          · exact ⟨upd H p0 (.dK ws), I.unlock q fun o' u' w => z.hfz p0 o' u' w la.new, upd_same, fun b hb => upd_ne hb⟩
        have hct : Cont H' a vs c ds := cont_mv (la.inH z.w.sub) (ho a ne)
        obtain ⟨ws2, f2, rs⟩ := la.tab rfl (.dK (putK ws (.inr key) ve))
        rw [f0] at f2
        cases f2
        have eqH : upd H' p0 (.dK (putK ws (.inr key) ve)) = upd H p0 (.dK (putK ws (.inr key) ve)) := funext fun b => by
          by_cases hb : b = p0
          · rw [hb, upd_same, upd_same]
          · rw [upd_ne hb, upd_ne hb, ho b hb]
        have zz := late_set (x' := .tab (putD kvs (.inr key) y)) (o := .dK (putK ws (.inr key) ve)) z la hip rfl ⟨p0, putK ws (.inr key) ve, rfl, upd_same, by have := putD_length kvs (.inr key) y; omega, rs.put (show kOk (.inr key) from hk) (hr _)⟩ hnw
        refine h.run pins s σ H' E I' ?_
        refine ⟨.ref a, la.at_, cont_ix (K := X.K) hct la.el ?_⟩
        refine ⟨p0, upd H' p0 (.dK (putK ws (.inr key) ve)), rfl, DPut.k (k := .inr key) hp' (by rw [hlen]; exact hc), ?_⟩
        rw [eqH]
        exact p _ _ _ zz
      · rw [if_neg hc] at p; exact p.elim
    | _ => exact p.elim⟩
end
/-! ### two lists of the very same things -/
def rTwin : R2 := fun x y H Q => ∃ a b vs, x = .ref a ∧ y = .ref b ∧ H a = some (.lst vs) ∧ H b = some (.lst vs) ∧ (∀ v ∈ vs, ∃ c : Addr, v = .ref c) ∧ Q (.bl false) H
theorem op_neT {X : Cx} (hu : X.A.units + 64 < cLine) : OpR X (compareOp .NotEq) rTwin := by
  intro pins s σ H x y v u Q I rx ry h
  obtain ⟨a, b, vs, rfl, rfl, ha, hb, hv, q⟩ := h
  cases (show v = Value.ref a from rx)
  cases (show u = Value.ref b from ry)
  obtain ⟨us, r1, p1, _⟩ := I.list (SqL.of ha)
  obtain ⟨ts, r2, p2, _⟩ := I.list (SqL.of hb)
  have hsz : us.toArray.size = ts.toArray.size := by rw [List.size_toArray, List.size_toArray, ← r1.length, ← r2.length]
  have same : ∀ {vs : List V} {us ts : List Value}, (∀ v ∈ vs, ∃ c : Addr, v = .ref c) → Vals vs us → Vals vs ts → ∀ j (h1 : j < us.length) (h2 : j < ts.length), SeqAt.EqAt X.A.in1 s us[j] ts[j] true := by
    intro vs
    induction vs with
    | nil => intro us ts _ r1 r2 j h1 h2; cases r1; exact absurd h1 (Nat.not_lt_zero j)
    | cons v vs ih =>
      intro us ts hv r1 r2 j h1 h2
      cases r1 with
      | cons a1 b1 =>
        cases r2 with
        | cons a2 b2 =>
          cases j with
          | zero =>
            obtain ⟨c, rfl⟩ := hv v List.mem_cons_self
            have e1 : _ = Value.ref c := a1
            have e2 : _ = Value.ref c := a2
            subst e1
            subst e2
            exact SeqAt.EqAt.same _
          | succ j => exact ih (fun w hw => hv w (List.mem_cons_of_mem _ hw)) b1 b2 j (Nat.lt_of_succ_lt_succ h1) (Nat.lt_of_succ_lt_succ h2)
  have k : SeqAt.RcNeAt X.A s (.ref a) (.ref b) (!((List.range us.toArray.size).all fun _ => true)) := SeqAt.RcNeAt.lists p1.isList p2.isList hsz (by omega) fun j h1 h2 => by simpa using same hv r1 r2 j (by simpa using h1) (by simpa using h2)
  rw [show ((List.range us.toArray.size).all fun _ => true) = true from List.all_eq_true.mpr fun _ _ => rfl] at k
  exact k X.prog X.w _ _ ⟨.bl false, H, I, rfl, q⟩
def tDTz (R : Reg) (W : WX) (tw : List (Nat × Nat)) (f : Sl → M R.S Bool) : TT := fun σ H Q => ∃ F Fb r s, Wd R F H s ∧ Pu R [] F σ r ∧ Same Fb F ∧ (∀ q ∈ tw, Twin Fb σ q.1 q.2) ∧ Post R F H (f r s) (fun b _ _ H' => Q b H') (fun x _ F' H' => ∀ cls dd, RepX R.K R.nm F' x cls dd → W cls dd σ H')
def isTupD : D → Bool
  | .tup _ => true
  | _ => false
/-- y = list(x), then the zone -/
def sZoneT {S : Type} (i j : Nat) (nw : List Nat) (f : Sl → Mo S) : Sl → Mo S := fun r s => match getS r i with
  | some (.row xs) => if xs.all isTupD = true ∧ nw.all (fun i => (getS r i).isNone) = true ∧ j ∉ nw then f (r.set j (some (.row xs))) s else none
  | _ => none
section
variable {X : Cx} {R : Reg} {W : WX} {B pn nw : List Nat} {tw : List (Nat × Nat)} {ss : List Stmt} {f g : Sl → Mo R.S} {c c' : Sl → M R.S Bool} {a b t : Expr} {rest : List Expr} {pos p1 p2 : Pos} {i j n : Nat} {x y : Str}
theorem dtz_of (h : PT X t (tDT R W [] c)) : PT X t (tDTz R W tw c) := pt_imp h fun σ H Q ⟨F, Fb, r, s, w, pu, _, _, p⟩ => ⟨F, r, s, w, pu, p⟩
theorem dwz_or1 (ha : PT X a (tDTz R W tw c)) : PW X (.BoolOp .Or [a] pos) (tDTz R W tw c) := pw_imp (pw_or1 ha) fun σ H Q h => h
theorem dwz_or (ha : PT X a (tDT R W [] c)) (hb : PW X (.BoolOp .Or (b :: rest) pos) (tDTz R W tw c')) : PW X (.BoolOp .Or (a :: b :: rest) pos) (tDTz R W tw (tOrD c c')) := pw_imp (pw_or (dtz_of (tw := tw) ha) hb) fun σ H Q h => by
  obtain ⟨F, Fb, r, s, w, pu, sm, ht, p⟩ := h
  refine ⟨F, Fb, r, s, w, pu, sm, ht, p.bnd.imp (fun k s1 F1 H1 w1 st1 p1 => ?_) fun _ _ _ _ _ _ z => z⟩
  cases k with
  | true =>
    have p1 : Post R F1 H1 (ret true s1) (fun b _ _ H' => Q b H') (fun x _ F' H' => ∀ cls dd, RepX R.K R.nm F' x cls dd → W cls dd σ H') := p1
    exact iteT (p1.ret w1)
  | false => exact iteF ⟨F1, Fb, r, s1, w1, pu.mono st1.fs, sm.trans st1.fs, ht, p1⟩
theorem dtz_ne {n1 n2 : Pos} (hq : (i, j) ∈ tw) (cx : Cxt X R W n) (h1 : X.N[i]? = some x) (v1 : Vis X.env.scope x) (h2 : X.N[j]? = some y) (v2 : Vis X.env.scope y) (hd1 : (x == ("__debug__" : Str)) = false := by decide) (hc1 : (x == ("__classdict__" : Str)) = false := by decide) (hd2 : (y == ("__debug__" : Str)) = false := by decide) (hc2 : (y == ("__classdict__" : Str)) = false := by decide)
    (hm : behindInMarks .NotEq (.Name y n2) = false := by rfl) : PT X (.Compare (.Name x n1) [.NotEq] [.Name y n2] pos) (tDTz R W tw (fun _ => ret false)) :=
  pt_imp (pt_cmpR (op_neT (by have := cx.hr.units; omega)) (pe_var h1 v1 hd1 hc1) (pe_var h2 v2 hd2 hc2) hm) fun σ H Q h => by
    obtain ⟨F, Fb, r, s, w, pu, sm, ht, p⟩ := h
    obtain ⟨a, b, vs, e1, e2, f1, f2, hv⟩ := ht _ hq
    exact ⟨_, e1, _, e2, a, b, vs, rfl, rfl, w.sub.lst (sm _ _ f1), w.sub.lst (sm _ _ f2), hv, false, rfl, p F H w Stp.refl⟩
theorem dz_ifT {sa sb : List Stmt} (hc : PT X t (tDTz R W tw c)) (ha : PSs X sa (tDZ X R W B pn nw tw f)) (hb : PSs X sb (tDZ X R W B pn nw tw g)) : PS X (.If t sa sb pos) (tDZ X R W B pn nw tw (sIf c f g)) := ps_imp (ps_if hc ha hb) fun E σ H h => by
  obtain ⟨F0, H0, Fb, Hb, F, r, s, z, p⟩ := h
  refine ⟨F, Fb, r, s, z.w, z.pu, z.st.fs, fun q hq => (z.tws q hq).2.2, (postZ_x z p).imp (fun k s1 F1 H1 w1 st1 q => ?_) fun _ _ _ _ _ _ z => z⟩
  obtain ⟨z2, p2⟩ := q
  cases k with
  | true => rw [if_pos rfl] at p2 ⊢; exact ⟨F0, H0, Fb, Hb, F1, r, s1, z2, p2⟩
  | false => rw [if_neg Bool.false_ne_true] at p2 ⊢; exact ⟨F0, H0, Fb, Hb, F1, r, s1, z2, p2⟩
theorem dss_zoneT (pn nw : List Nat) (i j : Nat) {lp xp cp pos' : Pos} (cx : Cxt X R W n) (hij : i ≠ j) (hip : i ∈ pn) (hjp : j ∈ pn) (hN : X.N[i]? = some x) (hv : Vis X.env.scope x) (hNj : X.N[j]? = some y) (hy : Loc X.env.scope y) (hg : Gl X "list") (hm : X.mg "list" = none) (h : PSs X ss (tDZ X R W B pn nw [(i, j)] f)) (hd : (x == ("__debug__" : Str)) = false := by decide) (hcd : (x == ("__classdict__" : Str)) = false := by decide)
    (he : starEach [.Name x xp] X.env = (false, eval (.Name x xp) X.env) :: starEach [] X.env := by rfl) (hpl : (backTo cp (starEach [] X.env)).any (·.1) = false := by rfl) (hs : swapsWith (.Call (.Name "list" lp) [.Name x xp] [] cp) (some (.Name y pos')) pos.line X.env = pure false := by rfl) (hf : X.fn y = true ∨ X.env.scope.names.lookup y = some .local := by first | exact .inl rfl | exact .inr rfl | assumption) :
    PSs X (.Assign [.Name y pos'] (.Call (.Name "list" lp) [.Name x xp] [] cp) pos :: ss) (tDS R W .f B [] [] (sZoneT i j nw f)) := by
  have h1 := ps_set (pos := pos) (pos' := pos') (X := X) cx.nd hNj hy (pe_callTy (pos := cp) (p := lp) call_list_of hg hm (by decide +kernel) (pa_cons (pe_var (pos := xp) hN hv hd hcd) pa_nil he) (by decide) (by decide) he hpl) hs hf
  have h2 := pss_cons h1 h
  refine ⟨fun pins s σ H D I hq => h2.run pins s σ H D I ?_⟩
  obtain ⟨F0, H0, F, r, s', w, st, sl, p⟩ := hq
  have p : PostS R .f F0 H0 (match getS r i with | some (.row xs) => if xs.all isTupD = true ∧ nw.all (fun i => (getS r i).isNone) = true ∧ j ∉ nw then f (r.set j (some (.row xs))) s' else none | _ => none) D W B [] := p
  cases eg : getS r i with
  | none => rw [eg] at p; exact p.elim
  | some d =>
    rw [eg] at p
    cases d with
    | row xs =>
      have p : PostS R .f F0 H0 (if xs.all isTupD = true ∧ nw.all (fun i => (getS r i).isNone) = true ∧ j ∉ nw then f (r.set j (some (.row xs))) s' else none) D W B [] := p
      by_cases hn : xs.all isTupD = true ∧ nw.all (fun i => (getS r i).isNone) = true ∧ j ∉ nw
      · rw [if_pos hn] at p
        obtain ⟨v, e1, rv⟩ := sl.pu.at_ i _ (by simp) (getS_some eg)
        have rv0 := rv
        obtain ⟨a, vs, rfl, fa, hz, rr⟩ := rv
        have refs : ∀ v ∈ vs, ∃ c : Addr, v = .ref c := fun v hvm => by
          obtain ⟨k, hk⟩ := List.getElem?_of_mem hvm
          obtain ⟨d, hd1, hd2⟩ := rr.get' hk
          have := List.all_eq_true.mp hn.1 d (List.mem_of_getElem? hd1)
          cases d with
          | tup ds => obtain ⟨c, _, e, _⟩ := hd2; exact ⟨c, e⟩
          | _ => cases this
        refine ⟨.ref a, e1, a, vs, rfl, .inl (SqL.of (w.sub.lst fa)), fun q hq => ?_⟩
        have hF : F q = none := w.free hq
        have w2 : Wd R (upd F q (.lst vs)) (upd H q (.lst vs)) s' := w.new _ hq
        have st2 : Stp R F H (upd F q (.lst vs)) (upd H q (.lst vs)) := Stp.new _ hq hF
        have ne : a ≠ q := fun c => by rw [c, hF] at fa; cases fa
        have rl : Rep R.K R.nm (upd F q (.lst vs)) (.row xs) (.ref q) := ⟨q, vs, rfl, upd_same, hz, rr.mono st2.fs⟩
        have pu2 := set_some_pu (i := j) (sl.pu.mono st2.fs) rl
        have hjl : j < σ.length ∨ ¬ j < σ.length := Nat.lt_or_ge j σ.length |>.imp id Nat.not_lt.mpr
        refine ⟨F0, H0, upd F q (.lst vs), upd H q (.lst vs), upd F q (.lst vs), r.set j (some (.row xs)), s', ⟨fun b o u e => ?_, st.trans st2, w2.sub, w2, Stp.refl, pu2, fun k _ d e => pu2.at_ k d (by simp) e, fun q2 hq2 => ?_, fun k hk d e => ?_⟩, ?_⟩
        · have hb : H b ≠ none := by rw [I.base.frzs b o u e]; exact fun z => nomatch z
          by_cases hbq : b = q
          · rw [hbq] at hb; exact absurd hq hb
          · rw [upd_ne hbq]; exact hb
        · rw [List.mem_singleton.mp hq2]
          refine ⟨hip, hjp, a, q, vs, by rw [List.getElem?_set_ne fun c => hij c.symm]; exact e1, ?_, by rw [upd_ne ne]; exact fa, upd_same, refs⟩
          exact List.getElem?_set_self (by
            have := (List.getElem?_eq_some_iff.mp hNj).1
            exact Nat.lt_of_lt_of_le this (by rw [I.len]; exact Nat.le_refl _))
        · have hkj : j ≠ k := fun c => hn.2.2 (by rw [c]; exact hk)
          rw [List.getElem?_set_ne hkj] at e
          have := List.all_eq_true.mp hn.2.1 k hk
          unfold getS at this
          rw [e] at this; cases this
        · cases e : f (r.set j (some (.row xs))) s' with
          | none => rw [e] at p; exact p
          | some q =>
            obtain ⟨fl, s2⟩ := q
            rw [e] at p
            cases fl with
            | next r' => exact fun σ' F' H' z => p σ' F' H' z.w (z.st0.trans z.st) (slots_nil z.pu)
            | rt d => exact p
            | brk r' => exact p
            | cnt r' => exact p
            | thr x r' => exact p
      · rw [if_neg hn] at p; exact p.elim
    | _ => exact p.elim
end
end Nw
set_option Elab.async false
set_option linter.all false
set_option maxRecDepth 100000
set_option maxHeartbeats 4000000
/-! Part AB: rows of things whose rows and tables straight within them are new. -/
namespace Nw
open PySem PySem.Spec L2
section
variable {K : PySem.W.Frag} {nm : Nat → Option Addr} {H0 H1 F F' : Hp} {ds es : List D} {vs ws : List V} {d : D} {v : V}
theorem NewEls.mono (sm : Same F F') (r : Reps K nm F ds vs) (h : NewEls H0 F ds vs) : NewEls H0 F' ds vs := fun i d v e1 e2 => by
  obtain ⟨u, e3, ru⟩ := r.get e1
  rw [e2] at e3
  cases e3
  exact (h i d v e1 e2).mono sm ru
theorem NewEls.base (rb : ∀ a, H1 a = none → H0 a = none) (h : NewEls H1 F ds vs) : NewEls H0 F ds vs := fun i d v e1 e2 => (h i d v e1 e2).base rb
theorem NewEls.append (r : vs.length = ds.length) (h1 : NewEls H0 F ds vs) (h2 : NewEls H0 F es ws) : NewEls H0 F (ds ++ es) (vs ++ ws) := fun i d v e1 e2 => by
  by_cases hi : i < ds.length
  · rw [List.getElem?_append_left hi] at e1
    rw [List.getElem?_append_left (by omega)] at e2
    exact h1 i d v e1 e2
  · rw [List.getElem?_append_right (by omega)] at e1 e2
    rw [r] at e2
    exact h2 _ d v e1 e2
theorem NewEls.one (h : NewEl H0 F d v) : NewEls H0 F [d] [v] := fun i d' v' e1 e2 => by
  match i, e1, e2 with
  | 0, e1, e2 => cases e1; cases e2; exact h
theorem NewDs.mono (sm : Same F F') (r : Rep K nm F d v) (h : NewDs H0 F d v) : NewDs H0 F' d v := by
  cases d with
  | row ds =>
    obtain ⟨a, vs, e1, e2, _, rr⟩ := r
    intro b ws e3 e4
    rw [e1] at e3
    cases e3
    rw [sm _ _ e2] at e4
    cases e4
    exact (h a vs e1 e2).mono sm rr
  | _ => exact h
end
def gD : D → Option D
  | .row ds => if ds.all (fun x => (elD x).isSome) = true then some (.row ds) else none
  | d => some d
theorem gD_some {d d' : D} (h : gD d = some d') : d' = d ∧ ∀ {H0 F : Hp} {v : V}, NewDs H0 F d v := by
  cases d with
  | row ds =>
    by_cases c : ds.all (fun x => (elD x).isSome) = true
    · have h : (if ds.all (fun x => (elD x).isSome) = true then some (D.row ds) else none) = some d' := h
      rw [if_pos c] at h; cases h
      refine ⟨rfl, fun a vs _ _ i x u e1 _ => ?_⟩
      have q := List.all_eq_true.mp c x (List.mem_of_getElem? e1)
      cases ex : elD x with
      | none => simp only [ex] at q; cases q
      | some y => exact (elD_some ex).2
    · have h : (if ds.all (fun x => (elD x).isSome) = true then some (D.row ds) else none) = some d' := h
      rw [if_neg c] at h; cases h
  | _ => cases h; exact ⟨rfl, trivial⟩
section
variable {S : Type}
def dL1 (f : Sl → M S D) : Sl → M S D := fun r => bnd (f r) fun d => ret (.row [d])
def dT3 (f g h : Sl → M S D) : Sl → M S D := fun r => bnd (f r) fun x => bnd (g r) fun y => bnd (h r) fun z => lift (if isRT x = true ∨ isRT y = true then none else some (.tup [x, y, z]))
end
def tDG (R : Reg) (W : WX) (O : List Nat) (f : Sl → M R.S D) : TE := fun σ H Q => ∃ F r s, Wd R F H s ∧ Pu R O F σ r ∧ Post R F H (f r s) (fun d _ F' H' => ∀ v, Rep R.K R.nm F' d v → NewDs H F' d v → Q v H') (fun x _ F' H' => ∀ cls dd, RepX R.K R.nm F' x cls dd → W cls dd σ H')
def tDP (R : Reg) (W : WX) (O : List Nat) (f : Sl → M R.S D) : TE := fun σ H Q => ∃ F r s, Wd R F H s ∧ Pu R O F σ r ∧ Post R F H (f r s) (fun d _ F' H' => ∀ v, Rep R.K R.nm F' d v → (isRT d = true → ∃ q : Addr, v = .ref q ∧ H q = none) → Q v H') (fun x _ F' H' => ∀ cls dd, RepX R.K R.nm F' x cls dd → W cls dd σ H')
section
variable {X : Cx} {R : Reg} {W : WX} {O O' B : List Nat} {a b e c : Expr} {es : List Expr} {f g h : Sl → M R.S D} {t : Sl → M R.S Bool} {fs : Sl → M R.S (List D)} {pos npos : Pos} {n i : Nat} {x : Str}
theorem dg_sc (h : PE X e (tD R W O f)) : PE X e (tDG R W O (dUn gD f)) := pe_imp h fun σ H Q h => by
  obtain ⟨F, r, s, w, pu, p⟩ := h
  refine ⟨F, r, s, w, pu, p.bnd.imp (fun d s1 F1 H1 w1 st1 p1 v rv => ?_) fun _ _ _ _ _ _ z => z⟩
  obtain ⟨d', ed, k⟩ := p1.lift
  obtain ⟨rfl, hn⟩ := gD_some ed
  exact k F1 H1 w1 Stp.refl v rv hn
theorem dn_el (h : PE X e (tD R W O f)) : PE X e (tDN R W O (dUn elD f)) := pe_imp h fun σ H Q h => by
  obtain ⟨F, r, s, w, pu, p⟩ := h
  refine ⟨F, r, s, w, pu, p.bnd.imp (fun d s1 F1 H1 w1 st1 p1 v rv => ?_) fun _ _ _ _ _ _ z => z⟩
  obtain ⟨d', ed, k⟩ := p1.lift
  obtain ⟨rfl, hn⟩ := elD_some ed
  exact k F1 H1 w1 Stp.refl v rv hn
theorem dp_give (h : PE X e (tDF R W O f)) : PE X e (tDP R W O f) := pe_imp h fun σ H Q h => by
  obtain ⟨F, r, s, w, pu, p⟩ := h
  refine ⟨F, r, s, w, pu, ?_⟩
  cases ef : f r s with
  | ok d s' =>
    rw [ef] at p
    intro F' H' w' st' v fv
    obtain ⟨G, wG, stG, rG⟩ := fv.give w' st'
    exact p G H' wG stG v rG fun hr => by
      obtain ⟨q, e, ow⟩ := fv.own hr
      exact ⟨q, e, ow.1⟩
  | exc x s' => rw [ef] at p; exact p
  | bot => rw [ef] at p; exact p
theorem dn_tup3 {x1 : Nat} (ha : PE X a (tD R W O f)) (hb : PE X b (tD R W O g)) (hc : PE X c (tDF R W O h))
    (h1 : starEach [a, b, c] X.env = (false, eval a X.env) :: starEach [b, c] X.env := by rfl) (h2 : starEach [b, c] X.env = (false, eval b X.env) :: starEach [c] X.env := by rfl) (h3 : starEach [c] X.env = (false, eval c X.env) :: starEach [] X.env := by rfl) :
    PE X (.Tuple [a, b, c] x1 pos) (tDN R W O (dT3 f g h)) := pe_imp (pe_tup (pa_cons ha (pa_cons hb (pa_cons (dp_give hc) pa_nil h3) h2) h1)) fun σ H Q hh => by
  obtain ⟨F, r, s, w, pu, p⟩ := hh
  refine ⟨F, r, s, w, pu, p.bnd.imp (fun x s1 F1 H1 w1 st1 p1 va ra => ?_) fun _ _ _ _ _ _ z => z⟩
  refine ⟨F1, r, s1, w1, pu.mono st1.fs, p1.bnd.imp (fun y s2 F2 H2 w2 st2 p2 vb rb => ?_) fun _ _ _ _ _ _ z => z⟩
  refine ⟨F2, r, s2, w2, (pu.mono st1.fs).mono st2.fs, p2.bnd.imp (fun z s3 F3 H3 w3 st3 p3 vc rc hz => ?_) fun _ _ _ _ _ _ z => z⟩
  obtain ⟨d', ed, k⟩ := p3.lift
  by_cases hxy : isRT x = true ∨ isRT y = true
  · rw [if_pos hxy] at ed; cases ed
  · rw [if_neg hxy] at ed
    cases ed
    refine ⟨(show 3 ≤ sizeLine by decide), fun q hq => ?_⟩
    have hF : F3 q = none := w3.free hq
    have st4 : Stp R F3 H3 (upd F3 q (.tup [va, vb, vc])) (upd H3 q (.tup [va, vb, vc])) := Stp.new _ hq hF
    refine k _ _ (w3.new _ hq) st4 (.ref q) ⟨q, [va, vb, vc], rfl, upd_same, (show 3 ≤ sizeLine by decide), va, _, rfl, ((ra.mono st2.fs).mono st3.fs).mono st4.fs, vb, _, rfl, (rb.mono st3.fs).mono st4.fs, vc, _, rfl, rc.mono st4.fs, rfl⟩ ?_
    intro a2 vs e1 e2 j u eu hu
    cases e1
    rw [upd_same] at e2
    cases e2
    match j, eu with
    | 0, eu => cases eu; exact absurd (.inl hu) hxy
    | 1, eu => cases eu; exact absurd (.inr hu) hxy
    | 2, eu =>
      cases eu
      obtain ⟨p0, e3, e4⟩ := hz hu
      exact ⟨p0, by rw [e3]; rfl, st1.th _ (st2.th _ e4)⟩
theorem dg_one (he : PE X e (tDN R W O f)) (h2 : starEach [e] X.env = (false, eval e X.env) :: starEach [] X.env := by rfl) : PE X (.List [e] pos) (tDG R W O (dL1 f)) := pe_imp (pe_lst (pa_cons he pa_nil h2)) fun σ H Q hh => by
  obtain ⟨F, r, s, w, pu, p⟩ := hh
  refine ⟨F, r, s, w, pu, p.bnd.imp (fun d s1 F1 H1 w1 st1 p1 v rv hn => ?_) fun _ _ _ _ _ _ z => z⟩
  refine ⟨(show 1 ≤ sizeLine by decide), fun q hq => ?_⟩
  have hF : F1 q = none := w1.free hq
  have st2 : Stp R F1 H1 (upd F1 q (.lst [v])) (upd H1 q (.lst [v])) := Stp.new _ hq hF
  refine p1 _ _ (w1.new _ hq) st2 (.ref q) ⟨q, [v], rfl, upd_same, (show 1 ≤ sizeLine by decide), v, _, rfl, rv.mono st2.fs, rfl⟩ ?_
  intro a2 vs e1 e2
  cases e1
  rw [upd_same] at e2
  cases e2
  exact NewEls.one (hn.mono st2.fs rv)
theorem dg_if {t' : Expr} (hc : PT X t' (tDT R W O t)) (ha : PE X a (tDG R W O f)) (hb : PE X b (tDG R W O g)) : PE X (.IfExp t' a b pos) (tDG R W O (dIf t f g)) := pe_imp (pe_ifExp hc ha hb) fun σ H Q h => by
  obtain ⟨F, ρ, s, w, pu, p⟩ := h
  refine ⟨F, ρ, s, w, pu, p.bnd.imp (fun k s1 F1 H1 w1 st1 p1 => ?_) fun _ _ _ _ _ _ z => z⟩
  cases k with
  | true => rw [if_pos rfl] at p1 ⊢; exact ⟨F1, ρ, s1, w1, pu.mono st1.fs, p1.imp (fun _ _ _ _ _ _ q v rv hn => q v rv (hn.base st1.th)) fun _ _ _ _ _ _ z => z⟩
  | false => rw [if_neg Bool.false_ne_true] at p1 ⊢; exact ⟨F1, ρ, s1, w1, pu.mono st1.fs, p1.imp (fun _ _ _ _ _ _ q v rv hn => q v rv (hn.base st1.th)) fun _ _ _ _ _ _ z => z⟩
theorem ds_retG (he : PE X e (tDG R W O f)) : PS X (.Return (some e) pos) (tDS R W .g B O O' (sRet f)) := ps_imp (ps_ret he) fun E σ H h => by
  obtain ⟨F0, H0, F, r, s, w, st, sl, p⟩ := h
  refine ⟨F, r, s, w, sl.pu, (postS_x w st sl p).imp (fun d s1 F1 H1 w1 st1 q v rv hn => ?_) fun _ _ _ _ _ _ z => z⟩
  obtain ⟨w2, st2, sl2, p2⟩ := q
  exact p2 v F1 H1 w2 st2 ⟨rv, hn.base st.th⟩
end
/-- what a def tells that tells such a row -/
def spG (R : Reg) (n : Nat) (g : List D → M R.S D) : Sp := fun vs H Q E => vs.length = n ∧ ∃ F s ds, Wd R F H s ∧ Reps R.K R.nm F ds vs ∧
  Post R F H (g ds s) (fun d _ F' H' => ∀ v, Rep R.K R.nm F' d v → NewDs H F' d v → Q v H') (fun x _ F' H' => ∀ cls dd, RepX R.K R.nm F' x cls dd → E cls dd H')
def spPG (K : PySem.W.Frag) (n : Nat) (g : List D → M Unit D) : Sp := fun vs H Q E => ∃ nm, spG (R0 K nm) n g vs H Q E
section
variable {P : Program} {w : World} {K : PySem.W.Frag} {mg : Str → Option Value} {base : Heap} {x qual : Str} {params : Arguments} {body : List Stmt} {scope : Scope} {kws : List (Str × V)} {f : Addr} {fd : FuncData} {N ps : List Str} {k : Nat} {md : Bool}
theorem fn_PG (F : FunD K x qual params body scope [] kws f fd) (S : FnScope N ps scope) {O' : List Nat} {g : Sl → Mo Unit} (hb : ∀ nm, BodyOk md P w K mg base N qual scope body k (R0 K nm) .g O' g) : FnOk P w K mg base (CXm md P w) (k + 1) f fd ps (spPG K ps.length (fnD N.length g)) :=
  fn_run F S (fun vs H Q E h => by obtain ⟨nm, hn, _⟩ := h; exact hn) fun vs H Q E h => by
    obtain ⟨nm, hn, G, s', ds, hw, rs, p⟩ := h
    exact ⟨R0 K nm, .g, O', g, rfl, hb nm, body_run hw rs (p.imp (fun d s1 F1 H1 w1 st1 q v rv => q v rv.1 rv.2) fun _ _ _ _ _ _ z => z)⟩
theorem not_PG {n : Nat} (vs : List V) (H : Hp) (Q : VK) (E : XK) : ¬ spPG K n gBot vs H Q E := fun ⟨_, _, _, _, _, _, _, p⟩ => p
theorem Has.ofPG {n : Nat} {g : List D → M Unit D} (h : Has md P w K mg base k x (spPG K n g)) : Has md P w K mg base k x (spP K n g) := h.imp fun vs H Q E ⟨nm, hn, F, s, ds, hw, rs, p⟩ => ⟨nm, hn, F, s, ds, hw, rs, p.imp (fun d s1 F1 H1 w1 st1 q v rv _ => q v rv) fun _ _ _ _ _ _ z => z⟩
end
section
variable {X : Cx} {R : Reg} {W : WX} {O : List Nat} {e : Expr} {es : List Expr} {fs : Sl → M R.S (List D)} {pos : Pos} {x : Str} {p : Pos}
theorem dg_callPG {md : Bool} {k n : Nat} {g : List D → M Unit D} (c : Cxt X R W k) (tk : TkM md X W) (h : Has md X.prog X.w X.K X.mg X.base k x (spPG X.K n g)) (hg : Gl X x) (ha : PA X (e :: es) (tDA R W O fs)) (hdb : (x == ("__debug__" : Str)) = false := by decide)
    (he : starEach (e :: es) X.env = (false, eval e X.env) :: starEach es X.env := by rfl) (hpl : (backTo pos (starEach es X.env)).any (·.1) = false := by rfl) : PE X (.Call (.Name x p) (e :: es) [] pos) (tDG R W O (dCall n (fun ds => up (g ds)) fs)) := by
  obtain ⟨f, fd, ps, F, hm, hk, hb⟩ := h
  rw [← c.hK] at F
  refine pe_imp (pe_callS (sp := spPG R.K n g) (by rw [← c.hK]; exact F) c.hr hg hm hk hb (fun σ => passM tk σ) ha hdb he hpl) fun σ H Q h => ?_
  obtain ⟨F, ρ, s, w, pu, p⟩ := h
  refine ⟨F, ρ, s, w, pu, p.bnd.imp (fun ds s1 F1 H1 w1 st1 p1 vs rvs => ?_) fun _ _ _ _ _ _ z => z⟩
  split at p1
  · rename_i hn
    refine ⟨R.nm, by rw [rvs.length]; exact hn, F1, (), ds, wd_0 w1, rvs, post_up (k := fun d F' H' => ∀ v, Rep R.K R.nm F' d v → NewDs H1 F' d v → Q v H') (x := fun x F' H' => ∀ cls dd, RepX R.K R.nm F' x cls dd → W cls dd σ H') w1 ?_⟩
    exact p1.imp (fun d s2 F2 H2 w2 st2 q v rv hn2 => q v rv (hn2.base st1.th)) fun _ _ _ _ _ _ z => z
  · exact False.elim p1
end
end Nw
set_option Elab.async false
set_option linter.all false
set_option maxRecDepth 100000
set_option maxHeartbeats 4000000
/-! Part AC: an own row whose parts are new straight within. -/
namespace Nw
open PySem PySem.Spec L2
structure YS (R : Reg) (i0 : Nat) (Hn F0 H0 F H : Hp) (σ : L2.St) (r : Sl) (s : R.S) : Prop where
  hn : ∀ a, H0 a = none → Hn a = none
  w : Wd R F H s
  st : Stp R F0 H0 F H
  sl : Slots R H0 [i0] F H σ r
  el : ∀ ds a vs, r[i0]? = some (some (.row ds)) → σ[i0]? = some (some (.ref a)) → H a = some (.lst vs) → NewEls Hn F ds vs
def PostY (R : Reg) (i0 : Nat) (Hn F0 H0 : Hp) (o : Option (Flw × R.S)) (E : Ends) (W : WX) : Prop := match o with
  | some (.next r, s) => ∀ σ F H, YS R i0 Hn F0 H0 F H σ r s → E.nx σ H
  | some (.rt d, s) => ∀ v F H, Wd R F H s → Stp R F0 H0 F H → RetOk .g R Hn F H d v → E.rt v H
  | some (.brk r, s) => ∀ σ F H, YS R i0 Hn F0 H0 F H σ r s → E.bk σ H
  | some (.cnt r, s) => ∀ σ F H, YS R i0 Hn F0 H0 F H σ r s → E.ct σ H
  | some (.thr x r, s) => ∀ σ F H cls dd, Wd R F H s → Stp R F0 H0 F H → Slots R H0 [] F H σ r → RepX R.K R.nm F x cls dd → W cls dd σ H
  | none => False
def tDY (R : Reg) (W : WX) (i0 : Nat) (f : Sl → Mo R.S) : TS := fun E σ H => ∃ Hn F0 H0 F r s, YS R i0 Hn F0 H0 F H σ r s ∧ PostY R i0 Hn F0 H0 (f r s) E W
section
variable {R : Reg} {W : WX} {i0 i : Nat} {Hn F0 H0 F H F1 H1 : Hp} {σ σ' : L2.St} {r r' : Sl} {s s1 : R.S} {E : Ends} {o : Option (Flw × R.S)} {f : Sl → Mo R.S}
theorem YS.step (z : YS R i0 Hn F0 H0 F H σ r s) (w1 : Wd R F1 H1 s1) (st1 : Stp R F H F1 H1) : YS R i0 Hn F0 H0 F1 H1 σ r s1 where
  hn := z.hn
  w := w1
  st := z.st.trans st1
  sl := z.sl.step st1
  el := fun ds a vs e1 e2 e3 => by
    obtain ⟨a', e4, ow⟩ := z.sl.ow i0 _ (by simp) rfl e1
    rw [e2] at e4
    cases e4
    obtain ⟨vs', e5, _, rr⟩ := ow.2.2.2
    have := st1.own ow.2.2.1 ow.2.1 e5
    rw [e3] at this
    cases this
    exact (z.el ds a vs e1 e2 e5).mono st1.fs rr
theorem postY_x {α : Type} {m : M R.S α} {k : α → Mo R.S} (z : YS R i0 Hn F0 H0 F H σ r s) (h : PostY R i0 Hn F0 H0 (liftX m r k s) E W) :
    Post R F H (m s) (fun a s1 F1 H1 => YS R i0 Hn F0 H0 F1 H1 σ r s1 ∧ PostY R i0 Hn F0 H0 (k a s1) E W) (fun x _ F' H' => ∀ cls dd, RepX R.K R.nm F' x cls dd → W cls dd σ H') := by
  unfold liftX at h
  cases e : m s with
  | ok a s1 => rw [e] at h; exact fun F1 H1 w1 st1 => ⟨z.step w1 st1, h⟩
  | exc x s1 =>
    rw [e] at h
    intro F1 H1 w1 st1 cls dd rx
    have z1 := z.step w1 st1
    obtain ⟨G, wG, stG, slG, sm, _⟩ := z1.sl.all w1 z1.st
    exact h σ G H1 cls dd wG stG slG (rx.mono sm)
  | bot => rw [e] at h; exact h.elim
theorem YS.setAt {vs : List Nat} (z : YS R i0 Hn F0 H0 F H σ r s) (sa : SetAt R F vs σ σ' r r') (hv : i0 ∉ vs) : YS R i0 Hn F0 H0 F H σ' r' s where
  hn := z.hn
  w := z.w
  st := z.st
  sl := z.sl.setAt sa (fun j hj => ⟨hj, by rw [List.mem_singleton.mp hj]; exact hv⟩) fun j hj _ => hj
  el := fun ds a vs e1 e2 e3 => by
    obtain ⟨h1, h2⟩ := sa.off i0 hv
    rw [h2] at e1
    rw [h1] at e2
    exact z.el ds a vs e1 e2 e3
theorem YS.rebase (z : YS R i0 Hn F0 H0 F H σ r s) : ∃ H1, YS R i0 Hn F H1 F H σ r s ∧ Rb R F0 H0 F H1 ∧ ∀ a o, F a = some o → H1 a = H a := by
  obtain ⟨H1, st, sl, rb, hb⟩ := z.sl.rebase z.w z.st
  exact ⟨H1, ⟨fun a e => z.hn a (rb.nn a e), z.w, st, sl, z.el⟩, rb, hb⟩
theorem YS.back (z : YS R i0 Hn F1 H1 F H σ r s) (rb : Rb R F0 H0 F1 H1) (hn : ∀ a, H0 a = none → Hn a = none) : YS R i0 Hn F0 H0 F H σ r s := ⟨hn, z.w, rb.st _ _ z.st, z.sl.base (F0 := F0) (F2 := F0) (H2 := H0) rb.nn, z.el⟩
theorem PostY.rebase (h : PostY R i0 Hn F0 H0 o E W) (rb : Rb R F0 H0 F1 H1) (hn : ∀ a, H0 a = none → Hn a = none) : PostY R i0 Hn F1 H1 o E W := by
  match o, h with
  | some (.next r, s), h => exact fun σ F H z => h σ F H (z.back rb hn)
  | some (.rt d, s), h => exact fun v F H w st rv => h v F H w (rb.st _ _ st) rv
  | some (.brk r, s), h => exact fun σ F H z => h σ F H (z.back rb hn)
  | some (.cnt r, s), h => exact fun σ F H z => h σ F H (z.back rb hn)
  | some (.thr x r, s), h => exact fun σ F H cls dd w st sl rx => h σ F H cls dd w (rb.st _ _ st) (sl.base (F0 := F0) (F2 := F0) (H2 := H0) rb.nn) rx
theorem forY_turn {tgt : D → Sl → Option Sl} {x : D} {xs : List D} {N : L2.St → Hp → Prop} (p : PostY R i0 Hn F0 H0 (forL tgt f (x :: xs) r s) E W)
    (hN : ∀ r2 s2 σ F H, YS R i0 Hn F0 H0 F H σ r2 s2 → PostY R i0 Hn F0 H0 (forL tgt f xs r2 s2) E W → N σ H) : ∃ r', tgt x r = some r' ∧ PostY R i0 Hn F0 H0 (f r' s) { E with nx := N, ct := N, bk := E.nx } W := by
  have p : PostY R i0 Hn F0 H0 (optK (tgt x r) (fun r' s => loopK (forL tgt f xs) (f r' s)) s) E W := p
  cases et : tgt x r with
  | none => rw [et] at p; exact p.elim
  | some r' =>
    rw [et] at p
    refine ⟨r', rfl, ?_⟩
    have p : PostY R i0 Hn F0 H0 (loopK (forL tgt f xs) (f r' s)) E W := p
    cases ef : f r' s with
    | none => rw [ef] at p; exact p
    | some q =>
      obtain ⟨fl, s'⟩ := q
      rw [ef] at p
      cases fl with
      | next r2 => exact fun σ F H z => hN r2 s' σ F H z p
      | cnt r2 => exact fun σ F H z => hN r2 s' σ F H z p
      | brk r2 => exact p
      | rt d => exact p
      | thr x r2 => exact p
theorem sat_forY {it : Sl → M R.S (List D)} {gt : TG} {vs : List Nat} {tgt : D → Sl → Option Sl} (hgs : TgSat R gt vs tgt) (hv : i0 ∉ vs) (E : Ends) (σ : L2.St) (H : Hp) (h : tDY R W i0 (sFor it tgt f) E σ H) : tFor (tDI R W [i0] it) gt (tDY R W i0 f) E σ H := by
  obtain ⟨Hn, F0, H0, F, r, s, z, p⟩ := h
  refine ⟨F, r, s, z.w, z.sl.pu, (postY_x z p).imp (fun ds s1 F1 H1 w1 st1 q J wk => ?_) fun _ _ _ _ _ _ z => z⟩
  obtain ⟨z2, p2⟩ := q
  obtain ⟨Hb, zb, rb, hb⟩ := z2.rebase
  have p3 := p2.rebase rb z2.hn
  refine ⟨fun i m σc Hc => m = ds.length - i ∧ i ≤ ds.length ∧ ∃ Fc rc sc, YS R i0 Hn F1 Hb Fc Hc σc rc sc ∧ PostY R i0 Hn F1 Hb (forL tgt f (ds.drop i) rc sc) E W,
    ⟨_, rfl, Nat.zero_le _, F1, r, s1, zb, p3⟩, ?_⟩
  rintro i m σc Hc ⟨rfl, hi, Fc, rc, sc, zc, pc⟩
  have kp : Kp F1 H1 Fc Hc := zc.st.kpr zc.w.sub w1 hb
  by_cases hlt : i < ds.length
  · refine .inr ⟨wk.go i Fc Hc kp hlt, fun σn Hn' => (ds.length - (i + 1)) = ds.length - (i + 1) ∧ i + 1 ≤ ds.length ∧ ∃ Fc rc sc, YS R i0 Hn F1 Hb Fc Hn' σn rc sc ∧ PostY R i0 Hn F1 Hb (forL tgt f (ds.drop (i + 1)) rc sc) E W,
      fun σ' H' q => ⟨_, by omega, q⟩, fun x H' y => ?_⟩
    obtain ⟨rfl, d, hd, rd⟩ := wk.yld i Fc Hc x H' kp hlt y
    have ed : ds.drop i = d :: ds.drop (i + 1) := by
      rw [List.drop_eq_getElem_cons hlt]
      rw [List.getElem?_eq_getElem hlt] at hd
      cases hd
      rfl
    rw [ed] at pc
    obtain ⟨r', er, pb⟩ := forY_turn (N := fun σn Hn' => (ds.length - (i + 1)) = ds.length - (i + 1) ∧ i + 1 ≤ ds.length ∧ ∃ Fc rc sc, YS R i0 Hn F1 Hb Fc Hn' σn rc sc ∧ PostY R i0 Hn F1 Hb (forL tgt f (ds.drop (i + 1)) rc sc) E W) pc fun r2 s2 σ2 F2 H2 z2 q2 => ⟨rfl, hlt, F2, r2, s2, z2, q2⟩
    exact hgs x d σc rc r' Fc H' _ zc.w.sub rd zc.sl.pu.len er fun σ2 sa => ⟨Hn, F1, Hb, Fc, r', sc, zc.setAt sa hv, pb⟩
  · have ei : i = ds.length := by omega
    subst ei
    rw [List.drop_length] at pc
    exact .inl ⟨wk.stop Fc Hc kp, pc σc Fc Hc zc⟩
theorem optY {α : Type} {o : Option α} {k : α → Mo R.S} (p : PostY R i0 Hn F0 H0 (optK o k s) E W) : ∃ a, o = some a ∧ PostY R i0 Hn F0 H0 (k a s) E W := by
  cases o with
  | none => exact p.elim
  | some a => exact ⟨a, rfl, p⟩
theorem putY {o : Option D} (p : PostY R i0 Hn F0 H0 (putK2 i r o s) E W) : ∃ d, o = some d ∧ PostY R i0 Hn F0 H0 (some (.next (r.set i (some d)), s)) E W := by
  cases o with
  | none => exact p.elim
  | some a => exact ⟨a, rfl, p⟩
end
section
variable {X : Cx} {R : Reg} {W : WX} {i0 : Nat} {st : Stmt} {rest ss body : List Stmt} {f g : Sl → Mo R.S} {pos : Pos} {e tg iter : Expr} {fe : Sl → M R.S D} {c : Sl → M R.S Bool} {i : Nat} {x : Str} {npos apos cpos : Pos}
theorem dy_nil : PSs X [] (tDY R W i0 sNil) := pss_imp pss_nil fun E σ H h => by
  obtain ⟨Hn, F0, H0, F, r, s, z, p⟩ := h
  exact p σ F H z
theorem dy_cons (h1 : PS X st (tDY R W i0 f)) (h2 : PSs X rest (tDY R W i0 g)) : PSs X (st :: rest) (tDY R W i0 (sSeq f g)) := pss_imp (pss_cons h1 h2) fun E σ H h => by
  obtain ⟨Hn, F0, H0, F, r, s, z, p⟩ := h
  refine ⟨Hn, F0, H0, F, r, s, z, ?_⟩
  unfold sSeq at p
  cases e : f r s with
  | none => rw [e] at p; exact p
  | some q =>
    obtain ⟨fl, s'⟩ := q
    rw [e] at p
    cases fl with
    | next r' => exact fun σ' F' H' z' => ⟨Hn, F0, H0, F', r', s', z', p⟩
    | rt d => exact p
    | brk r' => exact p
    | cnt r' => exact p
    | thr x r' => exact p
theorem dy_one (h1 : PS X st (tDY R W i0 f)) : PSs X [st] (tDY R W i0 f) := pss_imp (pss_one h1) fun E σ H h => h
theorem dy_set (i : Nat) {pos' : Pos} (hN : X.N.Nodup) (hi : X.N[i]? = some x) (hx : Loc X.env.scope x) (he : PE X e (tD R W [i0] fe)) (h1 : i0 ∉ [i]) (hs : swapsWith e (some (.Name x pos')) pos.line X.env = pure false := by rfl) (hf : X.fn x = true ∨ X.env.scope.names.lookup x = some .local := by first | exact .inl rfl | exact .inr rfl | assumption) :
    PS X (.Assign [.Name x pos'] e pos) (tDY R W i0 (sAsg (tgN i) fe)) := ps_imp (ps_set hN hi hx he hs hf) fun E σ H h => by
  obtain ⟨Hn, F0, H0, F, r, s, z, p⟩ := h
  refine ⟨F, r, s, z.w, z.sl.pu, (postY_x z p).imp (fun d s1 F1 H1 w1 st1 q v rv => ?_) fun _ _ _ _ _ _ z => z⟩
  obtain ⟨z2, p2⟩ := q
  exact p2 _ F1 H1 (z2.setAt (setAt_one z2.sl.pu.len rv) h1)
theorem dy_if {t : Expr} {a b : List Stmt} (hc : PT X t (tDT R W [i0] c)) (ha : PSs X a (tDY R W i0 f)) (hb : PSs X b (tDY R W i0 g)) : PS X (.If t a b pos) (tDY R W i0 (sIf c f g)) := ps_imp (ps_if hc ha hb) fun E σ H h => by
  obtain ⟨Hn, F0, H0, F, r, s, z, p⟩ := h
  refine ⟨F, r, s, z.w, z.sl.pu, (postY_x z p).imp (fun k s1 F1 H1 w1 st1 q => ?_) fun _ _ _ _ _ _ z => z⟩
  obtain ⟨z2, p2⟩ := q
  cases k with
  | true => rw [if_pos rfl] at p2 ⊢; exact ⟨Hn, F0, H0, F1, r, s1, z2, p2⟩
  | false => rw [if_neg Bool.false_ne_true] at p2 ⊢; exact ⟨Hn, F0, H0, F1, r, s1, z2, p2⟩
theorem dy_for {it : Sl → M R.S (List D)} {gt : TG} {vs : List Nat} {tgt : D → Sl → Option Sl} (hp : PassesOwn (model X.prog X.w) X.A X.env X.xe) (hc : X.calm = true) (hi : PI X tg iter (tDI R W [i0] it)) (hg : PG X tg gt) (hgs : TgSat R gt vs tgt) (hb : PSs X body (tDY R W i0 f)) (hv : i0 ∉ vs)
    (hs : ∀ x, foldedSetIterable iter X.env x = pure x := by intro _; rfl) : PS X (.For tg iter body [] pos) (tDY R W i0 (sFor it tgt f)) := ps_imp (ps_for hp hc hi hg hb hs) (sat_forY hgs hv)
/-- found.append(e) -/
theorem dy_app (hN : X.N[i0]? = some x) (hv : Vis X.env.scope x) (he : PE X e (tDN R W [i0] fe)) (hd : (x == ("__debug__" : Str)) = false := by decide) (hcd : (x == ("__classdict__" : Str)) = false := by decide)
    (hbase : attributeBase (.Name x npos) "append" X.env (eval (.Name x npos) X.env) = eval (.Name x npos) X.env := by rfl)
    (hfew : ((backTo cpos (starEach [e] X.env)).all (fun x => !x.1) && (backToKw cpos (keywordEach [] X.env)).all (fun x => x.1.isSome)
      && decide (([e] : List Expr).length + ([] : List Keyword).length + (if ([] : List Keyword).isEmpty then 0 else 1) < 30)) = true := by rfl)
    (hline : (apos.endLine == cpos.line) = true := by rfl) (hst : starEach [e] X.env = (false, eval e X.env) :: starEach [] X.env := by rfl) (hplain : (backTo cpos (starEach [] X.env)).any (·.1) = false := by rfl) (hs : swapsWith (.Call (.Attribute (.Name x npos) "append" apos) [e] [] cpos) none pos.line X.env = pure false := by rfl) :
    PS X (.Expr (.Call (.Attribute (.Name x npos) "append" apos) [e] [] cpos) pos) (tDY R W i0 (sOwn1 "list" i0 appD fe)) :=
  ps_imp (ps_expr (pe_bm F.plainAttrs_list F.slot_list_append F.type_list_append mt_append (pe_var hN hv hd hcd) (pa_cons he pa_nil hst) hbase hfew hline hst hplain) hs) fun E σ H h => by
  obtain ⟨Hn, F0, H0, F, r, s, z, p⟩ := h
  obtain ⟨d, eg, p⟩ := optY p
  obtain ⟨d0, eg0, e2⟩ := bind_some eg
  obtain ⟨u, eu, e3⟩ := map_some e2
  have e3 : d0 = d := e3
  subst e3
  clear eg e2
  have eg := eg0
  cases d0 with
  | row xs =>
    obtain ⟨ad, h1, h2⟩ := z.sl.ow i0 _ (by simp) rfl (getS_some eg)
    obtain ⟨ws0, e10, e20, e30⟩ := h2.2.2.2
    refine ⟨_, h1, .inl ⟨rfl, ws0, SqL.of e10⟩, F, r, s, z.w, z.sl.pu, (postY_x z p).imp (fun v s1 F1 H1 w1 st1 q vv rv hn => ?_) fun _ _ _ _ _ _ z => z⟩
    obtain ⟨z2, p2⟩ := q
    obtain ⟨d', ed, p4⟩ := putY p2
    have h3 := h2.step st1
    obtain ⟨ws, e1, e2, e3⟩ := h3.2.2.2
    have ed : (if xs.length < sizeLine then some (D.row (xs ++ [v])) else none) = some d' := ed
    by_cases hz : xs.length < sizeLine
    · rw [if_pos hz] at ed
      cases ed
      refine ⟨ad, ws, vv, rfl, rfl, e1, by rw [e3.length]; exact hz, ?_⟩
      have h0 : (r.set i0 (some (.row (xs ++ [v]))))[i0]? = some (some (.row (xs ++ [v]))) := List.getElem?_set_self (List.getElem?_eq_some_iff.mp (getS_some eg)).1
      obtain ⟨a1, a2, a3⟩ := own_write (o := .lst (ws ++ [vv])) z2.w z2.st z2.sl (by simp) (getS_some eg) h1 h3 (d' := .row (xs ++ [v])) ⟨_, rfl, by rw [List.length_append, List.length_singleton]; omega, e3.append ⟨vv, [], rfl, rv, rfl⟩⟩
      refine p4 σ F1 _ ⟨z2.hn, a1, a2, a3, fun ds a vs q1 q2 q3 => ?_⟩
      rw [h0] at q1
      cases q1
      rw [h1] at q2
      cases q2
      rw [upd_same] at q3
      cases q3
      exact (z2.el xs ad ws (getS_some eg) h1 e1).append e3.length (NewEls.one (hn.base fun a q => z.hn a (z.st.th a q)))
    · rw [if_neg hz] at ed; cases ed
  | _ => cases eu
/-- found.extend(e) -/
theorem dy_ext (hN : X.N[i0]? = some x) (hv : Vis X.env.scope x) (he : PE X e (tDG R W [i0] fe)) (hd : (x == ("__debug__" : Str)) = false := by decide) (hcd : (x == ("__classdict__" : Str)) = false := by decide)
    (hbase : attributeBase (.Name x npos) "extend" X.env (eval (.Name x npos) X.env) = eval (.Name x npos) X.env := by rfl)
    (hfew : ((backTo cpos (starEach [e] X.env)).all (fun x => !x.1) && (backToKw cpos (keywordEach [] X.env)).all (fun x => x.1.isSome)
      && decide (([e] : List Expr).length + ([] : List Keyword).length + (if ([] : List Keyword).isEmpty then 0 else 1) < 30)) = true := by rfl)
    (hline : (apos.endLine == cpos.line) = true := by rfl) (hst : starEach [e] X.env = (false, eval e X.env) :: starEach [] X.env := by rfl) (hplain : (backTo cpos (starEach [] X.env)).any (·.1) = false := by rfl) (hs : swapsWith (.Call (.Attribute (.Name x npos) "extend" apos) [e] [] cpos) none pos.line X.env = pure false := by rfl) :
    PS X (.Expr (.Call (.Attribute (.Name x npos) "extend" apos) [e] [] cpos) pos) (tDY R W i0 (sOwn1 "list" i0 extD fe)) :=
  ps_imp (ps_expr (pe_bm F.plainAttrs_list F.slot_list_extend F.type_list_extend mt_extend (pe_var hN hv hd hcd) (pa_cons he pa_nil hst) hbase hfew hline hst hplain) hs) fun E σ H h => by
  obtain ⟨Hn, F0, H0, F, r, s, z, p⟩ := h
  obtain ⟨d, eg, p⟩ := optY p
  obtain ⟨d0, eg0, e2⟩ := bind_some eg
  obtain ⟨u, eu, e3⟩ := map_some e2
  have e3 : d0 = d := e3
  subst e3
  clear eg e2
  have eg := eg0
  cases d0 with
  | row xs =>
    obtain ⟨ad, h1, h2⟩ := z.sl.ow i0 _ (by simp) rfl (getS_some eg)
    obtain ⟨ws0, e10, e20, e30⟩ := h2.2.2.2
    refine ⟨_, h1, .inl ⟨rfl, ws0, SqL.of e10⟩, F, r, s, z.w, z.sl.pu, (postY_x z p).imp (fun v s1 F1 H1 w1 st1 q vv rv hn => ?_) fun _ _ _ _ _ _ z => z⟩
    obtain ⟨z2, p2⟩ := q
    obtain ⟨d', ed, p4⟩ := putY p2
    have h3 := h2.step st1
    obtain ⟨ws, e1, e2, e3⟩ := h3.2.2.2
    cases v with
    | row ys =>
      have ed : (if xs.length + ys.length ≤ sizeLine then some (D.row (xs ++ ys)) else none) = some d' := ed
      obtain ⟨bd, us, rfl, f1, f2, f3⟩ := rv
      by_cases hz : xs.length + ys.length ≤ sizeLine
      · rw [if_pos hz] at ed
        cases ed
        refine ⟨ad, bd, ws, us, rfl, rfl, e1, w1.sub.lst f1, by rw [e3.length, f3.length]; exact hz, ?_⟩
        have h0 : (r.set i0 (some (.row (xs ++ ys))))[i0]? = some (some (.row (xs ++ ys))) := List.getElem?_set_self (List.getElem?_eq_some_iff.mp (getS_some eg)).1
        obtain ⟨a1, a2, a3⟩ := own_write (o := .lst (ws ++ us)) z2.w z2.st z2.sl (by simp) (getS_some eg) h1 h3 (d' := .row (xs ++ ys)) ⟨_, rfl, by rw [List.length_append]; exact hz, e3.append f3⟩
        refine p4 σ F1 _ ⟨z2.hn, a1, a2, a3, fun ds a vs q1 q2 q3 => ?_⟩
        rw [h0] at q1
        cases q1
        rw [h1] at q2
        cases q2
        rw [upd_same] at q3
        cases q3
        exact (z2.el xs ad ws (getS_some eg) h1 e1).append e3.length ((hn bd us rfl f1).base fun a q => z.hn a (z.st.th a q))
      · rw [if_neg hz] at ed; cases ed
    | _ => cases ed
  | _ => cases eu
/-- return found -/
theorem dy_ret (hN : X.N[i0]? = some x) (hv : Vis X.env.scope x) (hd : (x == ("__debug__" : Str)) = false := by decide) (hcd : (x == ("__classdict__" : Str)) = false := by decide) : PS X (.Return (some (.Name x npos)) pos) (tDY R W i0 (sRetO i0)) := ps_imp (ps_ret (pe_var hN hv hd hcd)) fun E σ H h => by
  obtain ⟨Hn, F0, H0, F, r, s, z, p⟩ := h
  unfold sRetO at p
  cases eg : getS r i0 with
  | none => rw [eg] at p; exact p.elim
  | some d =>
    rw [eg] at p
    obtain ⟨v, F', h1, wF, stF, sm, rv, _⟩ := own_out z.w z.st z.sl (by simp) (getS_some eg)
    refine ⟨_, h1, p v F' H wF stF ⟨rv, ?_⟩⟩
    cases d with
    | row ds =>
      intro a vs e1 e2
      subst e1
      obtain ⟨a', e4, ow⟩ := z.sl.ow i0 _ (by simp) rfl (getS_some eg)
      rw [h1] at e4
      cases e4
      obtain ⟨vs', e5, _, rr⟩ := ow.2.2.2
      have e6 := wF.sub.lst e2
      rw [e5] at e6
      cases e6
      exact (z.el ds a vs (getS_some eg) h1 e5).mono sm rr
    | _ => trivial
/-- found = [], and the rest of the def -/
def sYE {S : Type} (i0 : Nat) (g : Sl → Mo S) : Sl → Mo S := fun r s => if i0 < r.length then outK (g (r.set i0 (some (.row []))) s) else none
theorem dss_y (i0 : Nat) {pos' lp : Pos} (hN : X.N.Nodup) (hi : X.N[i0]? = some x) (hx : Loc X.env.scope x) (h : PSs X ss (tDY R W i0 f)) (hs : swapsWith (.List [] lp) (some (.Name x pos')) pos.line X.env = pure false := by rfl) (hf : X.fn x = true ∨ X.env.scope.names.lookup x = some .local := by first | exact .inl rfl | exact .inr rfl | assumption) :
    PSs X (.Assign [.Name x pos'] (.List [] lp) pos :: ss) (tDS R W .g [] [] [] (sYE i0 f)) :=
  pss_imp (pss_cons (ds_setO (R := R) (W := W) (fr := .g) (B := []) (O := []) (O' := [i0]) i0 hN hi hx (df_lst da_nil) (by simp) (fun j hj => .inl (List.mem_singleton.mp hj)) (fun j hj => absurd hj (by simp)) hs hf) h) fun E σ H hh => by
  obtain ⟨F0, H0, F, r, s, w, st, sl, p⟩ := hh
  have p : PostS R .g F0 H0 (if i0 < r.length then outK (f (r.set i0 (some (.row []))) s) else none) E W [] [] := p
  by_cases hl : i0 < r.length
  · rw [if_pos hl] at p
    refine ⟨F0, H0, F, r, s, w, st, sl, ?_⟩
    show PostS R .g F0 H0 (some (.next (r.set i0 (some (.row []))), s)) _ W [] [i0]
    intro σ1 F1 H1 w1 st1 sl1
    refine ⟨H0, F0, H0, F1, _, s, ⟨fun _ q => q, w1, st1, sl1, fun ds a vs e1 _ _ => ?_⟩, ?_⟩
    · rw [List.getElem?_set_self hl] at e1
      cases e1
      intro j d v e2
      cases e2
    · cases e : f (r.set i0 (some (.row []))) s with
      | none => rw [e] at p; exact p
      | some q =>
        obtain ⟨fl, s2⟩ := q
        rw [e] at p
        cases fl with
        | next r' => exact p.elim
        | rt d => exact p
        | brk r' => exact p.elim
        | cnt r' => exact p.elim
        | thr x r' => exact p
  · rw [if_neg hl] at p; exact p.elim
end
end Nw
set_option Elab.async false
set_option linter.all false
set_option maxRecDepth 100000
set_option maxHeartbeats 4000000
/-! Part AD: a zone with a row of deeds; their late change. -/
namespace Nw
open PySem PySem.Spec L2
structure ZD (R : Reg) (pn nw : List Nat) (F0 H0 Fb Hb F H : Hp) (σ : L2.St) (r : Sl) (s : R.S) : Prop where
  st0 : Stp R F0 H0 Fb Hb
  sb : Sub Fb Hb
  w : Wd R F H s
  st : Stp R Fb Hb F H
  pu : Pu R [] F σ r
  pin : ∀ i ∈ pn, ∀ d, r[i]? = some (some d) → ∃ v, σ[i]? = some (some v) ∧ Rep R.K R.nm Fb d v
  new : ∀ i ∈ nw, ∀ d, r[i]? = some (some d) → ∃ v, σ[i]? = some (some v) ∧ Rep R.K R.nm F d v ∧ NewDs Hb F d v
def PostD (R : Reg) (fr : FrK) (pn nw : List Nat) (F0 H0 Fb Hb : Hp) (o : Option (Flw × R.S)) (E : Ends) (W : WX) : Prop := match o with
  | some (.next r, s) => ∀ σ F H, ZD R pn nw F0 H0 Fb Hb F H σ r s → E.nx σ H
  | some (.rt d, s) => ∀ v F H, Wd R F H s → Stp R Fb Hb F H → RetOk fr R Hb F H d v → E.rt v H
  | some (.thr x r, s) => ∀ σ F H cls dd, Wd R F H s → Stp R Fb Hb F H → Pu R [] F σ r → RepX R.K R.nm F x cls dd → W cls dd σ H
  | _ => False
def tDZd (R : Reg) (W : WX) (fr : FrK) (pn nw : List Nat) (f : Sl → Mo R.S) : TS := fun E σ H => ∃ F0 H0 Fb Hb F r s, ZD R pn nw F0 H0 Fb Hb F H σ r s ∧ PostD R fr pn nw F0 H0 Fb Hb (f r s) E W
section
variable {R : Reg} {W : WX} {fr : FrK} {pn nw : List Nat} {F0 H0 Fb Hb F H F1 H1 : Hp} {σ : L2.St} {r : Sl} {s s1 : R.S} {E : Ends}
theorem ZD.step (z : ZD R pn nw F0 H0 Fb Hb F H σ r s) (w1 : Wd R F1 H1 s1) (st1 : Stp R F H F1 H1) : ZD R pn nw F0 H0 Fb Hb F1 H1 σ r s1 where
  st0 := z.st0
  sb := z.sb
  w := w1
  st := z.st.trans st1
  pu := z.pu.mono st1.fs
  pin := z.pin
  new := fun i hi d e => let ⟨v, h1, h2, h3⟩ := z.new i hi d e; ⟨v, h1, h2.mono st1.fs, h3.mono st1.fs h2⟩
theorem postD_x {α : Type} {m : M R.S α} {k : α → Mo R.S} (z : ZD R pn nw F0 H0 Fb Hb F H σ r s) (h : PostD R fr pn nw F0 H0 Fb Hb (liftX m r k s) E W) :
    Post R F H (m s) (fun a s1 F1 H1 => ZD R pn nw F0 H0 Fb Hb F1 H1 σ r s1 ∧ PostD R fr pn nw F0 H0 Fb Hb (k a s1) E W) (fun x _ F' H' => ∀ cls dd, RepX R.K R.nm F' x cls dd → W cls dd σ H') := by
  unfold liftX at h
  cases e : m s with
  | ok a s1 => rw [e] at h; exact fun F1 H1 w1 st1 => ⟨z.step w1 st1, h⟩
  | exc x s1 =>
    rw [e] at h
    intro F1 H1 w1 st1 cls dd rx
    have z1 := z.step w1 st1
    exact h σ F1 H1 cls dd w1 z1.st z1.pu rx
  | bot => rw [e] at h; exact h.elim
theorem ZD.set {i : Nat} {d : D} {v : V} (z : ZD R pn nw F0 H0 Fb Hb F H σ r s) (hp : ∀ j ∈ pn, j ≠ i) (rv : Rep R.K R.nm F d v) (hn : ∀ j ∈ nw, j = i → NewDs Hb F d v) : ZD R pn nw F0 H0 Fb Hb F H (σ.set i (some v)) (r.set i (some d)) s where
  st0 := z.st0
  sb := z.sb
  w := z.w
  st := z.st
  pu := set_some_pu z.pu rv
  pin := fun j hj d' e => by
    rw [List.getElem?_set_ne fun q => hp j hj q.symm] at e
    rw [List.getElem?_set_ne fun q => hp j hj q.symm]
    exact z.pin j hj d' e
  new := fun j hj d' e => by
    by_cases hji : j = i
    · subst hji
      have hl : j < r.length := by
        have := (List.getElem?_eq_some_iff.mp e).1
        rwa [List.length_set] at this
      rw [List.getElem?_set_self hl] at e
      cases e
      exact ⟨v, List.getElem?_set_self (by rw [← z.pu.len]; exact hl), rv, hn j hj rfl⟩
    · rw [List.getElem?_set_ne fun q => hji q.symm] at e
      rw [List.getElem?_set_ne fun q => hji q.symm]
      exact z.new j hj d' e
end
section
variable {X : Cx} {R : Reg} {W : WX} {fr : FrK} {B pn nw : List Nat} {st : Stmt} {rest ss body : List Stmt} {f g : Sl → Mo R.S} {pos p2 npos np pos' : Pos} {e b : Expr} {fe ge : Sl → M R.S D} {c : Sl → M R.S Bool} {i j n : Nat} {x y z : Str}
theorem dd_cons (h1 : PS X st (tDZd R W fr pn nw f)) (h2 : PSs X rest (tDZd R W fr pn nw g)) : PSs X (st :: rest) (tDZd R W fr pn nw (sSeq f g)) := pss_imp (pss_cons h1 h2) fun E σ H h => by
  obtain ⟨F0, H0, Fb, Hb, F, r, s, z, p⟩ := h
  refine ⟨F0, H0, Fb, Hb, F, r, s, z, ?_⟩
  unfold sSeq at p
  cases e : f r s with
  | none => rw [e] at p; exact p
  | some q =>
    obtain ⟨fl, s'⟩ := q
    rw [e] at p
    cases fl with
    | next r' => exact fun σ' F' H' z' => ⟨F0, H0, Fb, Hb, F', r', s', z', p⟩
    | rt d => exact p
    | brk r' => exact p
    | cnt r' => exact p
    | thr x r' => exact p
theorem dd_nil : PSs X [] (tDZd R W fr pn nw sNil) := pss_imp pss_nil fun E σ H h => by
  obtain ⟨F0, H0, Fb, Hb, F, r, s, z, p⟩ := h
  exact p σ F H z
theorem dd_one (h1 : PS X st (tDZd R W fr pn nw f)) : PSs X [st] (tDZd R W fr pn nw f) := pss_imp (pss_one h1) fun E σ H h => h
theorem dd_set (i : Nat) {pos' : Pos} (hN : X.N.Nodup) (hi : X.N[i]? = some x) (hx : Loc X.env.scope x) (he : PE X e (tD R W [] fe)) (h1 : ∀ j ∈ pn, j ≠ i) (h2 : ∀ j ∈ nw, j ≠ i) (hs : swapsWith e (some (.Name x pos')) pos.line X.env = pure false := by rfl) (hf : X.fn x = true ∨ X.env.scope.names.lookup x = some .local := by first | exact .inl rfl | exact .inr rfl | assumption) :
    PS X (.Assign [.Name x pos'] e pos) (tDZd R W fr pn nw (sAsg (tgN i) fe)) := ps_imp (ps_set hN hi hx he hs hf) fun E σ H h => by
  obtain ⟨F0, H0, Fb, Hb, F, r, s, z, p⟩ := h
  refine ⟨F, r, s, z.w, z.pu, (postD_x z p).imp (fun d s1 F1 H1 w1 st1 q v rv => ?_) fun _ _ _ _ _ _ z => z⟩
  obtain ⟨z2, p2⟩ := q
  exact p2 _ F1 H1 (z2.set h1 rv fun j hj e => absurd e (h2 j hj))
theorem dd_setG (i : Nat) {pos' : Pos} (hN : X.N.Nodup) (hi : X.N[i]? = some x) (hx : Loc X.env.scope x) (he : PE X e (tDG R W [] fe)) (h1 : ∀ j ∈ pn, j ≠ i) (hs : swapsWith e (some (.Name x pos')) pos.line X.env = pure false := by rfl) (hf : X.fn x = true ∨ X.env.scope.names.lookup x = some .local := by first | exact .inl rfl | exact .inr rfl | assumption) :
    PS X (.Assign [.Name x pos'] e pos) (tDZd R W fr pn nw (sAsg (tgN i) fe)) := ps_imp (ps_set hN hi hx he hs hf) fun E σ H h => by
  obtain ⟨F0, H0, Fb, Hb, F, r, s, z, p⟩ := h
  refine ⟨F, r, s, z.w, z.pu, (postD_x z p).imp (fun d s1 F1 H1 w1 st1 q v rv hn => ?_) fun _ _ _ _ _ _ z => z⟩
  obtain ⟨z2, p2⟩ := q
  exact p2 _ F1 H1 (z2.set h1 rv fun j hj e => hn.base z.st.th)
theorem dd_ret (he : PE X e (tD R W [] fe)) : PS X (.Return (some e) pos) (tDZd R W .f pn nw (sRet fe)) := ps_imp (ps_ret he) fun E σ H h => by
  obtain ⟨F0, H0, Fb, Hb, F, r, s, z, p⟩ := h
  refine ⟨F, r, s, z.w, z.pu, (postD_x z p).imp (fun d s1 F1 H1 w1 st1 q v rv => ?_) fun _ _ _ _ _ _ z => z⟩
  obtain ⟨z2, p2⟩ := q
  exact p2 v F1 H1 z2.w z2.st rv
theorem dd_if {t : Expr} {a b : List Stmt} (hc : PT X t (tDT R W [] c)) (ha : PSs X a (tDZd R W fr pn nw f)) (hb : PSs X b (tDZd R W fr pn nw g)) : PS X (.If t a b pos) (tDZd R W fr pn nw (sIf c f g)) := ps_imp (ps_if hc ha hb) fun E σ H h => by
  obtain ⟨F0, H0, Fb, Hb, F, r, s, z, p⟩ := h
  refine ⟨F, r, s, z.w, z.pu, (postD_x z p).imp (fun k s1 F1 H1 w1 st1 q => ?_) fun _ _ _ _ _ _ z => z⟩
  obtain ⟨z2, p2⟩ := q
  cases k with
  | true => rw [if_pos rfl] at p2 ⊢; exact ⟨F0, H0, Fb, Hb, F1, r, s1, z2, p2⟩
  | false => rw [if_neg Bool.false_ne_true] at p2 ⊢; exact ⟨F0, H0, Fb, Hb, F1, r, s1, z2, p2⟩
/-- return x if c else e -/
theorem dd_retIf {t : Expr} (i : Nat) (hi : i ∈ nw) (hc : PT X t (tDT R W [] c)) (hN : X.N[i]? = some x) (hv : Vis X.env.scope x) (hb : PE X b (tDG R W [] ge)) (hd : (x == ("__debug__" : Str)) = false := by decide) (hcd : (x == ("__classdict__" : Str)) = false := by decide) :
    PS X (.Return (some (.IfExp t (.Name x npos) b p2)) pos) (tDZd R W .g pn nw (sIf c (sRetO i) (sRet ge))) := ps_imp (ps_ret (pe_ifExp hc (pe_var hN hv hd hcd) hb)) fun E σ H h => by
  obtain ⟨F0, H0, Fb, Hb, F, r, s, z, p⟩ := h
  refine ⟨F, r, s, z.w, z.pu, (postD_x z p).imp (fun k s1 F1 H1 w1 st1 q => ?_) fun _ _ _ _ _ _ z => z⟩
  obtain ⟨z2, p2⟩ := q
  cases k with
  | true =>
    rw [if_pos rfl] at p2
    refine iteT ?_
    have p2 : PostD R .g pn nw F0 H0 Fb Hb (match getS r i with | some d => some (.rt d, s1) | none => none) E W := p2
    cases eg : getS r i with
    | none => rw [eg] at p2; exact p2.elim
    | some d =>
      rw [eg] at p2
      obtain ⟨v, h1, h2, h3⟩ := z2.new i hi d (getS_some eg)
      exact ⟨_, h1, p2 v F1 H1 z2.w z2.st ⟨h2, h3⟩⟩
  | false =>
    rw [if_neg Bool.false_ne_true] at p2
    refine iteF ⟨F1, r, s1, z2.w, z2.pu, (postD_x z2 p2).imp (fun d s3 F3 H3 w3 st3 q v rv hn => ?_) fun _ _ _ _ _ _ z => z⟩
    obtain ⟨z4, p4⟩ := q
    exact p4 v F3 H3 z4.w z4.st ⟨rv, hn.base z2.st.th⟩
/-- try: .. except c' as y: z = y -/
theorem dd_try {cs : List Cl} {c' : Cl} {q1 q2 q3 : Pos} (cx : Cxt X R W n) (tk : TkM false X W) (xf : XF X.K cs) (hc' : c' ∈ cs) (hx : c'.name = x) (hex : X.ex = []) (hs : X.stack = X.env :: X.outer) (hf : X.env.frame = some X.env.locals) (hi : X.N[i]? = some y) (hln : X.env.kindOf y = some .local) (hj : X.N[j]? = some z) (hlz : X.env.scope.names.lookup z = some .local)
    (hg : Gl X x) (hm : X.mg x = some (.ref (eA X.K c'))) (hdy : (y == ("__debug__" : Str)) = false) (hcy : (y == ("__classdict__" : Str)) = false) (hsw : swapsWith (.Name y q2) (some (.Name z q1)) q3.line X.env = pure false) (hvy : Vis X.env.scope y)
    (hb : ∀ (W' : WX) (pn' : List (Addr × Obj)) (xe : Value → Shared → Prop), Cxt (X.tr pn' xe) R W' n → TkM false (X.tr pn' xe) W' → PassesOwn (model X.prog X.w) X.A X.env xe → PSs (X.tr pn' xe) body (tDZd R W' fr [] nw f)) (hdb : (x == ("__debug__" : Str)) = false := by decide) :
    PS X (.Try body [.ExceptHandler (some (.Name x np)) (some y) [.Assign [.Name z q1] (.Name y q2) q3] pos'] [] [] pos) (tDZd R W fr [] nw (sTryHO cs c' i j nw f)) := by
  have suite : ∀ (a : Addr) (oe : Obj) (cls : Value) (d : Option Addr) (pn : List (Addr × Obj)), Zc cls d oe → (∃ vs, oe.data = .fields vs) → PSs (X.suite a ((a, oe) :: pn)) [.Assign [.Name z q1] (.Name y q2) q3] (tAsg (tVar i) (gName j)) := fun a oe cls d pn _ _ =>
    pss_one (ps_set (X := X.suite a ((a, oe) :: pn)) cx.nd hj (.inl hlz) (pe_var hi hvy hdy hcy) hsw (.inr hlz))
  refine ps_imp (ps_try_asT hex hs hf cx.nd hi hln ⟨hg, hdb, .inl hm⟩ tk (tb := fun W' => tDZd R W' fr [] nw f) (fun W' pn xe tk po => hb W' pn xe (cx.tr W') tk po) suite) fun E σ H h => ?_
  obtain ⟨F0, H0, Fb, Hb, F, r, s, zz, p⟩ := h
  refine ⟨F0, H0, Fb, Hb, F, r, s, zz, ?_⟩
  unfold sTryHO at p
  cases ef : f r s with
  | none => rw [ef] at p; exact p
  | some q =>
    obtain ⟨fl, s'⟩ := q
    rw [ef] at p
    cases fl with
    | next r' => exact p
    | rt d => exact p
    | brk r' => exact p
    | cnt r' => exact p
    | thr xx r' =>
      have p : PostD R fr [] nw F0 H0 Fb Hb (if xx.c ∈ cs ∧ i < r'.length then (if subC xx.c c' = true then (if plainAt nw (((r'.set i none).set j (some (.exc xx.c xx.fs))).set i none) = true then some (.next (((r'.set i none).set j (some (.exc xx.c xx.fs))).set i none), s') else none) else some (.thr xx r', s')) else none) E W := p
      by_cases hcs : xx.c ∈ cs ∧ i < r'.length
      · rw [if_pos hcs] at p
        obtain ⟨hcs, hir⟩ := hcs
        intro σ' F' H' cls dd w' st' pu' rx
        have hcls : cls = .ref (eA X.K xx.c) := by rw [rx.1, cx.hK]
        refine ⟨subC xx.c c', by rw [hcls]; exact xf.exm _ hcs _ hc', fun hb2 ad had => ?_, fun hb2 => ?_⟩
        · rw [if_pos hb2] at p
          by_cases hpl : plainAt nw (((r'.set i none).set j (some (.exc xx.c xx.fs))).set i none) = true
          · rw [if_pos hpl] at p
            have st2 : Stp R F' H' (upd F' ad (ExH cls dd ad)) (upd H' ad (ExH cls dd ad)) := Stp.new _ had (w'.free had)
            have w2 : Wd R (upd F' ad (ExH cls dd ad)) (upd H' ad (ExH cls dd ad)) s' := w'.new _ had
            have pu2 := pu'.mono st2.fs
            have rv : Rep R.K R.nm (upd F' ad (ExH cls dd ad)) (.exc xx.c xx.fs) (.ref ad) := by
              obtain ⟨h1, h2⟩ := rx.mono st2.fs
              refine ⟨ad, dd, rfl, by rw [upd_same, h1], ?_⟩
              rcases h2 with ⟨h3, h4⟩ | h2
              · exact .inl ⟨h3, h4⟩
              · exact .inr h2
            have hil : i < σ'.length := by rw [← pu'.len]; exact hir
            refine ⟨.ref ad, List.getElem?_set_self hil, ?_⟩
            have pu3 := set_none_pu (i := i) (set_some_pu (i := j) (set_none_pu (i := i) pu2 (some (.ref ad))) rv) none
            refine p _ _ _ ⟨zz.st0, zz.sb, w2, st'.trans st2, pu3, fun k hk => absurd hk (by simp), fun k hk d e => ?_⟩
            obtain ⟨v, h1, h2⟩ := pu3.at_ k d (by simp) e
            refine ⟨v, h1, h2, ?_⟩
            have := plainAt_at hpl hk e
            cases d with
            | row _ => cases this
            | _ => trivial
          · rw [if_neg hpl] at p; exact p.elim
        · rw [if_neg (by rw [hb2]; exact Bool.false_ne_true)] at p
          exact p σ' F' H' cls dd w' st' pu' rx
      · rw [if_neg hcs] at p; exact p.elim
theorem dd_out (h : PSs X ss (tDS R W fr B [] [] g)) : PSs X ss (tDZd R W fr pn nw (sOut pn g)) := pss_imp h fun E σ H h => by
  obtain ⟨F0, H0, Fb, Hb, F, r, s, z, p⟩ := h
  have pu : Pu R [] F σ (keepS pn r) := ⟨by rw [keepS_len]; exact z.pu.len, fun i d hi e => z.pu.at_ i d hi (keepS_at e).2⟩
  refine ⟨Fb, Hb, F, keepS pn r, s, z.w, z.st, slots_nil pu, ?_⟩
  have p : PostD R fr pn nw F0 H0 Fb Hb (outK (g (keepS pn r) s)) E W := p
  cases e : g (keepS pn r) s with
  | none => rw [e] at p; exact p
  | some q =>
    obtain ⟨fl, s'⟩ := q
    rw [e] at p
    cases fl with
    | next r' => exact p.elim
    | rt d => exact p
    | brk r' => exact p.elim
    | cnt r' => exact p.elim
    | thr x r' => exact fun σ F H cls dd w st sl rx => p σ F H cls dd w st sl.pu rx
/-- into the zone, to the def's end -/
def sZoneD {S : Type} (nw : List Nat) (f : Sl → Mo S) : Sl → Mo S := fun r s => if nw.all (fun i => (getS r i).isNone) = true then outK (f r s) else none
theorem dss_zoneD (pn nw : List Nat) (h : PSs X ss (tDZd R W fr pn nw f)) : PSs X ss (tDS R W fr B [] [] (sZoneD nw f)) := pss_imp h fun E σ H hq => by
  obtain ⟨F0, H0, F, r, s', w, st, sl, p⟩ := hq
  have p : PostS R fr F0 H0 (if nw.all (fun i => (getS r i).isNone) = true then outK (f r s') else none) E W B [] := p
  by_cases hn : nw.all (fun i => (getS r i).isNone) = true
  · rw [if_pos hn] at p
    refine ⟨F0, H0, F, H, F, r, s', ⟨st, w.sub, w, Stp.refl, sl.pu, fun i _ d e => sl.pu.at_ i d (by simp) e, fun i hi d e => ?_⟩, ?_⟩
    · have := List.all_eq_true.mp hn i hi
      unfold getS at this
      rw [e] at this; cases this
    · cases e : f r s' with
      | none => rw [e] at p; exact p
      | some q =>
        obtain ⟨fl, s2⟩ := q
        rw [e] at p
        cases fl with
        | next r' => exact p.elim
        | rt d => exact fun v F' H' w' st' rv => p v F' H' w' (st.trans st') (rv.base st.th)
        | brk r' => exact p.elim
        | cnt r' => exact p.elim
        | thr x r' => exact fun σ' F' H' cls dd w' st' pu' rx => p σ' F' H' cls dd w' (st.trans st') (slots_nil pu') rx
  · rw [if_neg hn] at p; exact p.elim
end
end Nw
set_option Elab.async false
set_option linter.all false
set_option maxRecDepth 100000
set_option maxHeartbeats 4000000
/-! Part AE: the late change of told deeds. -/
namespace Nw
open PySem PySem.Spec L2
def okDeedN (N : Nat) : D → Bool
  | .tup [.str _, _, .row xs] => decide (xs.length + N ≤ sizeLine)
  | .tup [.str _, _, .tab _] => true
  | .tup [.str _, _, y] => (scal0 y).isSome
  | .tup [.str w, _] => !(w == ("set" : Str))
  | _ => false
theorem okDeedN_cases {N : Nat} {d : D} (h : okDeedN N d = true) : (∃ w way y, d = .tup [.str w, way, y] ∧ ((∃ xs, y = .row xs ∧ xs.length + N ≤ sizeLine) ∨ (∃ kvs, y = .tab kvs) ∨ (∃ y', scal0 y = some y'))) ∨ (∃ w way, d = .tup [.str w, way] ∧ (w == ("set" : Str)) = false) := by
  unfold okDeedN at h
  split at h
  · exact .inl ⟨_, _, _, rfl, .inl ⟨_, rfl, of_decide_eq_true h⟩⟩
  · exact .inl ⟨_, _, _, rfl, .inr (.inl ⟨_, rfl⟩)⟩
  · rename_i y _ _
    cases e : scal0 y with
    | none => rw [e] at h; cases h
    | some y' => exact .inl ⟨_, _, _, rfl, .inr (.inr ⟨y', e⟩)⟩
  · exact .inr ⟨_, _, rfl, by simpa using h⟩
  · cases h
/-- one turn -/
def tLate (K : PySem.W.Frag) (j : Nat) : TS := fun E σ H => ∃ bt w ws, σ[j]? = some (some (.ref bt)) ∧ H bt = some (.tup ws) ∧ ws[0]? = some (.str w) ∧ w.length ≤ sizeLine ∧ (((w == ("set" : Str)) = false ∧ E.nx σ H) ∨ ((w == ("set" : Str)) = true ∧ ∃ v2 t b, ws[2]? = some v2 ∧ TyX K H v2 (.type t) ∧ kitB t "list" = some b ∧
  (if b = true then ∃ p us, v2 = .ref p ∧ H p = some (.lst us) ∧ us.length < sizeLine ∧ E.nx σ (upd H p (.lst (us ++ [.str "late"]))) else E.nx σ H)))
section
variable {X : Cx} {R : Reg} {W : WX} {n j : Nat} {x : Str} {nx nx2 nx3 s0 s2 s3 k0 k1 k2 k3 k4 cp ip lp ap bp apos cpos epos ifp : Pos} {j0 j1 j2 j3 j4 : Nat}
theorem tup_ix {K : PySem.W.Frag} {H : Hp} {bt : Addr} {ws : List V} {k : Nat} {v : V} {Q : VK} (hb : H bt = some (.tup ws)) (e : ws[k]? = some v) (q : Q v H) : rIx K (.ref bt) (.int (k : Int)) H Q := by
  have hk : k < ws.length := (List.getElem?_eq_some_iff.mp e).1
  have ea : atI ws (k : Int) = some v := by
    unfold atI ixN
    rw [if_pos (Int.natCast_nonneg k), if_pos (by omega)]
    exact e
  exact .inr (.inl ⟨bt, ws, _, v, rfl, rfl, SqT.of hb, ea, q⟩)
theorem late_body {el : List Stmt} (cx : Cxt X R W n) (hN : X.N[j]? = some x) (hv : Vis X.env.scope x) (hg : Gl X "isinstance") (hm : X.mg "isinstance" = none) (hgT : Gl X "list") (hmT : X.mg "list" = none) (hel : el = [])
    (hd : (x == ("__debug__" : Str)) = false := by decide) (hcd : (x == ("__classdict__" : Str)) = false := by decide)
    (hsub0 : PlainIx (.Constant (.int 0) j0 k0) := by exact fun _ _ => rfl) (hsub2 : PlainIx (.Constant (.int 2) j2 k2) := by exact fun _ _ => rfl) (hsub3 : PlainIx (.Constant (.int 2) j3 k3) := by exact fun _ _ => rfl)
    (hmk : behindInMarks .Eq (.Constant (.str "set") j1 k1) = false := by rfl)
    (h1 : starEach [.Subscript (.Name x nx2) (.Constant (.int 2) j2 k2) s2, .Name "list" lp] X.env = (false, eval (.Subscript (.Name x nx2) (.Constant (.int 2) j2 k2) s2) X.env) :: starEach [.Name "list" lp] X.env := by rfl)
    (h2 : starEach [.Name "list" lp] X.env = (false, eval (.Name "list" lp) X.env) :: starEach [] X.env := by rfl) (hpl : (backTo ap (starEach [.Name "list" lp] X.env)).any (·.1) = false := by rfl)
    (hbase : attributeBase (.Subscript (.Name x nx3) (.Constant (.int 2) j3 k3) s3) "append" X.env (eval (.Subscript (.Name x nx3) (.Constant (.int 2) j3 k3) s3) X.env) = eval (.Subscript (.Name x nx3) (.Constant (.int 2) j3 k3) s3) X.env := by rfl)
    (hfew : ((backTo cpos (starEach [.Constant (.str "late") j4 k4] X.env)).all (fun x => !x.1) && (backToKw cpos (keywordEach [] X.env)).all (fun x => x.1.isSome)
      && decide (([.Constant (.str "late") j4 k4] : List Expr).length + ([] : List Keyword).length + (if ([] : List Keyword).isEmpty then 0 else 1) < 30)) = true := by rfl)
    (hline : (apos.endLine == cpos.line) = true := by rfl) (hst : starEach [.Constant (.str "late") j4 k4] X.env = (false, eval (.Constant (.str "late") j4 k4) X.env) :: starEach [] X.env := by rfl) (hplain : (backTo cpos (starEach [] X.env)).any (·.1) = false := by rfl)
    (hs : swapsWith (.Call (.Attribute (.Subscript (.Name x nx3) (.Constant (.int 2) j3 k3) s3) "append" apos) [.Constant (.str "late") j4 k4] [] cpos) none epos.line X.env = pure false := by rfl)
    (hva : ∀ whole, isTrue (.Call (.Name "isinstance" ip) [.Subscript (.Name x nx2) (.Constant (.int 2) j2 k2) s2, .Name "list" lp] [] ap) X.env whole = (do let v ← whole; standAt (Expr.Call (.Name "isinstance" ip) [.Subscript (.Name x nx2) (.Constant (.int 2) j2 k2) s2, .Name "list" lp] [] ap).pos; holding [v] (truthy v)) := by intro _; rfl) :
    PSs X [.If (.BoolOp .And [.Compare (.Subscript (.Name x nx) (.Constant (.int 0) j0 k0) s0) [.Eq] [.Constant (.str "set") j1 k1] cp, .Call (.Name "isinstance" ip) [.Subscript (.Name x nx2) (.Constant (.int 2) j2 k2) s2, .Name "list" lp] [] ap] bp) [.Expr (.Call (.Attribute (.Subscript (.Name x nx3) (.Constant (.int 2) j3 k3) s3) "append" apos) [.Constant (.str "late") j4 k4] [] cpos) epos] el ifp] (tLate X.K j) := by
  subst hel
  have T1 := pt_cmpR (X := X) (pos := cp) (op_eqA (X := X) (nm := R.nm) cx.hr.units) (pe_ix (pos := s0) ix_seq (pe_var (pos := nx) hN hv hd hcd) (pe_int (i := 0) (j := j0) (pos := k0)) hsub0) (pe_str (x := "set") (j := j1) (pos := k1)) hmk
  have T2 := pt_val (X := X) (pe_callB (X := X) (p := ip) (pos := ap) call_isi hg hm (by decide +kernel) (pa_cons (pe_ix (pos := s2) ix_seq (pe_var (pos := nx2) hN hv hd hcd) (pe_int (i := 2) (j := j2) (pos := k2)) hsub2) (pa_cons (pe_bltn (x := "list") (v := .ty "list") (pos := lp) hgT hmT (by decide +kernel) rfl (by decide) (by decide)) pa_nil h2) h1) (by decide) (by decide) h1 hpl) hva
  have A := ps_expr (X := X) (pos := epos) (pe_bm (X := X) (apos := apos) (cpos := cpos) F.plainAttrs_list F.slot_list_append F.type_list_append mt_append (pe_ix (pos := s3) ix_seq (pe_var (pos := nx3) hN hv hd hcd) (pe_int (i := 2) (j := j3) (pos := k3)) hsub3) (pa_cons (pe_str (x := "late") (j := j4) (pos := k4)) pa_nil hst) hbase hfew hline hst hplain) hs
  refine pss_imp (pss_one (ps_if (pos := ifp) (PW.pt (pw_and (pos := bp) T1 (pw_and1 T2))) (pss_one A) pss_nil)) fun E σ H h => ?_
  obtain ⟨bt, w, ws, e1, hb, e0, hw, cs⟩ := h
  refine ⟨.ref bt, e1, tup_ix (k := 0) hb e0 ⟨fun _ => none, .str w, .str "set", (w == ("set" : Str)), fun a o q => (by cases q), ⟨rfl, hw⟩, ⟨rfl, (show ("set" : Str).length ≤ sizeLine by decide)⟩, rfl, (w == ("set" : Str)), rfl, ?_⟩⟩
  rcases cs with ⟨ew, q⟩ | ⟨ew, v2, t, b, e2, ty, kb, q⟩
  · rw [ew]
    exact q
  · rw [ew]
    refine ⟨.ref bt, e1, tup_ix (k := 2) hb e2 ⟨v2, .ty "list", .type t, .type "list", b, rfl, .ty "list", ty, kit_ty kb, b, rfl, ?_⟩⟩
    cases b with
    | false => exact q
    | true =>
      obtain ⟨p, us, rfl, hp, hl, q⟩ := q
      exact ⟨.ref bt, e1, tup_ix (k := 2) hb e2 ⟨.inl ⟨rfl, us, SqL.of hp⟩, p, us, .str "late", rfl, rfl, hp, hl, q⟩⟩
end
end Nw
set_option Elab.async false
set_option linter.all false
set_option maxRecDepth 100000
set_option maxHeartbeats 4000000
/-! Part AF: for deed in deeds: .., the late change of each. -/
namespace Nw
open PySem PySem.Spec L2
def LateP (F : Hp) (vs : List V) (b : Addr) : Prop := ∃ (n : Nat) (bt : Addr) (ws us : List V), vs[n]? = some (V.ref bt) ∧ F bt = some (.tup ws) ∧ ws[2]? = some (V.ref b) ∧ F b = some (.lst us)
def sForLate {S : Type} (pn : List Nat) (i j : Nat) : Sl → Mo S := fun r s => match getS r i with
  | some (.row ds) => if j < r.length ∧ pnL ds = true ∧ ds.all (okDeedN ds.length) = true then some (.next (keepS pn r), s) else none
  | _ => none
section
variable {K : PySem.W.Frag} {nm : Nat → Option Addr} {F H Hb : Hp} {N : Nat} {d y : D} {u v2 : V} {b : Addr} {us : List V}
def OkY (N : Nat) (y : D) : Prop := (∃ xs, y = .row xs ∧ xs.length + N ≤ sizeLine) ∨ (∃ kvs, y = .tab kvs) ∨ (∃ y', scal0 y = some y')
theorem deed_at (h : okDeedN N d = true) (r : Rep K nm F d u) : ∃ (bt : Addr) (w : Str) (ws : List V), u = .ref bt ∧ F bt = some (.tup ws) ∧ ws[0]? = some (.str w) ∧ w.length ≤ sizeLine ∧
    ((∃ way y v2, d = .tup [.str w, way, y] ∧ ws[2]? = some v2 ∧ Rep K nm F y v2 ∧ OkY N y) ∨ (ws[2]? = none ∧ (w == ("set" : Str)) = false)) := by
  rcases okDeedN_cases h with ⟨w, way, y, rfl, hy⟩ | ⟨w, way, rfl, hw⟩
  · obtain ⟨bt, ws, rfl, f, _, v0, w1, rfl, ⟨rfl, hl⟩, va, w2, rfl, _, vb, w3, rfl, r2, e⟩ := r
    exact ⟨bt, w, _, rfl, f, rfl, hl, .inl ⟨way, y, vb, rfl, rfl, r2, hy⟩⟩
  · obtain ⟨bt, ws, rfl, f, _, v0, w1, rfl, ⟨rfl, hl⟩, va, w2, rfl, _, e⟩ := r
    have e : w2 = [] := e
    subst e
    exact ⟨bt, w, _, rfl, f, rfl, hl, .inr ⟨rfl, hw⟩⟩
theorem rep_lst (hy : OkY N y) (r : Rep K nm F y (.ref b)) (f : F b = some (.lst us)) : ∃ xs, y = .row xs ∧ us.length + N ≤ sizeLine := by
  rcases hy with ⟨xs, rfl, hl⟩ | ⟨kvs, rfl⟩ | ⟨y', e⟩
  · obtain ⟨a, vs, e1, e2, _, rr⟩ := r
    cases e1
    rw [f] at e2
    cases e2
    exact ⟨xs, rfl, by rw [rr.length]; exact hl⟩
  · obtain ⟨a, vs, e1, e2, _⟩ := r
    cases e1
    rw [f] at e2
    cases e2
  · cases y with
    | non => cases r
    | bl _ => cases r
    | int _ => cases r
    | str _ => cases r.1
    | _ => cases e
theorem late_new {ds : List D} {vs : List V} (rr : Reps K nm F ds vs) (ok : ds.all (okDeedN N) = true) (hn : NewEls Hb F ds vs) (h : LateP F vs b) : Hb b = none ∧ ∃ us, F b = some (.lst us) ∧ us.length + N ≤ sizeLine := by
  obtain ⟨n, bt, ws, us, e1, e2, e3, e4⟩ := h
  obtain ⟨d, ed, rd⟩ := rr.get' e1
  have okd := List.all_eq_true.mp ok d (List.mem_of_getElem? ed)
  obtain ⟨bt', w, ws', q1, q2, q3, q4, q5⟩ := deed_at okd rd
  cases q1
  rw [e2] at q2
  cases q2
  rcases q5 with ⟨way, y, v2, rfl, q6, q7, q8⟩ | ⟨q6, _⟩
  · rw [e3] at q6
    cases q6
    obtain ⟨xs, rfl, hl⟩ := rep_lst q8 q7 e4
    obtain ⟨p, k1, k2⟩ := hn n _ _ ed e1 bt ws rfl e2 2 (.row xs) rfl rfl
    rw [e3] at k1
    cases k1
    exact ⟨k2, us, e4, hl⟩
  · rw [e3] at q6; cases q6
theorem late_ne {ds : List D} {vs : List V} {a : Addr} (pl : pnL ds = true) (hz : ds.length ≤ sizeLine) (fa : F a = some (.lst vs)) (rr : Reps K nm F ds vs) (ok : ds.all (okDeedN N) = true) : ¬ LateP F vs a := by
  rintro ⟨n, bt, ws, us, e1, e2, e3, e4⟩
  obtain ⟨d, ed, rd⟩ := rr.get' e1
  have okd := List.all_eq_true.mp ok d (List.mem_of_getElem? ed)
  obtain ⟨bt', w, ws', q1, q2, q3, q4, q5⟩ := deed_at okd rd
  cases q1
  rw [e2] at q2
  cases q2
  rcases q5 with ⟨way, y, v2, rfl, q6, q7, q8⟩ | ⟨q6, _⟩
  · rw [e3] at q6
    cases q6
    have pd := pnL_mem pl ed
    have py : pnD y = true := pnL_mem (ds := [.str w, way, y]) (i := 2) pd rfl
    have s1 := rep_sz (d := y) (e := .row ds) py pl q7 ⟨a, vs, rfl, fa, hz, rr⟩
    have s2 := szL_mem ed
    have s1 : szD y = 1 + szL ds := s1
    have s3 : szD (.tup [.str w, way, y]) = 1 + (szD (.str w) + (szD way + (szD y + 0))) := rfl
    omega
  · rw [e3] at q6; cases q6
end
section
variable {X : Cx} {R : Reg} {W : WX} {fr : FrK} {pn nw : List Nat} {body : List Stmt} {i j n : Nat} {x y : Str} {tp ip pos : Pos}
theorem dd_forLate (i j : Nat) (cx : Cxt X R W n) (hp : PassesOwn (model X.prog X.w) X.A X.env X.xe) (hi : i ∈ nw) (hnp : ∀ l ∈ nw, l ∉ pn) (hjp : ∀ l ∈ pn, l ≠ j) (hNi : X.N[i]? = some y) (hvi : Vis X.env.scope y) (hNj : X.N[j]? = some x) (hLj : Loc X.env.scope x) (hb : PSs X body (tLate X.K j))
    (hd : (y == ("__debug__" : Str)) = false := by decide) (hcd : (y == ("__classdict__" : Str)) = false := by decide)
    (hf : X.fn x = true ∨ X.env.scope.names.lookup x = some .local := by first | exact .inl rfl | exact .inr rfl | assumption)
    (hs : ∀ z, foldedSetIterable (.Name y ip) X.env z = pure z := by intro _; rfl) :
    PS X (.For (.Name x tp) (.Name y ip) body [] pos) (tDZd R W fr pn nw (sForLate pn i j)) := ps_imp (ps_for hp cx.calm (pi_list (pe_var hNi hvi hd hcd)) (pg_name cx.nd hNj hLj hf) hb hs) fun E σ H h => by
  obtain ⟨F0, H0, Fb, Hb, F, r, s, z, p⟩ := h
  have p : PostD R fr pn nw F0 H0 Fb Hb (match getS r i with | some (.row ds) => if j < r.length ∧ pnL ds = true ∧ ds.all (okDeedN ds.length) = true then some (.next (keepS pn r), s) else none | _ => none) E W := p
  cases eg : getS r i with
  | none => rw [eg] at p; exact p.elim
  | some d =>
    rw [eg] at p
    cases d with
    | row ds =>
      have p : PostD R fr pn nw F0 H0 Fb Hb (if j < r.length ∧ pnL ds = true ∧ ds.all (okDeedN ds.length) = true then some (.next (keepS pn r), s) else none) E W := p
      by_cases hc : j < r.length ∧ pnL ds = true ∧ ds.all (okDeedN ds.length) = true
      · rw [if_pos hc] at p
        obtain ⟨hjr, pl, ok⟩ := hc
        obtain ⟨v, h1, h2, h3⟩ := z.new i hi _ (getS_some eg)
        obtain ⟨a, vs, rfl, fa, hz, rr⟩ := h2
        have hn : NewEls Hb F ds vs := h3 a vs rfl fa
        have hH : ∀ b o, F b = some (.lst o) → H b = some (.lst o) := fun b o e => z.w.sub.lst e
        have notA : ¬ LateP F vs a := late_ne pl hz fa rr ok
        have pnew : ∀ b, LateP F vs b → Hb b = none := fun b hb => (late_new rr ok hn hb).1
        have plst : ∀ b, LateP F vs b → ∃ us, F b = some (.lst us) ∧ us.length + ds.length ≤ sizeLine := fun b hb => (late_new rr ok hn hb).2
        let LI : Nat → L2.St → Hp → Prop := fun k σc Hc => σc.length = σ.length ∧ (∀ l, l ≠ j → σc[l]? = σ[l]?) ∧ (∀ b, ¬ LateP F vs b → Hc b = H b) ∧ (∀ b, LateP F vs b → ∃ us0 us, F b = some (.lst us0) ∧ Hc b = some (.lst us) ∧ us.length ≤ us0.length + k)
        refine ⟨.ref a, h1, a, rfl, ⟨vs, SqL.of (hH _ _ fa)⟩, fun k m σc Hc => m = ds.length - k ∧ k ≤ ds.length ∧ LI k σc Hc, ⟨_, rfl, Nat.zero_le _, rfl, fun _ _ => rfl, fun _ _ => rfl, fun b hb => ?_⟩, ?_⟩
        · obtain ⟨us, e1, _⟩ := plst b hb
          exact ⟨us, us, e1, hH _ _ e1, Nat.le_refl _⟩
        · rintro k m σc Hc ⟨rfl, hk, l1, l2, l3, l4⟩
          have hca : Hc a = some (.lst vs) := by rw [l3 a notA]; exact hH _ _ fa
          by_cases hlt : k < ds.length
          · obtain ⟨u, eu, ru⟩ := rr.get (List.getElem?_eq_getElem hlt)
            refine .inr ⟨⟨vs, u, SqL.of hca, eu⟩, fun σn Hn => (ds.length - (k + 1)) = ds.length - (k + 1) ∧ k + 1 ≤ ds.length ∧ LI (k + 1) σn Hn, fun σ' H' q => ⟨_, by omega, q⟩, fun x' H' y' => ?_⟩
            obtain ⟨rfl, y'⟩ := y'
            have ex := y' vs (SqL.of hca)
            rw [eu] at ex
            cases ex
            have okd := List.all_eq_true.mp ok _ (List.getElem_mem hlt)
            obtain ⟨bt, w, ws, rfl, fb, e0, hw, cs⟩ := deed_at okd ru
            have nbt : ¬ LateP F vs bt := fun hb => by
              obtain ⟨us, e1, _⟩ := plst bt hb
              rw [fb] at e1; cases e1
            have hbt : H' bt = some (.tup ws) := by rw [l3 bt nbt]; exact z.w.sub.tup fb
            have hjl : j < σc.length := by
              rw [l1, ← z.pu.len]
              exact hjr
            have next : ∀ Hn, (∀ b, ¬ LateP F vs b → Hn b = H b) → (∀ b, LateP F vs b → ∃ us0 us, F b = some (.lst us0) ∧ Hn b = some (.lst us) ∧ us.length ≤ us0.length + (k + 1)) → LI (k + 1) (σc.set j (some (.ref bt))) Hn := fun Hn a1 a2 => ⟨by rw [List.length_set]; exact l1, fun l hl => by rw [List.getElem?_set_ne fun c => hl c.symm]; exact l2 l hl, a1, a2⟩
            have stay : LI (k + 1) (σc.set j (some (.ref bt))) H' := next H' l3 fun b hb => by
              obtain ⟨us0, us, q1, q2, q3⟩ := l4 b hb
              exact ⟨us0, us, q1, q2, by omega⟩
            refine ⟨bt, w, ws, List.getElem?_set_self hjl, hbt, e0, hw, ?_⟩
            cases ew : (w == ("set" : Str)) with
            | false => exact .inl ⟨rfl, rfl, hlt, stay⟩
            | true =>
              refine .inr ⟨rfl, ?_⟩
              rcases cs with ⟨way, yy, v2, ed, e2, ry, hy⟩ | ⟨_, e2⟩
              · rcases hy with ⟨xs, rfl, hl⟩ | ⟨kvs, rfl⟩ | ⟨y2, ey⟩
                · obtain ⟨b, us, rfl, f, _, rx⟩ := ry
                  have hb : LateP F vs b := ⟨k, bt, ws, us, eu, fb, e2, f⟩
                  obtain ⟨us0, us1, q1, q2, q3⟩ := l4 b hb
                  rw [f] at q1
                  cases q1
                  refine ⟨.ref b, "list", true, e2, .base (.lst q2), rfl, ?_⟩
                  rw [if_pos rfl]
                  refine ⟨b, us1, rfl, q2, by have := rx.length; omega, rfl, hlt, next _ (fun c hc => ?_) fun c hc => ?_⟩
                  · have ne : c ≠ b := fun e => hc (by rw [e]; exact hb)
                    rw [upd_ne ne]; exact l3 c hc
                  · by_cases ne : c = b
                    · subst ne
                      exact ⟨us, _, f, upd_same, by rw [List.length_append, List.length_singleton]; omega⟩
                    · rw [upd_ne ne]
                      obtain ⟨us2, us3, q4, q5, q6⟩ := l4 c hc
                      exact ⟨us2, us3, q4, q5, by omega⟩
                · obtain ⟨b, us, rfl, f, _, rx⟩ := ry
                  have nb : ¬ LateP F vs b := fun hb => by
                    obtain ⟨us, e1, _⟩ := plst b hb
                    rw [f] at e1; cases e1
                  refine ⟨.ref b, "dict", false, e2, ?_, rfl, ?_⟩
                  · rcases z.w.sub.dK f with q | ⟨o, q⟩
                    · exact .base (.dK (by rw [l3 b nb]; exact q))
                    · exact .fDict (by rw [l3 b nb]; exact q)
                  · rw [if_neg Bool.false_ne_true]
                    exact ⟨rfl, hlt, stay⟩
                · cases yy with
                  | non => exact ⟨v2, "NoneType", false, e2, by rw [show v2 = V.non from ry]; exact .base .non, rfl, by rw [if_neg Bool.false_ne_true]; exact ⟨rfl, hlt, stay⟩⟩
                  | bl c => exact ⟨v2, "bool", false, e2, by rw [show v2 = V.bl c from ry]; exact .base (.bl c), rfl, by rw [if_neg Bool.false_ne_true]; exact ⟨rfl, hlt, stay⟩⟩
                  | int c => exact ⟨v2, "int", false, e2, by rw [show v2 = V.int c from ry]; exact .base (.int c), rfl, by rw [if_neg Bool.false_ne_true]; exact ⟨rfl, hlt, stay⟩⟩
                  | str c => exact ⟨v2, "str", false, e2, by rw [ry.1]; exact .base (.str c), rfl, by rw [if_neg Bool.false_ne_true]; exact ⟨rfl, hlt, stay⟩⟩
                  | _ => cases ey
              · rw [ew] at e2; cases e2
          · refine .inl ⟨⟨vs, SqL.of hca, by rw [rr.length]; omega⟩, ?_⟩
            classical
            let G : Hp := fun b => if LateP F vs b then none else F b
            have gF : ∀ b o, G b = some o → ¬ LateP F vs b ∧ F b = some o := fun b o e => by
              have e : (if LateP F vs b then none else F b) = some o := e
              by_cases hb : LateP F vs b
              · rw [if_pos hb] at e; cases e
              · rw [if_neg hb] at e; exact ⟨hb, e⟩
            have gN : ∀ b, ¬ LateP F vs b → G b = F b := fun b hb => if_neg hb
            have sm : Same Fb G := fun b o e => by
              have nb : ¬ LateP F vs b := fun hb => by
                rw [z.sb.free (pnew b hb)] at e; cases e
              rw [gN b nb]; exact z.st.fs b o e
            have pF : ∀ b, LateP F vs b → F b ≠ none := fun b hb => by
              obtain ⟨us, e1, _⟩ := plst b hb
              rw [e1]; exact fun z => nomatch z
            have pins : ∀ l ∈ pn, ∀ d, (keepS pn r)[l]? = some (some d) → ∃ v, σc[l]? = some (some v) ∧ Rep R.K R.nm Fb d v := fun l hl d e => by
              obtain ⟨u, e1, e2⟩ := z.pin l hl d (keepS_at e).2
              exact ⟨u, by rw [l2 l (hjp l hl)]; exact e1, e2⟩
            refine p σc G Hc ⟨z.st0, z.sb, ⟨fun b o e => ?_, fun b m => ?_, ?_⟩, ⟨sm, fun b o m e => ?_, fun b e => ?_, fun b e => ?_⟩, ⟨by rw [keepS_len, l1]; exact z.pu.len, fun l d _ e => ?_⟩, pins, fun l hl d e => absurd (keepS_at e).1 (hnp l hl)⟩
            · obtain ⟨nb, e⟩ := gF b o e
              have q := z.w.sub b o e
              rw [← l3 b nb] at q
              exact q
            · have q := z.w.mu b m
              have nb : ¬ LateP F vs b := fun hb => pF b hb q
              rw [gN b nb]; exact q
            · exact R.loc s H _ z.w.si fun b m => l3 b fun hb => pF b hb (z.w.mu b m)
            · have nb : ¬ LateP F vs b := fun hb => by rw [pnew b hb] at e; cases e
              rw [l3 b nb, gN b nb]
              exact z.st.hs b o m e
            · cases eb : G b with
              | none => exact absurd eb e
              | some o => exact z.st.nw b (by rw [(gF b o eb).2]; exact fun z => nomatch z)
            · have nb : ¬ LateP F vs b := fun hb => by
                obtain ⟨_, us, _, q, _⟩ := l4 b hb
                rw [e] at q; cases q
              rw [l3 b nb] at e
              exact z.st.th b e
            · obtain ⟨u, e1, e2⟩ := pins l (keepS_at e).1 d e
              exact ⟨u, e1, e2.mono sm⟩
      · rw [if_neg hc] at p; exact p.elim
    | _ => exact p.elim
end
end Nw
set_option Elab.async false
set_option linter.all false
set_option maxRecDepth 100000
set_option maxHeartbeats 4000000
/-! Part AG: min of three numbers. -/
namespace Nw
open PySem PySem.Spec L2
def mn2 (i j : Int) : Int := if j < i then j else i
def min3D : List D → Option D
  | [.int i, .int j, .int k] => some (.int (mn2 (mn2 i j) k))
  | _ => none
section
variable {X : Cx} {R : Reg} {W : WX} {O : List Nat} {e : Expr} {es : List Expr} {fs : Sl → M R.S (List D)} {pos : Pos} {n : Nat}
theorem nuMin2_int (i j : Int) : nuMin2 (.int i) (.int j) = some (.int (mn2 i j)) := by
  show (some (decide (j < i))).map (fun c => if c = true then V.int j else V.int i) = _
  unfold mn2
  by_cases h : j < i <;> simp [h]
theorem sat_min3 : CallSat R (rNuC3 nuMin3) min3D := fun xs ds d' F H s Q w rs h k => by
  unfold min3D at h
  split at h
  · rename_i i j m
    cases h
    obtain ⟨v, ws, rfl, rfl, u, us, rfl, rfl, t, ts, rfl, rfl, e2⟩ := rs
    rw [show ts = [] from e2]
    refine ⟨.int i, .int j, .int m, .int (mn2 (mn2 i j) m), rfl, ?_, k _ F H w Stp.refl rfl⟩
    unfold nuMin3
    rw [nuMin2_int]
    exact nuMin2_int _ _
  · cases h
theorem de_min3 {p : Pos} (c : Cxt X R W n) (hg : Gl X "min") (hm : X.mg "min" = none) (ha : PA X (e :: es) (tDA R W O fs)) (he : starEach (e :: es) X.env = (false, eval e X.env) :: starEach es X.env := by rfl) (hpl : (backTo pos (starEach es X.env)).any (·.1) = false := by rfl) :
    PE X (.Call (.Name "min" p) (e :: es) [] pos) (tD R W O (dAll min3D fs)) := de_callB (call_min3Nu c.calm) sat_min3 hg hm (by decide +kernel) ha (he := he) (hpl := hpl)
end
end Nw
set_option Elab.async false
set_option linter.all false
set_option maxRecDepth 100000
set_option maxHeartbeats 4000000
/-! Part AH: texts: join, split, startswith. -/
namespace Nw
open PySem PySem.Spec L2
def splitDD : D → List D → Option D
  | .str a, [.str b] => if (b.length == 0) = false ∧ a.length + 2 ≤ sizeLine ∧ (Txt.split a b).length ≤ sizeLine ∧ (∀ x ∈ Txt.split a b, x.length ≤ sizeLine) then some (.row ((Txt.split a b).map D.str)) else none
  | _, _ => none
def startsD : D → List D → Option D
  | .str a, [.str b] => some (.bl (Txt.startswith a b))
  | _, _ => none
def joinDD : D → List D → Option D
  | .str a, [.row xs] => (strsD xs).bind fun ys => if (ys.map (·.length)).sum + ys.length * a.length ≤ 16777216 ∧ (Txt.join a ys).length ≤ sizeLine then some (.str (Txt.join a ys)) else none
  | _, _ => none
section
variable {X : Cx} {R : Reg} {W : WX} {O : List Nat} {e o : Expr} {es : List Expr} {f : Sl → M R.S D} {fs : Sl → M R.S (List D)} {pos apos cpos : Pos} {n : Nat}
theorem sat_starts : MtSat R (fun x xs H Q => ∃ a b, x = .str a ∧ xs = [.str b] ∧ Q (.bl (Txt.startswith a b)) H) startsD := fun x xs d ds d' F H s Q w rx rs h k => by
  unfold startsD at h
  split at h
  · cases h
    obtain ⟨v, ws, rfl, rb, e2⟩ := rs
    rw [show ws = [] from e2]
    exact ⟨_, _, rx.1, by rw [rb.1], k _ F H w Stp.refl rfl⟩
  · cases h
theorem de_starts (c : Cxt X R W n) (ho : PE X o (tD R W O f)) (ha : PA X [e] (tDA R W O fs))
    (hbase : attributeBase o "startswith" X.env (eval o X.env) = eval o X.env := by rfl)
    (hfew : ((backTo cpos (starEach [e] X.env)).all (fun x => !x.1) && (backToKw cpos (keywordEach [] X.env)).all (fun x => x.1.isSome)
      && decide (([e] : List Expr).length + ([] : List Keyword).length + (if ([] : List Keyword).isEmpty then 0 else 1) < 30)) = true := by rfl)
    (hline : (apos.endLine == cpos.line) = true := by rfl) (hst : starEach [e] X.env = (false, eval e X.env) :: starEach [] X.env := by rfl) (hplain : (backTo cpos (starEach [] X.env)).any (·.1) = false := by rfl) :
    PE X (.Call (.Attribute o "startswith" apos) [e] [] cpos) (tD R W O (dMt "str" startsD f fs)) := de_mt PySem.F.plainAttrs_str PySem.F.slot_str_startswith PySem.F.type_str_startswith mt_startswith c.hK sat_starts ho ha hbase hfew hline hst hplain
theorem reps_strs_of {K : PySem.W.Frag} {nm : Nat → Option Addr} {F : Hp} : ∀ {ys : List Str}, (∀ x ∈ ys, x.length ≤ sizeLine) → Reps K nm F (ys.map D.str) (ys.map V.str)
  | [], _ => rfl
  | y :: ys, h => ⟨.str y, ys.map V.str, rfl, ⟨rfl, h y List.mem_cons_self⟩, reps_strs_of fun x hx => h x (List.mem_cons_of_mem _ hx)⟩
theorem strs_vals {K : PySem.W.Frag} {nm : Nat → Option Addr} {F : Hp} : ∀ {ys : List Str} {vs : List V}, Reps K nm F (ys.map D.str) vs → vs = ys.map V.str
  | [], vs, r => r
  | y :: ys, vs, r => by
    obtain ⟨v, ws, rfl, r1, r2⟩ := r
    rw [r1.1, strs_vals r2]; rfl
theorem sat_split : MtSat R (fun x xs H Q => ∃ a b, x = .str a ∧ xs = [.str b] ∧ (b.length == 0) = false ∧ a.length + 2 ≤ sizeLine ∧ rNewStrs (Txt.split a b) H Q) splitDD := fun x xs d ds d' F H s Q w rx rs h k => by
  unfold splitDD at h
  split at h
  · rename_i a b
    by_cases hc : (b.length == 0) = false ∧ a.length + 2 ≤ sizeLine ∧ (Txt.split a b).length ≤ sizeLine ∧ (∀ x ∈ Txt.split a b, x.length ≤ sizeLine)
    · rw [if_pos hc] at h
      cases h
      obtain ⟨v, ws, rfl, rb, e2⟩ := rs
      rw [show ws = [] from e2]
      refine ⟨_, _, rx.1, by rw [rb.1], hc.1, hc.2.1, fun p hp => ?_⟩
      exact new_row w (by rw [List.length_map]; exact hc.2.2.1) (reps_strs_of hc.2.2.2) hp k
    · rw [if_neg hc] at h; cases h
  · cases h
theorem sat_join (hK : R.K = X.K) : MtSat R (fun x xs H Q => ∃ a p, ∃ ys : List Str, x = .str a ∧ xs = [.ref p] ∧ (SqL X.K H p (ys.map V.str) ∨ SqT X.K H p (ys.map V.str)) ∧ (ys.map (·.length)).sum + ys.length * a.length ≤ 16777216 ∧ Q (.str (Txt.join a ys)) H) joinDD := fun x xs d ds d' F H s Q w rx rs h k => by
  unfold joinDD at h
  split at h
  · rename_i a es
    obtain ⟨ys, e1, h⟩ := bind_some h
    by_cases hc : (ys.map (·.length)).sum + ys.length * a.length ≤ 16777216 ∧ (Txt.join a ys).length ≤ sizeLine
    · rw [if_pos hc] at h
      cases h
      obtain ⟨v, ws, rfl, ⟨p, vs, rfl, f1, _, rr⟩, e2⟩ := rs
      rw [show ws = [] from e2]
      rw [strsD_some e1] at rr
      rw [strs_vals rr] at f1
      exact ⟨a, p, ys, rx.1, rfl, .inl (SqL.of (w.sub.lst f1)), hc.1, k _ F H w Stp.refl ⟨rfl, hc.2⟩⟩
    · rw [if_neg hc] at h; cases h
  · cases h
theorem de_split (c : Cxt X R W n) (ho : PE X o (tD R W O f)) (ha : PA X [e] (tDA R W O fs))
    (hbase : attributeBase o "split" X.env (eval o X.env) = eval o X.env := by rfl)
    (hfew : ((backTo cpos (starEach [e] X.env)).all (fun x => !x.1) && (backToKw cpos (keywordEach [] X.env)).all (fun x => x.1.isSome)
      && decide (([e] : List Expr).length + ([] : List Keyword).length + (if ([] : List Keyword).isEmpty then 0 else 1) < 30)) = true := by rfl)
    (hline : (apos.endLine == cpos.line) = true := by rfl) (hst : starEach [e] X.env = (false, eval e X.env) :: starEach [] X.env := by rfl) (hplain : (backTo cpos (starEach [] X.env)).any (·.1) = false := by rfl) :
    PE X (.Call (.Attribute o "split" apos) [e] [] cpos) (tD R W O (dMt "str" splitDD f fs)) := de_mt PySem.F.plainAttrs_str PySem.F.slot_str_split PySem.F.type_str_split mt_split c.hK sat_split ho ha hbase hfew hline hst hplain
theorem de_join (c : Cxt X R W n) (ho : PE X o (tD R W O f)) (ha : PA X [e] (tDA R W O fs))
    (hbase : attributeBase o "join" X.env (eval o X.env) = eval o X.env := by rfl)
    (hfew : ((backTo cpos (starEach [e] X.env)).all (fun x => !x.1) && (backToKw cpos (keywordEach [] X.env)).all (fun x => x.1.isSome)
      && decide (([e] : List Expr).length + ([] : List Keyword).length + (if ([] : List Keyword).isEmpty then 0 else 1) < 30)) = true := by rfl)
    (hline : (apos.endLine == cpos.line) = true := by rfl) (hst : starEach [e] X.env = (false, eval e X.env) :: starEach [] X.env := by rfl) (hplain : (backTo cpos (starEach [] X.env)).any (·.1) = false := by rfl) :
    PE X (.Call (.Attribute o "join" apos) [e] [] cpos) (tD R W O (dMt "str" joinDD f fs)) := de_mt PySem.F.plainAttrs_str PySem.F.slot_str_join PySem.F.type_str_join mt_join c.hK (sat_join c.hK) ho ha hbase hfew hline hst hplain
/-- l + x.replace(y1, z1).replace(y2, z2), all written -/
def repAddD (l y1 z1 y2 z2 : Str) : D → Option D
  | .str x => if x.length + (x.length + 1) * z1.length ≤ 16777216 ∧ (Txt.replace x y1 z1).length + ((Txt.replace x y1 z1).length + 1) * z2.length ≤ 16777216 ∧ l.length + (Txt.replace (Txt.replace x y1 z1) y2 z2).length ≤ sizeLine ∧ (l ++ Txt.replace (Txt.replace x y1 z1) y2 z2).length ≤ sizeLine then some (.str (l ++ Txt.replace (Txt.replace x y1 z1) y2 z2)) else none
  | _ => none
theorem pe_opLit {op : Operator} {r : R2} {l : Str} {j : Nat} {p0 : Pos} {b : Expr} {tb : TE} (ho : OpR X (binaryOp op) r) (hb : PET X b tb) : PE X (.BinOp (.Constant (.str l) j p0) op b pos) (tOp r (tC (.str l)) tb) := ⟨fun pins s σ H Q I h =>
  wpAny_BinOp (Calls.Constant_str (thn (hb pins _ σ H _ (by show 1 ≤ s.toks + 1; omega) (I.tok _) h) fun u s2 ⟨y, H2, I2, r2, q2⟩ => ho pins s2 σ H2 (V.str l) y _ u Q I2 ⟨_, rfl⟩ r2 q2))⟩
theorem de_repAdd {l y1 z1 y2 z2 : Str} {j k1 k2 k3 k4 : Nat} {p0 c1 c2 c3 c4 a1 a2 q1 q2 : Pos} (ho : PE X o (tD R W O f)) (hy1 : (y1 == z1) = false := by decide) (hy2 : (y2 == z2) = false := by decide)
    (hst1 : starEach [.Constant (.str y1) k1 c1, .Constant (.str z1) k2 c2] X.env = [(false, eval (.Constant (.str y1) k1 c1) X.env), (false, eval (.Constant (.str z1) k2 c2) X.env)] := by rfl)
    (hbase1 : attributeBase o "replace" X.env (eval o X.env) = eval o X.env := by rfl) (hline1 : (a1.endLine == q1.line) = true := by rfl)
    (hst2 : starEach [.Constant (.str y2) k3 c3, .Constant (.str z2) k4 c4] X.env = [(false, eval (.Constant (.str y2) k3 c3) X.env), (false, eval (.Constant (.str z2) k4 c4) X.env)] := by rfl)
    (hbase2 : attributeBase (.Call (.Attribute o "replace" a1) [.Constant (.str y1) k1 c1, .Constant (.str z1) k2 c2] [] q1) "replace" X.env (eval (.Call (.Attribute o "replace" a1) [.Constant (.str y1) k1 c1, .Constant (.str z1) k2 c2] [] q1) X.env) = eval (.Call (.Attribute o "replace" a1) [.Constant (.str y1) k1 c1, .Constant (.str z1) k2 c2] [] q1) X.env := by rfl) (hline2 : (a2.endLine == q2.line) = true := by rfl) :
    PE X (.BinOp (.Constant (.str l) j p0) .Add (.Call (.Attribute (.Call (.Attribute o "replace" a1) [.Constant (.str y1) k1 c1, .Constant (.str z1) k2 c2] [] q1) "replace" a2) [.Constant (.str y2) k3 c3, .Constant (.str z2) k4 c4] [] q2) pos) (tD R W O (dUn (repAddD l y1 z1 y2 z2) f)) :=
  pe_imp (pe_opLit op_add_str (CwR.pet_replT (CwR.pet_replC ho hy1 hst1 hbase1 hline1) hy2 hst2 hbase2 hline2)) fun σ H Q h => by
    obtain ⟨F, ρ, s, w, pu, p⟩ := h
    refine ⟨F, ρ, s, w, pu, p.bnd.imp (fun d s1 F1 H1 w1 st1 p1 v rv => ?_) fun _ _ _ _ _ _ z => z⟩
    obtain ⟨d', ed, k⟩ := p1.lift
    cases d with
    | str x =>
      have ed : (if x.length + (x.length + 1) * z1.length ≤ 16777216 ∧ (Txt.replace x y1 z1).length + ((Txt.replace x y1 z1).length + 1) * z2.length ≤ 16777216 ∧ l.length + (Txt.replace (Txt.replace x y1 z1) y2 z2).length ≤ sizeLine ∧ (l ++ Txt.replace (Txt.replace x y1 z1) y2 z2).length ≤ sizeLine then some (D.str (l ++ Txt.replace (Txt.replace x y1 z1) y2 z2)) else none) = some d' := ed
      by_cases hc : x.length + (x.length + 1) * z1.length ≤ 16777216 ∧ (Txt.replace x y1 z1).length + ((Txt.replace x y1 z1).length + 1) * z2.length ≤ 16777216 ∧ l.length + (Txt.replace (Txt.replace x y1 z1) y2 z2).length ≤ sizeLine ∧ (l ++ Txt.replace (Txt.replace x y1 z1) y2 z2).length ≤ sizeLine
      · rw [if_pos hc] at ed
        cases ed
        exact ⟨x, rv.1, hc.1, _, rfl, hc.2.1, l, _, rfl, rfl, hc.2.2.1, k F1 H1 w1 Stp.refl _ ⟨rfl, hc.2.2.2⟩⟩
      · rw [if_neg hc] at ed; cases ed
    | _ => cases ed
end
end Nw
set_option Elab.async false
set_option linter.all false
set_option maxRecDepth 100000
set_option maxHeartbeats 4000000
/-! Part AI: errors with two fields; a try whose except suite tells them; pairs set at once. -/
namespace Nw
open PySem PySem.Spec L2
/-! ### classes whose __init__ keeps two fields -/
def IniC2 (K : PySem.W.Frag) (c : Cl) (m m2 : Str) (st : List Stmt) (ar : Arguments) (sc : Scope) (qn : Str) : Prop := IniC K c m st ar sc qn ∧ PySem.W.findIn K (.ref (eA K c)) m2 = some none
def iniB2 (K : PySem.W.Frag) (c : Cl) (m m2 : Str) : Bool := iniB K c m && decide (PySem.W.findIn K (.ref (eA K c)) m2 = some none)
theorem iniC2_of {K : PySem.W.Frag} {c : Cl} {m m2 : Str} {st : List Stmt} {ar : Arguments} {sc : Scope} {qn : Str} (h : iniB2 K c m m2 = true) (xc : XC K c) (fn : ∃ fd, FunD K "__init__" qn ar st sc [] [] (He.ma K (eA K c) "__init__") fd) : IniC2 K c m m2 st ar sc qn := by
  obtain ⟨h1, h2⟩ := Bool.and_eq_true_iff.mp h
  exact ⟨iniC_of h1 xc fn, of_decide_eq_true h2⟩
def spIni2 (C : Addr) (m m2 : Str) : Sp := fun vs H Q _ => ∃ (a : Addr) (v u : V), vs = [.ref a, v, u] ∧ H a = some (exo a C none) ∧ ∀ d, H d = none → d ≠ a → Q .non (upd (upd (upd H d (exd d [(m, v)])) a (exo a C (some d))) d (exd d [(m2, u), (m, v)]))
section
variable {P : Program} {w : World} {K : PySem.W.Frag} {mg : Str → Option Value} {base : Heap} {qual : Str} {params : Arguments} {scope : Scope} {f : Addr} {fd : FuncData} {C : Addr} {m m2 : Str} {p1 p2 p3 p4 p5 p6 p7 p8 : Pos} {CX : CXT} {k : Nat}
theorem fn_ini2 (F : FunD K "__init__" qual params [.Assign [.Attribute (.Name "self" p1) m p2] (.Name m p3) p4, .Assign [.Attribute (.Name "self" p5) m2 p6] (.Name m2 p7) p8] scope [] [] f fd) (S : FnScope ["self", m, m2] ["self", m, m2] scope) (T : OexC K C) (hno : PySem.W.findIn K (.ref C) m = some none) (hno2 : PySem.W.findIn K (.ref C) m2 = some none)
    (hv1 : Vis scope "self") (hv2 : Vis scope m) (hv3 : Vis scope m2) (hm1 : (m == ("__debug__" : Str)) = false) (hm2 : (m == ("__classdict__" : Str)) = false) (hm3 : (m2 == ("__debug__" : Str)) = false) (hm4 : (m2 == ("__classdict__" : Str)) = false)
    (hs : ∀ env : Env, swapsWith (.Name m p3) (some (.Attribute (.Name "self" p1) m p2)) p4.line env = pure false) (hs2 : ∀ env : Env, swapsWith (.Name m2 p7) (some (.Attribute (.Name "self" p5) m2 p6)) p8.line env = pure false) : FnOk P w K mg base CX (k + 1) f fd ["self", m, m2] (spIni2 C m m2) := by
  refine F.ok S (fun vs H Q E h => by obtain ⟨a, v, u, rfl, _⟩ := h; rfl) fun cdv A outer s H vs Q E hr hsp => ?_
  obtain ⟨a, v, u, rfl, ha, hq⟩ := hsp
  refine ⟨_, pss_cons (ps_ost (X := cxOf CX P w K mg base ["self", m, m2] qual scope f cdv A outer s H E) (pe_var (i := 0) rfl hv1 (by decide) (by decide)) (pe_var (i := 1) rfl hv2 hm1 hm2) (hs _)) (pss_one (ps_ost (X := cxOf CX P w K mg base ["self", m, m2] qual scope f cdv A outer s H E) (pe_var (i := 0) rfl hv1 (by decide) (by decide)) (pe_var (i := 2) rfl hv3 hm3 hm4) (hs2 _))), ?_⟩
  exact ⟨v, rfl, .ref a, rfl, a, C, rfl, T, hno, .inl ⟨ha, fun dx n ne => ⟨u, rfl, .ref a, rfl, a, C, rfl, T, hno2, .inr ⟨dx, [(m, v)], upd_same, by rw [upd_ne ne, upd_same], (by show 1 ≤ 900; decide), hq dx n ne⟩⟩⟩⟩
theorem fn_iniH2 (F : FunD K "__init__" qual params [.Assign [.Attribute (.Name "self" p1) m p2] (.Name m p3) p4, .Assign [.Attribute (.Name "self" p5) m2 p6] (.Name m2 p7) p8] scope [] [] f fd) (S : FnScope ["self", m, m2] ["self", m, m2] scope) (T : OexC K C) (hno : PySem.W.findIn K (.ref C) m = some none) (hno2 : PySem.W.findIn K (.ref C) m2 = some none)
    (hv1 : Vis scope "self") (hv2 : Vis scope m) (hv3 : Vis scope m2) (hm1 : (m == ("__debug__" : Str)) = false) (hm2 : (m == ("__classdict__" : Str)) = false) (hm3 : (m2 == ("__debug__" : Str)) = false) (hm4 : (m2 == ("__classdict__" : Str)) = false)
    (hs : ∀ env : Env, swapsWith (.Name m p3) (some (.Attribute (.Name "self" p1) m p2)) p4.line env = pure false) (hs2 : ∀ env : Env, swapsWith (.Name m2 p7) (some (.Attribute (.Name "self" p5) m2 p6)) p8.line env = pure false) : L2H.FnH P w K mg base CX (k + 1) f fd ["self", m, m2] (spIni2 C m m2) := by
  obtain ⟨oc, od, dV, kV, doc, pm, an, cdv, ct, osl, rfl, lk, hcd, _, _⟩ := F.ex
  refine L2H.fn_ofH lk hcd S (fun vs H Q E h => by obtain ⟨a, v, u, rfl, _⟩ := h; rfl) fun A outer s H vs Q E p hot hr hsp => ?_
  obtain ⟨a, v, u, rfl, ha, hq⟩ := hsp
  refine ⟨_, pss_cons (ps_ost (X := L2H.cxH CX P w K mg base ["self", m, m2] qual scope f cdv A outer s H E p) (pe_var (i := 0) rfl hv1 (by decide) (by decide)) (pe_var (i := 1) rfl hv2 hm1 hm2) (hs _)) (pss_one (ps_ost (X := L2H.cxH CX P w K mg base ["self", m, m2] qual scope f cdv A outer s H E p) (pe_var (i := 0) rfl hv1 (by decide) (by decide)) (pe_var (i := 2) rfl hv3 hm3 hm4) (hs2 _))), ?_⟩
  exact ⟨v, rfl, .ref a, rfl, a, C, rfl, T, hno, .inl ⟨ha, fun dx n ne => ⟨u, rfl, .ref a, rfl, a, C, rfl, T, hno2, .inr ⟨dx, [(m, v)], upd_same, by rw [upd_ne ne, upd_same], (by show 1 ≤ 900; decide), hq dx n ne⟩⟩⟩⟩
end
structure IniF2 (P : Program) (w : World) (K : PySem.W.Frag) (mg : Str → Option Value) (base : Heap) (c : Cl) (m m2 : Str) : Prop where
  T : OexC K (eA K c)
  xc : XC K c
  no : PySem.W.findIn K (.ref (eA K c)) m = some none
  no2 : PySem.W.findIn K (.ref (eA K c)) m2 = some none
  mgx : mg c.name = some (.ref (eA K c))
  ex : ∃ fI fd, PySem.W.findIn K (.ref (eA K c)) "__init__" = some (some (.ref fI)) ∧ PySem.W.typeIn K (.ref fI) = some (.type "function") ∧ Binds K fd ["self", m, m2] [] ∧ (FnOk P w K mg base (L2.CX P w) 1 fI fd ["self", m, m2] (spIni2 (eA K c) m m2)) ∧ L2H.FnH P w K mg base (L2.CX P w) 1 fI fd ["self", m, m2] (spIni2 (eA K c) m m2)
theorem iniF2_of {P : Program} {w : World} {K : PySem.W.Frag} {mg : Str → Option Value} {base : Heap} {c : Cl} {m m2 : Str} {ar : Arguments} {sc : Scope} {qn : Str} {p1 p2 p3 p4 p5 p6 p7 p8 : Pos} (h : IniC2 K c m m2 [.Assign [.Attribute (.Name "self" p1) m p2] (.Name m p3) p4, .Assign [.Attribute (.Name "self" p5) m2 p6] (.Name m2 p7) p8] ar sc qn) (hm : mg c.name = some (.ref (eA K c)))
    (S : FnScope ["self", m, m2] ["self", m, m2] sc) (hv1 : Vis sc "self") (hv2 : Vis sc m) (hv3 : Vis sc m2) (hm1 : (m == ("__debug__" : Str)) = false) (hm2 : (m == ("__classdict__" : Str)) = false) (hm3 : (m2 == ("__debug__" : Str)) = false) (hm4 : (m2 == ("__classdict__" : Str)) = false)
    (hs : ∀ env : Env, swapsWith (.Name m p3) (some (.Attribute (.Name "self" p1) m p2)) p4.line env = pure false) (hs2 : ∀ env : Env, swapsWith (.Name m2 p7) (some (.Attribute (.Name "self" p5) m2 p6)) p8.line env = pure false)
    (hb : ∀ (kV doc pm : Value) (an : Option Addr) (cdv ct : Value) (us : List Value), us.length = (["self", m, m2] : List Str).length → bindArgs (PySem.W.fnOf "__init__" qn ar [.Assign [.Attribute (.Name "self" p1) m p2] (.Name m p3) p4, .Assign [.Attribute (.Name "self" p5) m2 p6] (.Name m2 p7) p8] sc .none kV doc pm an cdv ct) ⟨us, []⟩ = pure ((["self", m, m2] : List Str).zip us)) : IniF2 P w K mg base c m m2 := by
  obtain ⟨h, no2⟩ := h
  obtain ⟨fd, F⟩ := h.fn
  exact ⟨h.T, h.xc, h.no, no2, hm, _, fd, h.ini, h.ty, F.bindsN hb, fn_ini2 F S h.T h.no no2 hv1 hv2 hv3 hm1 hm2 hm3 hm4 hs hs2, fn_iniH2 F S h.T h.no no2 hv1 hv2 hv3 hm1 hm2 hm3 hm4 hs hs2⟩
section
variable {S : Type}
def thr2 (c : Cl) (m m2 : Str) (r : Sl) (ds : List D) (s : S) : Option (Flw × S) := match ds with
  | [d, e] => some (.thr ⟨c, [(m2, e), (m, d)]⟩ r, s)
  | _ => none
def sRaiseF2 (c : Cl) (m m2 : Str) (fs : Sl → M S (List D)) : Sl → Mo S := fun r => liftX (fs r) r fun ds s => thr2 c m m2 r ds s
/-- try: .. except c' as (slot i): return (z, e.m, e.m2) -/
def tryKR (cs : List Cl) (c' : Cl) (i : Nat) (z m m2 : Str) : Option (Flw × S) → Option (Flw × S)
  | some (.thr x r, s) => if x.c ∈ cs ∧ i < r.length then (if subC x.c c' = true then (if x.c = c' then (match x.fs.lookup m, x.fs.lookup m2 with | some d, some e => some (.rt (.tup [.str z, d, e]), s) | _, _ => none) else none) else some (.thr x r, s)) else none
  | some (.next r, s) => some (.next r, s)
  | some (.rt d, s) => some (.rt d, s)
  | some (.brk r, s) => some (.brk r, s)
  | some (.cnt r, s) => some (.cnt r, s)
  | none => none
def sTryR (cs : List Cl) (c' : Cl) (i : Nat) (z m m2 : Str) (f : Sl → Mo S) : Sl → Mo S := fun r s => tryKR cs c' i z m m2 (f r s)
end
theorem heap_back2 {H : Hp} {a d : Addr} {fs gs : List (Str × V)} {C : Addr} {o : HO} (ha : H a = none) (hda : d ≠ a) : upd (del (upd (upd (upd (upd H a o) d (exd d fs)) a (exo a C (some d))) d (exd d gs)) a) d (.xd gs) = upd H d (.xd gs) := by
  funext b
  by_cases hb : b = d
  · subst hb; rw [upd_same, upd_same]
  · rw [upd_ne hb, upd_ne hb]
    by_cases hba : b = a
    · subst hba; rw [del_same, ha]
    · rw [del_ne hba, upd_ne hb, upd_ne hba, upd_ne hb, upd_ne hba]
section
variable {X : Cx} {R : Reg} {W : WX} {fr : FrK} {O O' B : List Nat} {e e2 : Expr} {es : List Expr} {f f2 : Sl → M R.S D} {fs : Sl → M R.S (List D)} {fb : Sl → Mo R.S} {pos p np pos' cpos pp rp : Pos} {n : Nat} {x m m2 : Str} {c : Cl} {body : List Stmt} {jj : Nat}
theorem sat_mkO2 (hK : R.K = X.K) (E : Ends) (σ : L2.St) (H : Hp) (h : tDS R W fr B O O' (sRaiseF2 c m m2 fs) E σ H) : tMkO (eA X.K c) (spIni2 (eA X.K c) m m2) [] (tDA R W O fs) σ H fun cls d H' => W cls d σ H' := by
  obtain ⟨F0, H0, F, r, s, w, st, sl, p⟩ := h
  refine ⟨F, r, s, w, sl.pu, (postS_x w st sl p).imp (fun ds s1 F1 H1 w1 st1 q vs rvs => ?_) fun _ _ _ _ _ _ z => z⟩
  obtain ⟨w2, st2, sl2, p4⟩ := q
  match ds, rvs, p4 with
  | [], _, p4 => exact p4.elim
  | [_], _, p4 => exact p4.elim
  | _ :: _ :: _ :: _, _, p4 => exact p4.elim
  | [d, e], rvs, p4 =>
    obtain ⟨v, us, rfl, rv, u, us2, rfl, ru, e3⟩ := rvs
    rw [show us2 = [] from e3]
    refine ⟨by show 2 ≤ 1000; decide, fun a ha => ⟨a, v, u, rfl, upd_same, fun dx hdx hne => ⟨rfl, dx, [(m2, u), (m, v)], by rw [upd_ne (Ne.symm hne), upd_same], upd_same, ?_, ?_⟩⟩⟩
    · rw [upd_ne hne] at hdx; exact hdx
    · rw [heap_back2 ha hne]
      have hd0 : H1 dx = none := by rw [upd_ne hne] at hdx; exact hdx
      obtain ⟨G, wG, stG, slG, sm, _⟩ := sl2.all w2 st2
      have st3 : Stp R G H1 (upd G dx (.xd [(m2, u), (m, v)])) (upd H1 dx (.xd [(m2, u), (m, v)])) := Stp.new _ hd0 (wG.free hd0)
      refine p4 σ _ _ _ _ (wG.new _ hd0) (stG.trans st3) (slG.step st3) ⟨by rw [hK], .inr ⟨dx, [(m2, u), (m, v)], rfl, upd_same, u, _, rfl, (ru.mono sm).mono st3.fs, v, [], rfl, (rv.mono sm).mono st3.fs, rfl⟩⟩
/-- try: .. except c': raise C(e, e2) from None -/
theorem ds_tryX2 {cs : List Cl} {c' : Cl} (cx : Cxt X R W n) (tk : TkM false X W) (xf : XF X.K cs) (hc' : c' ∈ cs) (hx : c'.name = x) (hs : X.stack = X.env :: X.outer) (hf : X.env.frame = some X.env.locals)
    (hpa : ∀ hd : Option Value, PassesOwnAt (model X.prog X.w) (X.A.mark hd) X.A X.env X.xe)
    (hg : Gl X x) (hm : X.mg x = some (.ref (eA X.K c'))) {y : Str} (hy : c.name = y) (ic : IniF2 X.prog X.w X.K X.mg X.base c m m2) (hn : 2 ≤ n) (hgy : Gl X y)
    (hb : ∀ (W' : WX) (pn : List (Addr × Obj)) (xe : Value → Shared → Prop), Cxt (X.tr pn xe) R W' n → TkM true (X.tr pn xe) W' → PassesOwn (model X.prog X.w) X.A X.env xe → PSs (X.tr pn xe) body (tDS R W' fr B [] [] fb))
    (he : ∀ (a : Addr) (oe : Obj) (pn : List (Addr × Obj)), PA (L2H.suiteX X a ((a, oe) :: pn)) [e, e2] (tDA R W [] fs)) (hdb : (x == ("__debug__" : Str)) = false := by decide) (hdy : (y == ("__debug__" : Str)) = false := by decide)
    (hst : starEach [e, e2] X.env = (false, eval e X.env) :: starEach [e2] X.env := by rfl) (hpl : (backTo pp (starEach [e2] X.env)).any (·.1) = false := by rfl) :
    PS X (.Try body [.ExceptHandler (some (.Name x np)) none [.Raise (some (.Call (.Name y p) [e, e2] [] pp)) (some (.Constant .none jj cpos)) rp] pos'] [] [] pos) (tDS R W fr B [] [] (sTryO cs c' fb (sRaiseF2 c m m2 fs))) := by
  obtain ⟨fI, fd, h1, h2, hbi, _, FH⟩ := ic.ex
  subst hy
  have suite : ∀ (a : Addr) (oe : Obj) (cls : Value) (d : Option Addr) (pn : List (Addr × Obj)), L2N.Zn cls d oe → (∃ vs, oe.data = .fields vs) → L2.Takes (L2H.suiteX X a ((a, oe) :: pn)) W → L2H.HotC (L2H.suiteX X a ((a, oe) :: pn)) →
      PSs (L2H.suiteX X a ((a, oe) :: pn)) [.Raise (some (.Call (.Name c.name p) [e, e2] [] pp)) (some (.Constant .none jj cpos)) rp] (tDS R W fr B [] [] (sRaiseF2 c m m2 fs)) := fun a oe cls d pn _ _ tk2 hot =>
    pss_one (ps_imp (L2H.ps_raiseHN hot tk2 (L2H.pmk5_oexH (X := L2H.suiteX X a ((a, oe) :: pn)) ic.T h1 h2 FH (L2H.roomH_mark (cx.hr.mono (by omega)) _) hot hbi passes0 hgy ic.mgx (he a oe pn) hdy hst hpl)) fun E σ H h => sat_mkO2 (X := L2H.suiteX X a ((a, oe) :: pn)) cx.hK E σ H h)
  refine ps_imp (L2H.ps_try_onlyX hs hf ⟨hg, hdb, .inl hm⟩ hpa tk (tb := fun W' => tDS R W' fr B [] [] fb) (ts := fun _ _ _ => tDS R W fr B [] [] (sRaiseF2 c m m2 fs)) (fun W' pn xe tk1 _ po => hb W' pn xe (cx.tr W') tk1 po) suite) fun E σ H h => ?_
  obtain ⟨F0, H0, F, r, s, w, st, sl, p⟩ := h
  refine ⟨F0, H0, F, r, s, w, st, sl, ?_⟩
  unfold sTryO at p
  cases ef : fb r s with
  | none => rw [ef] at p; exact p
  | some q =>
    obtain ⟨fl, s'⟩ := q
    rw [ef] at p
    cases fl with
    | next r' => exact p
    | rt d => exact p
    | brk r' => exact p
    | cnt r' => exact p
    | thr xx r' =>
      have p : PostS R fr F0 H0 (if xx.c ∈ cs then (if subC xx.c c' = true then sRaiseF2 c m m2 fs r' s' else some (.thr xx r', s')) else none) E W B [] := p
      by_cases hcs : xx.c ∈ cs
      · rw [if_pos hcs] at p
        intro σ' F' H' cls dd w' st' sl' rx
        have hcls : cls = .ref (eA X.K xx.c) := by rw [rx.1, cx.hK]
        refine ⟨subC xx.c c', by rw [hcls]; exact xf.exm _ hcs _ hc', fun hb2 ad had => ?_, fun hb2 => ?_⟩
        · rw [if_pos hb2] at p
          exact ⟨F0, H0, F', r', s', w', st', sl', p⟩
        · rw [if_neg (by rw [hb2]; exact Bool.false_ne_true)] at p
          exact p σ' F' H' cls dd w' st' sl' rx
      · rw [if_neg hcs] at p; exact p.elim
/-- in an except suite the error that is held stands nowhere else -/
theorem pss_pin {a : Addr} {oe : Obj} {pn : List (Addr × Obj)} {st : List Stmt} {t : TS} (h : PSs (X.suite a ((a, oe) :: pn)) st t) :
    PSs (X.suite a ((a, oe) :: pn)) st (fun E σ H => t { nx := fun σ' H' => H' a = none → E.nx σ' H', rt := fun v H' => H' a = none → E.rt v H', bk := fun σ' H' => H' a = none → E.bk σ' H', ct := fun σ' H' => H' a = none → E.ct σ' H' } σ H) := ⟨fun pins s σ H D I hw => by
  have na : ∀ {σ' H' s'}, Inv (X.suite a ((a, oe) :: pn)) pins σ' H' s' → H' a = none := fun I' => (I'.pin (a, oe) (List.mem_append_left _ List.mem_cons_self)).2.1
  refine thn (h.run pins s σ H _ I hw) fun fl s1 q => ?_
  cases fl with
  | next => obtain ⟨σ', H', I', q⟩ := q; exact ⟨σ', H', I', q (na I')⟩
  | brk => obtain ⟨σ', H', I', q⟩ := q; exact ⟨σ', H', I', q (na I')⟩
  | cont => obtain ⟨σ', H', I', q⟩ := q; exact ⟨σ', H', I', q (na I')⟩
  | ret u => obtain ⟨v, σ', H', I', rv, q⟩ := q; exact ⟨v, σ', H', I', rv, q (na I')⟩⟩
/-- try: .. except c' as y: return (z, y.m, y.m2) -/
theorem ds_tryR {cs : List Cl} {c' : Cl} {q1 q2 q3 q4 q5 q6 q7 : Pos} {i : Nat} {kt} {y z : Str} (cx : Cxt X R W n) (tk : TkM false X W) (xf : XF X.K cs) (hc' : c' ∈ cs) (hx : c'.name = x) (hex : X.ex = []) (hs : X.stack = X.env :: X.outer) (hf : X.env.frame = some X.env.locals) (hi : X.N[i]? = some y) (hln : X.env.kindOf y = some .local)
    (hg : Gl X x) (hm : X.mg x = some (.ref (eA X.K c'))) (hdy : (y == ("__debug__" : Str)) = false) (hcy : (y == ("__classdict__" : Str)) = false) (hvy : Vis X.env.scope y) (hz : z.length ≤ sizeLine) (ic : IniF2 X.prog X.w X.K X.mg X.base c' m m2)
    (hb : ∀ (W' : WX) (pn : List (Addr × Obj)) (xe : Value → Shared → Prop), Cxt (X.tr pn xe) R W' n → TkM false (X.tr pn xe) W' → PassesOwn (model X.prog X.w) X.A X.env xe → PSs (X.tr pn xe) body (tDS R W' .f B [] [] fb)) (hdb : (x == ("__debug__" : Str)) = false := by decide) :
    PS X (.Try body [.ExceptHandler (some (.Name x np)) (some y) [.Return (some (.Tuple [.Constant (.str z) jj q1, .Attribute (.Name y q2) m q3, .Attribute (.Name y q4) m2 q5] kt q6)) q7] pos'] [] [] pos) (tDS R W .f B [] [] (sTryR cs c' i z m m2 fb)) := by
  have T := ic.xc.xfC
  have suite : ∀ (a : Addr) (oe : Obj) (cls : Value) (d : Option Addr) (pn : List (Addr × Obj)), Zc cls d oe → (∃ vs, oe.data = .fields vs) → PSs (X.suite a ((a, oe) :: pn)) [.Return (some (.Tuple [.Constant (.str z) jj q1, .Attribute (.Name y q2) m q3, .Attribute (.Name y q4) m2 q5] kt q6)) q7] _ := fun a oe cls d pn hz hd =>
    pss_pin (pss_one (ps_ret (X := X.suite a ((a, oe) :: pn)) (pe_tup (pa_cons pe_str (pa_cons (pe_xf T ic.no hz hd (pe_var hi hvy hdy hcy)) (pa_cons (pe_xf T ic.no2 hz hd (pe_var hi hvy hdy hcy)) pa_nil))))))
  refine ps_imp (ps_try_asT hex hs hf cx.nd hi hln ⟨hg, hdb, .inl hm⟩ tk (tb := fun W' => tDS R W' .f B [] [] fb) (fun W' pn xe tk po => hb W' pn xe (cx.tr W') tk po) suite) fun E σ H h => ?_
  obtain ⟨F0, H0, F, r, s, w, st, sl, p⟩ := h
  refine ⟨F0, H0, F, r, s, w, st, sl, ?_⟩
  unfold sTryR at p
  cases ef : fb r s with
  | none => rw [ef] at p; exact p
  | some q =>
    obtain ⟨fl, s'⟩ := q
    rw [ef] at p
    cases fl with
    | next r' => exact p
    | rt d => exact p
    | brk r' => exact p
    | cnt r' => exact p
    | thr xx r' =>
      have p : PostS R .f F0 H0 (if xx.c ∈ cs ∧ i < r'.length then (if subC xx.c c' = true then (if xx.c = c' then (match xx.fs.lookup m, xx.fs.lookup m2 with | some d, some e => some (.rt (.tup [.str z, d, e]), s') | _, _ => none) else none) else some (.thr xx r', s')) else none) E W B [] := p
      by_cases hcs : xx.c ∈ cs ∧ i < r'.length
      · rw [if_pos hcs] at p
        obtain ⟨hcs, hir⟩ := hcs
        intro σ' F' H' cls dd w' st' sl' rx
        have hcls : cls = .ref (eA X.K xx.c) := by rw [rx.1, cx.hK]
        refine ⟨subC xx.c c', by rw [hcls]; exact xf.exm _ hcs _ hc', fun hb2 ad had => ?_, fun hb2 => ?_⟩
        · rw [if_pos hb2] at p
          by_cases hcc : xx.c = c'
          · rw [if_pos hcc] at p
            cases e1 : xx.fs.lookup m with
            | none => rw [e1] at p; exact p.elim
            | some d1 =>
              cases e2 : xx.fs.lookup m2 with
              | none => rw [e1, e2] at p; exact p.elim
              | some d2 =>
                rw [e1, e2] at p
                obtain ⟨_, hr⟩ := rx
                rcases hr with ⟨h3, _⟩ | ⟨da, ws, rfl, h3, h4⟩
                · rw [h3] at e1; cases e1
                · obtain ⟨v1, k1, r1⟩ := repsF_look h4 e1
                  obtain ⟨v2, k2, r2⟩ := repsF_look h4 e2
                  have hxd : H' da = some (.xd ws) := w'.sub.xd h3
                  have hil : i < σ'.length := by rw [← sl'.pu.len]; exact hir
                  have hsi : (σ'.set i (some (V.ref ad)))[i]? = some (some (V.ref ad)) := List.getElem?_set_self hil
                  rw [hcc] at hcls
                  refine ⟨_, hsi, rfl, hcls, da, ws, v1, rfl, hxd, k1, _, hsi, rfl, hcls, da, ws, v2, rfl, hxd, k2, by show 3 ≤ sizeLine; decide, fun q hq nq => ?_⟩
                  have hne : ad ≠ q := fun e => by rw [e, upd_same] at nq; cases nq
                  have hm : H' ad = none := had
                  have st2 : Stp R F' H' (upd F' q (.tup [V.str z, v1, v2])) (upd H' q (.tup [V.str z, v1, v2])) := Stp.new _ hq (w'.free hq)
                  have w2 := w'.new (R := R) (.tup [V.str z, v1, v2]) hq
                  have had2 : upd H' q (.tup [V.str z, v1, v2]) ad = none := nq
                  have st3 : Stp R (upd F' q (.tup [V.str z, v1, v2])) (upd H' q (.tup [V.str z, v1, v2])) (upd F' q (.tup [V.str z, v1, v2])) (upd (upd H' q (.tup [V.str z, v1, v2])) ad (ExH cls (some da) ad)) := Stp.newH _ had2
                  exact p (.ref q) _ _ (w2.newH _ had2) (st'.trans (st2.trans st3)) ⟨q, _, rfl, upd_same, by show 3 ≤ sizeLine; decide, _, _, rfl, ⟨rfl, hz⟩, _, _, rfl, r1.mono st2.fs, _, _, rfl, r2.mono st2.fs, rfl⟩
          · rw [if_neg hcc] at p; exact p.elim
        · rw [if_neg (by rw [hb2]; exact Bool.false_ne_true)] at p
          exact p σ' F' H' cls dd w' st' sl' rx
      · rw [if_neg hcs] at p; exact p.elim
/-- x, y = a, b: both plain local names -/
theorem ds_par {i j : Nat} {x y : Str} {px py pt pt2 : Pos} {kt k2} {f g : Sl → M R.S D} (hc : X.calm = true) (hN : X.N.Nodup) (hi : X.N[i]? = some x) (hj : X.N[j]? = some y) (hij : i ≠ j) (hx : X.env.scope.names.lookup x = some .local) (hy : X.env.scope.names.lookup y = some .local)
    (ha : PA X [e, e2] (tDA R W O (dCons f (dCons g dNil)))) (h1 : ∀ k ∈ O', k ∈ O ∧ k ∉ [i, j]) (h2 : ∀ k ∈ O, k ∉ [i, j] → k ∈ O')
    (hw : swappedStores [.Tuple [.Name x px, .Name y py] kt pt] (.Tuple [e, e2] k2 pt2) X.env = pure (some [x, y]))
    (hs : swapsWithSole [.Tuple [.Name x px, .Name y py] kt pt] (.Tuple [e, e2] k2 pt2) pos.line X.env = pure false := by rfl) :
    PS X (.Assign [.Tuple [.Name x px, .Name y py] kt pt] (.Tuple [e, e2] k2 pt2) pos) (tDS R W fr B O O' (sAsg (tgT [i, j]) (dAll tupD (dCons f (dCons g dNil))))) := ps_imp (ps_par hc hN hi hj hij hx hy ha hw hs) fun E σ H h => by
  obtain ⟨F0, H0, F, r, s, w, st, sl, p⟩ := h
  have e2 : sAsg (tgT [i, j]) (dAll tupD (dCons f (dCons g dNil))) r s = liftX (dCons f (dCons g dNil) r) r (fun ds s => (tupD ds).bind fun d => (tgT [i, j] d r).map fun r' => (.next r', s)) s := by
    unfold sAsg dAll liftX bnd
    cases dCons f (dCons g dNil) r s with
    | ok ds s1 =>
      dsimp only
      cases tupD ds <;> rfl
    | exc x s1 => rfl
    | bot => rfl
  rw [e2] at p
  refine ⟨F, r, s, w, sl.pu, (postS_x w st sl p).imp (fun ds s1 F1 H1 w1 st1 q vs rvs => ?_) fun _ _ _ _ _ _ z => z⟩
  obtain ⟨w2, st2, sl2, p4⟩ := q
  cases et : tupD ds with
  | none => rw [et] at p4; exact p4.elim
  | some d =>
    rw [et] at p4
    obtain ⟨hz, rfl⟩ := tupD_some et
    by_cases hn : ds.length = [i, j].length
    · have e3 : tgT [i, j] (.tup ds) r = some (setAll r [i, j] ds) := if_pos hn
      have p4 : PostS R fr F0 H0 ((tgT [i, j] (.tup ds) r).map fun r' => (Flw.next r', s1)) E W B O' := p4
      rw [e3] at p4
      obtain ⟨v, ws, rfl, u, us, rfl, e0, q⟩ := tgs_names (F := F1) (H := H1) [i, j] ds vs σ r (fun σ' H' => E.nx σ' H') rvs sl2.pu.len hn (fun σ' sa => p4 σ' F1 H1 w2 st2 (sl2.setAt sa h1 h2))
      rw [show us = [] from e0]
      exact ⟨v, u, rfl, q⟩
    · have e3 : tgT [i, j] (.tup ds) r = none := if_neg hn
      have p4 : PostS R fr F0 H0 ((tgT [i, j] (.tup ds) r).map fun r' => (Flw.next r', s1)) E W B O' := p4
      rw [e3] at p4
      exact p4.elim
end
end Nw
set_option Elab.async false
set_option linter.all false
set_option maxRecDepth 100000
set_option maxHeartbeats 4000000
/-! Part AJ: list(enumerate(x)). -/
namespace Nw
open PySem PySem.Spec L2
section
open PySem.W PySem.Calls PyProof.Rows PyProof.V
theorem enl_no_len : typeLookup (.type "enumerate") "__len__" = pure none := am_miss_of_fast (by decide +kernel)
theorem enl_no_hint : typeLookup (.type "enumerate") "__length_hint__" = pure none := am_miss_of_fast (by decide +kernel)
structure EnlG (items : Array Value) (lo : Addr) (h : Heap) (as : List Addr) : Prop where
  rise : as.Pairwise (· < ·)
  above : ∀ a ∈ as, lo < a
  pairs : ∀ (j : Nat) (a : Addr), as[j]? = some a → ∃ (hj : j < items.size) (t : Tok), h.get? a = some { cls := .type "tuple", data := .seq #[.int (j : Int) t, items[j]] }
theorem EnlG.there {items : Array Value} {lo : Addr} {h : Heap} {as : List Addr} (g : EnlG items lo h as) {a : Addr} (ha : a ∈ as) : a < h.objs.size := by
  obtain ⟨j, hj⟩ := List.mem_iff_getElem?.mp ha
  obtain ⟨_, _, e⟩ := g.pairs j a hj
  exact Heap.lt_size e
def EnSt (h : Heap) (e it S l : Addr) (i : Nat) : Prop := h.IsListIter it l i ∧ ((∃ old, IsEnum h e it (i : Int) old) ∨ ∃ old T f oT, IsEnumHeld h e it (i : Int) old T f ∧ h.get? T = some oT ∧ T ≠ e ∧ T ≠ it ∧ T ≠ S)
theorem EnSt.keep {h h' : Heap} {e it S l : Addr} {i : Nat} (st : EnSt h e it S l i) (k : ∀ b o, b ≠ S → h.get? b = some o → h'.get? b = some o) (hes : e ≠ S) (his : it ≠ S) : EnSt h' e it S l i := by
  obtain ⟨hit, hz | ⟨old, T, f, oT, hz, hT, r1, r2, r3⟩⟩ := st
  · obtain ⟨old, hz⟩ := hz
    exact ⟨hit.at fun o q => k _ o his q, .inl ⟨old, k _ _ hes hz⟩⟩
  · exact ⟨hit.at fun o q => k _ o his q, .inr ⟨old, T, f, oT, k _ _ hes hz, k _ _ r3 hT, r1, r2, r3⟩⟩
section
variable {prog : Program} {w : World} {A : Around} {E : Value → Shared → Prop} {s : Shared}
theorem enl_hint {r : Addr} {Q : Bool → Shared → Prop} (hT : s.TypeIs (.ref r) "enumerate") (h : Q true s) : wpAny (model prog w) A (Builtin.List.listLengthHint (.ref r)) Q E s := by
  unfold Builtin.List.listLengthHint
  refine wpAny_bind (wpAny_specialOf hT enl_no_len ?_)
  show wpAny _ _ (specialOf (.ref r) "__length_hint__" >>= _) _ _ _
  refine wpAny_bind (wpAny_specialOf hT enl_no_hint ?_)
  exact wpAny_pure h
theorem enl_item {e it S l : Addr} {i : Nat} {items : Array Value} {x : Value} {Q : Option Value → Shared → Prop} (hst : EnSt s.heap e it S l i) (hl : s.heap.IsList l items) (hx : items[i]? = some x) (hne : e ≠ it) (hS : S < s.heap.objs.size)
    (hQ : ∀ h', EnSt h' e it S l (i + 1) → h'.get? s.heap.objs.size = some { cls := .type "tuple", data := .seq #[.int (i : Int) s.toks, x] } → h'.objs.size = s.heap.objs.size + 1 →
      (∀ b o, b ≠ e → b ≠ it → s.heap.get? b = some o → h'.get? b = some o) → Q (some (.ref s.heap.objs.size)) { s with heap := h', toks := s.toks + 1 }) :
    wpAny (model prog w) A (pyNext (.ref e)) Q E s := by
  have e1 : ((i + 1 : Nat) : Int) = (i : Int) + 1 := by omega
  obtain ⟨hit, hz | ⟨old, T, f, oT, hz, hT, r1, r2, r3⟩⟩ := hst
  · obtain ⟨old, hz⟩ := hz
    have n1 : s.heap.objs.size ≠ it := by obtain ⟨_, q, _⟩ := hit; exact Nat.ne_of_gt (Heap.lt_size q)
    exact wpAny_pyNext_enum_item hz hit hl hx hne fun h' ho hit' ht hsz hk => hQ h' ⟨hit', .inr ⟨x, s.heap.objs.size, false, _, by rw [e1]; exact ho, ht, Nat.ne_of_gt (Heap.lt_size hz), n1, Nat.ne_of_gt hS⟩⟩ ht hsz hk
  · exact wpAny_pyNext_enum_item_held hz hT r1 r2 hit hl hx hne fun h' ho hit' ht hsz hk => hQ h' ⟨hit', .inr ⟨old, T, true, oT, by rw [e1]; exact ho, hk T oT r1 r2 hT, r1, r2, r3⟩⟩ ht hsz hk
theorem enl_done {e it S l : Addr} {i : Nat} {items : Array Value} {Q : Option Value → Shared → Prop} (hh : A.handled = none) (hst : EnSt s.heap e it S l i) (hl : s.heap.IsList l items) (hx : items[i]? = none)
    (hQ : ∀ h', Heap.ExtBut it s.heap h' → Q none { s with heap := h' }) : wpAny (model prog w) A (pyNext (.ref e)) Q E s := by
  obtain ⟨hit, hz | ⟨old, T, f, oT, hz, hT, r1, r2, r3⟩⟩ := hst
  · obtain ⟨old, hz⟩ := hz
    exact wpAny_pyNext_enum_end hh hz hit hl hx hQ
  · exact wpAny_pyNext_enum_end_held hh hz hit hl hx hQ
end
section
variable {prog : Program} {w : World} {A : Around} {s : Shared} {R : Result → Shared → Prop} {items : Array Value} {e it S l : Addr}
theorem enl_loop (hh : A.handled = none) (hes : e < S) (his : it < S) (hne : e ≠ it) (hle : l ≠ e) (hli : l ≠ it) (hlS : l ≠ S) (hn : items.size ≤ sizeLine) (res : Value) {h₁ : Heap}
    (hR : ∀ h' tk acc c as, (∀ b o, b ≠ S → b ≠ e → b ≠ it → h₁.get? b = some o → h'.get? b = some o) → h'.get? S = some { cls := .type "list", dict := none, data := .seq acc c, slots := #[] } → as.length = items.size → EnlG items S h' as →
      acc.toList = as.map Value.ref → R (.ok (.ret res)) { s with heap := h', toks := tk }) :
    ∀ (k i : Nat) (h : Heap) (tk c : Nat) (acc : Array Value) (as : List Addr), items.size - i = k → i ≤ items.size → EnSt h e it S l i → h.IsList l items → (∀ b o, b ≠ S → b ≠ e → b ≠ it → h₁.get? b = some o → h.get? b = some o) →
      h.get? S = some { cls := .type "list", dict := none, data := .seq acc c, slots := #[] } → acc.toList = as.map Value.ref → as.length = i → EnlG items S h as →
      codeAny (model prog w) A (.builtin "list.extend.loop" ⟨[.ref S, .ref e, res], []⟩) R { s with heap := h, toks := tk } := by
  have nSe : S ≠ e := Nat.ne_of_gt hes
  have nSi : S ≠ it := Nat.ne_of_gt his
  intro k
  induction k with
  | zero =>
    intro i h tk c acc as hk hi hst hD hkeep hS hacc hal hG
    have hin : i = items.size := by omega
    refine codeAny_builtin PySem.F.entry_extend_loop ?_
    rw [Around.under_plainId PySem.F.plain_extend_loop _]
    show wpAny _ A.in1 (pyNext (.ref e) >>= _) _ _ _
    refine wpAny_bind (enl_done (s := { s with heap := h, toks := tk }) (A := A.in1) hh hst hD (Array.getElem?_eq_none (by omega)) fun h' he => ?_)
    refine wpAny_pure (hR h' tk acc c as (fun b o h1 h2 h3 e => he b o h3 (hkeep b o h1 h2 h3 e)) (he S _ nSi hS) (by omega) ⟨hG.rise, hG.above, fun j a hj => ?_⟩ hacc)
    obtain ⟨hj', t, e3⟩ := hG.pairs j a hj
    exact ⟨hj', t, he a _ (Nat.ne_of_gt (Nat.lt_trans his (hG.above a (List.mem_of_getElem? hj)))) e3⟩
  | succ k ih =>
    intro i h tk c acc as hk hi hst hD hkeep hS hacc hal hG
    have hlt : i < items.size := by omega
    have hsz : acc.size = i := by rw [← Array.length_toList, hacc, List.length_map, hal]
    refine codeAny_builtin PySem.F.entry_extend_loop ?_
    rw [Around.under_plainId PySem.F.plain_extend_loop _]
    show wpAny _ A.in1 (pyNext (.ref e) >>= _) _ _ _
    refine wpAny_bind (enl_item (s := { s with heap := h, toks := tk }) (x := items[i]) hst hD (Array.getElem?_eq_getElem hlt) hne (Heap.lt_size hS) fun h' hst' ht hz hkp => ?_)
    dsimp only at ht hz hkp ⊢
    have hS' := hkp S _ nSe nSi hS
    have up : ∀ b o, b ≠ S → h'.get? b = some o → (h'.update S (Obj.mapSeq (·.push (Value.ref h.objs.size)))).get? b = some o := fun b o hb e => (Heap.get?_update_other _ _ (Ne.symm hb)).trans e
    have hSl : S < h.objs.size := Heap.lt_size hS
    show wpAny _ A.in1 (updateSeq S (·.push (Value.ref h.objs.size)) >>= _) _ _ _
    refine wpAny_bind ?_
    refine wpAny_updateSeq hS' rfl (wpAny_pure ⟨plainId_quiet PySem.F.plain_extend_loop _, ih (i + 1) _ (tk + 1) _ (acc.push (Value.ref h.objs.size)) (as ++ [h.objs.size]) (by omega) hlt (hst'.keep up (Ne.symm nSe) (Ne.symm nSi)) (hD.at fun o e => up l o hlS (hkp l o hle hli e))
      (fun b o h1 h2 h3 e => up b o h1 (hkp b o h2 h3 (hkeep b o h1 h2 h3 e))) (Heap.get?_update_self _ hS' rfl) (by rw [Array.toList_push, hacc, List.map_append]; rfl) (by rw [List.length_append, hal]; rfl) ⟨?_, ?_, ?_⟩⟩) (by rw [hsz]; omega) (by show (acc.push (Value.ref h.objs.size)).size ≤ sizeLine + 1; rw [Array.size_push, hsz]; omega)
    · refine List.pairwise_append.mpr ⟨hG.rise, List.pairwise_singleton _ _, fun a ha b hb => ?_⟩
      rw [List.mem_singleton.mp hb]
      exact hG.there ha
    · intro a ha
      rcases List.mem_append.mp ha with ha | ha
      · exact hG.above a ha
      · rw [List.mem_singleton.mp ha]; exact hSl
    · intro j b hj
      rcases Nat.lt_trichotomy j as.length with h1 | h1 | h1
      · rw [List.getElem?_append_left h1] at hj
        obtain ⟨hj', t, e3⟩ := hG.pairs j b hj
        have hb := hG.above b (List.mem_of_getElem? hj)
        exact ⟨hj', t, up b _ (Nat.ne_of_gt hb) (hkp b _ (Nat.ne_of_gt (Nat.lt_trans hes hb)) (Nat.ne_of_gt (Nat.lt_trans his hb)) e3)⟩
      · subst h1
        have hb : h.objs.size = b := by simpa using hj
        subst hb
        exact ⟨by omega, tk, by subst hal; exact up _ _ (Nat.ne_of_gt hSl) ht⟩
      · have hnone : (as ++ [h.objs.size])[j]? = none := List.getElem?_eq_none (by rw [List.length_append, List.length_singleton]; omega)
        rw [hnone] at hj; cases hj
end
section
variable {prog : Program} {w : World} {A : Around} {E : Value → Shared → Prop} {s : Shared} {items : Array Value} {e it l : Addr}
theorem enl_extend {R : Result → Shared → Prop} {S : Addr} (hh : A.handled = none) (he : ∃ old, IsEnum s.heap e it 0 old) (hit : s.heap.IsListIter it l 0) (hl : s.heap.IsList l items) (hes : e < S) (his : it < S) (hne : e ≠ it) (hle : l ≠ e) (hli : l ≠ it) (hlS : l ≠ S) (res : Value) (c₀ : Nat) (hS : s.heap.get? S = some { cls := .type "list", data := .seq #[] c₀ })
    (hR : ∀ h' tk acc c as, (∀ b o, b ≠ S → b ≠ e → b ≠ it → s.heap.get? b = some o → h'.get? b = some o) → h'.get? S = some { cls := .type "list", dict := none, data := .seq acc c, slots := #[] } → as.length = items.size → EnlG items S h' as →
      acc.toList = as.map Value.ref → R (.ok (.ret res)) { s with heap := h', toks := tk }) (hn : items.size ≤ sizeLine) :
    wpAny (model prog w) A.in1 (Builtin.List.listExtendWith (.ref S) (.ref e) res)
      (fun fin s' => match fin with | .done f => R (.ok f) s' | .again c' => c'.quiet = true ∧ codeAny (model prog w) A c' R s') (fun e s' => R (.error e) s') s := by
  obtain ⟨old, he⟩ := he
  have hT : s.TypeIs (.ref e) "enumerate" := ⟨_, he, rfl⟩
  have key : ∀ (h : Heap) (c₁ tk : Nat), (∀ b o, b ≠ S → s.heap.get? b = some o → h.get? b = some o) →
      h.get? S = some { cls := .type "list", data := .seq #[] c₁ } → codeAny (model prog w) A (.builtin "list.extend.loop" ⟨[.ref S, .ref e, res], []⟩) R { s with heap := h, toks := tk } := by
    intro h c₁ tk hk hS₁
    refine enl_loop (s := s) (h₁ := s.heap) hh hes his hne hle hli hlS hn res hR
      items.size 0 h tk c₁ #[] [] (Nat.sub_zero _) (Nat.zero_le _) ⟨hit.at fun o q => hk _ o (Nat.ne_of_lt his) q, .inl ⟨old, hk _ _ (Nat.ne_of_lt hes) he⟩⟩ (hl.at fun o q => hk _ o hlS q) (fun b o hb _ _ e => hk b o hb e) hS₁ rfl rfl
      ⟨List.Pairwise.nil, (fun _ ha => nomatch ha), (fun j a hj => by simp at hj)⟩
  unfold Builtin.List.listExtendWith
  refine wpAny_bind (wpAny_typeOf (T := "enumerate") hT ?_)
  have h1 : Builtin.List.listSameRef (.ref S) (.ref e) = false := by simp [Builtin.List.listSameRef, Nat.ne_of_gt hes]
  have h2 : (Value.type "enumerate" == Value.type "list") = false := by decide
  have h3 : (Value.type "enumerate" == Value.type "tuple") = false := by decide
  simp only [h1, h2, h3, Bool.or_false, Bool.false_eq_true, if_false]
  refine wpAny_bind (wpAny_pyIter_enum he ?_)
  refine wpAny_bind (wpAny_holding (enl_hint hT ?_))
  refine wpAny_ite_split (fun _ => ?_) (fun _ => wpAny_pure ⟨plainId_quiet PySem.F.plain_extend_loop _, key _ c₀ _ (fun b o _ e => e) hS⟩)
  refine wpAny_bind (wpAny_rule ?_)
  refine wpAny_bind ?_
  show wpAny _ _ (updateSeq S (·.push .none) >>= fun _ => updateSeq S (·.pop)) _ _ _
  refine wpAny_bind (wpAny_updateSeq hS rfl ?_)
  have hS₂ := Heap.get?_update_self (Obj.mapSeq (·.push Value.none)) hS rfl
  refine wpAny_updateSeq (hz := by seq_fits) hS₂ rfl ?_
  have hS₃ := Heap.get?_update_self (Obj.mapSeq (·.pop)) hS₂ rfl
  refine wpAny_pure ⟨plainId_quiet PySem.F.plain_extend_loop _, key _ _ _ (fun b o hb e => ?_) hS₃⟩
  exact (Heap.get?_update_other _ _ (Ne.symm hb)).trans ((Heap.get?_update_other _ _ (Ne.symm hb)).trans e)
theorem enl_init {R : Result → Shared → Prop} {S : Addr} (hh : A.handled = none) (he : ∃ old, IsEnum s.heap e it 0 old) (hit : s.heap.IsListIter it l 0) (hl : s.heap.IsList l items) (hes : e < S) (his : it < S) (hne : e ≠ it) (hle : l ≠ e) (hli : l ≠ it) (hlS : l ≠ S) (hS : s.heap.get? S = some { cls := .type "list", data := .seq #[] })
    (hR : ∀ h' tk acc c as, (∀ b o, b ≠ S → b ≠ e → b ≠ it → s.heap.get? b = some o → h'.get? b = some o) → h'.get? S = some { cls := .type "list", dict := none, data := .seq acc c, slots := #[] } → as.length = items.size → EnlG items S h' as →
      acc.toList = as.map Value.ref → R (.ok (.ret .none)) { s with heap := h', toks := tk }) (hn : items.size ≤ sizeLine) :
    wpAny (model prog w) A.in1 (Builtin.«list.__init__» ⟨[.ref S, .ref e], []⟩)
      (fun fin s' => match fin with | .done f => R (.ok f) s' | .again c' => c'.quiet = true ∧ codeAny (model prog w) A c' R s') (fun e s' => R (.error e) s') s := by
  show wpAny _ _ (do let old ← Builtin.List.listItems (.ref S); Builtin.List.listUpdate (.ref S) (fun _ => #[]); letGo old.toList.reverse; Builtin.List.listExtendWith (.ref S) (.ref e) .none) _ _ s
  refine wpAny_bind ?_
  unfold Builtin.List.listItems
  refine wpAny_bind (wpAny_seqItems hS rfl (wpAny_pure ?_))
  show wpAny _ _ (updateSeq S (fun _ => #[]) >>= fun _ => letGo (#[] : Array Value).toList.reverse >>= fun _ => Builtin.List.listExtendWith (.ref S) (.ref e) .none) _ _ s
  refine wpAny_bind (wpAny_updateSeq hS rfl ?_)
  have hS₂ := Heap.get?_update_self (Obj.mapSeq (fun _ => (#[] : Array Value))) hS rfl
  have oth : ∀ b o, b ≠ S → s.heap.get? b = some o → (s.heap.update S (Obj.mapSeq (fun _ => (#[] : Array Value)))).get? b = some o :=
    fun b o hb e => (Heap.get?_update_other _ _ (Ne.symm hb)).trans e
  refine wpAny_bind (wpAny_letGo ?_)
  obtain ⟨old, he⟩ := he
  refine enl_extend (items := items) hh ⟨old, oth e _ (Nat.ne_of_lt hes) he⟩ (hit.at fun o q => oth it o (Nat.ne_of_lt his) q) (hl.at fun o q => oth l o hlS q) hes his hne hle hli hlS .none _ hS₂ (fun h' tk acc c as hk hS' hl' hG hacc => ?_) hn
  exact hR h' tk acc c as (fun b o hb h2 h3 e => hk b o hb h2 h3 (oth b o hb e)) hS' hl' hG hacc
theorem enl_call {Q : Value → Shared → Prop} (hh : A.handled = none) (he : ∃ old, IsEnum s.heap e it 0 old) (hit : s.heap.IsListIter it l 0) (hl : s.heap.IsList l items) (hne : e ≠ it) (hle : l ≠ e) (hli : l ≠ it) (hn : items.size ≤ sizeLine)
    (hQ : ∀ h' tk acc c as, (∀ b o, b ≠ e → b ≠ it → s.heap.get? b = some o → h'.get? b = some o) → h'.get? s.heap.objs.size = some { cls := .type "list", dict := none, data := .seq acc c, slots := #[] } → as.length = items.size → EnlG items s.heap.objs.size h' as →
      acc.toList = as.map Value.ref → Q (.ref s.heap.objs.size) { s with heap := h', toks := tk }) :
    wpAny (model prog w) A (call (.type "list") [.ref e]) Q E s := by
  refine callType_codes (Q₁ := fun obj s₁ => obj = .ref s.heap.objs.size ∧ s₁ = { s with heap := s.heap.push { cls := .type "list", data := .seq #[] } }) PySem.F.called_list (PySem.F.typeCall_list_1 _) PySem.F.entry_list_init
    (code_list_new _ ⟨rfl, rfl⟩) fun obj s₁ h₁ => ?_
  obtain ⟨rfl, rfl⟩ := h₁
  have hS : (s.heap.push { cls := .type "list", data := .seq #[] }).get? s.heap.objs.size = some { cls := .type "list", data := .seq #[] } := Heap.get?_push_size _ rfl
  obtain ⟨old, he⟩ := he
  have hel : e < s.heap.objs.size := Heap.lt_size he
  have hil : it < s.heap.objs.size := by obtain ⟨_, q, _⟩ := hit; exact Heap.lt_size q
  have hll : l < s.heap.objs.size := by obtain ⟨_, q, _⟩ := hl; exact Heap.lt_size q
  refine ⟨⟨_, hS, rfl⟩, PySem.F.args_list_init_2 _ _, enl_init (items := items) (A := A.in1) hh ⟨old, Heap.get?_push_of_some _ he⟩ (hit.at fun o q => Heap.get?_push_of_some _ q) (hl.at fun o q => Heap.get?_push_of_some _ q) hel hil hne hle hli (Nat.ne_of_lt hll) hS (fun h' tk acc c as hk hS' hl' hG hacc => ?_) hn⟩
  exact ⟨rfl, hQ h' tk acc c as (fun b o h2 h3 e => hk b o (Nat.ne_of_lt (Heap.lt_size e)) h2 h3 (Heap.get?_push_of_some _ e)) hS' hl' hG hacc⟩
end
end
/-! ### in the abstract heap -/
def enK : Nat → List V → List (Key × V)
  | _, [] => []
  | n, x :: xs => (.inl (n : Int), x) :: enK (n + 1) xs
theorem enK_len : ∀ (n : Nat) (xs : List V), (enK n xs).length = xs.length
  | _, [] => rfl
  | n, x :: xs => by show (enK (n + 1) xs).length + 1 = xs.length + 1; rw [enK_len (n + 1) xs]
theorem enK_get : ∀ (n : Nat) (xs : List V) (j : Nat) (q : Key × V), (enK n xs)[j]? = some q → q.1 = .inl ((n + j : Nat) : Int) ∧ xs[j]? = some q.2
  | _, [], j, q, h => by simp [enK] at h
  | n, x :: xs, 0, q, h => by
    have h : some ((.inl (n : Int), x) : Key × V) = some q := h
    cases h
    exact ⟨rfl, rfl⟩
  | n, x :: xs, j + 1, q, h => by
    have h : (enK (n + 1) xs)[j]? = some q := by simpa [enK] using h
    obtain ⟨h1, h2⟩ := enK_get (n + 1) xs j q h
    exact ⟨by rw [h1]; congr 2; omega, by simpa using h2⟩
def enD : Nat → List D → List D
  | _, [] => []
  | n, d :: ds => .tup [.int (n : Int), d] :: enD (n + 1) ds
theorem enD_len : ∀ (n : Nat) (ds : List D), (enD n ds).length = ds.length
  | _, [] => rfl
  | n, x :: xs => by show (enD (n + 1) xs).length + 1 = xs.length + 1; rw [enD_len (n + 1) xs]
section
variable {X : Cx}
theorem enl_laid {pins : List (Addr × Obj)} {σ : L2.St} {H : Hp} {s : Shared} {h' : Heap} {tk : Nat} {xs : List V} {us : List Value} {acc : Array Value} {c : Nat} {as : List Addr} {ch : List Addr} (I : Inv X pins σ H s) (hf : ∀ b ∈ ch, L2.FpOk X pins H b) (hz : xs.length ≤ sizeLine) (rv : Vals xs us)
    (hk : ∀ b o, b ∉ ch → s.heap.get? b = some o → h'.get? b = some o) (hch : ∀ b ∈ ch, b < s.heap.objs.size) (hS : h'.get? s.heap.objs.size = some { cls := .type "list", dict := none, data := .seq acc c, slots := #[] }) (hl : as.length = us.length) (hG : EnlG us.toArray s.heap.objs.size h' as) (hacc : acc.toList = as.map Value.ref) :
    ∃ H' : Hp, (∀ b o, H b = some o → H' b = some o) ∧ H s.heap.objs.size = none ∧ (∀ t ∈ as, H t = none) ∧ s.heap.objs.size ∉ as ∧ H' s.heap.objs.size = some (.lst (as.map V.ref)) ∧ Paired (fun (t : Addr) (q : Key × V) => H' t = some (.tup [kV q.1, q.2])) as (enK 0 xs) ∧ Inv X pins σ H' { s with heap := h', toks := tk } := by
  have lk : xs.length = us.length := rv.length
  have lk2 := enK_len 0 xs
  have hSn : s.heap.objs.size ∉ as := fun z => Nat.lt_irrefl _ (hG.above _ z)
  have nd : as.Nodup := List.Pairwise.imp (fun {a b} (h : a < b) => Nat.ne_of_lt h) hG.rise
  have new : ∀ t ∈ as, H t = none := fun t ht => I.hok.fresh (Nat.le_of_lt (hG.above t ht))
  have newS : H s.heap.objs.size = none := I.hok.fresh (Nat.le_refl _)
  have atP := LiI.putT_at as (enK 0 xs) (upd H s.heap.objs.size (.lst (as.map V.ref))) (by omega) nd
  have off : ∀ b, b ∉ as → b ≠ s.heap.objs.size → LiI.putT (upd H s.heap.objs.size (.lst (as.map V.ref))) as (enK 0 xs) b = H b := fun b h1 h2 => by rw [LiI.putT_off as (enK 0 xs) _ h1, upd_ne h2]
  have low : ∀ b o, s.heap.get? b = some o → b ∉ as ∧ b ≠ s.heap.objs.size := fun b o e => ⟨fun z => absurd (Heap.lt_size e) (Nat.not_lt.mpr (Nat.le_of_lt (hG.above b z))), Nat.ne_of_lt (Heap.lt_size e)⟩
  have kp : ∀ b u, H b = some u → (LiI.putT (upd H s.heap.objs.size (.lst (as.map V.ref))) as (enK 0 xs)) b = some u := fun b u e => by
    rw [off b (fun z => by rw [new b z] at e; cases e) (fun z => by rw [z, newS] at e; cases e)]
    exact e
  have eS : LiI.putT (upd H s.heap.objs.size (.lst (as.map V.ref))) as (enK 0 xs) s.heap.objs.size = some (.lst (as.map V.ref)) := by rw [LiI.putT_off as (enK 0 xs) _ hSn, upd_same]
  have nit : ∀ b u, H b = some u → b ∉ ch := fun b u e z => by
    have q := (hf b z).1
    rw [q] at e; cases e
  refine ⟨LiI.putT (upd H s.heap.objs.size (.lst (as.map V.ref))) as (enK 0 xs), kp, newS, new, hSn, eS, atP, ?_⟩
  refine I.call' (ch := ch) rfl ⟨fun b o q _ _ hx => hk b o hx q, fun b o q _ _ hx => ⟨o.slots, hk b o hx q⟩, fun b o q n _ => ?_, fun b o q hx => ⟨o, hk b o hx q⟩, fun b xs q => kp b _ q, fun b o u q => kp b _ q, fun b ps q => ⟨#[], by rw [kp b _ q]; simp⟩⟩ (fun b u q => ?_) I.bare (fun b hb => ⟨(hf b hb).2.2.2.1, (hf b hb).2.1, (hf b hb).2.2.2.2.1, (hf b hb).2.2.2.2.2⟩)
  · obtain ⟨z1, z2⟩ := low b o q
    rw [off b z1 z2]
    exact n
  · by_cases hb : b ∈ as
    · obtain ⟨j, pk, e1, e2, e3⟩ := LiI.paired_ix atP hb
      rw [e3] at q
      cases q
      obtain ⟨hj, t, f3⟩ := hG.pairs j b e1
      obtain ⟨k1, k2⟩ := enK_get 0 xs j pk e2
      have hju : j < us.length := by simpa using hj
      obtain ⟨u, g1, g2⟩ := rv.get k2
      have e4 : us.toArray[j] = u := by
        rw [List.getElem?_eq_getElem hju] at g1
        simpa using Option.some.inj g1
      rw [e4] at f3
      refine ⟨by show 2 ≤ sizeLine; decide, [.int (j : Int) t, u], .cons ?_ (.cons g2 .nil), ⟨_, f3, rfl, _, rfl⟩⟩
      rw [k1]
      exact ⟨t, by rw [Nat.zero_add]⟩
    · by_cases hb2 : b = s.heap.objs.size
      · rw [hb2] at q ⊢
        rw [eS] at q
        cases q
        refine ⟨by rw [List.length_map]; omega, acc.toList, c, by rw [hacc]; exact LiI.vals_refs as, ?_⟩
        rw [Array.toArray_toList]
        exact hS
      · rw [off b hb hb2] at q
        refine (I.hok b u q).stay (fun d v hc y => hk d v ?_ y) (fun d y => kp d _ y) fun d xs y => kp d _ y
        rcases hc with z | z
        · rw [z]; exact nit b u q
        · exact nit d _ z
def rEnumL : Addr → List V → Hp → VK → Prop := fun a xs H Q => ∀ (H' : Hp) (p : Addr) (ts : List Addr), (∀ b o, H b = some o → H' b = some o) → H p = none → (∀ t ∈ ts, H t = none) → p ∉ ts → H' p = some (.lst (ts.map V.ref)) → Paired (fun (t : Addr) (q : Key × V) => H' t = some (.tup [kV q.1, q.2])) ts (enK 0 xs) → Q (.ref p) H'
def tListEnum (K : PySem.W.Frag) (te : TE) : TE := fun σ H Q => te σ H fun v H1 => ∃ (a : Addr) (xs : List V), v = .ref a ∧ SqL K H1 a xs ∧ rEnumL a xs H1 Q
open PyProof.Rows in
theorem pe_listEnum {e : Expr} {te : TE} {p p2 pos pos2 : Pos} (hc : X.calm = true) (hg : Gl X "list") (hm : X.mg "list" = none) (hg2 : Gl X "enumerate") (hm2 : X.mg "enumerate" = none) (he : PE X e te)
    (hs : starEach [e] X.env = (false, eval e X.env) :: starEach [] X.env := by rfl)
    (hs2 : starEach [.Call (.Name "enumerate" p2) [e] [] pos2] X.env = (false, eval (.Call (.Name "enumerate" p2) [e] [] pos2) X.env) :: starEach [] X.env := by rfl) :
    PE X (.Call (.Name "list" p) [.Call (.Name "enumerate" p2) [e] [] pos2] [] pos) (tListEnum X.K te) := by
  refine ⟨fun pins s σ H Q I h => ?_⟩
  refine Call_ (ld_blt I hg hm (show bootBuiltins "list" = some (.type "list") by decide +kernel) (PyProof.Rows.callWith_type1 (args_cons (Call_ (ld_blt I hg2 hm2 PyProof.Rows.boot_enumerate (PyProof.Rows.callWith_type1 (args_cons (thn (he.run pins s σ H _ I h) fun u s1 ⟨v, H1, I1, r1, q1⟩ => args_nil ?_) hs) hs rfl))) hs2) hs2 rfl))
  obtain ⟨a, xs, ev, hq, q⟩ := q1
  subst ev
  obtain rfl : u = Value.ref a := r1
  obtain ⟨its, rv, p', hz⟩ := I1.list hq
  refine call_enumerate_list p'.isList fun h1 he1 hit hsz hk => args_nil ?_
  have I2 : Inv X pins σ H1 { s1 with heap := h1 } := I1.kept (t' := s1.toks) hk
  have hal : a < s1.heap.objs.size := by obtain ⟨_, q, _⟩ := p'.isList; exact Heap.lt_size q
  have hn : its.toArray.size ≤ sizeLine := by rw [List.size_toArray, ← rv.length]; exact hz
  have f1 := I1.fpOk (H' := H1) (b := s1.heap.objs.size + 1) (Nat.le_succ _) (I1.hok.fresh (Nat.le_succ _))
  have f0 := I1.fpOk (H' := H1) (b := s1.heap.objs.size) (Nat.le_refl _) (I1.hok.fresh (Nat.le_refl _))
  refine enl_call (s := { s1 with heap := h1 }) (I1.ok.hd hc) ⟨_, he1⟩ hit (p'.isList.at fun o q => hk _ o q) (Nat.succ_ne_self _) (Nat.ne_of_lt (Nat.lt_succ_of_lt hal)) (Nat.ne_of_lt hal) hn fun h' tk acc c as hk2 hS hl hG hacc => ?_
  obtain ⟨H', k1, k2, k3, k4, k5, k6, J⟩ := enl_laid (tk := tk) (ch := [s1.heap.objs.size + 1, s1.heap.objs.size]) I2 (fun b hb => by
      have e' : b = s1.heap.objs.size + 1 ∨ b = s1.heap.objs.size := by simpa using hb
      rcases e' with z | z
      · rw [z]; exact f1
      · rw [z]; exact f0) hz rv (fun b o hb e => hk2 b o (fun z => hb (by simp [z])) (fun z => hb (by simp [z])) e) (fun b hb => by
      have e' : b = s1.heap.objs.size + 1 ∨ b = s1.heap.objs.size := by simpa using hb
      show b < h1.objs.size
      rw [hsz]
      rcases e' with z | z
      · rw [z]; exact Nat.lt_succ_self _
      · rw [z]; exact Nat.lt_succ_of_lt (Nat.lt_succ_self _)) hS (by rw [hl, List.size_toArray]) hG hacc
  exact ⟨.ref _, H', J, rfl, q H' _ as k1 k2 k3 k4 k5 k6⟩
end
section
variable {X : Cx} {R : Reg} {W : WX} {O : List Nat} {e : Expr} {f : Sl → M R.S D} {p p2 pos pos2 : Pos} {n : Nat}
def lenumD : D → Option D
  | .row ds => some (.row (enD 0 ds))
  | _ => none
theorem enD_reps {K : PySem.W.Frag} {nm : Nat → Option Addr} {F F' : Hp} (hF : Same F F') : ∀ (n : Nat) (ds : List D) (xs : List V) (ts : List Addr), Reps K nm F ds xs → Paired (fun (t : Addr) (q : Key × V) => F' t = some (.tup [kV q.1, q.2])) ts (enK n xs) → Reps K nm F' (enD n ds) (ts.map V.ref)
  | n, [], xs, ts, r, h => by
    rw [show xs = [] from r] at h
    cases h
    rfl
  | n, d :: ds, xs, ts, r, h => by
    obtain ⟨v, ws, rfl, r1, r2⟩ := r
    cases ts with
    | nil => cases h
    | cons t ts =>
      cases h with
      | cons h1 h2 =>
        exact ⟨.ref t, _, rfl, ⟨t, _, rfl, h1, by show 2 ≤ sizeLine; decide, .int n, _, rfl, rfl, v, [], rfl, r1.mono hF, rfl⟩, enD_reps hF (n + 1) ds ws ts r2 h2⟩
theorem paired_imp {α β : Type} {P Q : α → β → Prop} : ∀ {xs : List α} {ys : List β}, Paired P xs ys → (∀ x ∈ xs, ∀ y, P x y → Q x y) → Paired Q xs ys
  | _, _, .nil, _ => .nil
  | _, _, .cons h t, k => .cons (k _ List.mem_cons_self _ h) (paired_imp t fun x hx y => k x (List.mem_cons_of_mem _ hx) y)
/-- list(enumerate(x)) -/
theorem de_listEnum (c : Cxt X R W n) (hg : Gl X "list") (hm : X.mg "list" = none) (hg2 : Gl X "enumerate") (hm2 : X.mg "enumerate" = none) (he : PE X e (tD R W O f)) (hs : starEach [e] X.env = (false, eval e X.env) :: starEach [] X.env := by rfl)
    (hs2 : starEach [.Call (.Name "enumerate" p2) [e] [] pos2] X.env = (false, eval (.Call (.Name "enumerate" p2) [e] [] pos2) X.env) :: starEach [] X.env := by rfl) :
    PE X (.Call (.Name "list" p) [.Call (.Name "enumerate" p2) [e] [] pos2] [] pos) (tD R W O (dUn lenumD f)) := pe_imp (pe_listEnum c.calm hg hm hg2 hm2 he hs hs2) fun σ H Q h => by
  classical
  obtain ⟨F, ρ, s, w, pu, p⟩ := h
  refine ⟨F, ρ, s, w, pu, p.bnd.imp (fun d s1 F1 H1 w1 st1 p1 v rv => ?_) fun _ _ _ _ _ _ z => z⟩
  obtain ⟨d', e', k⟩ := p1.lift
  cases d with
  | row ds =>
    cases e'
    obtain ⟨a, xs, rfl, h1, h2, h3⟩ := rv
    refine ⟨a, xs, rfl, SqL.of (w1.sub.lst h1), fun H' q ts k1 k2 k3 k4 k5 k6 => ?_⟩
    have fr : ∀ b, (b = q ∨ b ∈ ts) → H1 b = none := fun b hb => by
      rcases hb with z | z
      · rw [z]; exact k2
      · exact k3 b z
    let F' : Hp := fun b => if b = q ∨ b ∈ ts then H' b else F1 b
    have e1 : ∀ b, (b = q ∨ b ∈ ts) → F' b = H' b := fun b hb => if_pos hb
    have e2 : ∀ b, ¬ (b = q ∨ b ∈ ts) → F' b = F1 b := fun b hb => if_neg hb
    have old : ∀ b o, H1 b = some o → ¬ (b = q ∨ b ∈ ts) := fun b o hb z => by rw [fr b z] at hb; cases hb
    have sm : Same F1 F' := fun b o hb => by
      have hn : ¬ (b = q ∨ b ∈ ts) := fun z => by rw [w1.free (fr b z)] at hb; cases hb
      rw [e2 b hn]; exact hb
    have st : Stp R F1 H1 F' H' := ⟨sm, fun b o _ hb => .inl (k1 b o hb), fun b hb => by
      by_cases hn : b = q ∨ b ∈ ts
      · exact .inr (fr b hn)
      · rw [e2 b hn] at hb; exact .inl hb, fun b hb => by
      cases e : H1 b with
      | none => rfl
      | some o => rw [k1 b o e] at hb; cases hb⟩
    have w2 : Wd R F' H' s1 := ⟨fun b o hb => by
      by_cases hn : b = q ∨ b ∈ ts
      · rw [e1 b hn] at hb; exact .inl hb
      · rw [e2 b hn] at hb
        rcases w1.sub b o hb with z | ⟨kvs, ob, z1, z2⟩
        · exact .inl (k1 b o z)
        · exact .inr ⟨kvs, ob, z1, k1 b _ z2⟩, fun b hb => by
      by_cases hn : b = q ∨ b ∈ ts
      · exact absurd (fr b hn) (R.dom s1 H1 b w1.si hb)
      · rw [e2 b hn]; exact w1.mu b hb, R.loc s1 H1 H' w1.si fun b hb => by
      cases e : H1 b with
      | none => exact absurd e (R.dom s1 H1 b w1.si hb)
      | some o => exact k1 b o e⟩
    refine k F' H' w2 st (.ref q) ⟨q, _, rfl, by rw [e1 q (.inl rfl)]; exact k5, by rw [enD_len]; exact h2, enD_reps sm 0 ds xs ts h3 (paired_imp k6 fun t ht y hy => by rw [e1 t (.inr ht)]; exact hy)⟩
  | _ => cases e'
end
end Nw
set_option Elab.async false
set_option linter.all false
set_option maxRecDepth 100000
set_option maxHeartbeats 4000000
/-! Part AK: a tuple once, or not at all. -/
namespace Nw
open PySem PySem.Spec L2
section
open PyProof.Rows
theorem tuple_mul1 (l : Addr) (items : Array Value) (n : Nat) (dd : Option Addr) (sl : Array (Option Value)) (u : Tok) (hne : items.isEmpty = false) :
    Meets (Builtin.«tuple.__mul__» ⟨[.ref l, .int 1 u], []⟩) (fun _ R s => s.heap.get? l = some { cls := .type "tuple", dict := dd, data := .seq items n, slots := sl } ∧ R (.ok (.ret (Value.ref l))) s) :=
  .of_wp fun prog w A R s h => by
    obtain ⟨hp, g, d, tk, os⟩ := s
    obtain ⟨hl, h⟩ := h
    have f1 := AutoSeq1.idx_int
    wp_walk using wpAny_loadPart' hl
    exact ⟨_, rfl, h⟩
theorem tuple_mul0 (l : Addr) (items : Array Value) (n : Nat) (dd : Option Addr) (sl : Array (Option Value)) (u : Tok) (hne : items.isEmpty = false) :
    Meets (Builtin.«tuple.__mul__» ⟨[.ref l, .int 0 u], []⟩) (fun _ R s => s.heap.get? l = some { cls := .type "tuple", dict := dd, data := .seq items n, slots := sl } ∧ R (.ok (.ret (Value.ref s.heap.objs.size))) { s with heap := s.heap.push { cls := Value.type "tuple", data := Data.seq #[] }, toks := s.toks }) :=
  .of_wp fun prog w A R s h => by
    obtain ⟨hp, g, d, tk, os⟩ := s
    obtain ⟨hl, h⟩ := h
    have f1 := AutoSeq1.idx_int
    wp_walk using wpAny_loadPart' hl
    exact ⟨_, rfl, h⟩
/-- a tuple once, or not at all -/
def rRepT1 (K : PySem.W.Frag) : R2 := fun x y H Q => ∃ l k xs, x = .ref l ∧ y = .int k ∧ SqT K H l xs ∧ xs ≠ [] ∧ ((k = 1 ∧ Q (.ref l) H) ∨ (k = 0 ∧ ∀ p, H p = none → Q (.ref p) (upd H p (.tup []))))
theorem op_repT1 {X : Cx} : OpR X (binaryOp .Mult) (rRepT1 X.K) := by
  intro pins s σ H x y v u Q I rx ry h
  obtain ⟨l, k, xs, rfl, rfl, hT, hne, hq⟩ := h
  cases rx
  obtain ⟨t, rfl⟩ := ry
  obtain ⟨its, r, ⟨⟨cls, dd, data, sl⟩, ho, hc, n, hd⟩, hs⟩ := I.tuple hT
  simp only at hc hd
  subst hc hd
  have hle : its.length = xs.length := r.length.symm
  have hn : its ≠ [] := fun e => hne (by
    rw [e] at hle
    exact List.eq_nil_of_length_eq_zero hle.symm)
  have hi : its.toArray.isEmpty = false := by
    cases its with
    | nil => exact absurd rfl hn
    | cons a b => rfl
  rcases hq with ⟨rfl, q⟩ | ⟨rfl, q⟩
  · refine wpAny_binaryOp_repeat_ref (T := "tuple") (U := "int") (by decide) ⟨_, ho, rfl⟩ (fun s' => typeIs_int s' 1 t) noFill_tuple_mul F.fills_int_mul F.slot_int_rmul repeat_tuple F.slot_int_index.lookup
      (call_meets F.slot_int_rmul (typeIs_int s 1 t) F.entry_int_rmul (F.args_int_rmul_2 _ _) (int_rmul_tuple 1 t l its.toArray n dd sl)
        ⟨ho, rfl, ⟨_, ho, rfl⟩, call_meets F.slot_tuple_mul ⟨_, ho, rfl⟩ F.entry_tuple_mul (F.args_tuple_mul_2 _ _) (tuple_mul1 l its.toArray n dd sl t hi) ⟨ho, ?_⟩⟩)
    exact ⟨.ref l, H, I, rfl, q⟩
  · refine wpAny_binaryOp_repeat_ref (T := "tuple") (U := "int") (by decide) ⟨_, ho, rfl⟩ (fun s' => typeIs_int s' 0 t) noFill_tuple_mul F.fills_int_mul F.slot_int_rmul repeat_tuple F.slot_int_index.lookup
      (call_meets F.slot_int_rmul (typeIs_int s 0 t) F.entry_int_rmul (F.args_int_rmul_2 _ _) (int_rmul_tuple 0 t l its.toArray n dd sl)
        ⟨ho, rfl, ⟨_, ho, rfl⟩, call_meets F.slot_tuple_mul ⟨_, ho, rfl⟩ F.entry_tuple_mul (F.args_tuple_mul_2 _ _) (tuple_mul0 l its.toArray n dd sl t hi) ⟨ho, ?_⟩⟩)
    refine ⟨.ref s.heap.objs.size, _, I.laid (t' := s.toks) (o := .tup []) (fun b ob q => Heap.get?_push_of_some _ q) (Nat.le_refl _) ?_, rfl, q _ (I.hok.fresh (Nat.le_refl _))⟩
    exact ⟨Nat.zero_le _, [], .nil, IsTup.new _ _⟩
end
def mulT1 : D → D → Option D
  | .tup xs, .int k => if xs ≠ [] then (if k = 1 then some (.tup xs) else if k = 0 then some (.tup []) else none) else none
  | _, _ => none
def mulTD (d e : D) : Option D := (mulT1 d e).or (mulD d e)
section
variable {X : Cx} {R : Reg} {W : WX} {O : List Nat} {a b : Expr} {f g : Sl → M R.S D} {pos : Pos} {n : Nat}
theorem sat_mulT1 (K : PySem.W.Frag) : OpSat R (rRepT1 K) mulT1 := fun x y d e d' F H s Q w rx ry h k => by
  unfold mulT1 at h
  split at h
  · rename_i xs j
    obtain ⟨a, vs, rfl, h1, h0, h2⟩ := rx
    by_cases hx : xs ≠ []
    · rw [if_pos hx] at h
      have hv : vs ≠ [] := fun e => hx (List.eq_nil_of_length_eq_zero (by rw [← h2.length, e]; rfl))
      refine ⟨a, j, vs, rfl, ry, SqT.of (w.sub.tup h1), hv, ?_⟩
      by_cases hj : j = 1
      · rw [if_pos hj] at h
        cases h
        exact .inl ⟨hj, k _ F H w Stp.refl ⟨a, vs, rfl, h1, h0, h2⟩⟩
      · rw [if_neg hj] at h
        by_cases hj0 : j = 0
        · rw [if_pos hj0] at h
          cases h
          exact .inr ⟨hj0, fun p hp => new_tup (xs := []) w (Nat.zero_le _) rfl hp k⟩
        · rw [if_neg hj0] at h; cases h
    · rw [if_neg hx] at h; cases h
  · cases h
theorem de_mulT (ha : PE X a (tD R W O f)) (hb : PE X b (tD R W O g)) : PE X (.BinOp a .Mult b pos) (tD R W O (dOp mulTD f g)) := de_op (op_repT1.or op_mulA) ((sat_mulT1 X.K).or (sat_mul X.K)) ha hb
end
end Nw
set_option Elab.async false
set_option linter.all false
set_option maxRecDepth 100000
set_option maxHeartbeats 4000000
/-! Part AL: != of what holds the same, tables within it. -/
namespace Nw
open PySem PySem.Spec L2
section
open PyProof.Rows PySem.SeqAt
variable {prog : Program} {w : World}
/-- two tuples with like items are not unlike -/
theorem tuple_ne0 (l b : Addr) (xs ys : Array Value) (n n2 : Nat) (dd dd2 : Option Addr) (sl sl2 : Array (Option Value)) (hz : xs.size = ys.size) :
    MeetsIn prog w (Builtin.«tuple.__ne__» ⟨[.ref l, .ref b], []⟩) (fun A R s => s.heap.get? l = some { cls := .type "tuple", dict := dd, data := .seq xs n, slots := sl } ∧ s.heap.get? b = some { cls := .type "tuple", dict := dd2, data := .seq ys n2, slots := sl2 } ∧
      (∀ j (h1 : j < xs.size) (h2 : j < ys.size), EqIn prog w A.in1 s xs[j] ys[j] true) ∧ R (.ok (.ret (.bool false))) s) :=
  .of_wp fun A R s hyp => by
    obtain ⟨hp, g, d, tk, os⟩ := s
    obtain ⟨hl, hb, like, fin⟩ := hyp
    have f2 := AutoSeq1.sub_tuple_tuple
    wp_walk using AutoSeq1.wpAny_loadPart' hl, AutoSeq1.wpAny_loadPart' hb, wpAny_forIn_list _ (fun rest q s' => q.1 = none ∧ s' = ⟨hp, g, d, tk, os⟩ ∧ ∃ i, rest = (xs.toList.zip ys.toList).drop i) _
    case turn =>
      rintro ⟨a, c⟩ rest q s' ⟨hq, rfl, i, hr⟩
      have lt : i < (xs.toList.zip ys.toList).length := by
        by_cases hh : i < (xs.toList.zip ys.toList).length
        · exact hh
        · rw [List.drop_of_length_le (by omega)] at hr; exact nomatch hr
      have zl : (xs.toList.zip ys.toList).length = min xs.size ys.size := by simp
      have l1 : i < xs.size := by omega
      have l2 : i < ys.size := by omega
      rw [List.drop_eq_getElem_cons lt] at hr
      obtain ⟨e1, e2⟩ := List.cons.inj hr
      have ea : a = xs[i] := by simpa using congrArg Prod.fst e1
      have ec : c = ys[i] := by simpa using congrArg Prod.snd e1
      subst ea
      subst ec
      refine wpAny_bind (like i l1 l2 _ _ ?_)
      wp_walk
      exact ⟨rfl, rfl, i + 1, e2⟩
    case fin =>
      rintro ⟨q1, q2⟩ s' ⟨hq, rfl, i, hr⟩
      cases (show q1 = none from hq)
      wp_walk
      exact ⟨_, rfl, by simpa [Builtin.Tuple.tupleCompareSizes, hz] using fin⟩
    case h => exact ⟨rfl, rfl, 0, rfl⟩
end
def sqL (f : D → D → Bool) : List D → List D → Bool
  | [], [] => true
  | x :: xs, y :: ys => f x y && sqL f xs ys
  | _, _ => false
def sqK (f : D → D → Bool) : List (Key × D) → List (Key × D) → Bool
  | [], [] => true
  | (k, x) :: xs, (j, y) :: ys => decide (k = j) && (!(xs.any fun p => decide (p.1 = k)) && (f x y && sqK f xs ys))
  | _, _ => false
/-- both hold the same, in the same order -/
def sqN : Nat → D → D → Bool
  | 0 => fun _ _ => false
  | n + 1 => fun d e => match d, e with
    | .non, .non => true
    | .bl a, .bl b => a == b
    | .int a, .int b => a == b
    | .str a, .str b => a == b
    | .row xs, .row ys => sqL (sqN n) xs ys
    | .tup xs, .tup ys => sqL (sqN n) xs ys
    | .tab xs, .tab ys => sqK (sqN n) xs ys
    | _, _ => false
theorem sqL_len {f : D → D → Bool} : ∀ {xs ys : List D}, sqL f xs ys = true → xs.length = ys.length
  | [], [], _ => rfl
  | [], _ :: _, h => nomatch h
  | _ :: _, [], h => nomatch h
  | x :: xs, y :: ys, h => by
    rw [List.length_cons, List.length_cons, sqL_len (Bool.and_eq_true_iff.mp h).2]
section
open PySem.W
variable {X : Cx} {nm : Nat → Option Addr} {F H : Hp} {pins : List (Addr × Obj)} {σ : L2.St} {s : Shared}
theorem sqL_at {f : D → D → Bool} {n : Nat} (hf : ∀ d e v u v' u', Rep X.K nm F d v → Rep X.K nm F e u → RelV v v' → RelV u u' → f d e = true → EqTree X.prog X.w s n v' u' true) :
    ∀ {xs ys : List D} {vs ws : List V} {us ts : List Value}, Reps X.K nm F xs vs → Reps X.K nm F ys ws → Vals vs us → Vals ws ts → sqL f xs ys = true →
      ∀ j (h1 : j < us.length) (h2 : j < ts.length), EqTree X.prog X.w s n us[j] ts[j] true
  | [], ys, vs, ws, us, ts, r, q, ru, rt, h => fun j h1 => by
    rw [show vs = [] from r] at ru
    cases ru
    exact absurd h1 (Nat.not_lt_zero j)
  | x :: xs, [], vs, ws, us, ts, r, q, ru, rt, h => nomatch h
  | x :: xs, y :: ys, vs, ws, us, ts, r, q, ru, rt, h => by
    obtain ⟨v, vs', rfl, r1, r2⟩ := r
    obtain ⟨w, ws', rfl, q1, q2⟩ := q
    obtain ⟨g1, g2⟩ := Bool.and_eq_true_iff.mp h
    cases ru with
    | cons a1 a2 =>
      cases rt with
      | cons b1 b2 =>
        intro j h1 h2
        cases j with
        | zero => exact hf _ _ _ _ _ _ r1 q1 a1 b1 g1
        | succ j => exact sqL_at hf r2 q2 a2 b2 g2 j (Nat.lt_of_succ_lt_succ h1) (Nat.lt_of_succ_lt_succ h2)
theorem sqK_at {f : D → D → Bool} {n : Nat} (hf : ∀ d e v u v' u', Rep X.K nm F d v → Rep X.K nm F e u → RelV v v' → RelV u u' → f d e = true → EqTree X.prog X.w s n v' u' true) :
    ∀ {xs ys : List (Key × D)} {vs ws : List (Key × V)} {us ts : List (Key × Value)}, RepsK X.K nm F xs vs → RepsK X.K nm F ys ws → KV vs us → KV ws ts → sqK f xs ys = true →
      us.length = ts.length ∧ (∀ p ∈ us, p.1 ∈ xs.map (·.1)) ∧ (∀ k v, (k, v) ∈ us → ∃ y, valueAt ts k = some y ∧ EqTree X.prog X.w s n v y true)
  | [], [], vs, ws, us, ts, r, q, ru, rt, h => by
    rw [show vs = [] from r] at ru
    rw [show ws = [] from q] at rt
    cases ru
    cases rt
    exact ⟨rfl, (fun p hp => nomatch hp), fun k v hv => nomatch hv⟩
  | [], _ :: _, vs, ws, us, ts, r, q, ru, rt, h => nomatch h
  | _ :: _, [], vs, ws, us, ts, r, q, ru, rt, h => nomatch h
  | (k, x) :: xs, (j, y) :: ys, vs, ws, us, ts, r, q, ru, rt, h => by
    obtain ⟨v, vs', rfl, _, r1, r2⟩ := r
    obtain ⟨w, ws', rfl, _, q1, q2⟩ := q
    obtain ⟨g0, g⟩ := Bool.and_eq_true_iff.mp h
    obtain ⟨g1, g⟩ := Bool.and_eq_true_iff.mp g
    obtain ⟨g2, g3⟩ := Bool.and_eq_true_iff.mp g
    have hkj : k = j := of_decide_eq_true g0
    subst hkj
    unfold KV at ru rt
    cases ru with
    | @cons p qq ps qs a1 a2 =>
      cases rt with
      | @cons p2 qq2 ps2 qs2 b1 b2 =>
        obtain ⟨uk, uv⟩ := qq
        obtain ⟨tk, tv⟩ := qq2
        obtain ⟨c1, c2⟩ := a1
        obtain ⟨d1, d2⟩ := b1
        cases (show k = uk from c1)
        cases (show k = tk from d1)
        obtain ⟨i1, i2, i3⟩ := sqK_at hf r2 q2 a2 b2 g3
        refine ⟨by rw [List.length_cons, List.length_cons, i1], fun p hp => ?_, fun k' v' hv => ?_⟩
        · rcases List.mem_cons.mp hp with rfl | hp
          · exact List.mem_cons_self
          · exact List.mem_cons_of_mem _ (i2 p hp)
        · rcases List.mem_cons.mp hv with hv | hv
          · cases hv
            refine ⟨tv, ?_, hf _ _ _ _ _ _ r1 q1 c2 d2 g2⟩
            rw [valueAt_cons, if_pos rfl]
          · obtain ⟨y', e1, e2⟩ := i3 k' v' hv
            refine ⟨y', ?_, e2⟩
            rw [valueAt_cons, if_neg, e1]
            intro e
            have e : k = k' := e
            subst e
            have := i2 _ hv
            obtain ⟨p, hp, hp2⟩ := List.mem_map.mp this
            have hany : (xs.any fun p => decide (p.1 = k)) = true := List.any_eq_true.mpr ⟨p, hp, decide_eq_true hp2⟩
            rw [hany] at g1
            cases g1
theorem sq_tree (I : Inv X pins σ H s) (sb : Sub F H) : ∀ (n : Nat) (d e : D) (v u : V) (v' u' : Value), Rep X.K nm F d v → Rep X.K nm F e u → RelV v v' → RelV u u' → sqN n d e = true → EqTree X.prog X.w s n v' u' true
  | 0, _, _, _, _, _, _, _, _, _, _, h => nomatch h
  | n + 1, d, e, v, u, v', u', r1, r2, q1, q2, h => by
    have leaf : eqN (n + 1) d e = some true → EqTree X.prog X.w s (n + 1) v' u' true := fun he => .leaf fun A hu => eq_all I sb (n + 1) A hu _ _ _ _ _ _ _ r1 r2 q1 q2 he
    cases d <;> cases e <;> first
      | (exact (nomatch (show false = true from h)))
      | (exact leaf rfl)
      | (rename_i a b; exact leaf (congrArg some (show (a == b) = true from h)))
      | skip
    · rename_i xs ys
      obtain ⟨a, vs, us, rfl, rfl, _, h2, h3, h4⟩ := rep_row I sb r1 q1
      obtain ⟨b, ws, ts, rfl, rfl, _, k2, k3, k4⟩ := rep_row I sb r2 q2
      have h : sqL (sqN n) xs ys = true := h
      have at_ := sqL_at (fun d e v u v' u' a1 a2 a3 a4 a5 => sq_tree I sb n d e v u v' u' a1 a2 a3 a4 a5) h2 k2 h3 k3 h
      obtain ⟨l1, l2⟩ := all_size h2 k2 h3 k3
      have hl := sqL_len h
      by_cases hab : a = b
      · subst hab; exact .same
      · have t := EqTree.lists (prog := X.prog) (w := X.w) (n := n) (e := fun _ => true) hab h4 k4 (by rw [List.size_toArray, List.size_toArray]; omega) (fun j h1 h2 => by simpa using at_ j (by simpa using h1) (by simpa using h2))
        rwa [show ((List.range us.toArray.size).all fun _ => true) = true from List.all_eq_true.mpr fun _ _ => rfl] at t
    · rename_i xs ys
      obtain ⟨a, vs, us, rfl, rfl, _, h2, h3, h4⟩ := rep_tup I sb r1 q1
      obtain ⟨b, ws, ts, rfl, rfl, _, k2, k3, k4⟩ := rep_tup I sb r2 q2
      have h : sqL (sqN n) xs ys = true := h
      have at_ := sqL_at (fun d e v u v' u' a1 a2 a3 a4 a5 => sq_tree I sb n d e v u v' u' a1 a2 a3 a4 a5) h2 k2 h3 k3 h
      obtain ⟨l1, l2⟩ := all_size h2 k2 h3 k3
      have hl := sqL_len h
      by_cases hab : a = b
      · subst hab; exact .same
      · have t := EqTree.tuples (prog := X.prog) (w := X.w) (n := n) (e := fun _ => true) hab h4 k4 (fun j h1 h2 => by simpa using at_ j (by simpa using h1) (by simpa using h2))
        rwa [show ((List.range (min us.toArray.size ts.toArray.size)).all (fun _ => true) && us.toArray.size == ts.toArray.size) = true from by
          rw [List.all_eq_true.mpr fun _ _ => rfl, List.size_toArray, List.size_toArray, Bool.true_and]
          exact beq_iff_eq.mpr (by omega)] at t
    · rename_i xs ys
      obtain ⟨a, vs, rfl, h1, _, h2⟩ := r1
      obtain ⟨b, ws, rfl, k1, _, k2⟩ := r2
      cases (show v' = Value.ref a from q1)
      cases (show u' = Value.ref b from q2)
      have h : sqK (sqN n) xs ys = true := h
      obtain ⟨_, lo1, us, rel1, d1⟩ := dk_rd I.hok (sb.dK h1)
      obtain ⟨_, lo2, ts, rel2, d2⟩ := dk_rd I.hok (sb.dK k1)
      obtain ⟨i1, _, i3⟩ := sqK_at (fun d e v u v' u' a1 a2 a3 a4 a5 => sq_tree I sb n d e v u v' u' a1 a2 a3 a4 a5) h2 k2 rel1 rel2 h
      by_cases hab : a = b
      · subst hab; exact .same
      · have t := EqTree.dicts (prog := X.prog) (w := X.w) (n := n) (e := fun _ => true) hab lo1 lo2 d1 d2 (fun k v y hm hy => by
          obtain ⟨y', e1, e2⟩ := i3 k v hm
          rw [e1] at hy
          cases hy
          exact e2)
        rwa [show (us.length == ts.length && us.all fun p => (valueAt ts p.1).isSome && true) = true from by
          rw [Bool.and_eq_true_iff]
          refine ⟨beq_iff_eq.mpr i1, List.all_eq_true.mpr fun p hp => ?_⟩
          obtain ⟨y', e1, _⟩ := i3 p.1 p.2 hp
          rw [e1]; rfl] at t
end
/-- .. != .. of two tuples that hold the same -/
def neSD : D → D → Option D
  | .tup xs, .tup ys => if sqL (sqN 58) xs ys = true then some (.bl false) else none
  | _, _ => none
def rNeS (K : PySem.W.Frag) (nm : Nat → Option Addr) : R2 := fun x y H Q => ∃ F xs ys, Sub F H ∧ Rep K nm F (.tup xs) x ∧ Rep K nm F (.tup ys) y ∧ sqL (sqN 58) xs ys = true ∧ Q (.bl false) H
section
variable {X : Cx} {R : Reg} {W : WX} {nm : Nat → Option Addr}
open PyProof.Rows PySem.SeqAt in
theorem op_neS (hu : X.A.units + 64 < cLine) : OpR X (compareOp .NotEq) (rNeS X.K nm) := by
  intro pins s σ H x y v u Q I rx ry h
  obtain ⟨F, xs, ys, sb, r1, r2, h, q⟩ := h
  obtain ⟨a, vs, us, rfl, rfl, _, h2, h3, h4⟩ := rep_tup I sb r1 rx
  obtain ⟨b, ws, ts, rfl, rfl, _, k2, k3, k4⟩ := rep_tup I sb r2 ry
  have at_ := sqL_at (fun d e v u v' u' a1 a2 a3 a4 a5 => sq_tree I sb 58 d e v u v' u' a1 a2 a3 a4 a5) h2 k2 h3 k3 h
  obtain ⟨l1, l2⟩ := all_size h2 k2 h3 k3
  have hl := sqL_len h
  have hz : us.toArray.size = ts.toArray.size := by rw [List.size_toArray, List.size_toArray]; omega
  have like : ∀ j (h1 : j < us.toArray.size) (h2 : j < ts.toArray.size), EqIn X.prog X.w X.A.in1 s us.toArray[j] ts.toArray[j] true := fun j h1 h2 => by
    have t := at_ j (by simpa using h1) (by simpa using h2)
    have t := t.at X.A.in1 (by show X.A.units + 1 + 58 < cLine; omega)
    simpa using t
  generalize us.toArray = ua at h4 hz like
  generalize ts.toArray = ta at k4 hz like
  obtain ⟨⟨cls, dd, data, sl⟩, ho, hc, n, hd⟩ := id h4
  obtain ⟨⟨cls2, dd2, data2, sl2⟩, ho2, hc2, n2, hd2⟩ := id k4
  cases (show cls = _ from hc)
  cases (show data = _ from hd)
  cases (show cls2 = _ from hc2)
  cases (show data2 = _ from hd2)
  refine wpAny_richCompare_same_room (T := "tuple") (op := .NotEq) ⟨_, ho, rfl⟩ ⟨_, ho2, rfl⟩ PySem.F.slot_tuple_ne (call_meetsIn PySem.F.slot_tuple_ne ⟨_, ho, rfl⟩ PySem.F.entry_tuple_ne (PySem.F.args_tuple_ne_2 _ _) (tuple_ne0 a b ua ta n n2 dd dd2 sl sl2 hz) ⟨ho, ho2, like, ?_⟩) (by omega)
  exact ⟨(fun x => nomatch x), .bl false, H, I, rfl, q⟩
theorem sat_neS : OpSat R (rNeS R.K R.nm) neSD := fun x y d e d' F H s Q w rx ry h k => by
  cases d <;> cases e <;> first
    | (exact (nomatch (show none = some d' from h)))
    | skip
  rename_i xs ys
  have h : (if sqL (sqN 58) xs ys = true then some (D.bl false) else none) = some d' := h
  by_cases hq : sqL (sqN 58) xs ys = true
  · rw [if_pos hq] at h
    cases h
    exact ⟨F, xs, ys, w.sub, rx, ry, hq, k _ F H w Stp.refl rfl⟩
  · rw [if_neg hq] at h; cases h
theorem ck_neS {n : Nat} (c : Cxt X R W n) : CmpOk X R .NotEq neSD := ⟨_, by have := op_neS (X := X) (nm := R.nm) c.hr.units; rw [← c.hK] at this; exact this, sat_neS⟩
end
end Nw
set_option Elab.async false
set_option linter.all false
set_option maxRecDepth 100000
set_option maxHeartbeats 4000000
/-! Part AM: a comprehension whose element may raise: the error goes on to the def around. -/
namespace Nw
open PySem PySem.Spec L2
section
variable {M : Model} {A : Around} {E : Value → Shared → Prop} {s : Shared} {Z : Obj → Prop} {base : Heap} {env : Env} {outer l : List Env} {L e : Addr}
/-- an exception that is traced already, its flight set to another frame or to none, is noted by this frame -/
theorem note_over {fl : Value} {Q : Unit → Shared → Prop} (hZ : HandSPX.Steady Z) (hA : A.frames = some (env :: outer)) (hF : env.frame = some L) (kb : base.StaysIn s.heap) (ne : base.get? e = none) (ff : s.heap.FunFrames base (env :: outer)) (tr : HandSPX.TracedZ s.heap base e Z fl) (nf : (fl == rawInt L) = false)
    (k : ∀ g, HandSPX.HeldZ base (env :: outer) e Z L g → s.heap.UpToSlots g → Q () { s with heap := g }) : wpAny M A (noteFrame (.ref e) env) Q E s := by
  obtain ⟨ob, us, tb, otb, fs, h1, h2, h3, h4, h5, h6, h7, h8, h9⟩ := tr
  unfold noteFrame
  simp only [hF]
  refine wpAny_bind (wpAny_field h1 h3 h4 ?_)
  rw [if_pos (show (Value.ref tb != Value.none) = true by simp)]
  refine wpAny_bind (wpAny_field h7 h8 h9 ?_)
  rw [if_neg (show ¬ ((fl == rawInt L) = true) by rw [nf]; exact Bool.false_ne_true)]
  have sz : 3 < fs.size := (Array.getElem?_eq_some_iff.mp h9).1
  refine wpAny_bind (wpAny_setField h7 h8 sz ?_)
  have apart : ∀ b, b ≠ tb → (s.heap.update tb (Obj.mapFields (·.setIfInBounds 3 Value.none))).get? b = s.heap.get? b := fun b hb => Heap.get?_update_other _ _ (Ne.symm hb)
  have norec : ∀ b o, s.heap.get? b = some o → (∀ xs, o.data ≠ .fields xs) → b ≠ tb := fun b o hb hn z => by
    rw [z, h7] at hb
    exact hn fs (Option.some.inj hb ▸ h8)
  refine HandSPX.wpAny_entryZ hZ hA (ff.of_keeps fun b o hb hn => ⟨o, (apart b (norec b o hb hn)).trans hb, rfl⟩) hF ((apart e (Ne.symm h6)).trans h1) (fun b o hb => (apart b fun z => by rw [z, h5] at hb; cases hb).trans (kb b o hb)) ne h3 (Array.getElem?_eq_some_iff.mp h4).1 h2 fun g hg => ?_
  obtain ⟨y1, y2, y3, y4⟩ := hg
  exact k g ⟨y1, ne, y2, y3⟩ fun b o hb hn => y4 b o ((apart b (norec b o hb hn)).trans hb) hn
theorem rawInt_ne {a b : Addr} (h : a ≠ b) : (rawInt a == rawInt b) = false := by
  have : rawInt a ≠ rawInt b := fun z => h (by
    have z : Value.int (a : Int) 0 = Value.int (b : Int) 0 := z
    injection z with z _
    exact Int.ofNat.inj z)
  simpa using this
/-- however it flies, this frame notes it -/
theorem sky_noted {B : Heap} {C : Addr} {Q : Unit → Shared → Prop} (hZ : HandSPX.Steady Z) (hA : A.frames = some (env :: outer)) (hF : env.frame = some L) (hC : C ≠ L) (sky : Sky B (env :: outer) e Z C s.heap)
    (k : ∀ g, HandSPX.HeldZ B (env :: outer) e Z L g → s.heap.UpToSlots g → Q () { s with heap := g }) : wpAny M A (noteFrame (.ref e) env) Q E s := by
  rcases sky with ⟨x1, x2, x3, ob, us, x4, x5, x6, x7⟩ | ⟨x1, x2, x3, x4⟩ | ⟨x1, x2, x3, x4⟩
  · exact HandSPX.look_newZ hZ hA x3 hF x4 x1 x2 x6 x7 x5 k
  · exact note_over hZ hA hF x1 x2 x3 x4 rfl k
  · exact note_over hZ hA hF x1 x2 x3 x4 (rawInt_ne hC) k
/-- noted: the block is let go, and it goes on -/
theorem fails_on {cenv : Env} {m : Str → Option Value} (hF : cenv.frame = some L) (hn : s.heap.Ns cenv.locals m) (hb : base.get? cenv.locals ≠ none) (hl : cenv.locals ∉ frs l) (hh : HandSPX.HeldZ base l e Z L s.heap)
    (k : ∀ g, HandSPX.HeldZ (PySem.W.hideAll base [cenv.locals]) l e Z L g → (∀ b o, b ≠ cenv.locals → s.heap.get? b = some o → (∀ xs, o.data ≠ .fields xs) → ∃ sl, g.get? b = some { o with slots := sl }) → E (.ref e) { s with heap := g }) : CompFails M A E cenv (.ref e) s := by
  refine ⟨m, hn, fun g0 m0 n0 same => ?_⟩
  obtain ⟨b1, b2, f1, ob, us, tb, otb, fs, h1, h2, h3, h4, h5, h6, h7, h8, h9⟩ := hh
  have eC : e ≠ cenv.locals := fun z => hb (z ▸ b2)
  have tC : tb ≠ cenv.locals := fun z => hb (z ▸ h5)
  have h1' := (same.2 e eC).trans h1
  have h7' := (same.2 tb tC).trans h7
  have held : HandSPX.HeldZ (PySem.W.hideAll base [cenv.locals]) l e Z L g0 := by
    refine ⟨fun b o q => ?_, ?_, ?_, ob, us, tb, otb, fs, h1', h2, h3, h4, ?_, h6, h7', h8, h9⟩
    · have ne : b ≠ cenv.locals := fun z => by
        rw [z, PySem.W.hideAll_none _ (List.mem_singleton.mpr rfl)] at q
        cases q
      exact (same.2 b ne).trans (b1 b o (PySem.W.of_hideAll _ q))
    · cases q : (PySem.W.hideAll base [cenv.locals]).get? e with
      | none => rfl
      | some o => rw [PySem.W.of_hideAll _ q] at b2; cases b2
    · refine funFrames_none (Heap.FunFrames.sameBut same n0 f1) fun b hbl => ?_
      cases q : (PySem.W.hideAll base [cenv.locals]).get? b with
      | none => rfl
      | some o =>
        have z := PySem.W.of_hideAll _ q
        obtain ⟨w1, _⟩ := f1.mem hbl
        rw [w1] at z
        cases z
    · cases q : (PySem.W.hideAll base [cenv.locals]).get? tb with
      | none => rfl
      | some o => rw [PySem.W.of_hideAll _ q] at h5; cases h5
  unfold passOn
  refine wpAny_bind (wpAny_field h1' h3 h4 ?_)
  rw [if_neg (show ¬ ((Value.ref tb == Value.none) = true) by simp)]
  rw [hF]
  refine wpAny_bind (HandSPX.setFlight_onZ (s := { s with heap := g0 }) held fun g hg up => ?_)
  refine wpAny_throw (k g hg fun b o ne q nf => ?_)
  exact up b o ((same.2 b ne).trans q) nf
end
section
variable {X : Cx}
/-- a block's context, with a wish about errors -/
abbrev blkX (X : Cx) (s : Shared) (H : Hp) (scope : Scope) (ce : Env) (fp : List Addr) : Cx := { X.blk s H scope ce fp with xe := notedBy (model X.prog X.w) X.A ce (CompFails (model X.prog X.w) X.A X.xe ce) }
theorem okX {s : Shared} {H : Hp} {scope : Scope} {ce : Env} {fp : List Addr} (o : (X.blk s H scope ce fp).Ok) : (blkX X s H scope ce fp).Ok := ⟨o.mod, o.kind, o.glob, o.blt, o.above, o.inj, o.has, o.cab, o.hd, o.frames, o.stk, o.exf, o.bs, o.bsz, o.noex, o.exfs, o.funs, o.frf⟩
theorem invX {s : Shared} {H : Hp} {scope : Scope} {ce : Env} {fp : List Addr} {pins : List (Addr × Obj)} {σ : L2.St} {H1 : Hp} {s1 : Shared} (I : Inv (X.blk s H scope ce fp) pins σ H1 s1) : Inv (blkX X s H scope ce fp) pins σ H1 s1 :=
  ⟨okX I.ok, I.os, I.bare, I.base, I.loc, I.cell, I.free, I.freeC, I.pin, I.hok, I.len⟩
/-- what leaves the block is taken by the def around -/
theorem takes_blk {W : WX} {pins : List (Addr × Obj)} {σ : L2.St} {H : Hp} {s : Shared} {scope : Scope} {ce : Env} {fp : List Addr} (tk : Takes X W) (hs : X.stack = X.env :: X.outer) (hf : X.env.frame = some X.env.locals) (hcf : ce.frame = X.env.frame) (hcl : s.heap.objs.size ≤ ce.locals)
    (I : Inv X pins σ H s) (ffp : ∀ b ∈ fp, FpOk X pins H b) : Takes (blkX X s H scope ce fp) (fun c d _ H' => W c d σ H') := by
  intro u s' ⟨a, B, sI, pins', σ', H', cls, d, eu, J, nb, up, sky, na, os, ag, w⟩
  subst eu
  show wpAny _ X.A (noteFrame (.ref a) ce) (fun _ s2 => CompFails _ X.A X.xe ce (.ref a) s2) _ s'
  have K : Inv X pins σ H' sI := I.call' (ch := fp) J.os J.base J.hok J.bare fun b hb => ⟨(ffp b hb).2.2.2.1, (ffp b hb).2.1, (ffp b hb).2.2.2.2.1, (ffp b hb).2.2.2.2.2⟩
  obtain ⟨m, hn, _⟩ := J.loc
  have hn : sI.heap.Ns ce.locals m := hn
  have nC : H' ce.locals = none := J.free
  have fC := I.fpOk hcl nC
  have cS : ce.locals ∉ frs X.stack := fun z => by
    rcases List.mem_cons.mp (I.stkSub _ z) with z | z
    · exact fC.2.1 z
    · exact fC.2.2.1 z
  have hA : X.A.frames = some (X.env :: X.outer) := by rw [I.ok.frames, hs]
  have nb : ∀ b o, sI.heap.get? b = some o → b ∉ frs X.stack → B.get? b = some o := nb
  have sky : Sky B X.stack a (Zc cls d) ce.locals s'.heap := sky
  rw [noteFrame_env _ hcf]
  rw [hs] at sky
  refine sky_noted Zc.steady hA hf fC.2.1 sky fun g hg up1 => ?_
  have n1 : g.Ns ce.locals m := (hn.upToSlots up).upToSlots up1
  refine fails_on (L := X.env.locals) (l := X.env :: X.outer) (hcf.trans hf) n1 (fun z => ?_) (by rw [← hs]; exact cS) hg fun g2 hg2 up2 => ?_
  · obtain ⟨o, _, _, ho, _⟩ := hn
    rw [nb _ o ho cS] at z
    cases z
  have I2 : Inv X pins σ H' { sI with heap := PySem.W.hideAll sI.heap [ce.locals], toks := sI.toks } := by
    obtain ⟨f0, f1, f2, f3, f4, f5⟩ := fC
    exact K.turned (fun b o ne q => PySem.W.hideAll_get _ q fun z => ne (List.mem_singleton.mp z)) f0 f1 f3 f4 f5
  have hid : ∀ b o, (PySem.W.hideAll sI.heap [ce.locals]).get? b = some o → b ≠ ce.locals ∧ sI.heap.get? b = some o := fun b o q => by
    refine ⟨fun z => ?_, PySem.W.of_hideAll _ q⟩
    rw [z, PySem.W.hideAll_none _ (List.mem_singleton.mpr rfl)] at q
    cases q
  refine tk _ _ ⟨a, PySem.W.hideAll B [ce.locals], _, pins, σ, H', cls, d, rfl, I2, fun b o q hb => ?_, fun b o q nf => ?_, .inr (.inr (by rw [hs]; exact hg2)), na, os, ag, w⟩
  · obtain ⟨q1, q2⟩ := hid b o q
    exact PySem.W.hideAll_get _ (nb b o q2 hb) fun z => q1 (List.mem_singleton.mp z)
  · obtain ⟨q1, q2⟩ := hid b o q
    obtain ⟨l1, q3⟩ := up b o q2 nf
    obtain ⟨l2, q4⟩ := up1 b _ q3 nf
    obtain ⟨l3, q5⟩ := up2 b _ q1 q4 nf
    exact ⟨l3, q5⟩
/-- [elt for tg in iter if ..], an element may raise -/
theorem pe_lcX {W : WX} {elt tg iter : Expr} {ifs : List Expr} {scope : Scope} {own : List (Str × Nat)} {pos : Pos} {wi : TI} {g : TG} {tt : TT} {te : WX → TE} (tk : Takes X W) (hs : X.stack = X.env :: X.outer) (hf : X.env.frame = some X.env.locals) (hc : X.calm = true) (hN : X.N.Nodup) (hi : PI X tg iter wi) (ok : BlkOk X.N X.env.scope scope own)
    (hg : ∀ (s : Shared) (H : Hp) (C : Addr) (cl : List (Str × Addr)) (fp : List Addr), PG (blkX X s H scope (compEnvC scope cl C X.env) fp) tg g)
    (ht : ∀ (s : Shared) (H : Hp) (C : Addr) (cl : List (Str × Addr)) (fp : List Addr), PTs (blkX X s H scope (compEnvC scope cl C X.env) fp) ifs tt)
    (he : ∀ (s : Shared) (H : Hp) (C : Addr) (cl : List (Str × Addr)) (fp : List Addr) (W' : WX), Takes (blkX X s H scope (compEnvC scope cl C X.env) fp) W' → PE (blkX X s H scope (compEnvC scope cl C X.env) fp) elt (te W'))
    (fold : ∀ x, foldedSetIterable iter X.env x = pure x := by intro _; rfl) : PE X (.ListComp elt [⟨tg, iter, ifs, 0⟩] scope pos) (fun σ H Q => tLc wi g tt (te fun c d _ H' => W c d σ H') (own.map (·.2)) σ H Q) := by
  refine ⟨fun pins s σ H Q I hw => ?_⟩
  rw [eval_ListComp]
  have cap : ∀ y ∈ scope.names, y.2 = .free → ∃ c, X.env.cells.lookup y.1 = some c := fun y hy e => I.ok.has _ ((ok.free y hy e).imp (fun z => z) fun z => z)
  refine comprehension_at (use := none) rfl fold (closure_ok cap) ok.kind (fun y hy e => by rw [ok.uniq y hy, e]) (thn (hi.run pins s σ H _ I hw) fun xv t1 hx => thn hx fun itv t2 ht2 => ?_)
  obtain ⟨it, fp, tn, J, G2, e, I2, T, tn2, fq2, wq⟩ := ht2
  subst e
  refine wpAny_newObj_type (newEnv_comp ?_) (by show 0 ≤ sizeLine; decide)
  generalize eD : t2.heap.objs.size = Dn
  have nD : G2 Dn = none := I2.hok.fresh (Nat.le_of_eq eD)
  obtain ⟨Wt, ⟨m0, w0⟩, turn⟩ := wq Dn nD
  generalize e3 : ({ t2 with heap := t2.heap.push { cls := .type "list", data := .seq ([] : List Value).toArray } } : Shared) = t3
  have I3 : Inv X pins σ (upd G2 Dn (.lst [])) t3 := by
    rw [← e3]
    refine I2.laid (t' := t2.toks) (fun b o q => Heap.get?_push_of_some _ q) (Nat.le_of_eq eD) ⟨Nat.zero_le _, [], 0, .nil, ?_⟩
    rw [← eD]
    exact Heap.get?_push_size _ rfl
  have hp3 : t3.heap = t2.heap.push { cls := .type "list", data := .seq ([] : List Value).toArray } := by rw [← e3]
  have ltF : ∀ b ∈ fp, b < t2.heap.objs.size := fun b hb => by
    obtain ⟨o, q, _⟩ := T.obj _ _ tn2 b hb
    exact Heap.lt_size q
  have fq3 : ∀ b ∈ fp, FpOk X pins (upd G2 Dn (.lst [])) b ∧ b < t3.heap.objs.size := fun b hb => by
    have lt := ltF b hb
    refine ⟨⟨?_, (fq2 b hb).2⟩, by rw [hp3, Heap.size_push]; exact Nat.lt_succ_of_lt lt⟩
    rw [upd_ne (by rw [← eD]; exact Nat.ne_of_lt lt)]
    exact (fq2 b hb).1
  have tn3 : tn 0 t3.heap := T.keep _ _ _ tn2 fun b _ o q => by rw [hp3]; exact Heap.get?_push_of_some _ q
  have I4 := invX (block_start I3 ok hN fq3)
  have Pg := hg t3 (upd G2 Dn (.lst [])) t3.heap.objs.size (cellsFrom (t3.heap.objs.size + 1) scope.names (cloFrom X.env.cells scope.names [])) fp
  have Pt := ht t3 (upd G2 Dn (.lst [])) t3.heap.objs.size (cellsFrom (t3.heap.objs.size + 1) scope.names (cloFrom X.env.cells scope.names [])) fp
  have Pe := he t3 (upd G2 Dn (.lst [])) t3.heap.objs.size (cellsFrom (t3.heap.objs.size + 1) scope.names (cloFrom X.env.cells scope.names [])) fp _ (takes_blk tk hs hf rfl (Nat.le_refl _) I3 fun b hb => (fq3 b hb).1)
  show codeAny _ _ (.compStart (.ListComp elt [⟨tg, iter, ifs, 0⟩] scope pos) 0 (.ref it) (.ref Dn) (compEnvC scope (cellsFrom (t3.heap.objs.size + 1) scope.names (cloFrom X.env.cells scope.names [])) t3.heap.objs.size X.env)) (compEnds (model X.prog X.w) X.A X.xe none (EP X pins σ Q) (.ref Dn) (compEnvC scope (cellsFrom (t3.heap.objs.size + 1) scope.names (cloFrom X.env.cells scope.names [])) t3.heap.objs.size X.env)) { t3 with heap := pushCells (t3.heap.push { cls := .type "dict", data := .dict #[] }) scope.names }
  have nFp : ∀ b ∈ fp, (upd G2 Dn (.lst [])) b = none := fun b hb => (fq3 b hb).1.1
  generalize eCe : compEnvC scope (cellsFrom (t3.heap.objs.size + 1) scope.names (cloFrom X.env.cells scope.names [])) t3.heap.objs.size X.env = ce at I4 Pg Pt Pe ⊢
  have lC : ce.locals = t3.heap.objs.size := by subst eCe; rfl
  generalize eG3 : upd G2 Dn (.lst []) = G3 at I3 I4 Pg Pt Pe w0 nFp fq3
  generalize e4 : ({ t3 with heap := pushCells (t3.heap.push { cls := .type "dict", data := .dict #[] }) scope.names } : Shared) = t4 at I4 ⊢
  have tn4 : tn 0 t4.heap := T.keep _ _ _ tn3 fun b _ o q => by rw [← e4]; exact pushCells_keeps _ _ _ _ (Heap.get?_push_of_some _ q)
  have ownF : ∀ {τ : L2.St} {H' : Hp} {s' : Shared}, Inv (blkX X t3 G3 scope ce fp) [] τ H' s' → (∀ b ∈ fp, H' b = none) → ∀ b ∈ fp, FpOk (blkX X t3 G3 scope ce fp) [] H' b := fun {τ H' s'} I' hn b hb =>
    ⟨hn b hb, (I'.ok.exf b hb).1, I'.ok.exfs b hb, .inl hb, fun x c q => (I'.ok.exf b hb).2 x c q, fun p hp => absurd (show p ∈ ([] : List (Addr × Obj)) ++ [] from hp) (by simp)⟩
  have loop : codeAny (model X.prog X.w) X.A (.compLoop (.ListComp elt [⟨tg, iter, ifs, 0⟩] scope pos) 0 (.ref it) (.ref Dn) ce) (compEnds (model X.prog X.w) X.A X.xe none (EP X pins σ Q) (.ref Dn) ce) t4 := by
    refine compLoop_any (fun n s' => ∃ i H', Inv (blkX X t3 G3 scope ce fp) [] (wipe σ (own.map (·.2))) H' s' ∧ tn i s'.heap ∧ (∀ b ∈ fp, H' b = none) ∧ Wt i n H') ?_ m0 ⟨0, G3, I4, tn4, nFp, w0⟩
    rintro n t5 ⟨i, G5, I5, tn5, n5, w5⟩
    rcases turn i n G5 w5 with ⟨stop, qq⟩ | ⟨go, Nx, hNx, step⟩
    · have over := T.done (blkX X t3 G3 scope ce fp) rfl rfl rfl hc i [] t5 _ G5 (fun _ _ => False) I5 (ownF I5 n5) tn5 stop
      refine thnF over fun r t6 ⟨hr, I6⟩ => ?_
      subst hr
      have I7 : Inv X pins σ G5 t6 := I3.call' (ch := fp) I6.os I6.base I6.hok I6.bare fun b hb => ⟨(fq3 b hb).1.2.2.2.1, (fq3 b hb).1.2.1, (fq3 b hb).1.2.2.2.2.1, (fq3 b hb).1.2.2.2.2.2⟩
      have nC : G5 ce.locals = none := I6.free
      obtain ⟨m, hn, _⟩ := I6.loc
      have hn : t6.heap.Ns ce.locals m := hn
      obtain ⟨f0, f1, f2, f3, f4, f5⟩ := I3.fpOk (Nat.le_of_eq lC.symm) nC
      exact ⟨m, hn, fun g' sb => ⟨.ref Dn, G5, I7.turned (t' := t6.toks) (fun b o hb q => (sb.2 b hb).trans q) f0 f1 f3 f4 f5, rfl, qq⟩⟩
    · have nxt := T.item (blkX X t3 G3 scope ce fp) rfl rfl rfl hc i [] t5 _ G5 (fun _ _ => False) I5 (ownF I5 n5) tn5 go
      refine thnF nxt fun r t6 ⟨u, hr, k6⟩ => ?_
      subst hr
      refine thnF k6 fun _ t7 ⟨x, G7, I7, r7, y7, tn7, n7⟩ => ?_
      have I7' := I7.pinned (ownF I7 n7) (T.obj _ _ tn7)
      refine thn (Pg.run _ t7 _ G7 x u _ I7' r7 (step x G7 y7)) fun _ t8 ⟨τ, G8, I8, hw8, k8⟩ => ?_
      refine thn (Pt.run _ t8 τ G8 _ I8 k8) fun b t9 ⟨G9, I9, k9⟩ => ?_
      have fin : ∀ {s' : Shared} {H' : Hp}, Inv (blkX X t3 G3 scope ce fp) ([] ++ pinsAt fp t7.heap) τ H' s' → Nx H' → ∃ m, m < n ∧ ∃ i H', Inv (blkX X t3 G3 scope ce fp) [] (wipe σ (own.map (·.2))) H' s' ∧ tn i s'.heap ∧ (∀ b ∈ fp, H' b = none) ∧ Wt i m H' := fun {s' H'} I' nx => by
        obtain ⟨m', hm, w'⟩ := hNx H' nx
        have pinned : ∀ b ∈ fp, ∀ o, t7.heap.get? b = some o → s'.heap.get? b = some o ∧ H' b = none := fun b hb o q => by
          have z := I'.pin (b, o) (List.mem_append_right _ (List.mem_append_right _ (mem_pinsAt hb q)))
          exact ⟨z.1, z.2.1⟩
        have ln : (wipe σ (own.map (·.2))).length = τ.length := by rw [← hw8, wipe_length]
        refine ⟨m', hm, i + 1, H', (I'.unpinned (pins := [])).weak ln (fun j v q => ?_), T.keep _ _ _ tn7 fun b hb o q => (pinned b hb o q).1, fun b hb => ?_, w'⟩
        · rw [← hw8] at q
          exact (wipe_some q).1
        · obtain ⟨o, q, _⟩ := T.obj _ _ tn7 b hb
          exact (pinned b hb o q).2
      cases b with
      | false =>
        rw [if_neg Bool.false_ne_true] at k9 ⊢
        exact fin I9 k9
      | true =>
        rw [if_pos rfl] at k9 ⊢
        refine thn (Pe.run _ t9 τ G9 _ I9 k9) fun z t10 ⟨yv, G10, I10, r10, acc, lD, lz, nx⟩ => ?_
        exact app_ok (X := blkX X t3 G3 scope ce fp) I10 lD lz r10 fun t11 I11 => fin I11 nx
  exact codeAny_compStart_list loop (T.self X.A 0 _ _ _ tn4 loop)
end
/-! ### plain data -/
section
variable {S : Type}
/-- the turns of a comprehension whose element may raise -/
def lcX (tg : D → Sl → Option Sl) (t : Sl → M S Bool) (f : Sl → M S D) (r : Sl) : List D → List D → M S D
  | acc, [] => ret (.row acc)
  | acc, x :: xs => bnd (lift (tg x r)) fun r' => bnd (nox (t r')) fun b => if b = true then bnd (f r') fun y => lcX tg t f r (acc ++ [y]) xs else lcX tg t f r acc xs
def dLcX (it : Sl → M S (List D)) (tg : D → Sl → Option Sl) (t : Sl → M S Bool) (f : Sl → M S D) : Sl → M S D := fun r => bnd (it r) fun xs => lcX tg t f r [] xs
end
section
variable {X : Cx} {R : Reg} {W : WX} {O : List Nat}
theorem sat_lcX {it : Sl → M R.S (List D)} {g : TG} {vs : List Nat} {tgt : D → Sl → Option Sl} {t : Sl → M R.S Bool} {f : Sl → M R.S D} (hg : TgSat R g vs tgt) (σ : L2.St) (H : Hp) (Q : VK) (h : tD R W O (dLcX it tgt t f) σ H Q) :
    tLc (tDI R W O it) g (tDT R W0 O t) (tD R (fun c d _ H' => W c d σ H') O f) vs σ H Q := by
  obtain ⟨F, ρ, s, w, pu, p⟩ := h
  refine ⟨F, ρ, s, w, pu, p.bnd.imp (fun ds s1 F1 H1 w1 st1 p1 J wk Dn hD => ?_) fun _ _ _ _ _ _ z => z⟩
  have pu1 := pu.mono st1.fs
  have nMu : ¬ R.Mu Dn := w1.notMu hD
  have fD : F1 Dn = none := w1.free hD
  refine ⟨fun i m Hc => m = ds.length - i ∧ i ≤ ds.length ∧ ∃ Fc sc acc ws, Wd R Fc Hc sc ∧ Stp R F1 H1 Fc Hc ∧ Hc Dn = some (.lst ws) ∧ Fc Dn = none ∧ Reps R.K R.nm Fc acc ws ∧ acc.length ≤ i ∧
    Post R F1 H1 (lcX tgt t f ρ acc (ds.drop i) sc) (fun d _ F' H' => ∀ v, Rep R.K R.nm F' d v → Q v H') (fun x _ F' H' => ∀ cls dd, RepX R.K R.nm F' x cls dd → W cls dd σ H'),
    ⟨_, rfl, Nat.zero_le _, F1, s1, [], [], w1.newH _ hD, Stp.newH _ hD, upd_same, fD, rfl, Nat.le_refl _, p1⟩, ?_⟩
  rintro i m Hc ⟨rfl, hi, Fc, sc, acc, ws, wc, stc, hDc, fDc, rc, hacc, pc⟩
  by_cases hlt : i < ds.length
  · refine .inr ⟨wk.go i Fc Hc (stc.kp wc.sub w1) hlt, fun Hn => (ds.length - (i + 1)) = ds.length - (i + 1) ∧ i + 1 ≤ ds.length ∧ ∃ Fc sc acc ws, Wd R Fc Hn sc ∧ Stp R F1 H1 Fc Hn ∧ Hn Dn = some (.lst ws) ∧ Fc Dn = none ∧ Reps R.K R.nm Fc acc ws ∧ acc.length ≤ i + 1 ∧
      Post R F1 H1 (lcX tgt t f ρ acc (ds.drop (i + 1)) sc) (fun d _ F' H' => ∀ v, Rep R.K R.nm F' d v → Q v H') (fun x _ F' H' => ∀ cls dd, RepX R.K R.nm F' x cls dd → W cls dd σ H'),
      fun H' q => ⟨_, by omega, q⟩, fun x H' y => ?_⟩
    obtain ⟨rfl, d, hd, rd⟩ := wk.yld i Fc Hc x H' (stc.kp wc.sub w1) hlt y
    have ed : ds.drop i = d :: ds.drop (i + 1) := by
      rw [List.drop_eq_getElem_cons hlt]
      rw [List.getElem?_eq_getElem hlt] at hd
      cases hd
      rfl
    rw [ed] at pc
    obtain ⟨r', er, pc⟩ := pc.lift0
    refine hg x d (wipe σ vs) ρ r' Fc H' _ wc.sub rd (by rw [wipe_length]; exact pu.len) er fun σ2 sa => ⟨wipe_eq (by rw [sa.len, wipe_length]) fun j hj => (sa.off j hj).1, ?_⟩
    have pu2 : Pu R O Fc σ2 r' := ⟨by rw [sa.lenr, sa.len, wipe_length]; exact pu.len, fun j d' hj e => by
      by_cases hv : j ∈ vs
      · exact sa.on j d' hv e
      · obtain ⟨e1, e2⟩ := sa.off j hv
        rw [e2] at e
        obtain ⟨v, h1, h2⟩ := (pu1.mono stc.fs).at_ j d' hj e
        exact ⟨v, by rw [e1, wipe_out hv]; exact h1, h2⟩⟩
    refine ⟨Fc, r', sc, wc, pu2, ((post_nox pc.bnd0).from stc).imp (fun b s3 F3 H3 w3 st3 p3 => ?_) fun _ _ _ _ _ _ z => z⟩
    have hD3 : H3 Dn = some (.lst ws) := st3.own nMu fDc hDc
    have fD3 : F3 Dn = none := st3.freeF fDc (by rw [hDc]; exact fun z => nomatch z)
    cases b with
    | false =>
      rw [if_neg Bool.false_ne_true] at p3
      refine iteF ?_
      exact ⟨rfl, hlt, F3, s3, acc, ws, w3, stc.trans st3, hD3, fD3, rc.mono st3.fs, by omega, p3⟩
    | true =>
      rw [if_pos rfl] at p3
      refine iteT ?_
      refine ⟨F3, r', s3, w3, pu2.mono st3.fs, (p3.bnd0.from (stc.trans st3)).imp (fun y' s4 F4 H4 w4 st4 p4 u ru => ?_) fun _ _ _ _ _ _ z => z⟩
      have hD4 : H4 Dn = some (.lst ws) := st4.own nMu fD3 hD3
      have fD4 : F4 Dn = none := st4.freeF fD3 (by rw [hD3]; exact fun z => nomatch z)
      have hz := wk.hz
      refine ⟨ws, hD4, by rw [rc.length]; omega, rfl, hlt, F4, s4, acc ++ [y'], ws ++ [u], w4.ownW fD4 nMu _, ((stc.trans st3).trans st4).ownW hD _, upd_same, fD4, ((rc.mono st3.fs).mono st4.fs).append ⟨u, [], rfl, ru, rfl⟩, by rw [List.length_append, List.length_singleton]; omega, p4⟩
  · have ei : i = ds.length := by omega
    subst ei
    refine .inl ⟨wk.stop Fc Hc (stc.kp wc.sub w1), ?_⟩
    rw [List.drop_length] at pc
    have hz := wk.hz
    exact pc (upd Fc Dn (.lst ws)) Hc (wc.frz hDc nMu) (stc.frz hD fDc _) (.ref Dn) ⟨Dn, ws, rfl, upd_same, by omega, rc.mono fun b o q => by rw [upd_ne (ne_of_none q fDc)]; exact q⟩
variable {tg elt iter : Expr} {ifs : List Expr} {scope : Scope} {own : List (Str × Nat)} {it : Sl → M R.S (List D)} {g : TG} {tgt : D → Sl → Option Sl} {t : Sl → M R.S Bool} {f : Sl → M R.S D} {n : Nat} {pos : Pos}
theorem Cxt.blkX (c : Cxt X R W n) (W' : WX) (s : Shared) (H : Hp) (scope : Scope) (ce : Env) (fp : List Addr) : Cxt (Nw.blkX X s H scope ce fp) R W' n := ⟨c.hK, c.hr, c.nd, c.calm⟩
theorem de_lcX (c : Cxt X R W n) (tk : TkM false X W) (hs : X.stack = X.env :: X.outer) (hf : X.env.frame = some X.env.locals) (hi : PI X tg iter (tDI R W O it)) (ok : BlkOk X.N X.env.scope scope own) (hgs : TgSat R g (own.map (·.2)) tgt)
    (hg : ∀ (s : Shared) (H : Hp) (C : Addr) (cl : List (Str × Addr)) (fp : List Addr), PG (blkX X s H scope (compEnvC scope cl C X.env) fp) tg g)
    (ht : ∀ (s : Shared) (H : Hp) (C : Addr) (cl : List (Str × Addr)) (fp : List Addr), Cxt (blkX X s H scope (compEnvC scope cl C X.env) fp) R W0 n → PTs (blkX X s H scope (compEnvC scope cl C X.env) fp) ifs (tDT R W0 O t))
    (he : ∀ (s : Shared) (H : Hp) (C : Addr) (cl : List (Str × Addr)) (fp : List Addr) (W' : WX), Cxt (blkX X s H scope (compEnvC scope cl C X.env) fp) R W' n → TkM false (blkX X s H scope (compEnvC scope cl C X.env) fp) W' → PE (blkX X s H scope (compEnvC scope cl C X.env) fp) elt (tD R W' O f)) (fold : ∀ x, foldedSetIterable iter X.env x = pure x := by intro _; rfl) :
    PE X (.ListComp elt [⟨tg, iter, ifs, 0⟩] scope pos) (tD R W O (dLcX it tgt t f)) :=
  pe_imp (pe_lcX (te := fun W' => tD R W' O f) tk hs hf c.calm c.nd hi ok hg (fun s H C cl fp => ht s H C cl fp (c.blkX _ _ _ _ _ _)) (fun s H C cl fp W' tk' => he s H C cl fp W' (c.blkX _ _ _ _ _ _) tk') fold) fun σ H Q h => sat_lcX hgs σ H Q h
end
end Nw
set_option Elab.async false
set_option linter.all false
set_option maxRecDepth 100000
set_option maxHeartbeats 4000000
namespace Nw
open PySem PySem.Spec L2
def top (i : Nat) : Stmt := PySem.Challenge.pw_nestways_k21_whole_way_texts.main.body.getD i (.Pass ⟨0, 0, 0, 0⟩)
abbrev s_is_sign : Stmt := top 10
abbrev s_is_word : Stmt := top 11
abbrev s_is_step : Stmt := top 13
abbrev s_look_way : Stmt := top 14
abbrev s_written_way : Stmt := top 15
abbrev s_read_step : Stmt := top 16
abbrev s_read_way : Stmt := top 17
abbrev s__law_cell : Stmt := top 19
abbrev s__law_mix : Stmt := top 20
abbrev s__law_draw : Stmt := top 21
abbrev s__law_pick : Stmt := top 22
abbrev s__law_refusal : Stmt := top 23
abbrev s__law_word : Stmt := top 24
abbrev s__law_told : Stmt := top 25
abbrev s__law_step_text : Stmt := top 26
abbrev s__law_way_of : Stmt := top 27
abbrev s_law : Stmt := top 28
structure Den where
  is_sign : List D → M Unit D
  is_word : List D → M Unit D
  is_step : List D → M Unit D
  look_way : List D → M Unit D
  written_way : List D → M Unit D
  read_step : List D → M Unit D
  read_way : List D → M Unit D
  _law_cell : List D → M Unit D
  _law_mix : List D → M Unit D
  _law_draw : List D → M Nat D
  _law_pick : List D → M Nat D
  _law_refusal : List D → M Unit D
  _law_word : List D → M Nat D
  _law_told : List D → M Unit D
  _law_step_text : List D → M Unit D
  _law_way_of : List D → M Unit D
def b_is_sign (d : Den) : Sl → Mo Unit := (sRet (dAnd (dChain leD ltD (dC (.int 32)) (dAll ordD (dCons (dVar 0) dNil)) (dC (.int 127))) (dOp neD (dAll ordD (dCons (dVar 0) dNil)) (dC (.int 37)))))
def b_is_word (d : Den) : Sl → Mo Unit := (sRet (dAnd (dOp leD (dAll lenD (dCons (dVar 0) dNil)) (dC (.int 60))) (dAll allD (dCons (dLc (dItems (dVar 0)) (tgN 1) dYes (dCall 1 (fun ds => up (d.is_sign ds)) (dCons (dVar 1) dNil))) dNil))))
def b_is_step (d : Den) : Sl → Mo Unit := (sRet (dCall 1 (fun ds => up (d.is_word ds)) (dCons (dVar 0) dNil)))
def b_look_way (d : Den) : Sl → Mo Unit := (sIf (tNotD (dTst (dAll allD (dCons (dLc (dItems (dVar 0)) (tgN 1) dYes (dCall 1 (fun ds => up (d.is_step ds)) (dCons (dVar 1) dNil))) dNil)) truD)) (sRaise .BadWay) sNil)
def b_written_way (d : Den) : Sl → Mo Unit := (sSeq (sDrop (dCall 1 (fun ds => up (d.look_way ds)) (dCons (dVar 0) dNil)))
    (sRet (dMt "str" joinDD (dC (.str "")) (dCons (dLc (dItems (dVar 0)) (tgN 1) dYes (dUn (repAddD "/" "~" "~0" "/" "~1") (dVar 1))) dNil))))
def b_read_step (d : Den) : Sl → Mo Unit := (sSeq (sAsg (tgN 1) (dC (.str "")))
    (sSeq (sAsg (tgN 2) (dC (.int 0)))
    (sSeq (fun r => whileL (dTst (dOp ltD (dVar 2) (dAll lenD (dCons (dVar 0) dNil))) isBl) (sSeq (sAsg (tgN 3) (dOp ixD (dVar 0) (dVar 2)))
    (sSeq (sIf (dTst (dOp eqD (dVar 3) (dC (.str "~"))) isBl) (sSeq (sIf (dTst (dOp (inD true) (dSl (dVar 0) (pSome (dOp addD (dVar 2) (dC (.int 1)))) (pSome (dOp addD (dVar 2) (dC (.int 2))))) (dAll tupD (dCons (dC (.str "0")) (dCons (dC (.str "1")) dNil)))) isBl) (sRaise .BadWay) sNil)
    (sSeq (sAsg (tgN 3) (dIf (dTst (dOp eqD (dOp ixD (dVar 0) (dOp addD (dVar 2) (dC (.int 1)))) (dC (.str "0"))) isBl) (dC (.str "~")) (dC (.str "/"))))
    (sAsg (tgN 2) (dOp addD (dVar 2) (dC (.int 1)))))) sNil)
    (sSeq (sAsg (tgN 1) (dOp addD (dVar 1) (dVar 3)))
    (sAsg (tgN 2) (dOp addD (dVar 2) (dC (.int 1))))))) 1000 r)
    (sSeq (sIf (tNotD (dTst (dCall 1 (fun ds => up (d.is_step ds)) (dCons (dVar 1) dNil)) truD)) (sRaise .BadWay) sNil)
    (sRet (dVar 1))))))
def b_read_way (d : Den) : Sl → Mo Unit := (sSeq (sIf (dTst (dOp eqD (dVar 0) (dC (.str ""))) isBl) (sRet (dAll tupD dNil)) sNil)
    (sSeq (sIf (tNotD (dTst (dMt "str" startsD (dVar 0) (dCons (dC (.str "/")) dNil)) truD)) (sRaise .BadWay) sNil)
    (sRet (dAll tupleD (dCons (dLcX (dItems (dMt "str" splitDD (dSl (dVar 0) (pSome (dC (.int 1))) pNone) (dCons (dC (.str "/")) dNil))) (tgN 1) dYes (dCall 1 (fun ds => up (d.read_step ds)) (dCons (dVar 1) dNil))) dNil)))))
def b__law_cell (d : Den) : Sl → Mo Unit := (sSeq (sIf (dTst (dVar 0) truD) (sRet (dOp ixD (dVar 0) (dOp modD (dVar 1) (dAll lenD (dCons (dVar 0) dNil))))) sNil)
    (sRet (dC (.int 0))))
def b__law_mix (d : Den) : Sl → Mo Unit := (sSeq (sAsg (tgN 2) (dOp modD (dOp addD (dCall 2 (fun ds => up (d._law_cell ds)) (dCons (dVar 0) (dCons (dVar 1) dNil))) (dOp mulD (dC (.int 104729)) (dOp addD (dVar 1) (dC (.int 1))))) (dC (.int 4294967291))))
    (sSeq (sAsg (tgN 2) (dOp modD (dOp powD (dVar 2) (dC (.int 5))) (dC (.int 4294967279))))
    (sRet (dOp modD (dOp addD (dOp mulD (dOp fdivD (dVar 2) (dC (.int 64))) (dC (.int 69621))) (dVar 2)) (dC (.int 4294967231))))))
def b__law_draw (d : Den) : Sl → Mo Nat := (sSeq (sTown 1)
    (sRet (dOp modD (dOp fdivD (dCall 2 (fun ds => up (d._law_mix ds)) (dCons (dVar 0) (dCons (dTown 1) dNil))) (dC (.int 8))) (dVar 2))))
def b__law_pick (d : Den) : Sl → Mo Nat := (sRet (dOp ixD (dVar 2) (dCall 3 d._law_draw (dCons (dVar 0) (dCons (dVar 1) (dCons (dAll lenD (dCons (dVar 2) dNil)) dNil))))))
def b__law_refusal (d : Den) : Sl → Mo Unit := (sSeq (sIf (dTst (dUn (isND false) (dVar 0)) isBl) (sRet (dAll tupD (dCons (dC (.str "ok")) dNil))) sNil)
    (sSeq (sAsg (tgN 1) (dAll rowD (dCons (dUn (isxD [.NestError, .BadThing, .BadText, .BadWay, .NoWay, .NoGo, .Nothing] .BadThing) (dVar 0)) (dCons (dUn (isxD [.NestError, .BadThing, .BadText, .BadWay, .NoWay, .NoGo, .Nothing] .BadText) (dVar 0)) (dCons (dUn (isxD [.NestError, .BadThing, .BadText, .BadWay, .NoWay, .NoGo, .Nothing] .BadWay) (dVar 0)) dNil)))))
    (sSeq (sAsg (tgN 1) (dOp addD (dVar 1) (dAll rowD (dCons (dUn (isxD [.NestError, .BadThing, .BadText, .BadWay, .NoWay, .NoGo, .Nothing] .NoWay) (dVar 0)) (dCons (dUn (isxD [.NestError, .BadThing, .BadText, .BadWay, .NoWay, .NoGo, .Nothing] .NoGo) (dVar 0)) (dCons (dUn (isxD [.NestError, .BadThing, .BadText, .BadWay, .NoWay, .NoGo, .Nothing] .Nothing) (dVar 0)) dNil))))))
    (sSeq (sIf (tOrD (dTst (dOp neD (dMt "list" countD (dVar 1) (dCons (dC (.bl true)) dNil)) (dC (.int 1))) isBl) (tNotD (dTst (dUn (isvD [.NestError, .BadThing, .BadText, .BadWay, .NoWay, .NoGo, .Nothing]) (dVar 0)) truD))) (sRet (dAll tupD (dCons (dC (.str "wrong")) dNil))) sNil)
    (sRet (dAll tupD (dCons (dC (.str "refused")) (dCons (dOp ixD (dAll rowD (dCons (dC (.str "thing")) (dCons (dC (.str "text")) (dCons (dC (.str "way")) (dCons (dC (.str "nothing there")) (dCons (dC (.str "go")) (dCons (dC (.str "nothing")) dNil))))))) (dMt "list" indexD (dVar 1) (dCons (dC (.bl true)) dNil))) dNil))))))))
def b__law_word (d : Den) : Sl → Mo Nat := (sSeq (sAsg (tgN 2) (dC (.str " !\"#$&'()*+,-./0123456789:;<=>?@AZ[\\]^_abcdefghijklmnopqrstuvwxyz{|}~")))
    (sSeq (sIf (dTst (dOp eqD (dCall 3 d._law_draw (dCons (dVar 0) (dCons (dVar 1) (dCons (dC (.int 2)) dNil)))) (dC (.int 0))) isBl) (sRet (dCall 3 d._law_pick (dCons (dVar 0) (dCons (dVar 1) (dCons (dAll rowD (dCons (dC (.str "")) (dCons (dC (.str "a")) (dCons (dC (.str "b")) (dCons (dC (.str "0")) (dCons (dC (.str "1")) (dCons (dC (.str "-")) (dCons (dC (.str "~1")) (dCons (dC (.str "a/b")) (dCons (dC (.str "\"")) (dCons (dC (.str "\\")) (dCons (dC (.str "01")) dNil)))))))))))) dNil))))) sNil)
    (sSeq (sAsg (tgN 3) (dC (.str "")))
    (sSeq (sFor (dRange (dCons (dCall 3 d._law_pick (dCons (dVar 0) (dCons (dVar 1) (dCons (dAll rowD (dCons (dC (.int 1)) (dCons (dC (.int 2)) (dCons (dC (.int 5)) (dCons (dC (.int 9)) dNil))))) dNil)))) dNil)) (tgN 4) (sAsg (tgN 3) (dOp addD (dVar 3) (dOp ixD (dVar 2) (dCall 3 d._law_draw (dCons (dVar 0) (dCons (dVar 1) (dCons (dAll lenD (dCons (dVar 2) dNil)) dNil))))))))
    (sRet (dVar 3))))))
def b__law_told (d : Den) : Sl → Mo Unit := (sSeq (sAsg (tgN 2) (dC .non))
    (sSeq (sAsg (tgN 3) (dC .non))
    (sSeq (sTryH [.NestError, .BadThing, .BadText, .BadWay, .NoWay, .NoGo, .Nothing] .NestError 4 2 (sAsg (tgN 3) (dIf (dTst (dOp eqD (dVar 0) (dC (.int 0))) isBl) (dCall 1 (fun ds => up (d.written_way ds)) (dCons (dVar 1) dNil)) (dCall 1 (fun ds => up (d.read_way ds)) (dCons (dVar 1) dNil)))))
    (sRet (dIf (dTst (dUn (isND false) (dVar 2)) isBl) (dVar 3) (dCall 1 (fun ds => up (d._law_refusal ds)) (dCons (dVar 2) dNil)))))))
def b__law_step_text (d : Den) : Sl → Mo Unit := (sRet (dMt "str" joinDD (dC (.str "")) (dCons (dLc (dItems (dVar 0)) (tgN 1) dYes (dMt "dict" get2D (dAll dispD (dCons (dC (.str "~")) (dCons (dC (.str "~0")) (dCons (dC (.str "/")) (dCons (dC (.str "~1")) dNil))))) (dCons (dVar 1) (dCons (dVar 1) dNil)))) dNil)))
def b__law_way_of (d : Den) : Sl → Mo Unit := (sSeq (sIf (dTst (dOp eqD (dVar 0) (dC (.str ""))) isBl) (sRet (dAll tupD dNil)) sNil)
    (sSeq (sAsg (tgN 1) (dMt "str" splitDD (dVar 0) (dCons (dC (.str "/")) dNil)))
    (sSeq (sAsgO 2 (dAll rowD dNil))
    (sSeq (sFor (dItems (dSl (dVar 1) (pSome (dC (.int 1))) pNone)) (tgN 3) (sSeq (sAsg (tgN 4) (dMt "str" splitDD (dVar 3) (dCons (dC (.str "~")) dNil)))
    (sSeq (sIf (tNotD (dTst (dAll allD (dCons (dLc (dItems (dSl (dVar 4) (pSome (dC (.int 1))) pNone)) (tgN 6) dYes (dAnd (dOp (inD false) (dSl (dVar 6) pNone (pSome (dC (.int 1)))) (dAll tupD (dCons (dC (.str "0")) (dCons (dC (.str "1")) dNil)))) (dOp neD (dVar 6) (dC (.str ""))))) dNil)) truD)) (sRet (dC .non)) sNil)
    (sSeq (sAsg (tgN 5) (dOp addD (dOp ixD (dVar 4) (dC (.int 0))) (dMt "str" joinDD (dC (.str "")) (dCons (dLc (dItems (dSl (dVar 4) (pSome (dC (.int 1))) pNone)) (tgN 6) dYes (dOp addD (dOp ixD (dAll rowD (dCons (dC (.str "~")) (dCons (dC (.str "/")) dNil))) (dAll toIntD (dCons (dOp ixD (dVar 6) (dC (.int 0))) dNil))) (dSl (dVar 6) (pSome (dC (.int 1))) pNone))) dNil))))
    (sSeq (sIf (tOrD (dTst (dOp gtD (dAll lenD (dCons (dVar 5) dNil)) (dC (.int 60))) isBl) (tNotD (dTst (dAll allD (dCons (dLc (dItems (dVar 5)) (tgN 7) dYes (dAnd (dChain leD ltD (dC (.int 32)) (dAll ordD (dCons (dVar 7) dNil)) (dC (.int 127))) (dOp neD (dAll ordD (dCons (dVar 7) dNil)) (dC (.int 37))))) dNil)) truD))) (sRet (dC .non)) sNil)
    (sOwn1 "list" 2 appD (dVar 5)))))))
    (sRet (dIf (dTst (dOp eqD (dOp ixD (dVar 1) (dC (.int 0))) (dC (.str ""))) isBl) (dAll tupleD (dCons (dVar 2) dNil)) (dC .non)))))))
def b_law (d : Den) : Sl → Mo Nat := (sSeq (sAsgO 2 (dAll rowD dNil))
    (sSeq (sFor (dRange (dCons (dCall 3 d._law_draw (dCons (dVar 0) (dCons (dVar 1) (dCons (dC (.int 6)) dNil)))) dNil)) (tgN 3) (sSeq (sAsg (tgN 4) (dCall 2 d._law_word (dCons (dVar 0) (dCons (dVar 1) dNil))))
    (sSeq (sIf (dTst (dOp eqD (dCall 3 d._law_draw (dCons (dVar 0) (dCons (dVar 1) (dCons (dC (.int 3)) dNil)))) (dC (.int 0))) isBl) (sAsg (tgN 4) (dOp addD (dVar 4) (dCall 3 d._law_pick (dCons (dVar 0) (dCons (dVar 1) (dCons (dAll rowD (dCons (dC (.str "~")) (dCons (dC (.str "/")) (dCons (dC (.str "~0")) (dCons (dC (.str "~~/")) (dCons (dC (.str "/~1")) dNil)))))) dNil)))))) sNil)
    (sOwn1 "list" 2 appD (dVar 4)))))
    (sSeq (sIf (dTst (dOp eqD (dCall 3 d._law_draw (dCons (dVar 0) (dCons (dVar 1) (dCons (dC (.int 6)) dNil)))) (dC (.int 0))) isBl) (sOwn1 "list" 2 appD (dOp mulD (dC (.str "z")) (dOp addD (dC (.int 59)) (dCall 3 d._law_draw (dCons (dVar 0) (dCons (dVar 1) (dCons (dC (.int 3)) dNil))))))) sNil)
    (sSeq (sAsg (tgN 5) (dAll tupleD (dCons (dVar 2) dNil)))
    (sSeq (sIf (dTst (dOp gtD (dAll maxD (dCons (dOp addD (dAll rowD (dCons (dC (.int 0)) dNil)) (dLc (dItems (dVar 2)) (tgN 11) dYes (dAll lenD (dCons (dVar 11) dNil)))) dNil)) (dC (.int 60))) isBl) (sRet (dAnd (dOp eqD (dCall 2 (fun ds => up (d._law_told ds)) (dCons (dC (.int 0)) (dCons (dVar 5) dNil))) (dAll tupD (dCons (dC (.str "refused")) (dCons (dC (.str "way")) dNil)))) (dOp eqD (dCall 2 (fun ds => up (d._law_told ds)) (dCons (dC (.int 1)) (dCons (dOp addD (dC (.str "/")) (dOp ixD (dVar 2) (dUn negD (dC (.int 1))))) dNil))) (dAll tupD (dCons (dC (.str "refused")) (dCons (dC (.str "way")) dNil)))))) sNil)
    (sSeq (sAsg (tgN 6) (dMt "str" joinDD (dC (.str "")) (dCons (dLc (dItems (dVar 2)) (tgN 11) dYes (dOp addD (dC (.str "/")) (dCall 1 (fun ds => up (d._law_step_text ds)) (dCons (dVar 11) dNil)))) dNil)))
    (sSeq (sIf (tOrD (dTst (dOp neD (dCall 2 (fun ds => up (d._law_told ds)) (dCons (dC (.int 0)) (dCons (dVar 5) dNil))) (dVar 6)) isBl) (dTst (dOp neD (dCall 2 (fun ds => up (d._law_told ds)) (dCons (dC (.int 1)) (dCons (dVar 6) dNil))) (dVar 5)) isBl)) (sRet (dC (.bl false))) sNil)
    (sSeq (sFor (dRange (dCons (dOp addD (dC (.int 1)) (dCall 3 d._law_draw (dCons (dVar 0) (dCons (dVar 1) (dCons (dC (.int 2)) dNil))))) dNil)) (tgN 3) (sSeq (sAsg (tgN 7) (dCall 3 d._law_draw (dCons (dVar 0) (dCons (dVar 1) (dCons (dOp addD (dAll lenD (dCons (dVar 6) dNil)) (dC (.int 1))) dNil)))))
    (sSeq (sAsg (tgN 8) (dCall 3 d._law_pick (dCons (dVar 0) (dCons (dVar 1) (dCons (dAll rowD (dCons (dC (.str "~")) (dCons (dC (.str "/")) (dCons (dC (.str "0")) (dCons (dC (.str "1")) (dCons (dC (.str "2")) (dCons (dC (.str "a")) (dCons (dC (.str "\n")) dNil)))))))) dNil)))))
    (sSeq (sAsg (tgN 9) (dCall 3 d._law_draw (dCons (dVar 0) (dCons (dVar 1) (dCons (dC (.int 3)) dNil)))))
    (sAsg (tgN 6) (dOp addD (dOp addD (dSl (dVar 6) pNone (pSome (dVar 7))) (dIf (dTst (dOp ltD (dVar 9) (dC (.int 2))) isBl) (dVar 8) (dC (.str "")))) (dSl (dVar 6) (pSome (dOp addD (dVar 7) (dAll toIntD (dCons (dOp gtD (dVar 9) (dC (.int 0))) dNil)))) pNone)))))))
    (sSeq (sAsg (tgN 10) (dCall 1 (fun ds => up (d._law_way_of ds)) (dCons (dVar 6) dNil)))
    (sSeq (sIf (dTst (dOp neD (dCall 2 (fun ds => up (d._law_told ds)) (dCons (dC (.int 1)) (dCons (dVar 6) dNil))) (dIf (dTst (dUn (isND false) (dVar 10)) isBl) (dAll tupD (dCons (dC (.str "refused")) (dCons (dC (.str "way")) dNil))) (dVar 10))) isBl) (sRet (dC (.bl false))) sNil)
    (sRet (dOp eqD (dCall 2 (fun ds => up (d._law_told ds)) (dCons (dC (.int 0)) (dCons (dAll tupD (dCons (dC (.str "a")) (dCons (dC (.str "\n")) dNil))) dNil))) (dAll tupD (dCons (dC (.str "refused")) (dCons (dC (.str "way")) dNil)))))))))))))))
def step (d : Den) : Den where
  is_sign := fnD 1 (b_is_sign d)
  is_word := fnD 2 (b_is_word d)
  is_step := fnD 1 (b_is_step d)
  look_way := fnD 2 (b_look_way d)
  written_way := fnD 2 (b_written_way d)
  read_step := fnD 4 (b_read_step d)
  read_way := fnD 2 (b_read_way d)
  _law_cell := fnD 2 (b__law_cell d)
  _law_mix := fnD 3 (b__law_mix d)
  _law_draw := fnD 3 (b__law_draw d)
  _law_pick := fnD 3 (b__law_pick d)
  _law_refusal := fnD 2 (b__law_refusal d)
  _law_word := fnD 5 (b__law_word d)
  _law_told := fnD 5 (b__law_told d)
  _law_step_text := fnD 2 (b__law_step_text d)
  _law_way_of := fnD 8 (b__law_way_of d)
def den : Nat → Den
  | 0 => ⟨gBot, gBot, gBot, gBot, gBot, gBot, gBot, gBot, gBot, gBot, gBot, gBot, gBot, gBot, gBot, gBot⟩
  | k + 1 => step (den k)
structure Hyp (P : Program) (w : World) (K : PySem.W.Frag) (mg : Str → Option Value) (base : Heap) (k : Nat) (d : Den) : Prop where
  is_sign : Has false P w K mg base k "is_sign" (spP K 1 d.is_sign)
  is_word : Has false P w K mg base k "is_word" (spP K 1 d.is_word)
  is_step : Has false P w K mg base k "is_step" (spP K 1 d.is_step)
  look_way : Has false P w K mg base k "look_way" (spP K 1 d.look_way)
  written_way : Has false P w K mg base k "written_way" (spP K 1 d.written_way)
  read_step : Has false P w K mg base k "read_step" (spP K 1 d.read_step)
  read_way : Has false P w K mg base k "read_way" (spP K 1 d.read_way)
  _law_cell : Has false P w K mg base k "_law_cell" (spP K 2 d._law_cell)
  _law_mix : Has false P w K mg base k "_law_mix" (spP K 2 d._law_mix)
  _law_draw : Has false P w K mg base k "_law_draw" (spT K 3 d._law_draw)
  _law_pick : Has false P w K mg base k "_law_pick" (spT K 3 d._law_pick)
  _law_refusal : Has false P w K mg base k "_law_refusal" (spP K 1 d._law_refusal)
  _law_word : Has false P w K mg base k "_law_word" (spT K 2 d._law_word)
  _law_told : Has false P w K mg base k "_law_told" (spP K 2 d._law_told)
  _law_step_text : Has false P w K mg base k "_law_step_text" (spP K 1 d._law_step_text)
  _law_way_of : Has false P w K mg base k "_law_way_of" (spP K 1 d._law_way_of)
structure Fx (w : World) (K : PySem.W.Frag) (mg : Str → Option Value) : Prop where
  xf : XF K [.NestError, .BadThing, .BadText, .BadWay, .NoWay, .NoGo, .Nothing]
  f_ValueError : mg "ValueError" = none
  f_all : mg "all" = none
  f_int : mg "int" = none
  f_isinstance : mg "isinstance" = none
  f_len : mg "len" = none
  f_max : mg "max" = none
  f_ord : mg "ord" = none
  f_range : mg "range" = none
  f_tuple : mg "tuple" = none
  c_BadText : mg "BadText" = some (.ref (eA K .BadText))
  c_BadThing : mg "BadThing" = some (.ref (eA K .BadThing))
  c_BadWay : mg "BadWay" = some (.ref (eA K .BadWay))
  c_NestError : mg "NestError" = some (.ref (eA K .NestError))
  c_NoGo : mg "NoGo" = some (.ref (eA K .NoGo))
  c_NoWay : mg "NoWay" = some (.ref (eA K .NoWay))
  c_Nothing : mg "Nothing" = some (.ref (eA K .Nothing))
  e_BadWay : PySem.W.excIn K (eA K .BadWay) He.veBase "ValueError.__new__" = true
  k_BadWay : PySem.W.keepIn K (.ref (eA K .BadWay)) = true
  g_MOST_SIGNS : ∃ t, mg "MOST_SIGNS" = some (.int 60 t)
def n_is_sign : List Str := ["sign"]
theorem body_is_sign {P : Program} {w : World} {K : PySem.W.Frag} {mg : Str → Option Value} {base : Heap} {k : Nat} {d : Den} (fx : Fx w K mg) (hk2 : 2 ≤ k) (hy : Hyp P w K mg base k d) (nm : Nat → Option Addr) : BodyOk false P w K mg base n_is_sign "is_sign" (defScope s_is_sign) (defBody s_is_sign) k (R0 K nm) .f [] (b_is_sign d) :=
  fun f cdv A outer s H E c tk hp => (dss_one (ds_ret (de_and c.hK (de_chain ck_le ck_lt de_int (de_ord rfl fx.f_ord (da_cons (de_var 0 (by decide)) da_nil)) de_int) (de_one (de_ck (ck_ne c) (de_ord rfl fx.f_ord (da_cons (de_var 0 (by decide)) da_nil)) de_int rfl)))))
theorem sc_is_sign : FnScope n_is_sign ["sign"] (defScope s_is_sign) := ⟨rfl, rfl, rfl, by decide +kernel, rfl, by decide +kernel, by decide +kernel⟩
def n_is_word : List Str := ["word", "sign"]
theorem body_is_word {P : Program} {w : World} {K : PySem.W.Frag} {mg : Str → Option Value} {base : Heap} {k : Nat} {d : Den} (fx : Fx w K mg) (hk2 : 2 ≤ k) (hy : Hyp P w K mg base k d) (nm : Nat → Option Addr) : BodyOk false P w K mg base n_is_word "is_word" (defScope s_is_word) (defBody s_is_word) k (R0 K nm) .f [] (b_is_word d) :=
  fun f cdv A outer s H E c tk hp => (dss_one (ds_ret (de_and c.hK (de_ck ck_le (de_len c.hK rfl fx.f_len (da_cons (de_var 0 (by decide)) da_nil)) (de_gint rfl fx.g_MOST_SIGNS) rfl) (de_one (de_all c rfl fx.f_all (da_cons (de_give (df_lc (own := [("sign", 1)]) c (di_any c.hK (de_var 0 (by decide))) (blkOk_by (N := n_is_word) (sc := defScope s_is_word) (by decide +kernel)) tg_name (fun _ _ _ _ _ => (pg_name c.nd (i := 1) rfl (by first | exact Or.inl rfl | exact Or.inr rfl))) (fun _ _ _ _ _ c' => dts_nil) (fun _ _ _ _ _ c' => (de_callP c' tk0 hy.is_sign rfl (da_cons (de_var 1 (by decide)) da_nil))))) da_nil))))))
theorem sc_is_word : FnScope n_is_word ["word"] (defScope s_is_word) := ⟨rfl, rfl, rfl, by decide +kernel, rfl, by decide +kernel, by decide +kernel⟩
def n_is_step : List Str := ["step"]
theorem body_is_step {P : Program} {w : World} {K : PySem.W.Frag} {mg : Str → Option Value} {base : Heap} {k : Nat} {d : Den} (fx : Fx w K mg) (hk2 : 2 ≤ k) (hy : Hyp P w K mg base k d) (nm : Nat → Option Addr) : BodyOk false P w K mg base n_is_step "is_step" (defScope s_is_step) (defBody s_is_step) k (R0 K nm) .f [] (b_is_step d) :=
  fun f cdv A outer s H E c tk hp => (dss_one (ds_ret (de_callP c tk hy.is_word rfl (da_cons (de_var 0 (by decide)) da_nil))))
theorem sc_is_step : FnScope n_is_step ["step"] (defScope s_is_step) := ⟨rfl, rfl, rfl, by decide +kernel, rfl, by decide +kernel, by decide +kernel⟩
def n_look_way : List Str := ["way", "step"]
theorem body_look_way {P : Program} {w : World} {K : PySem.W.Frag} {mg : Str → Option Value} {base : Heap} {k : Nat} {d : Den} (fx : Fx w K mg) (hk2 : 2 ≤ k) (hy : Hyp P w K mg base k d) (nm : Nat → Option Addr) : BodyOk false P w K mg base n_look_way "look_way" (defScope s_look_way) (defBody s_look_way) k (R0 K nm) .f [] (b_look_way d) :=
  fun f cdv A outer s H E c tk hp => (dss_one (ds_if (dt_not (dt_tru c.hK (de_all c rfl fx.f_all (da_cons (de_give (df_lc (own := [("step", 1)]) c (di_any c.hK (de_var 0 (by decide))) (blkOk_by (N := n_look_way) (sc := defScope s_look_way) (by decide +kernel)) tg_name (fun _ _ _ _ _ => (pg_name c.nd (i := 1) rfl (by first | exact Or.inl rfl | exact Or.inr rfl))) (fun _ _ _ _ _ c' => dts_nil) (fun _ _ _ _ _ c' => (de_callP c' tk0 hy.is_step rfl (da_cons (de_var 1 (by decide)) da_nil))))) da_nil)))) (dss_one (ds_raise c tk (c := .BadWay) rfl fx.e_BadWay fx.c_BadWay fx.k_BadWay (fx.xf.xc _ (by decide)) rfl)) dss_nil))
theorem sc_look_way : FnScope n_look_way ["way"] (defScope s_look_way) := ⟨rfl, rfl, rfl, by decide +kernel, rfl, by decide +kernel, by decide +kernel⟩
def n_written_way : List Str := ["way", "step"]
theorem body_written_way {P : Program} {w : World} {K : PySem.W.Frag} {mg : Str → Option Value} {base : Heap} {k : Nat} {d : Den} (fx : Fx w K mg) (hk2 : 2 ≤ k) (hy : Hyp P w K mg base k d) (nm : Nat → Option Addr) : BodyOk false P w K mg base n_written_way "written_way" (defScope s_written_way) (defBody s_written_way) k (R0 K nm) .f [] (b_written_way d) :=
  fun f cdv A outer s H E c tk hp => (dss_cons (ds_expr (de_callP c tk hy.look_way rfl (da_cons (de_var 0 (by decide)) da_nil)))
    (dss_one (ds_ret (de_join c de_str (da_cons (de_give (df_lc (own := [("step", 1)]) c (di_any c.hK (de_var 0 (by decide))) (blkOk_by (N := n_written_way) (sc := defScope s_written_way) (by decide +kernel)) tg_name (fun _ _ _ _ _ => (pg_name c.nd (i := 1) rfl (by first | exact Or.inl rfl | exact Or.inr rfl))) (fun _ _ _ _ _ c' => dts_nil) (fun _ _ _ _ _ c' => (de_repAdd (de_var 1 (by decide)))))) da_nil)))))
theorem sc_written_way : FnScope n_written_way ["way"] (defScope s_written_way) := ⟨rfl, rfl, rfl, by decide +kernel, rfl, by decide +kernel, by decide +kernel⟩
def n_read_step : List Str := ["text", "found", "at", "sign"]
theorem body_read_step {P : Program} {w : World} {K : PySem.W.Frag} {mg : Str → Option Value} {base : Heap} {k : Nat} {d : Den} (fx : Fx w K mg) (hk2 : 2 ≤ k) (hy : Hyp P w K mg base k d) (nm : Nat → Option Addr) : BodyOk false P w K mg base n_read_step "read_step" (defScope s_read_step) (defBody s_read_step) k (R0 K nm) .f [] (b_read_step d) :=
  fun f cdv A outer s H E c tk hp => (dss_cons (ds_set (O' := []) c.nd (i := 1) rfl (by first | exact Or.inl rfl | exact Or.inr rfl) de_str (by decide) (by decide))
    (dss_cons (ds_set (O' := []) c.nd (i := 2) rfl (by first | exact Or.inl rfl | exact Or.inr rfl) de_int (by decide) (by decide))
    (dss_cons (ds_while 1000 hp (dt_ck ck_lt (de_var 2 (by decide)) (de_len c.hK rfl fx.f_len (da_cons (de_var 0 (by decide)) da_nil)) rfl) (dss_cons (ds_set (O' := []) c.nd (i := 3) rfl (by first | exact Or.inl rfl | exact Or.inr rfl) (de_ix c (de_var 0 (by decide)) (de_var 2 (by decide))) (by decide) (by decide))
    (dss_cons (ds_if (dt_ck (ck_eq c) (de_var 3 (by decide)) de_str rfl) (dss_cons (ds_if (dt_ck (ck_notin c) (de_sl (de_var 0 (by decide)) (dp_some (de_add c.hK (de_var 2 (by decide)) de_int)) (dp_some (de_add c.hK (de_var 2 (by decide)) de_int))) (de_tup (da_cons de_str (da_cons de_str da_nil))) rfl) (dss_one (ds_raise c tk (c := .BadWay) rfl fx.e_BadWay fx.c_BadWay fx.k_BadWay (fx.xf.xc _ (by decide)) rfl)) dss_nil)
    (dss_cons (ds_set (O' := []) c.nd (i := 3) rfl (by first | exact Or.inl rfl | exact Or.inr rfl) (de_if (dt_ck (ck_eq c) (de_ix c (de_var 0 (by decide)) (de_add c.hK (de_var 2 (by decide)) de_int)) de_str rfl) de_str de_str) (by decide) (by decide))
    (dss_one (ds_set (O' := []) c.nd (i := 2) rfl (by first | exact Or.inl rfl | exact Or.inr rfl) (de_add c.hK (de_var 2 (by decide)) de_int) (by decide) (by decide))))) dss_nil)
    (dss_cons (ds_set (O' := []) c.nd (i := 1) rfl (by first | exact Or.inl rfl | exact Or.inr rfl) (de_add c.hK (de_var 1 (by decide)) (de_var 3 (by decide))) (by decide) (by decide))
    (dss_one (ds_set (O' := []) c.nd (i := 2) rfl (by first | exact Or.inl rfl | exact Or.inr rfl) (de_add c.hK (de_var 2 (by decide)) de_int) (by decide) (by decide)))))))
    (dss_cons (ds_if (dt_not (dt_tru c.hK (de_callP c tk hy.is_step rfl (da_cons (de_var 1 (by decide)) da_nil)))) (dss_one (ds_raise c tk (c := .BadWay) rfl fx.e_BadWay fx.c_BadWay fx.k_BadWay (fx.xf.xc _ (by decide)) rfl)) dss_nil)
    (dss_one (ds_ret (de_var 1 (by decide))))))))
theorem sc_read_step : FnScope n_read_step ["text"] (defScope s_read_step) := ⟨rfl, rfl, rfl, by decide +kernel, rfl, by decide +kernel, by decide +kernel⟩
def n_read_way : List Str := ["text", "part"]
theorem body_read_way {P : Program} {w : World} {K : PySem.W.Frag} {mg : Str → Option Value} {base : Heap} {k : Nat} {d : Den} (fx : Fx w K mg) (hk2 : 2 ≤ k) (hy : Hyp P w K mg base k d) (nm : Nat → Option Addr) : BodyOk false P w K mg base n_read_way "read_way" (defScope s_read_way) (defBody s_read_way) k (R0 K nm) .f [] (b_read_way d) :=
  fun f cdv A outer s H E c tk hp => (dss_cons (ds_if (dt_ck (ck_eq c) (de_var 0 (by decide)) de_str rfl) (dss_one (ds_ret (de_tup da_nil))) dss_nil)
    (dss_cons (ds_if (dt_not (dt_tru c.hK (de_starts c (de_var 0 (by decide)) (da_cons de_str da_nil)))) (dss_one (ds_raise c tk (c := .BadWay) rfl fx.e_BadWay fx.c_BadWay fx.k_BadWay (fx.xf.xc _ (by decide)) rfl)) dss_nil)
    (dss_one (ds_ret (de_tuple c rfl fx.f_tuple (da_cons (de_lcX (own := [("part", 1)]) c tk rfl rfl (di_any c.hK (de_split c (de_sl (de_var 0 (by decide)) (dp_some de_int) dp_none) (da_cons de_str da_nil))) (blkOk_by (N := n_read_way) (sc := defScope s_read_way) (by decide +kernel)) tg_name (fun _ _ _ _ _ => (pg_name c.nd (i := 1) rfl (by first | exact Or.inl rfl | exact Or.inr rfl))) (fun _ _ _ _ _ _ => dts_nil) (fun _ _ _ _ _ _ cx tx => (de_callP cx tx hy.read_step rfl (da_cons (de_var 1 (by decide)) da_nil)))) da_nil))))))
theorem sc_read_way : FnScope n_read_way ["text"] (defScope s_read_way) := ⟨rfl, rfl, rfl, by decide +kernel, rfl, by decide +kernel, by decide +kernel⟩
def n__law_cell : List Str := ["script", "k"]
theorem body__law_cell {P : Program} {w : World} {K : PySem.W.Frag} {mg : Str → Option Value} {base : Heap} {k : Nat} {d : Den} (fx : Fx w K mg) (hk2 : 2 ≤ k) (hy : Hyp P w K mg base k d) (nm : Nat → Option Addr) : BodyOk false P w K mg base n__law_cell "_law_cell" (defScope s__law_cell) (defBody s__law_cell) k (R0 K nm) .f [] (b__law_cell d) :=
  fun f cdv A outer s H E c tk hp => (dss_cons (ds_if (dt_tru c.hK (de_var 0 (by decide))) (dss_one (ds_ret (de_ix c (de_var 0 (by decide)) (de_mod (de_var 1 (by decide)) (de_len c.hK rfl fx.f_len (da_cons (de_var 0 (by decide)) da_nil)))))) dss_nil)
    (dss_one (ds_ret de_int)))
theorem sc__law_cell : FnScope n__law_cell ["script", "k"] (defScope s__law_cell) := ⟨rfl, rfl, rfl, by decide +kernel, rfl, by decide +kernel, by decide +kernel⟩
def n__law_mix : List Str := ["script", "k", "number"]
theorem body__law_mix {P : Program} {w : World} {K : PySem.W.Frag} {mg : Str → Option Value} {base : Heap} {k : Nat} {d : Den} (fx : Fx w K mg) (hk2 : 2 ≤ k) (hy : Hyp P w K mg base k d) (nm : Nat → Option Addr) : BodyOk false P w K mg base n__law_mix "_law_mix" (defScope s__law_mix) (defBody s__law_mix) k (R0 K nm) .f [] (b__law_mix d) :=
  fun f cdv A outer s H E c tk hp => (dss_cons (ds_set (O' := []) c.nd (i := 2) rfl (by first | exact Or.inl rfl | exact Or.inr rfl) (de_mod (de_add c.hK (de_callP c tk hy._law_cell rfl (da_cons (de_var 0 (by decide)) (da_cons (de_var 1 (by decide)) da_nil))) (de_mul de_int (de_add c.hK (de_var 1 (by decide)) de_int))) de_int) (by decide) (by decide))
    (dss_cons (ds_set (O' := []) c.nd (i := 2) rfl (by first | exact Or.inl rfl | exact Or.inr rfl) (de_mod (de_pow (de_var 2 (by decide)) de_int) de_int) (by decide) (by decide))
    (dss_one (ds_ret (de_mod (de_add c.hK (de_mul (de_fdiv (de_var 2 (by decide)) de_int) de_int) (de_var 2 (by decide))) de_int)))))
theorem sc__law_mix : FnScope n__law_mix ["script", "k"] (defScope s__law_mix) := ⟨rfl, rfl, rfl, by decide +kernel, rfl, by decide +kernel, by decide +kernel⟩
def n__law_draw : List Str := ["script", "town", "many"]
theorem body__law_draw {P : Program} {w : World} {K : PySem.W.Frag} {mg : Str → Option Value} {base : Heap} {k : Nat} {d : Den} (fx : Fx w K mg) (hk2 : 2 ≤ k) (hy : Hyp P w K mg base k d) (T : Addr) : BodyOk false P w K mg base n__law_draw "_law_draw" (defScope s__law_draw) (defBody s__law_draw) k (RT K T) .f [] (b__law_draw d) :=
  fun f cdv A outer s H E c tk hp => (dss_cons (ds_town 1 (by decide) rfl (by first | exact Or.inl rfl | exact Or.inr (Or.inl rfl) | exact Or.inr (Or.inr rfl)))
    (dss_one (ds_ret (de_mod (de_fdiv (de_callP c tk hy._law_mix rfl (da_cons (de_var 0 (by decide)) (da_cons (de_lenT 1 (by decide) rfl (by first | exact Or.inl rfl | exact Or.inr (Or.inl rfl) | exact Or.inr (Or.inr rfl)) rfl fx.f_len) da_nil))) de_int) (de_var 2 (by decide))))))
theorem sc__law_draw : FnScope n__law_draw ["script", "town", "many"] (defScope s__law_draw) := ⟨rfl, rfl, rfl, by decide +kernel, rfl, by decide +kernel, by decide +kernel⟩
def n__law_pick : List Str := ["script", "town", "some"]
theorem body__law_pick {P : Program} {w : World} {K : PySem.W.Frag} {mg : Str → Option Value} {base : Heap} {k : Nat} {d : Den} (fx : Fx w K mg) (hk2 : 2 ≤ k) (hy : Hyp P w K mg base k d) (T : Addr) : BodyOk false P w K mg base n__law_pick "_law_pick" (defScope s__law_pick) (defBody s__law_pick) k (RT K T) .f [] (b__law_pick d) :=
  fun f cdv A outer s H E c tk hp => (dss_one (ds_ret (de_ix c (de_var 2 (by decide)) (de_callT c tk hy._law_draw rfl (da_cons (de_var 0 (by decide)) (da_cons (de_var 1 (by decide)) (da_cons (de_len c.hK rfl fx.f_len (da_cons (de_var 2 (by decide)) da_nil)) da_nil)))))))
theorem sc__law_pick : FnScope n__law_pick ["script", "town", "some"] (defScope s__law_pick) := ⟨rfl, rfl, rfl, by decide +kernel, rfl, by decide +kernel, by decide +kernel⟩
def n__law_refusal : List Str := ["held", "kinds"]
theorem body__law_refusal {P : Program} {w : World} {K : PySem.W.Frag} {mg : Str → Option Value} {base : Heap} {k : Nat} {d : Den} (fx : Fx w K mg) (hk2 : 2 ≤ k) (hy : Hyp P w K mg base k d) (nm : Nat → Option Addr) : BodyOk false P w K mg base n__law_refusal "_law_refusal" (defScope s__law_refusal) (defBody s__law_refusal) k (R0 K nm) .f [] (b__law_refusal d) :=
  fun f cdv A outer s H E c tk hp => (dss_cons (ds_if (dt_isN (de_var 0 (by decide))) (dss_one (ds_ret (de_tup (da_cons de_str da_nil)))) dss_nil)
    (dss_cons (ds_set (O' := []) c.nd (i := 1) rfl (by first | exact Or.inl rfl | exact Or.inr rfl) (de_lst (da_cons (de_isx .BadThing c fx.xf (by decide) rfl rfl fx.f_isinstance rfl fx.c_BadThing (de_var 0 (by decide))) (da_cons (de_isx .BadText c fx.xf (by decide) rfl rfl fx.f_isinstance rfl fx.c_BadText (de_var 0 (by decide))) (da_cons (de_isx .BadWay c fx.xf (by decide) rfl rfl fx.f_isinstance rfl fx.c_BadWay (de_var 0 (by decide))) da_nil)))) (by decide) (by decide))
    (dss_cons (ds_set (O' := []) c.nd (i := 1) rfl (by first | exact Or.inl rfl | exact Or.inr rfl) (de_add c.hK (de_var 1 (by decide)) (de_lst (da_cons (de_isx .NoWay c fx.xf (by decide) rfl rfl fx.f_isinstance rfl fx.c_NoWay (de_var 0 (by decide))) (da_cons (de_isx .NoGo c fx.xf (by decide) rfl rfl fx.f_isinstance rfl fx.c_NoGo (de_var 0 (by decide))) (da_cons (de_isx .Nothing c fx.xf (by decide) rfl rfl fx.f_isinstance rfl fx.c_Nothing (de_var 0 (by decide))) da_nil))))) (by decide) (by decide))
    (dss_cons (ds_if (PW.pt (dw_or (dt_ck (ck_ne c) (de_count c (de_var 1 (by decide)) (da_cons de_bl da_nil)) de_int rfl) (dw_or1 (dt_not (dt_tru c.hK (de_isv c fx.xf rfl fx.f_isinstance rfl fx.f_ValueError (de_var 0 (by decide)))))))) (dss_one (ds_ret (de_tup (da_cons de_str da_nil)))) dss_nil)
    (dss_one (ds_ret (de_tup (da_cons de_str (da_cons (de_ix c (de_lst (da_cons de_str (da_cons de_str (da_cons de_str (da_cons de_str (da_cons de_str (da_cons de_str da_nil))))))) (de_index c (de_var 1 (by decide)) (da_cons de_bl da_nil))) da_nil)))))))))
theorem sc__law_refusal : FnScope n__law_refusal ["held"] (defScope s__law_refusal) := ⟨rfl, rfl, rfl, by decide +kernel, rfl, by decide +kernel, by decide +kernel⟩
def n__law_word : List Str := ["script", "town", "signs", "found", "k"]
theorem body__law_word {P : Program} {w : World} {K : PySem.W.Frag} {mg : Str → Option Value} {base : Heap} {k : Nat} {d : Den} (fx : Fx w K mg) (hk2 : 2 ≤ k) (hy : Hyp P w K mg base k d) (T : Addr) : BodyOk false P w K mg base n__law_word "_law_word" (defScope s__law_word) (defBody s__law_word) k (RT K T) .f [] (b__law_word d) :=
  fun f cdv A outer s H E c tk hp => (dss_cons (ds_set (O' := []) c.nd (i := 2) rfl (by first | exact Or.inl rfl | exact Or.inr rfl) de_str (by decide) (by decide))
    (dss_cons (ds_if (dt_ck (ck_eq c) (de_callT c tk hy._law_draw rfl (da_cons (de_var 0 (by decide)) (da_cons (de_var 1 (by decide)) (da_cons de_int da_nil)))) de_int rfl) (dss_one (ds_ret (de_callT c tk hy._law_pick rfl (da_cons (de_var 0 (by decide)) (da_cons (de_var 1 (by decide)) (da_cons (de_lst (da_cons de_str (da_cons de_str (da_cons de_str (da_cons de_str (da_cons de_str (da_cons de_str (da_cons de_str (da_cons de_str (da_cons de_str (da_cons de_str (da_cons de_str da_nil)))))))))))) da_nil)))))) dss_nil)
    (dss_cons (ds_set (O' := []) c.nd (i := 3) rfl (by first | exact Or.inl rfl | exact Or.inr rfl) de_str (by decide) (by decide))
    (dss_cons (ds_for hp rfl (di_range rfl fx.f_range (da_cons (de_callT c tk hy._law_pick rfl (da_cons (de_var 0 (by decide)) (da_cons (de_var 1 (by decide)) (da_cons (de_lst (da_cons de_int (da_cons de_int (da_cons de_int (da_cons de_int da_nil))))) da_nil)))) da_nil)) (pg_name c.nd (i := 4) rfl (by first | exact Or.inl rfl | exact Or.inr rfl)) tg_name (dss_one (ds_set (O' := []) c.nd (i := 3) rfl (by first | exact Or.inl rfl | exact Or.inr rfl) (de_add c.hK (de_var 3 (by decide)) (de_ix c (de_var 2 (by decide)) (de_callT c tk hy._law_draw rfl (da_cons (de_var 0 (by decide)) (da_cons (de_var 1 (by decide)) (da_cons (de_len c.hK rfl fx.f_len (da_cons (de_var 2 (by decide)) da_nil)) da_nil)))))) (by decide) (by decide))) (by decide))
    (dss_one (ds_ret (de_var 3 (by decide))))))))
theorem sc__law_word : FnScope n__law_word ["script", "town"] (defScope s__law_word) := ⟨rfl, rfl, rfl, by decide +kernel, rfl, by decide +kernel, by decide +kernel⟩
def n__law_told : List Str := ["way", "thing", "held", "found", "e"]
theorem body__law_told {P : Program} {w : World} {K : PySem.W.Frag} {mg : Str → Option Value} {base : Heap} {k : Nat} {d : Den} (fx : Fx w K mg) (hk2 : 2 ≤ k) (hy : Hyp P w K mg base k d) (nm : Nat → Option Addr) : BodyOk false P w K mg base n__law_told "_law_told" (defScope s__law_told) (defBody s__law_told) k (R0 K nm) .f [] (b__law_told d) :=
  fun f cdv A outer s H E c tk hp => (dss_cons (ds_set (O' := []) c.nd (i := 2) rfl (by first | exact Or.inl rfl | exact Or.inr rfl) de_non (by decide) (by decide))
    (dss_cons (ds_set (O' := []) c.nd (i := 3) rfl (by first | exact Or.inl rfl | exact Or.inr rfl) de_non (by decide) (by decide))
    (dss_cons (ds_tryH c tk fx.xf (by decide) rfl rfl rfl rfl (i := 4) rfl rfl (j := 2) rfl rfl rfl fx.c_NestError (by decide) (by decide) rfl (by first | exact Or.inl rfl | exact Or.inr (Or.inl rfl) | exact Or.inr (Or.inr rfl)) (fun _ _ _ ct tt pt => (dss_one (ds_set (O' := []) ct.nd (i := 3) rfl (by first | exact Or.inl rfl | exact Or.inr rfl) (de_if (dt_ck (ck_eq ct) (de_var 0 (by decide)) de_int rfl) (de_callP ct tt hy.written_way rfl (da_cons (de_var 1 (by decide)) da_nil)) (de_callP ct tt hy.read_way rfl (da_cons (de_var 1 (by decide)) da_nil))) (by decide) (by decide)))))
    (dss_one (ds_ret (de_if (dt_isN (de_var 2 (by decide))) (de_var 3 (by decide)) (de_callP c tk hy._law_refusal rfl (da_cons (de_var 2 (by decide)) da_nil))))))))
theorem sc__law_told : FnScope n__law_told ["way", "thing"] (defScope s__law_told) := ⟨rfl, rfl, rfl, by decide +kernel, rfl, by decide +kernel, by decide +kernel⟩
def n__law_step_text : List Str := ["step", "sign"]
theorem body__law_step_text {P : Program} {w : World} {K : PySem.W.Frag} {mg : Str → Option Value} {base : Heap} {k : Nat} {d : Den} (fx : Fx w K mg) (hk2 : 2 ≤ k) (hy : Hyp P w K mg base k d) (nm : Nat → Option Addr) : BodyOk false P w K mg base n__law_step_text "_law_step_text" (defScope s__law_step_text) (defBody s__law_step_text) k (R0 K nm) .f [] (b__law_step_text d) :=
  fun f cdv A outer s H E c tk hp => (dss_one (ds_ret (de_join c de_str (da_cons (de_give (df_lc (own := [("sign", 1)]) c (di_any c.hK (de_var 0 (by decide))) (blkOk_by (N := n__law_step_text) (sc := defScope s__law_step_text) (by decide +kernel)) tg_name (fun _ _ _ _ _ => (pg_name c.nd (i := 1) rfl (by first | exact Or.inl rfl | exact Or.inr rfl))) (fun _ _ _ _ _ c' => dts_nil) (fun _ _ _ _ _ c' => (de_get2 c' (de_give (df_disp (dps_cons de_str de_str (dps_cons de_str de_str dps_nil)) rfl rfl (fun z => nomatch z) (by decide) (fun r s ds s2 z => by rw [(dlen_cons (dlen_cons (dlen_cons (dlen_cons dlen_nil)))) r s ds s2 z]; decide))) (da_cons (de_var 1 (by decide)) (da_cons (de_var 1 (by decide)) da_nil)))))) da_nil))))
theorem sc__law_step_text : FnScope n__law_step_text ["step"] (defScope s__law_step_text) := ⟨rfl, rfl, rfl, by decide +kernel, rfl, by decide +kernel, by decide +kernel⟩
def n__law_way_of : List Str := ["text", "parts", "found", "part", "waves", "step", "one", "sign"]
theorem body__law_way_of {P : Program} {w : World} {K : PySem.W.Frag} {mg : Str → Option Value} {base : Heap} {k : Nat} {d : Den} (fx : Fx w K mg) (hk2 : 2 ≤ k) (hy : Hyp P w K mg base k d) (nm : Nat → Option Addr) : BodyOk false P w K mg base n__law_way_of "_law_way_of" (defScope s__law_way_of) (defBody s__law_way_of) k (R0 K nm) .f [] (b__law_way_of d) :=
  fun f cdv A outer s H E c tk hp => (dss_cons (ds_if (dt_ck (ck_eq c) (de_var 0 (by decide)) de_str rfl) (dss_one (ds_ret (de_tup da_nil))) dss_nil)
    (dss_cons (ds_set (O' := []) c.nd (i := 1) rfl (by first | exact Or.inl rfl | exact Or.inr rfl) (de_split c (de_var 0 (by decide)) (da_cons de_str da_nil)) (by decide) (by decide))
    (dss_cons (ds_setO (O' := [2]) 2 c.nd rfl (by first | exact Or.inl rfl | exact Or.inr rfl) (df_lst da_nil) (by decide) (by decide) (by decide))
    (dss_cons (ds_for hp rfl (di_any c.hK (de_sl (de_var 1 (by decide)) (dp_some de_int) dp_none)) (pg_name c.nd (i := 3) rfl (by first | exact Or.inl rfl | exact Or.inr rfl)) tg_name (dss_cons (ds_set (O' := [2]) c.nd (i := 4) rfl (by first | exact Or.inl rfl | exact Or.inr rfl) (de_split c (de_var 3 (by decide)) (da_cons de_str da_nil)) (by decide) (by decide))
    (dss_cons (ds_if (dt_not (dt_tru c.hK (de_all c rfl fx.f_all (da_cons (de_give (df_lc (own := [("one", 6)]) c (di_any c.hK (de_sl (de_var 4 (by decide)) (dp_some de_int) dp_none)) (blkOk_by (N := n__law_way_of) (sc := defScope s__law_way_of) (by decide +kernel)) tg_name (fun _ _ _ _ _ => (pg_name c.nd (i := 6) rfl (by first | exact Or.inl rfl | exact Or.inr rfl))) (fun _ _ _ _ _ c' => dts_nil) (fun _ _ _ _ _ c' => (de_and c'.hK (de_ck (ck_in c') (de_sl (de_var 6 (by decide)) dp_none (dp_some de_int)) (de_tup (da_cons de_str (da_cons de_str da_nil))) rfl) (de_one (de_ck (ck_ne c') (de_var 6 (by decide)) de_str rfl)))))) da_nil)))) (dss_frz (O1 := []) (dss_one (ds_ret de_non)) (by decide)) dss_nil)
    (dss_cons (ds_set (O' := [2]) c.nd (i := 5) rfl (by first | exact Or.inl rfl | exact Or.inr rfl) (de_add c.hK (de_ix c (de_var 4 (by decide)) de_int) (de_join c de_str (da_cons (de_give (df_lc (own := [("one", 6)]) c (di_any c.hK (de_sl (de_var 4 (by decide)) (dp_some de_int) dp_none)) (blkOk_by (N := n__law_way_of) (sc := defScope s__law_way_of) (by decide +kernel)) tg_name (fun _ _ _ _ _ => (pg_name c.nd (i := 6) rfl (by first | exact Or.inl rfl | exact Or.inr rfl))) (fun _ _ _ _ _ c' => dts_nil) (fun _ _ _ _ _ c' => (de_add c'.hK (de_ix c' (de_lst (da_cons de_str (da_cons de_str da_nil))) (de_toint c' rfl fx.f_int (da_cons (de_ix c' (de_var 6 (by decide)) de_int) da_nil))) (de_sl (de_var 6 (by decide)) (dp_some de_int) dp_none))))) da_nil))) (by decide) (by decide))
    (dss_cons (ds_if (PW.pt (dw_or (dt_ck ck_gt (de_len c.hK rfl fx.f_len (da_cons (de_var 5 (by decide)) da_nil)) de_int rfl) (dw_or1 (dt_not (dt_tru c.hK (de_all c rfl fx.f_all (da_cons (de_give (df_lc (own := [("sign", 7)]) c (di_any c.hK (de_var 5 (by decide))) (blkOk_by (N := n__law_way_of) (sc := defScope s__law_way_of) (by decide +kernel)) tg_name (fun _ _ _ _ _ => (pg_name c.nd (i := 7) rfl (by first | exact Or.inl rfl | exact Or.inr rfl))) (fun _ _ _ _ _ c' => dts_nil) (fun _ _ _ _ _ c' => (de_and c'.hK (de_chain ck_le ck_lt de_int (de_ord rfl fx.f_ord (da_cons (de_var 7 (by decide)) da_nil)) de_int) (de_one (de_ck (ck_ne c') (de_ord rfl fx.f_ord (da_cons (de_var 7 (by decide)) da_nil)) de_int rfl)))))) da_nil))))))) (dss_frz (O1 := []) (dss_one (ds_ret de_non)) (by decide)) dss_nil)
    (dss_one (ds_app 2 (by decide) rfl (by first | exact Or.inl rfl | exact Or.inr (Or.inl rfl) | exact Or.inr (Or.inr rfl)) (de_var 5 (by decide)))))))) (by decide))
    (dss_frz (O1 := []) (dss_one (ds_ret (de_if (dt_ck (ck_eq c) (de_ix c (de_var 1 (by decide)) de_int) de_str rfl) (de_tuple c rfl fx.f_tuple (da_cons (de_var 2 (by decide)) da_nil)) de_non))) (by decide))))))
theorem sc__law_way_of : FnScope n__law_way_of ["text"] (defScope s__law_way_of) := ⟨rfl, rfl, rfl, by decide +kernel, rfl, by decide +kernel, by decide +kernel⟩
def n_law : List Str := ["script", "town", "steps", "k", "word", "way", "text", "spot", "sign", "part", "due", "step"]
theorem rest_law {P : Program} {w : World} {K : PySem.W.Frag} {mg : Str → Option Value} {base : Heap} {k : Nat} {d : Den} (fx : Fx w K mg) (hk2 : 2 ≤ k) (hy : Hyp P w K mg base k d) (T : Addr) : BodyOk false P w K mg base n_law "law" (defScope s_law) ((defBody s_law).drop 1) k (RT K T) .f [] (b_law d) :=
  fun f cdv A outer s H E c tk hp => (dss_cons (ds_setO (O' := [2]) 2 c.nd rfl (by first | exact Or.inl rfl | exact Or.inr rfl) (df_lst da_nil) (by decide) (by decide) (by decide))
    (dss_cons (ds_for hp rfl (di_range rfl fx.f_range (da_cons (de_callT c tk hy._law_draw rfl (da_cons (de_var 0 (by decide)) (da_cons (de_var 1 (by decide)) (da_cons de_int da_nil)))) da_nil)) (pg_name c.nd (i := 3) rfl (by first | exact Or.inl rfl | exact Or.inr rfl)) tg_name (dss_cons (ds_set (O' := [2]) c.nd (i := 4) rfl (by first | exact Or.inl rfl | exact Or.inr rfl) (de_callT c tk hy._law_word rfl (da_cons (de_var 0 (by decide)) (da_cons (de_var 1 (by decide)) da_nil))) (by decide) (by decide))
    (dss_cons (ds_if (dt_ck (ck_eq c) (de_callT c tk hy._law_draw rfl (da_cons (de_var 0 (by decide)) (da_cons (de_var 1 (by decide)) (da_cons de_int da_nil)))) de_int rfl) (dss_one (ds_set (O' := [2]) c.nd (i := 4) rfl (by first | exact Or.inl rfl | exact Or.inr rfl) (de_add c.hK (de_var 4 (by decide)) (de_callT c tk hy._law_pick rfl (da_cons (de_var 0 (by decide)) (da_cons (de_var 1 (by decide)) (da_cons (de_lst (da_cons de_str (da_cons de_str (da_cons de_str (da_cons de_str (da_cons de_str da_nil)))))) da_nil))))) (by decide) (by decide))) dss_nil)
    (dss_one (ds_app 2 (by decide) rfl (by first | exact Or.inl rfl | exact Or.inr (Or.inl rfl) | exact Or.inr (Or.inr rfl)) (de_var 4 (by decide)))))) (by decide))
    (dss_cons (ds_if (dt_ck (ck_eq c) (de_callT c tk hy._law_draw rfl (da_cons (de_var 0 (by decide)) (da_cons (de_var 1 (by decide)) (da_cons de_int da_nil)))) de_int rfl) (dss_one (ds_app 2 (by decide) rfl (by first | exact Or.inl rfl | exact Or.inr (Or.inl rfl) | exact Or.inr (Or.inr rfl)) (de_mul de_str (de_add c.hK de_int (de_callT c tk hy._law_draw rfl (da_cons (de_var 0 (by decide)) (da_cons (de_var 1 (by decide)) (da_cons de_int da_nil)))))))) dss_nil)
    (dss_frz (O1 := []) (dss_cons (ds_set (O' := []) c.nd (i := 5) rfl (by first | exact Or.inl rfl | exact Or.inr rfl) (de_tuple c rfl fx.f_tuple (da_cons (de_var 2 (by decide)) da_nil)) (by decide) (by decide))
    (dss_cons (ds_if (dt_ck ck_gt (de_max c rfl fx.f_max (da_cons (de_add c.hK (de_lst (da_cons de_int da_nil)) (de_give (df_lc (own := [("step", 11)]) c (di_any c.hK (de_var 2 (by decide))) (blkOk_by (N := n_law) (sc := defScope s_law) (by decide +kernel)) tg_name (fun _ _ _ _ _ => (pg_name c.nd (i := 11) rfl (by first | exact Or.inl rfl | exact Or.inr rfl))) (fun _ _ _ _ _ c' => dts_nil) (fun _ _ _ _ _ c' => (de_len c'.hK rfl fx.f_len (da_cons (de_var 11 (by decide)) da_nil)))))) da_nil)) de_int rfl) (dss_one (ds_ret (de_and c.hK (de_ck (ck_eq c) (de_callP c tk hy._law_told rfl (da_cons de_int (da_cons (de_var 5 (by decide)) da_nil))) (de_tup (da_cons de_str (da_cons de_str da_nil))) rfl) (de_one (de_ck (ck_eq c) (de_callP c tk hy._law_told rfl (da_cons de_int (da_cons (de_add c.hK de_str (de_ix c (de_var 2 (by decide)) (de_neg de_int))) da_nil))) (de_tup (da_cons de_str (da_cons de_str da_nil))) rfl))))) dss_nil)
    (dss_cons (ds_set (O' := []) c.nd (i := 6) rfl (by first | exact Or.inl rfl | exact Or.inr rfl) (de_join c de_str (da_cons (de_give (df_lc (own := [("step", 11)]) c (di_any c.hK (de_var 2 (by decide))) (blkOk_by (N := n_law) (sc := defScope s_law) (by decide +kernel)) tg_name (fun _ _ _ _ _ => (pg_name c.nd (i := 11) rfl (by first | exact Or.inl rfl | exact Or.inr rfl))) (fun _ _ _ _ _ c' => dts_nil) (fun _ _ _ _ _ c' => (de_add c'.hK de_str (de_callP c' tk0 hy._law_step_text rfl (da_cons (de_var 11 (by decide)) da_nil)))))) da_nil)) (by decide) (by decide))
    (dss_cons (ds_if (PW.pt (dw_or (dt_ck (ck_ne c) (de_callP c tk hy._law_told rfl (da_cons de_int (da_cons (de_var 5 (by decide)) da_nil))) (de_var 6 (by decide)) rfl) (dw_or1 (dt_ck (ck_ne c) (de_callP c tk hy._law_told rfl (da_cons de_int (da_cons (de_var 6 (by decide)) da_nil))) (de_var 5 (by decide)) rfl)))) (dss_one (ds_ret de_bl)) dss_nil)
    (dss_cons (ds_for hp rfl (di_range rfl fx.f_range (da_cons (de_add c.hK de_int (de_callT c tk hy._law_draw rfl (da_cons (de_var 0 (by decide)) (da_cons (de_var 1 (by decide)) (da_cons de_int da_nil))))) da_nil)) (pg_name c.nd (i := 3) rfl (by first | exact Or.inl rfl | exact Or.inr rfl)) tg_name (dss_cons (ds_set (O' := []) c.nd (i := 7) rfl (by first | exact Or.inl rfl | exact Or.inr rfl) (de_callT c tk hy._law_draw rfl (da_cons (de_var 0 (by decide)) (da_cons (de_var 1 (by decide)) (da_cons (de_add c.hK (de_len c.hK rfl fx.f_len (da_cons (de_var 6 (by decide)) da_nil)) de_int) da_nil)))) (by decide) (by decide))
    (dss_cons (ds_set (O' := []) c.nd (i := 8) rfl (by first | exact Or.inl rfl | exact Or.inr rfl) (de_callT c tk hy._law_pick rfl (da_cons (de_var 0 (by decide)) (da_cons (de_var 1 (by decide)) (da_cons (de_lst (da_cons de_str (da_cons de_str (da_cons de_str (da_cons de_str (da_cons de_str (da_cons de_str (da_cons de_str da_nil)))))))) da_nil)))) (by decide) (by decide))
    (dss_cons (ds_set (O' := []) c.nd (i := 9) rfl (by first | exact Or.inl rfl | exact Or.inr rfl) (de_callT c tk hy._law_draw rfl (da_cons (de_var 0 (by decide)) (da_cons (de_var 1 (by decide)) (da_cons de_int da_nil)))) (by decide) (by decide))
    (dss_one (ds_set (O' := []) c.nd (i := 6) rfl (by first | exact Or.inl rfl | exact Or.inr rfl) (de_add c.hK (de_add c.hK (de_sl (de_var 6 (by decide)) dp_none (dp_some (de_var 7 (by decide)))) (de_if (dt_ck ck_lt (de_var 9 (by decide)) de_int rfl) (de_var 8 (by decide)) de_str)) (de_sl (de_var 6 (by decide)) (dp_some (de_add c.hK (de_var 7 (by decide)) (de_toint c rfl fx.f_int (da_cons (de_ck ck_gt (de_var 9 (by decide)) de_int rfl) da_nil)))) dp_none)) (by decide) (by decide)))))) (by decide))
    (dss_cons (ds_set (O' := []) c.nd (i := 10) rfl (by first | exact Or.inl rfl | exact Or.inr rfl) (de_callP c tk hy._law_way_of rfl (da_cons (de_var 6 (by decide)) da_nil)) (by decide) (by decide))
    (dss_cons (ds_if (dt_ck (ck_ne c) (de_callP c tk hy._law_told rfl (da_cons de_int (da_cons (de_var 6 (by decide)) da_nil))) (de_if (dt_isN (de_var 10 (by decide))) (de_tup (da_cons de_str (da_cons de_str da_nil))) (de_var 10 (by decide))) rfl) (dss_one (ds_ret de_bl)) dss_nil)
    (dss_one (ds_ret (de_ck (ck_eq c) (de_callP c tk hy._law_told rfl (da_cons de_int (da_cons (de_tup (da_cons de_str (da_cons de_str da_nil))) da_nil))) (de_tup (da_cons de_str (da_cons de_str da_nil))) rfl)))))))))) (by decide)))))
theorem sc_law : FnScope n_law ["script"] (defScope s_law) := ⟨rfl, rfl, rfl, by decide +kernel, rfl, by decide +kernel, by decide +kernel⟩
end Nw
set_option Elab.async false
set_option linter.all false
set_option maxRecDepth 100000
set_option maxHeartbeats 0
namespace Nw
open PySem PySem.Spec L2
abbrev FnP (K : PySem.W.Frag) (x : Str) (st : Stmt) (f : Addr) (fd : FuncData) : Prop := FunD K x x (defArgs st) (defBody st) (defScope st) [] [] f fd
structure Fns (K : PySem.W.Frag) (mg : Str → Option Value) : Prop where
  is_sign : (∃ fd, FnP K "is_sign" s_is_sign (He.ga K "is_sign") fd) ∧ mg "is_sign" = some (.ref (He.ga K "is_sign"))
  is_word : (∃ fd, FnP K "is_word" s_is_word (He.ga K "is_word") fd) ∧ mg "is_word" = some (.ref (He.ga K "is_word"))
  is_step : (∃ fd, FnP K "is_step" s_is_step (He.ga K "is_step") fd) ∧ mg "is_step" = some (.ref (He.ga K "is_step"))
  look_way : (∃ fd, FnP K "look_way" s_look_way (He.ga K "look_way") fd) ∧ mg "look_way" = some (.ref (He.ga K "look_way"))
  written_way : (∃ fd, FnP K "written_way" s_written_way (He.ga K "written_way") fd) ∧ mg "written_way" = some (.ref (He.ga K "written_way"))
  read_step : (∃ fd, FnP K "read_step" s_read_step (He.ga K "read_step") fd) ∧ mg "read_step" = some (.ref (He.ga K "read_step"))
  read_way : (∃ fd, FnP K "read_way" s_read_way (He.ga K "read_way") fd) ∧ mg "read_way" = some (.ref (He.ga K "read_way"))
  _law_cell : (∃ fd, FnP K "_law_cell" s__law_cell (He.ga K "_law_cell") fd) ∧ mg "_law_cell" = some (.ref (He.ga K "_law_cell"))
  _law_mix : (∃ fd, FnP K "_law_mix" s__law_mix (He.ga K "_law_mix") fd) ∧ mg "_law_mix" = some (.ref (He.ga K "_law_mix"))
  _law_draw : (∃ fd, FnP K "_law_draw" s__law_draw (He.ga K "_law_draw") fd) ∧ mg "_law_draw" = some (.ref (He.ga K "_law_draw"))
  _law_pick : (∃ fd, FnP K "_law_pick" s__law_pick (He.ga K "_law_pick") fd) ∧ mg "_law_pick" = some (.ref (He.ga K "_law_pick"))
  _law_refusal : (∃ fd, FnP K "_law_refusal" s__law_refusal (He.ga K "_law_refusal") fd) ∧ mg "_law_refusal" = some (.ref (He.ga K "_law_refusal"))
  _law_word : (∃ fd, FnP K "_law_word" s__law_word (He.ga K "_law_word") fd) ∧ mg "_law_word" = some (.ref (He.ga K "_law_word"))
  _law_told : (∃ fd, FnP K "_law_told" s__law_told (He.ga K "_law_told") fd) ∧ mg "_law_told" = some (.ref (He.ga K "_law_told"))
  _law_step_text : (∃ fd, FnP K "_law_step_text" s__law_step_text (He.ga K "_law_step_text") fd) ∧ mg "_law_step_text" = some (.ref (He.ga K "_law_step_text"))
  _law_way_of : (∃ fd, FnP K "_law_way_of" s__law_way_of (He.ga K "_law_way_of") fd) ∧ mg "_law_way_of" = some (.ref (He.ga K "_law_way_of"))
  law : (∃ fd, FnP K "law" s_law (He.ga K "law") fd) ∧ mg "law" = some (.ref (He.ga K "law"))
theorem has_of {md : Bool} {P : Program} {w : World} {K : PySem.W.Frag} {mg : Str → Option Value} {base : Heap} {k : Nat} {sp : Sp} {x : Str} {st : Stmt} {ps : List Str} (h : (∃ fd, FnP K x st (He.ga K x) fd) ∧ mg x = some (.ref (He.ga K x)))
    (b : ∀ (kV doc pm : Value) (an : Option Addr) (cdv ct : Value) (us : List Value), us.length = ps.length → bindArgs (PySem.W.fnOf x x (defArgs st) (defBody st) (defScope st) .none kV doc pm an cdv ct) ⟨us, []⟩ = pure (ps.zip us))
    (F : ∀ fd, FnP K x st (He.ga K x) fd → FnOk P w K mg base (CXm md P w) k (He.ga K x) fd ps sp) : Has md P w K mg base k x sp := by
  obtain ⟨⟨fd, hf⟩, hm⟩ := h
  exact ⟨He.ga K x, fd, ps, F fd hf, hm, hf.kp, hf.bindsN b⟩
theorem bi_is_sign (kV doc pm : Value) (an : Option Addr) (cdv ct : Value) (us : List Value) (hl : us.length = (["sign"] : List Str).length) : bindArgs (PySem.W.fnOf "is_sign" "is_sign" (defArgs s_is_sign) (defBody s_is_sign) (defScope s_is_sign) .none kV doc pm an cdv ct) ⟨us, []⟩ = pure ((["sign"] : List Str).zip us) := match us, hl with | [_], _ => rfl
theorem bi_is_word (kV doc pm : Value) (an : Option Addr) (cdv ct : Value) (us : List Value) (hl : us.length = (["word"] : List Str).length) : bindArgs (PySem.W.fnOf "is_word" "is_word" (defArgs s_is_word) (defBody s_is_word) (defScope s_is_word) .none kV doc pm an cdv ct) ⟨us, []⟩ = pure ((["word"] : List Str).zip us) := match us, hl with | [_], _ => rfl
theorem bi_is_step (kV doc pm : Value) (an : Option Addr) (cdv ct : Value) (us : List Value) (hl : us.length = (["step"] : List Str).length) : bindArgs (PySem.W.fnOf "is_step" "is_step" (defArgs s_is_step) (defBody s_is_step) (defScope s_is_step) .none kV doc pm an cdv ct) ⟨us, []⟩ = pure ((["step"] : List Str).zip us) := match us, hl with | [_], _ => rfl
theorem bi_look_way (kV doc pm : Value) (an : Option Addr) (cdv ct : Value) (us : List Value) (hl : us.length = (["way"] : List Str).length) : bindArgs (PySem.W.fnOf "look_way" "look_way" (defArgs s_look_way) (defBody s_look_way) (defScope s_look_way) .none kV doc pm an cdv ct) ⟨us, []⟩ = pure ((["way"] : List Str).zip us) := match us, hl with | [_], _ => rfl
theorem bi_written_way (kV doc pm : Value) (an : Option Addr) (cdv ct : Value) (us : List Value) (hl : us.length = (["way"] : List Str).length) : bindArgs (PySem.W.fnOf "written_way" "written_way" (defArgs s_written_way) (defBody s_written_way) (defScope s_written_way) .none kV doc pm an cdv ct) ⟨us, []⟩ = pure ((["way"] : List Str).zip us) := match us, hl with | [_], _ => rfl
theorem bi_read_step (kV doc pm : Value) (an : Option Addr) (cdv ct : Value) (us : List Value) (hl : us.length = (["text"] : List Str).length) : bindArgs (PySem.W.fnOf "read_step" "read_step" (defArgs s_read_step) (defBody s_read_step) (defScope s_read_step) .none kV doc pm an cdv ct) ⟨us, []⟩ = pure ((["text"] : List Str).zip us) := match us, hl with | [_], _ => rfl
theorem bi_read_way (kV doc pm : Value) (an : Option Addr) (cdv ct : Value) (us : List Value) (hl : us.length = (["text"] : List Str).length) : bindArgs (PySem.W.fnOf "read_way" "read_way" (defArgs s_read_way) (defBody s_read_way) (defScope s_read_way) .none kV doc pm an cdv ct) ⟨us, []⟩ = pure ((["text"] : List Str).zip us) := match us, hl with | [_], _ => rfl
theorem bi__law_cell (kV doc pm : Value) (an : Option Addr) (cdv ct : Value) (us : List Value) (hl : us.length = (["script", "k"] : List Str).length) : bindArgs (PySem.W.fnOf "_law_cell" "_law_cell" (defArgs s__law_cell) (defBody s__law_cell) (defScope s__law_cell) .none kV doc pm an cdv ct) ⟨us, []⟩ = pure ((["script", "k"] : List Str).zip us) := match us, hl with | [_, _], _ => rfl
theorem bi__law_mix (kV doc pm : Value) (an : Option Addr) (cdv ct : Value) (us : List Value) (hl : us.length = (["script", "k"] : List Str).length) : bindArgs (PySem.W.fnOf "_law_mix" "_law_mix" (defArgs s__law_mix) (defBody s__law_mix) (defScope s__law_mix) .none kV doc pm an cdv ct) ⟨us, []⟩ = pure ((["script", "k"] : List Str).zip us) := match us, hl with | [_, _], _ => rfl
theorem bi__law_draw (kV doc pm : Value) (an : Option Addr) (cdv ct : Value) (us : List Value) (hl : us.length = (["script", "town", "many"] : List Str).length) : bindArgs (PySem.W.fnOf "_law_draw" "_law_draw" (defArgs s__law_draw) (defBody s__law_draw) (defScope s__law_draw) .none kV doc pm an cdv ct) ⟨us, []⟩ = pure ((["script", "town", "many"] : List Str).zip us) := match us, hl with | [_, _, _], _ => rfl
theorem bi__law_pick (kV doc pm : Value) (an : Option Addr) (cdv ct : Value) (us : List Value) (hl : us.length = (["script", "town", "some"] : List Str).length) : bindArgs (PySem.W.fnOf "_law_pick" "_law_pick" (defArgs s__law_pick) (defBody s__law_pick) (defScope s__law_pick) .none kV doc pm an cdv ct) ⟨us, []⟩ = pure ((["script", "town", "some"] : List Str).zip us) := match us, hl with | [_, _, _], _ => rfl
theorem bi__law_refusal (kV doc pm : Value) (an : Option Addr) (cdv ct : Value) (us : List Value) (hl : us.length = (["held"] : List Str).length) : bindArgs (PySem.W.fnOf "_law_refusal" "_law_refusal" (defArgs s__law_refusal) (defBody s__law_refusal) (defScope s__law_refusal) .none kV doc pm an cdv ct) ⟨us, []⟩ = pure ((["held"] : List Str).zip us) := match us, hl with | [_], _ => rfl
theorem bi__law_word (kV doc pm : Value) (an : Option Addr) (cdv ct : Value) (us : List Value) (hl : us.length = (["script", "town"] : List Str).length) : bindArgs (PySem.W.fnOf "_law_word" "_law_word" (defArgs s__law_word) (defBody s__law_word) (defScope s__law_word) .none kV doc pm an cdv ct) ⟨us, []⟩ = pure ((["script", "town"] : List Str).zip us) := match us, hl with | [_, _], _ => rfl
theorem bi__law_told (kV doc pm : Value) (an : Option Addr) (cdv ct : Value) (us : List Value) (hl : us.length = (["way", "thing"] : List Str).length) : bindArgs (PySem.W.fnOf "_law_told" "_law_told" (defArgs s__law_told) (defBody s__law_told) (defScope s__law_told) .none kV doc pm an cdv ct) ⟨us, []⟩ = pure ((["way", "thing"] : List Str).zip us) := match us, hl with | [_, _], _ => rfl
theorem bi__law_step_text (kV doc pm : Value) (an : Option Addr) (cdv ct : Value) (us : List Value) (hl : us.length = (["step"] : List Str).length) : bindArgs (PySem.W.fnOf "_law_step_text" "_law_step_text" (defArgs s__law_step_text) (defBody s__law_step_text) (defScope s__law_step_text) .none kV doc pm an cdv ct) ⟨us, []⟩ = pure ((["step"] : List Str).zip us) := match us, hl with | [_], _ => rfl
theorem bi__law_way_of (kV doc pm : Value) (an : Option Addr) (cdv ct : Value) (us : List Value) (hl : us.length = (["text"] : List Str).length) : bindArgs (PySem.W.fnOf "_law_way_of" "_law_way_of" (defArgs s__law_way_of) (defBody s__law_way_of) (defScope s__law_way_of) .none kV doc pm an cdv ct) ⟨us, []⟩ = pure ((["text"] : List Str).zip us) := match us, hl with | [_], _ => rfl
theorem hyp_all {P : Program} {w : World} {K : PySem.W.Frag} {mg : Str → Option Value} {base : Heap} (fx : Fx w K mg) (fns : Fns K mg) : ∀ k, Hyp P w K mg base (k + 2) (den k)
  | 0 => {
    is_sign := has_of fns.is_sign bi_is_sign fun _ _ => fn_none not_P
    is_word := has_of fns.is_word bi_is_word fun _ _ => fn_none not_P
    is_step := has_of fns.is_step bi_is_step fun _ _ => fn_none not_P
    look_way := has_of fns.look_way bi_look_way fun _ _ => fn_none not_P
    written_way := has_of fns.written_way bi_written_way fun _ _ => fn_none not_P
    read_step := has_of fns.read_step bi_read_step fun _ _ => fn_none not_P
    read_way := has_of fns.read_way bi_read_way fun _ _ => fn_none not_P
    _law_cell := has_of fns._law_cell bi__law_cell fun _ _ => fn_none not_P
    _law_mix := has_of fns._law_mix bi__law_mix fun _ _ => fn_none not_P
    _law_draw := has_of fns._law_draw bi__law_draw fun _ _ => fn_none not_T
    _law_pick := has_of fns._law_pick bi__law_pick fun _ _ => fn_none not_T
    _law_refusal := has_of fns._law_refusal bi__law_refusal fun _ _ => fn_none not_P
    _law_word := has_of fns._law_word bi__law_word fun _ _ => fn_none not_T
    _law_told := has_of fns._law_told bi__law_told fun _ _ => fn_none not_P
    _law_step_text := has_of fns._law_step_text bi__law_step_text fun _ _ => fn_none not_P
    _law_way_of := has_of fns._law_way_of bi__law_way_of fun _ _ => fn_none not_P
  }
  | k + 1 => have h := hyp_all fx fns k; {
    is_sign := has_of fns.is_sign bi_is_sign fun _ F => fn_P F sc_is_sign fun q => body_is_sign fx (by omega) h q
    is_word := has_of fns.is_word bi_is_word fun _ F => fn_P F sc_is_word fun q => body_is_word fx (by omega) h q
    is_step := has_of fns.is_step bi_is_step fun _ F => fn_P F sc_is_step fun q => body_is_step fx (by omega) h q
    look_way := has_of fns.look_way bi_look_way fun _ F => fn_P F sc_look_way fun q => body_look_way fx (by omega) h q
    written_way := has_of fns.written_way bi_written_way fun _ F => fn_P F sc_written_way fun q => body_written_way fx (by omega) h q
    read_step := has_of fns.read_step bi_read_step fun _ F => fn_P F sc_read_step fun q => body_read_step fx (by omega) h q
    read_way := has_of fns.read_way bi_read_way fun _ F => fn_P F sc_read_way fun q => body_read_way fx (by omega) h q
    _law_cell := has_of fns._law_cell bi__law_cell fun _ F => fn_P F sc__law_cell fun q => body__law_cell fx (by omega) h q
    _law_mix := has_of fns._law_mix bi__law_mix fun _ F => fn_P F sc__law_mix fun q => body__law_mix fx (by omega) h q
    _law_draw := has_of fns._law_draw bi__law_draw fun _ F => fn_T F sc__law_draw fun q => body__law_draw fx (by omega) h q
    _law_pick := has_of fns._law_pick bi__law_pick fun _ F => fn_T F sc__law_pick fun q => body__law_pick fx (by omega) h q
    _law_refusal := has_of fns._law_refusal bi__law_refusal fun _ F => fn_P F sc__law_refusal fun q => body__law_refusal fx (by omega) h q
    _law_word := has_of fns._law_word bi__law_word fun _ F => fn_T F sc__law_word fun q => body__law_word fx (by omega) h q
    _law_told := has_of fns._law_told bi__law_told fun _ F => fn_P F sc__law_told fun q => body__law_told fx (by omega) h q
    _law_step_text := has_of fns._law_step_text bi__law_step_text fun _ F => fn_P F sc__law_step_text fun q => body__law_step_text fx (by omega) h q
    _law_way_of := has_of fns._law_way_of bi__law_way_of fun _ F => fn_P F sc__law_way_of fun q => body__law_way_of fx (by omega) h q
  }
end Nw
set_option Elab.async false
set_option linter.all false
set_option maxRecDepth 100000
set_option maxHeartbeats 4000000
namespace Nw
open PySem PySem.Spec L2
/-! ### what the pieces do, as equations -/
section
variable {S α β : Type}
theorem bnd_e (m : M S α) (k : α → M S β) (s : S) : bnd m k s = match m s with | .ok a s' => k a s' | .exc x s' => .exc x s' | .bot => .bot := rfl
theorem lift_e (a : α) (s : S) : (lift (some a) : M S α) s = .ok a s := rfl
theorem lift_n (s : S) : (lift none : M S α) s = .bot := rfl
/-- a comprehension whose turns are told one by one -/
theorem lcA_map {i : Nat} {f : Sl → M S D} {r : Sl} {s : S} (g : D → D) : ∀ (xs acc : List D), (∀ x ∈ xs, f (r.set i (some x)) s = .ok (g x) s) → lcA (tgN i) dYes f r acc xs s = .ok (.row (acc ++ xs.map g)) s
  | [], acc, _ => by rw [List.map_nil, List.append_nil]; rfl
  | x :: xs, acc, h => by
    have h1 := h x List.mem_cons_self
    have e : lcA (tgN i) dYes f r acc (x :: xs) s = bnd (nox (f (r.set i (some x)))) (fun y => lcA (tgN i) dYes f r (acc ++ [y]) xs) s := rfl
    have e2 : nox (f (r.set i (some x))) s = .ok (g x) s := by unfold nox; rw [h1]
    rw [e, bnd_ok e2, lcA_map g xs (acc ++ [g x]) fun y hy => h y (List.mem_cons_of_mem _ hy), List.map_cons, List.append_assoc, List.singleton_append]
end
/-! ### words -/
def okC (c : Nat) : Bool := decide (32 ≤ c) && decide (c < 127) && !decide (c = 37)
def okS : D → D
  | .str x => .bl (okC (x.cps.getD 0 0))
  | _ => .bl false
def isW (x : Str) : Bool := decide (x.length ≤ 60) && x.cps.toList.all okC
theorem eqD_int (i j : Int) : eqD (.int i) (.int j) = some (.bl (decide (i = j))) := by
  kernel_rfl
theorem neD_int (i j : Int) : neD (.int i) (.int j) = some (.bl (!decide (i = j))) := by
  kernel_rfl
theorem is_sign_eq (k c : Nat) : (den (k + 1)).is_sign [.str ⟨#[c]⟩] () = .ok (.bl (okC c)) () := by
  show fnD 1 (b_is_sign (den k)) [.str ⟨#[c]⟩] () = _
  have ho : ordD [.str ⟨#[c]⟩] = some (.int (c : Nat)) := rfl
  have h1 : leD (.int 32) (.int (c : Nat)) = some (.bl (decide (32 ≤ c))) := by
    show some (D.bl (decide ((32 : Int) ≤ c))) = _
    congr 2
    exact decide_eq_decide.mpr (by omega)
  have h2 : ltD (.int (c : Nat)) (.int 127) = some (.bl (decide (c < 127))) := by
    show some (D.bl (decide ((c : Int) < 127))) = _
    congr 2
    exact decide_eq_decide.mpr (by omega)
  have h3 : neD (.int (c : Nat)) (.int 37) = some (.bl (!decide (c = 37))) := by
    rw [neD_int]
    congr 3
    exact decide_eq_decide.mpr (by omega)
  unfold okC
  cases e1 : decide (32 ≤ c) <;> cases e2 : decide (c < 127) <;> simp only [b_is_sign, dChain, ho, h1, h2, h3, e1, e2, fnD, startD, endK, sRet, sRetN, sSeq, seqK, sIf, sAsg, sDrop, sNil, liftX, tgN, sFor, sOwn1, sOwn2, optK, putK2, sAsgO, sRetO, isRT, ownIs, dAnd, dOr, dIf, bnd_e, dOp, dUn, dAll, dCons, dNil, ret_ap, dVar, getS, lift_e, lift_n, dC, dTst, isBl, dCall, up, tAndD, tOrD, tNotD, dItems, itemsD, dRange, dMt, dLc, rowD, tupD, truD, notD, tyIs, List.map_cons, List.map_nil, List.length_cons, List.length_nil, List.cons_append, List.nil_append, List.replicate_succ, List.replicate_zero, List.getElem?_cons_zero, List.getElem?_cons_succ, List.set_cons_zero, List.set_cons_succ, Option.join_some, Option.join_none, Option.map_some, Option.map_none, Option.bind_some, Option.bind_none, Nat.reduceAdd, Nat.reduceSub, Nat.zero_add, if_true, if_false, ite_true, ite_false, reduceIte, Bool.false_eq_true, Bool.true_eq_false, eq_self_iff_true, Bool.true_and, Bool.false_and, Bool.and_false]
theorem EV : (type_of% @fnD.eq_1) ∧ (type_of% @startD.eq_1) ∧ (type_of% @endK.eq_1) ∧ (type_of% @endK.eq_2) ∧ (type_of% @endK.eq_3) ∧ (type_of% @endK.eq_4) ∧ (type_of% @sRet.eq_1) ∧ (type_of% @sRetN.eq_1) ∧ (type_of% @sSeq.eq_1) ∧ (type_of% @seqK.eq_1) ∧ (type_of% @seqK.eq_2) ∧ (type_of% @seqK.eq_3) ∧ (type_of% @seqK.eq_4) ∧ (type_of% @seqK.eq_5) ∧ (type_of% @seqK.eq_6) ∧ (type_of% @sIf.eq_1) ∧ (type_of% @sAsg.eq_1) ∧ (type_of% @sDrop.eq_1) ∧ (type_of% @sNil.eq_1) ∧ (type_of% @liftX.eq_1) ∧ (type_of% @tgN.eq_1) ∧ (type_of% @sFor.eq_1) ∧ (type_of% @sOwn1.eq_1) ∧ (type_of% @sOwn2.eq_1) ∧ (type_of% @optK.eq_1) ∧ (type_of% @optK.eq_2) ∧ (type_of% @putK2.eq_1) ∧ (type_of% @putK2.eq_2) ∧ (type_of% @sAsgO.eq_1) ∧ (type_of% @sRetO.eq_1) ∧ (type_of% @isRT.eq_1) ∧ (type_of% @isRT.eq_2) ∧ (type_of% @isRT.eq_3) ∧ (type_of% @ownIs.eq_1) ∧ (type_of% @ownIs.eq_2) ∧ (type_of% @ownIs.eq_3) ∧ (type_of% @dAnd.eq_1) ∧ (type_of% @dOr.eq_1) ∧ (type_of% @dIf.eq_1) ∧ (type_of% @bnd_e) ∧ (type_of% @dOp.eq_1) ∧ (type_of% @dUn.eq_1) ∧ (type_of% @dAll.eq_1) ∧ (type_of% @dCons.eq_1) ∧ (type_of% @dNil.eq_1) ∧ (type_of% @ret_ap) ∧ (type_of% @dVar.eq_1) ∧ (type_of% @getS.eq_1) ∧ (type_of% @lift_e) ∧ (type_of% @lift_n) ∧ (type_of% @dC.eq_1) ∧ (type_of% @dTst.eq_1) ∧ (type_of% @isBl.eq_1) ∧ (type_of% @isBl.eq_2) ∧ (type_of% @dCall.eq_1) ∧ (type_of% @up.eq_1) ∧ (type_of% @tAndD.eq_1) ∧ (type_of% @tOrD.eq_1) ∧ (type_of% @tNotD.eq_1) ∧ (type_of% @dItems.eq_1) ∧ (type_of% @itemsD.eq_1) ∧ (type_of% @itemsD.eq_2) ∧ (type_of% @itemsD.eq_3) ∧ (type_of% @itemsD.eq_4) ∧ (type_of% @itemsD.eq_5) ∧ (type_of% @dRange.eq_1) ∧ (type_of% @dMt.eq_1) ∧ (type_of% @dLc.eq_1) ∧ (type_of% @rowD.eq_1) ∧ (type_of% @tupD.eq_1) ∧ (type_of% @truD.eq_1) ∧ (type_of% @truD.eq_2) ∧ (type_of% @truD.eq_3) ∧ (type_of% @truD.eq_4) ∧ (type_of% @truD.eq_5) ∧ (type_of% @truD.eq_6) ∧ (type_of% @truD.eq_7) ∧ (type_of% @truD.eq_8) ∧ (type_of% @truD.eq_9) ∧ (type_of% @notD.eq_1) ∧ (type_of% @tyIs.eq_1) ∧ (type_of% @tyIs.eq_2) ∧ (type_of% @tyIs.eq_3) ∧ (type_of% @tyIs.eq_4) ∧ (type_of% @tyIs.eq_5) ∧ (type_of% @List.map_cons.{0,0}) ∧ (type_of% @List.map_nil.{0,0}) ∧ (type_of% @List.length_cons.{0}) ∧ (type_of% @List.length_nil.{0}) ∧ (type_of% @List.cons_append.{0}) ∧ (type_of% @List.nil_append.{0}) ∧ (type_of% @List.replicate_succ.{0}) ∧ (type_of% @List.replicate_zero.{0}) ∧ (type_of% @List.getElem?_cons_zero.{0}) ∧ (type_of% @List.getElem?_cons_succ.{0}) ∧ (type_of% @List.set_cons_zero.{0}) ∧ (type_of% @List.set_cons_succ.{0}) ∧ (type_of% @Option.join_some.{0}) ∧ (type_of% @Option.join_none.{0}) ∧ (type_of% @Option.map_some.{0,0}) ∧ (type_of% @Option.map_none.{0,0}) ∧ (type_of% @Option.bind_some.{0,0}) ∧ (type_of% @Option.bind_none.{0,0}) ∧ (type_of% @Nat.zero_add) ∧ (type_of% @if_true.{1}) ∧ (type_of% @if_false.{1}) ∧ (type_of% @ite_true.{1}) ∧ (type_of% @ite_false.{1}) ∧ (type_of% @Bool.false_eq_true) ∧ (type_of% @Bool.true_eq_false) :=
  ⟨@fnD.eq_1, @startD.eq_1, @endK.eq_1, @endK.eq_2, @endK.eq_3, @endK.eq_4, @sRet.eq_1, @sRetN.eq_1, @sSeq.eq_1, @seqK.eq_1, @seqK.eq_2, @seqK.eq_3, @seqK.eq_4, @seqK.eq_5, @seqK.eq_6, @sIf.eq_1, @sAsg.eq_1, @sDrop.eq_1, @sNil.eq_1, @liftX.eq_1, @tgN.eq_1, @sFor.eq_1, @sOwn1.eq_1, @sOwn2.eq_1, @optK.eq_1, @optK.eq_2, @putK2.eq_1, @putK2.eq_2, @sAsgO.eq_1, @sRetO.eq_1, @isRT.eq_1, @isRT.eq_2, @isRT.eq_3, @ownIs.eq_1, @ownIs.eq_2, @ownIs.eq_3, @dAnd.eq_1, @dOr.eq_1, @dIf.eq_1, @bnd_e, @dOp.eq_1, @dUn.eq_1, @dAll.eq_1, @dCons.eq_1, @dNil.eq_1, @ret_ap, @dVar.eq_1, @getS.eq_1, @lift_e, @lift_n, @dC.eq_1, @dTst.eq_1, @isBl.eq_1, @isBl.eq_2, @dCall.eq_1, @up.eq_1, @tAndD.eq_1, @tOrD.eq_1, @tNotD.eq_1, @dItems.eq_1, @itemsD.eq_1, @itemsD.eq_2, @itemsD.eq_3, @itemsD.eq_4, @itemsD.eq_5, @dRange.eq_1, @dMt.eq_1, @dLc.eq_1, @rowD.eq_1, @tupD.eq_1, @truD.eq_1, @truD.eq_2, @truD.eq_3, @truD.eq_4, @truD.eq_5, @truD.eq_6, @truD.eq_7, @truD.eq_8, @truD.eq_9, @notD.eq_1, @tyIs.eq_1, @tyIs.eq_2, @tyIs.eq_3, @tyIs.eq_4, @tyIs.eq_5, @List.map_cons.{0,0}, @List.map_nil.{0,0}, @List.length_cons.{0}, @List.length_nil.{0}, @List.cons_append.{0}, @List.nil_append.{0}, @List.replicate_succ.{0}, @List.replicate_zero.{0}, @List.getElem?_cons_zero.{0}, @List.getElem?_cons_succ.{0}, @List.set_cons_zero.{0}, @List.set_cons_succ.{0}, @Option.join_some.{0}, @Option.join_none.{0}, @Option.map_some.{0,0}, @Option.map_none.{0,0}, @Option.bind_some.{0,0}, @Option.bind_none.{0,0}, @Nat.zero_add, @if_true.{1}, @if_false.{1}, @ite_true.{1}, @ite_false.{1}, @Bool.false_eq_true, @Bool.true_eq_false⟩
theorem EVw : (type_of% @fnD.eq_1) ∧ (type_of% @startD.eq_1) ∧ (type_of% @endK.eq_1) ∧ (type_of% @endK.eq_2) ∧ (type_of% @endK.eq_3) ∧ (type_of% @endK.eq_4) ∧ (type_of% @sRet.eq_1) ∧ (type_of% @sRetN.eq_1) ∧ (type_of% @sSeq.eq_1) ∧ (type_of% @seqK.eq_1) ∧ (type_of% @seqK.eq_2) ∧ (type_of% @seqK.eq_3) ∧ (type_of% @seqK.eq_4) ∧ (type_of% @seqK.eq_5) ∧ (type_of% @seqK.eq_6) ∧ (type_of% @sIf.eq_1) ∧ (type_of% @sAsg.eq_1) ∧ (type_of% @sDrop.eq_1) ∧ (type_of% @sNil.eq_1) ∧ (type_of% @liftX.eq_1) ∧ (type_of% @tgN.eq_1) ∧ (type_of% @sFor.eq_1) ∧ (type_of% @sOwn1.eq_1) ∧ (type_of% @sOwn2.eq_1) ∧ (type_of% @optK.eq_1) ∧ (type_of% @optK.eq_2) ∧ (type_of% @putK2.eq_1) ∧ (type_of% @putK2.eq_2) ∧ (type_of% @sAsgO.eq_1) ∧ (type_of% @sRetO.eq_1) ∧ (type_of% @isRT.eq_1) ∧ (type_of% @isRT.eq_2) ∧ (type_of% @isRT.eq_3) ∧ (type_of% @ownIs.eq_1) ∧ (type_of% @ownIs.eq_2) ∧ (type_of% @ownIs.eq_3) ∧ (type_of% @dAnd.eq_1) ∧ (type_of% @dOr.eq_1) ∧ (type_of% @dIf.eq_1) ∧ (type_of% @bnd_e) ∧ (type_of% @dOp.eq_1) ∧ (type_of% @dUn.eq_1) ∧ (type_of% @dAll.eq_1) ∧ (type_of% @dCons.eq_1) ∧ (type_of% @dNil.eq_1) ∧ (type_of% @ret_ap) ∧ (type_of% @dVar.eq_1) ∧ (type_of% @getS.eq_1) ∧ (type_of% @lift_e) ∧ (type_of% @lift_n) ∧ (type_of% @dC.eq_1) ∧ (type_of% @dTst.eq_1) ∧ (type_of% @isBl.eq_1) ∧ (type_of% @isBl.eq_2) ∧ (type_of% @dCall.eq_1) ∧ (type_of% @up.eq_1) ∧ (type_of% @tAndD.eq_1) ∧ (type_of% @tOrD.eq_1) ∧ (type_of% @tNotD.eq_1) ∧ (type_of% @dItems.eq_1) ∧ (type_of% @itemsD.eq_1) ∧ (type_of% @itemsD.eq_2) ∧ (type_of% @itemsD.eq_3) ∧ (type_of% @itemsD.eq_4) ∧ (type_of% @itemsD.eq_5) ∧ (type_of% @dRange.eq_1) ∧ (type_of% @dMt.eq_1) ∧ (type_of% @dLc.eq_1) ∧ (type_of% @rowD.eq_1) ∧ (type_of% @tupD.eq_1) ∧ (type_of% @notD.eq_1) ∧ (type_of% @tyIs.eq_1) ∧ (type_of% @tyIs.eq_2) ∧ (type_of% @tyIs.eq_3) ∧ (type_of% @tyIs.eq_4) ∧ (type_of% @tyIs.eq_5) ∧ (type_of% @List.map_cons.{0,0}) ∧ (type_of% @List.map_nil.{0,0}) ∧ (type_of% @List.length_cons.{0}) ∧ (type_of% @List.length_nil.{0}) ∧ (type_of% @List.cons_append.{0}) ∧ (type_of% @List.nil_append.{0}) ∧ (type_of% @List.replicate_succ.{0}) ∧ (type_of% @List.replicate_zero.{0}) ∧ (type_of% @List.getElem?_cons_zero.{0}) ∧ (type_of% @List.getElem?_cons_succ.{0}) ∧ (type_of% @List.set_cons_zero.{0}) ∧ (type_of% @List.set_cons_succ.{0}) ∧ (type_of% @Option.join_some.{0}) ∧ (type_of% @Option.join_none.{0}) ∧ (type_of% @Option.map_some.{0,0}) ∧ (type_of% @Option.map_none.{0,0}) ∧ (type_of% @Option.bind_some.{0,0}) ∧ (type_of% @Option.bind_none.{0,0}) ∧ (type_of% @Nat.zero_add) ∧ (type_of% @if_true.{1}) ∧ (type_of% @if_false.{1}) ∧ (type_of% @ite_true.{1}) ∧ (type_of% @ite_false.{1}) ∧ (type_of% @Bool.false_eq_true) ∧ (type_of% @Bool.true_eq_false) :=
  ⟨@fnD.eq_1, @startD.eq_1, @endK.eq_1, @endK.eq_2, @endK.eq_3, @endK.eq_4, @sRet.eq_1, @sRetN.eq_1, @sSeq.eq_1, @seqK.eq_1, @seqK.eq_2, @seqK.eq_3, @seqK.eq_4, @seqK.eq_5, @seqK.eq_6, @sIf.eq_1, @sAsg.eq_1, @sDrop.eq_1, @sNil.eq_1, @liftX.eq_1, @tgN.eq_1, @sFor.eq_1, @sOwn1.eq_1, @sOwn2.eq_1, @optK.eq_1, @optK.eq_2, @putK2.eq_1, @putK2.eq_2, @sAsgO.eq_1, @sRetO.eq_1, @isRT.eq_1, @isRT.eq_2, @isRT.eq_3, @ownIs.eq_1, @ownIs.eq_2, @ownIs.eq_3, @dAnd.eq_1, @dOr.eq_1, @dIf.eq_1, @bnd_e, @dOp.eq_1, @dUn.eq_1, @dAll.eq_1, @dCons.eq_1, @dNil.eq_1, @ret_ap, @dVar.eq_1, @getS.eq_1, @lift_e, @lift_n, @dC.eq_1, @dTst.eq_1, @isBl.eq_1, @isBl.eq_2, @dCall.eq_1, @up.eq_1, @tAndD.eq_1, @tOrD.eq_1, @tNotD.eq_1, @dItems.eq_1, @itemsD.eq_1, @itemsD.eq_2, @itemsD.eq_3, @itemsD.eq_4, @itemsD.eq_5, @dRange.eq_1, @dMt.eq_1, @dLc.eq_1, @rowD.eq_1, @tupD.eq_1, @notD.eq_1, @tyIs.eq_1, @tyIs.eq_2, @tyIs.eq_3, @tyIs.eq_4, @tyIs.eq_5, @List.map_cons.{0,0}, @List.map_nil.{0,0}, @List.length_cons.{0}, @List.length_nil.{0}, @List.cons_append.{0}, @List.nil_append.{0}, @List.replicate_succ.{0}, @List.replicate_zero.{0}, @List.getElem?_cons_zero.{0}, @List.getElem?_cons_succ.{0}, @List.set_cons_zero.{0}, @List.set_cons_succ.{0}, @Option.join_some.{0}, @Option.join_none.{0}, @Option.map_some.{0,0}, @Option.map_none.{0,0}, @Option.bind_some.{0,0}, @Option.bind_none.{0,0}, @Nat.zero_add, @if_true.{1}, @if_false.{1}, @ite_true.{1}, @ite_false.{1}, @Bool.false_eq_true, @Bool.true_eq_false⟩
theorem EVi : (type_of% @fnD.eq_1) ∧ (type_of% @startD.eq_1) ∧ (type_of% @endK.eq_1) ∧ (type_of% @endK.eq_2) ∧ (type_of% @endK.eq_3) ∧ (type_of% @endK.eq_4) ∧ (type_of% @sRet.eq_1) ∧ (type_of% @sRetN.eq_1) ∧ (type_of% @sSeq.eq_1) ∧ (type_of% @seqK.eq_1) ∧ (type_of% @seqK.eq_2) ∧ (type_of% @seqK.eq_3) ∧ (type_of% @seqK.eq_4) ∧ (type_of% @seqK.eq_5) ∧ (type_of% @seqK.eq_6) ∧ (type_of% @sIf.eq_1) ∧ (type_of% @sAsg.eq_1) ∧ (type_of% @sDrop.eq_1) ∧ (type_of% @sNil.eq_1) ∧ (type_of% @liftX.eq_1) ∧ (type_of% @tgN.eq_1) ∧ (type_of% @sFor.eq_1) ∧ (type_of% @sOwn1.eq_1) ∧ (type_of% @sOwn2.eq_1) ∧ (type_of% @optK.eq_1) ∧ (type_of% @optK.eq_2) ∧ (type_of% @putK2.eq_1) ∧ (type_of% @putK2.eq_2) ∧ (type_of% @sAsgO.eq_1) ∧ (type_of% @sRetO.eq_1) ∧ (type_of% @isRT.eq_1) ∧ (type_of% @isRT.eq_2) ∧ (type_of% @isRT.eq_3) ∧ (type_of% @ownIs.eq_1) ∧ (type_of% @ownIs.eq_2) ∧ (type_of% @ownIs.eq_3) ∧ (type_of% @dAnd.eq_1) ∧ (type_of% @dOr.eq_1) ∧ (type_of% @dIf.eq_1) ∧ (type_of% @bnd_e) ∧ (type_of% @dOp.eq_1) ∧ (type_of% @dUn.eq_1) ∧ (type_of% @dAll.eq_1) ∧ (type_of% @dCons.eq_1) ∧ (type_of% @dNil.eq_1) ∧ (type_of% @ret_ap) ∧ (type_of% @dVar.eq_1) ∧ (type_of% @getS.eq_1) ∧ (type_of% @lift_e) ∧ (type_of% @lift_n) ∧ (type_of% @dC.eq_1) ∧ (type_of% @dTst.eq_1) ∧ (type_of% @isBl.eq_1) ∧ (type_of% @isBl.eq_2) ∧ (type_of% @dCall.eq_1) ∧ (type_of% @up.eq_1) ∧ (type_of% @tAndD.eq_1) ∧ (type_of% @tOrD.eq_1) ∧ (type_of% @tNotD.eq_1) ∧ (type_of% @dItems.eq_1) ∧ (type_of% @dRange.eq_1) ∧ (type_of% @dMt.eq_1) ∧ (type_of% @dLc.eq_1) ∧ (type_of% @rowD.eq_1) ∧ (type_of% @tupD.eq_1) ∧ (type_of% @truD.eq_1) ∧ (type_of% @truD.eq_2) ∧ (type_of% @truD.eq_3) ∧ (type_of% @truD.eq_4) ∧ (type_of% @truD.eq_5) ∧ (type_of% @truD.eq_6) ∧ (type_of% @truD.eq_7) ∧ (type_of% @truD.eq_8) ∧ (type_of% @truD.eq_9) ∧ (type_of% @notD.eq_1) ∧ (type_of% @tyIs.eq_1) ∧ (type_of% @tyIs.eq_2) ∧ (type_of% @tyIs.eq_3) ∧ (type_of% @tyIs.eq_4) ∧ (type_of% @tyIs.eq_5) ∧ (type_of% @List.map_cons.{0,0}) ∧ (type_of% @List.map_nil.{0,0}) ∧ (type_of% @List.length_cons.{0}) ∧ (type_of% @List.length_nil.{0}) ∧ (type_of% @List.cons_append.{0}) ∧ (type_of% @List.nil_append.{0}) ∧ (type_of% @List.replicate_succ.{0}) ∧ (type_of% @List.replicate_zero.{0}) ∧ (type_of% @List.getElem?_cons_zero.{0}) ∧ (type_of% @List.getElem?_cons_succ.{0}) ∧ (type_of% @List.set_cons_zero.{0}) ∧ (type_of% @List.set_cons_succ.{0}) ∧ (type_of% @Option.join_some.{0}) ∧ (type_of% @Option.join_none.{0}) ∧ (type_of% @Option.map_some.{0,0}) ∧ (type_of% @Option.map_none.{0,0}) ∧ (type_of% @Option.bind_some.{0,0}) ∧ (type_of% @Option.bind_none.{0,0}) ∧ (type_of% @Nat.zero_add) ∧ (type_of% @if_true.{1}) ∧ (type_of% @if_false.{1}) ∧ (type_of% @ite_true.{1}) ∧ (type_of% @ite_false.{1}) ∧ (type_of% @Bool.false_eq_true) ∧ (type_of% @Bool.true_eq_false) :=
  ⟨@fnD.eq_1, @startD.eq_1, @endK.eq_1, @endK.eq_2, @endK.eq_3, @endK.eq_4, @sRet.eq_1, @sRetN.eq_1, @sSeq.eq_1, @seqK.eq_1, @seqK.eq_2, @seqK.eq_3, @seqK.eq_4, @seqK.eq_5, @seqK.eq_6, @sIf.eq_1, @sAsg.eq_1, @sDrop.eq_1, @sNil.eq_1, @liftX.eq_1, @tgN.eq_1, @sFor.eq_1, @sOwn1.eq_1, @sOwn2.eq_1, @optK.eq_1, @optK.eq_2, @putK2.eq_1, @putK2.eq_2, @sAsgO.eq_1, @sRetO.eq_1, @isRT.eq_1, @isRT.eq_2, @isRT.eq_3, @ownIs.eq_1, @ownIs.eq_2, @ownIs.eq_3, @dAnd.eq_1, @dOr.eq_1, @dIf.eq_1, @bnd_e, @dOp.eq_1, @dUn.eq_1, @dAll.eq_1, @dCons.eq_1, @dNil.eq_1, @ret_ap, @dVar.eq_1, @getS.eq_1, @lift_e, @lift_n, @dC.eq_1, @dTst.eq_1, @isBl.eq_1, @isBl.eq_2, @dCall.eq_1, @up.eq_1, @tAndD.eq_1, @tOrD.eq_1, @tNotD.eq_1, @dItems.eq_1, @dRange.eq_1, @dMt.eq_1, @dLc.eq_1, @rowD.eq_1, @tupD.eq_1, @truD.eq_1, @truD.eq_2, @truD.eq_3, @truD.eq_4, @truD.eq_5, @truD.eq_6, @truD.eq_7, @truD.eq_8, @truD.eq_9, @notD.eq_1, @tyIs.eq_1, @tyIs.eq_2, @tyIs.eq_3, @tyIs.eq_4, @tyIs.eq_5, @List.map_cons.{0,0}, @List.map_nil.{0,0}, @List.length_cons.{0}, @List.length_nil.{0}, @List.cons_append.{0}, @List.nil_append.{0}, @List.replicate_succ.{0}, @List.replicate_zero.{0}, @List.getElem?_cons_zero.{0}, @List.getElem?_cons_succ.{0}, @List.set_cons_zero.{0}, @List.set_cons_succ.{0}, @Option.join_some.{0}, @Option.join_none.{0}, @Option.map_some.{0,0}, @Option.map_none.{0,0}, @Option.bind_some.{0,0}, @Option.bind_none.{0,0}, @Nat.zero_add, @if_true.{1}, @if_false.{1}, @ite_true.{1}, @ite_false.{1}, @Bool.false_eq_true, @Bool.true_eq_false⟩
end Nw
set_option Elab.async false
set_option linter.all false
set_option maxRecDepth 100000
set_option maxHeartbeats 4000000
namespace Nw
open PySem PySem.Spec L2
theorem all_bls (bs : List Bool) : allD [.row (bs.map D.bl)] = some (.bl (bs.all id)) := by
  show (blsD (bs.map D.bl)).map _ = _
  rw [blsD_map]; rfl
theorem sum_ints (bs : List Int) : sumD [.row (bs.map D.int)] = some (.int bs.sum) := by
  show (intsD (bs.map D.int)).map _ = _
  rw [intsD_map]; rfl
theorem is_word_eq (k : Nat) (x : Str) : (den (k + 2)).is_word [.str x] () = .ok (.bl (isW x)) () := by
  show fnD 2 (b_is_word (den (k + 1))) [.str x] () = _
  have h0 : lenD [.str x] = some (.int (x.length : Nat)) := rfl
  have h1 : leD (.int (x.length : Nat)) (.int 60) = some (.bl (decide (x.length ≤ 60))) := by
    show some (D.bl (decide ((x.length : Int) ≤ 60))) = _
    congr 2
    exact decide_eq_decide.mpr (by omega)
  have h2 : ∀ r : Sl, lcA (tgN 1) dYes (dCall 1 (fun ds => up ((den (k + 1)).is_sign ds)) (dCons (dVar 1) dNil)) [some (.str x), none] [] (signs x) () = .ok (.row ((signs x).map okS)) () := fun r => by
    rw [lcA_map okS (signs x) [] fun y hy => ?_, List.nil_append]
    obtain ⟨c, hc, rfl⟩ := List.mem_map.mp hy
    simp only [EV, Nat.reduceAdd, Nat.reduceSub, reduceIte, is_sign_eq]
    rfl
  have h3 : (signs x).map okS = (x.cps.toList.map okC).map D.bl := by
    unfold signs
    rw [List.map_map, List.map_map]
    exact List.map_congr_left fun c _ => rfl
  have h4 : allD [.row ((signs x).map okS)] = some (.bl (x.cps.toList.all okC)) := by
    rw [h3, all_bls, List.all_map]; rfl
  unfold isW
  cases e1 : decide (x.length ≤ 60) <;> simp only [b_is_word, h0, h1, e1, EV, Nat.reduceAdd, Nat.reduceSub, reduceIte, h2 [], h4, Bool.true_and, Bool.false_and]
end Nw
set_option Elab.async false
set_option linter.all false
set_option maxRecDepth 100000
set_option maxHeartbeats 4000000
namespace Nw
open PySem PySem.Spec L2
theorem beq_dec {α : Type} [BEq α] [LawfulBEq α] [DecidableEq α] (a b : α) : (a == b) = decide (a = b) := by
  by_cases h : a = b
  · rw [h, decide_eq_true rfl]; simp
  · rw [decide_eq_false h]; simp [h]
theorem eqD_str (a b : Str) : eqD (.str a) (.str b) = some (.bl (decide (a = b))) := by
  have h : eqN 60 (.str a) (.str b) = some (a == b) := rfl
  unfold eqD; rw [h, beq_dec]; rfl
theorem neD_str (a b : Str) : neD (.str a) (.str b) = some (.bl (!decide (a = b))) := by
  have h : eqN 60 (.str a) (.str b) = some (a == b) := rfl
  unfold neD; rw [h, beq_dec]; rfl
theorem eqD_bl (a b : Bool) : eqD (.bl a) (.bl b) = some (.bl (decide (a = b))) := by
  have h : eqN 60 (.bl a) (.bl b) = some (a == b) := rfl
  unfold eqD; rw [h, beq_dec]; rfl
theorem neD_bl (a b : Bool) : neD (.bl a) (.bl b) = some (.bl (!decide (a = b))) := by
  have h : eqN 60 (.bl a) (.bl b) = some (a == b) := rfl
  unfold neD; rw [h, beq_dec]; rfl
theorem eqD_non : eqD .non .non = some (.bl true) := by kernel_rfl
theorem eqLN_strs (n : Nat) : ∀ as bs : List Str, as.length = bs.length → eqLN (eqN (n + 1)) (as.map D.str) (bs.map D.str) = some (decide (as = bs))
  | [], [], _ => by simp [eqLN]
  | a :: as, b :: bs, h => by
    have e : eqN (n + 1) (.str a) (.str b) = some (a == b) := rfl
    have ih := eqLN_strs n as bs (by simpa using h)
    rw [List.map_cons, List.map_cons]
    unfold eqLN
    rw [e, ih, beq_dec]
    by_cases h1 : a = b <;> by_cases h2 : as = bs <;> simp [h1, h2]
  | [], b :: bs, h => by simp at h
  | a :: as, [], h => by simp at h
theorem neD_rows (as bs : List Str) : neD (.row (as.map D.str)) (.row (bs.map D.str)) = some (.bl (!decide (as = bs))) := by
  have h : eqN 60 (.row (as.map D.str)) (.row (bs.map D.str)) = some (decide (as = bs)) := by
    show (if (as.map D.str).length = (bs.map D.str).length then eqLN (eqN 59) (as.map D.str) (bs.map D.str) else some false) = _
    rw [List.length_map, List.length_map]
    by_cases hl : as.length = bs.length
    · rw [if_pos hl, eqLN_strs 58 as bs hl]
    · rw [if_neg hl, decide_eq_false (fun z => hl (by rw [z]))]
  unfold neD; rw [h]; rfl
theorem atI_nat (xs : List D) (i : Nat) (h : i < xs.length) : atI xs (i : Int) = some (xs.getD i .non) := by
  have e : ixN xs.length (i : Int) = some i := by
    unfold ixN
    simp [h]
  unfold atI
  rw [e, List.getD_eq_getElem?_getD]
  show xs[i]? = _
  rw [List.getElem?_eq_getElem h]; rfl
theorem lcA_range {S : Type} {i : Nat} {f : Sl → M S D} {r : Sl} {s : S} (g : Nat → Bool) (n : Nat) (h : ∀ j, j < n → f (r.set i (some (.int (j : Nat)))) s = .ok (.bl (g j)) s) :
    lcA (tgN i) dYes f r [] ((List.range n).map fun (j : Nat) => D.int (j : Int)) s = .ok (.row (((List.range n).map g).map D.bl)) s := by
  rw [lcA_map (fun d => match d with | .int j => .bl (g j.toNat) | _ => .non) _ [] fun y hy => ?_, List.nil_append, List.map_map, List.map_map]
  · rfl
  · obtain ⟨j, hj, rfl⟩ := List.mem_map.mp hy
    exact h j (List.mem_range.mp hj)
theorem rng_len (n : Nat) (h : n ≤ sizeLine) : rngD [.int (n : Nat)] = some ((List.range n).map fun (j : Nat) => D.int (j : Int)) := by
  show (if (0 : Int) ≤ n ∧ (n : Int) ≤ sizeLine then _ else _) = _
  rw [if_pos ⟨by omega, by omega⟩]
  rfl
theorem eqD_len (a b : Nat) : eqD (.int (a : Nat)) (.int (b : Nat)) = some (.bl (decide (a = b))) := by
  rw [eqD_int]
  congr 2
  exact decide_eq_decide.mpr (by omega)
theorem small_size {n : Nat} (h : n ≤ 100) : n ≤ sizeLine := by rw [sizeLine_eq]; omega
/-! ### draws -/
theorem ixN_mod {n : Nat} {i : Int} (h : 0 < n) : ixN n (i % (n : Int)) = some (i % (n : Int)).toNat := by
  have h1 := Int.emod_nonneg i (show (n : Int) ≠ 0 by omega)
  have h2 := Int.emod_lt_of_pos i (show (0 : Int) < n by omega)
  unfold ixN
  rw [if_pos h1, if_pos h2]
theorem cell_eq (ns : List Int) (k : Nat) (j : Int) : ∃ v : Int, (den (k + 1))._law_cell [scriptD ns, .int j] () = .ok (.int v) () := by
  cases ns with
  | nil => exact ⟨0, by kernel_rfl⟩
  | cons a ns =>
    have e1 : lenD [.kro ((a :: ns).map D.int)] = some (.int ((ns.length + 1 : Nat) : Int)) := by
      show some (D.int _) = _
      rw [List.length_map]; rfl
    have e2 : modD (.int j) (.int ((ns.length + 1 : Nat) : Int)) = some (.int (j % ((ns.length + 1 : Nat) : Int))) := by
      show (if 0 < ((ns.length + 1 : Nat) : Int) then _ else _) = _
      rw [if_pos (by omega)]
    have e3 : ∃ v : Int, ixD (.kro ((a :: ns).map D.int)) (.int (j % ((ns.length + 1 : Nat) : Int))) = some (.int v) := by
      have hl : ((a :: ns).map D.int).length = ns.length + 1 := by rw [List.length_map]; rfl
      have hi := ixN_mod (n := ns.length + 1) (i := j) (by omega)
      have h1 := Int.emod_nonneg j (show ((ns.length + 1 : Nat) : Int) ≠ 0 by omega)
      have h2 := Int.emod_lt_of_pos j (show (0 : Int) < ((ns.length + 1 : Nat) : Int) by omega)
      have hb : (j % ((ns.length + 1 : Nat) : Int)).toNat < (a :: ns).length := by rw [List.length_cons]; omega
      refine ⟨(a :: ns)[(j % ((ns.length + 1 : Nat) : Int)).toNat], ?_⟩
      show (ixN _ _).bind _ = _
      rw [hl, hi]
      show ((a :: ns).map D.int)[_]? = _
      rw [List.getElem?_map, List.getElem?_eq_getElem hb]; rfl
    obtain ⟨v, e3⟩ := e3
    refine ⟨v, ?_⟩
    have e4 : truD (.kro ((a :: ns).map D.int)) = some true := rfl
    show fnD 2 (b__law_cell (den k)) [.kro ((a :: ns).map D.int), .int j] () = _
    generalize D.kro ((a :: ns).map D.int) = q at e1 e3 e4 ⊢
    simp only [b__law_cell, e1, e2, e3, e4, EVw, Nat.reduceAdd, Nat.reduceSub, reduceIte]
theorem mul_l {i j : Int} (h : -(2 ^ 64) < i ∧ i < 2 ^ 64) : mulD (.int i) (.int j) = some (.int (i * j)) := by
  show (if _ then _ else _) = _
  rw [if_pos (.inl h)]
theorem mul_r {i j : Int} (h : -(2 ^ 64) < j ∧ j < 2 ^ 64) : mulD (.int i) (.int j) = some (.int (i * j)) := by
  show (if _ then _ else _) = _
  rw [if_pos (.inr h)]
theorem fdiv_pos {i j : Int} (h : 0 < j ∧ j < 1073741824) : fdivD (.int i) (.int j) = some (.int (i / j)) := by
  show (if _ then _ else _) = _
  rw [if_pos h]
theorem pow5 {i : Int} (h : i.natAbs < 2 ^ 64) : powD (.int i) (.int 5) = some (.int (i ^ 5)) := by
  show (if _ then _ else _) = _
  rw [if_pos ⟨by decide, by decide, h⟩]
  rfl
theorem mod_pos {i j : Int} (h : 0 < j) : modD (.int i) (.int j) = some (.int (i % j)) := by
  show (if _ then _ else _) = _
  rw [if_pos h]
theorem mix_eq (ns : List Int) (k : Nat) (j : Nat) : ∃ v : Int, 0 ≤ v ∧ v < 4294967231 ∧ (den (k + 2))._law_mix [scriptD ns, .int (j : Nat)] () = .ok (.int v) () := by
  obtain ⟨c, hc⟩ := cell_eq ns k (j : Nat)
  let n1 : Int := (c + 104729 * ((j : Int) + 1)) % 4294967291
  have hn1 : 0 ≤ n1 ∧ n1 < 4294967291 := ⟨Int.emod_nonneg _ (by decide), Int.emod_lt_of_pos _ (by decide)⟩
  let n2 : Int := n1 ^ 5 % 4294967279
  have hn2 : 0 ≤ n2 ∧ n2 < 4294967279 := ⟨Int.emod_nonneg _ (by decide), Int.emod_lt_of_pos _ (by decide)⟩
  refine ⟨(n2 / 64 * 69621 + n2) % 4294967231, Int.emod_nonneg _ (by decide), Int.emod_lt_of_pos _ (by decide), ?_⟩
  show fnD 3 (b__law_mix (den (k + 1))) [scriptD ns, .int (j : Nat)] () = _
  have h1 : addD (.int (j : Nat)) (.int 1) = some (.int ((j : Int) + 1)) := rfl
  have h2 : mulD (.int 104729) (.int ((j : Int) + 1)) = some (.int (104729 * ((j : Int) + 1))) := mul_l (by decide)
  have h3 : addD (.int c) (.int (104729 * ((j : Int) + 1))) = some (.int (c + 104729 * ((j : Int) + 1))) := rfl
  have h4 : modD (.int (c + 104729 * ((j : Int) + 1))) (.int 4294967291) = some (.int n1) := mod_pos (by decide)
  have h5 : powD (.int n1) (.int 5) = some (.int (n1 ^ 5)) := pow5 (by omega)
  have h6 : modD (.int (n1 ^ 5)) (.int 4294967279) = some (.int n2) := mod_pos (by decide)
  have h7 : fdivD (.int n2) (.int 64) = some (.int (n2 / 64)) := fdiv_pos (by decide)
  have h8 : mulD (.int (n2 / 64)) (.int 69621) = some (.int (n2 / 64 * 69621)) := mul_r (by decide)
  have h9 : addD (.int (n2 / 64 * 69621)) (.int n2) = some (.int (n2 / 64 * 69621 + n2)) := rfl
  have h10 : modD (.int (n2 / 64 * 69621 + n2)) (.int 4294967231) = some (.int ((n2 / 64 * 69621 + n2) % 4294967231)) := mod_pos (by decide)
  simp only [b__law_mix, hc, h1, h2, h3, h4, h5, h6, h7, h8, h9, h10, EV, Nat.reduceAdd, Nat.reduceSub, reduceIte]
theorem draw_eq (ns : List Int) (k s : Nat) (m : Int) (hm : 0 < m) (hs : s < sizeLine) : ∃ v : Int, 0 ≤ v ∧ v < m ∧ (den (k + 3))._law_draw [scriptD ns, .obj 0, .int m] s = .ok (.int v) (s + 1) := by
  obtain ⟨v, h0, h1, hv⟩ := mix_eq ns k (s + 1)
  refine ⟨v / 8 % m, Int.emod_nonneg _ (by omega), Int.emod_lt_of_pos _ hm, ?_⟩
  show fnD 3 (b__law_draw (den (k + 2))) [scriptD ns, .obj 0, .int m] s = _
  have h2 : fdivD (.int v) (.int 8) = some (.int (v / 8)) := fdiv_pos (by decide)
  have h3 : modD (.int (v / 8)) (.int m) = some (.int (v / 8 % m)) := mod_pos hm
  have h4 : isTown [some (scriptD ns), some (.obj 0), some (.int m)] 1 = true := rfl
  have h5 : sTown 1 [some (scriptD ns), some (.obj 0), some (.int m)] s = some (.next [some (scriptD ns), some (.obj 0), some (.int m)], s + 1) := by
    unfold sTown
    rw [if_pos ⟨h4, hs⟩]
  have h6 : dTown 1 [some (scriptD ns), some (.obj 0), some (.int m)] (s + 1) = .ok (.int ((s + 1 : Nat) : Int)) (s + 1) := by
    unfold dTown
    rw [if_pos h4]
  simp only [b__law_draw, h5, h6, hv, h2, h3, EV, Nat.reduceAdd, Nat.reduceSub, reduceIte]
theorem atI_in (xs : List D) (v : Int) (h0 : 0 ≤ v) (h1 : v < xs.length) : ∃ x ∈ xs, atI xs v = some x := by
  have e : v = ((v.toNat : Nat) : Int) := by omega
  have hl : v.toNat < xs.length := by omega
  refine ⟨xs.getD v.toNat .non, ?_, ?_⟩
  · rw [List.getD_eq_getElem?_getD, List.getElem?_eq_getElem hl]; exact List.getElem_mem hl
  · rw [e]; exact atI_nat xs _ hl
theorem pick_eq (ns : List Int) (k s : Nat) (xs : List D) (hx : xs ≠ []) (hs : s < sizeLine) : ∃ x ∈ xs, (den (k + 4))._law_pick [scriptD ns, .obj 0, .row xs] s = .ok x (s + 1) := by
  have hl : 0 < (xs.length : Int) := by
    cases xs with
    | nil => exact absurd rfl hx
    | cons a b => rw [List.length_cons]; omega
  obtain ⟨v, h0, h1, hv⟩ := draw_eq ns k s (xs.length : Int) hl hs
  obtain ⟨x, hm, hi⟩ := atI_in xs v h0 h1
  refine ⟨x, hm, ?_⟩
  show fnD 3 (b__law_pick (den (k + 3))) [scriptD ns, .obj 0, .row xs] s = _
  have h2 : lenD [.row xs] = some (.int (xs.length : Int)) := rfl
  have h3 : ixD (.row xs) (.int v) = some x := hi
  simp only [b__law_pick, h2, hv, h3, EV, Nat.reduceAdd, Nat.reduceSub, reduceIte]
end Nw
set_option Elab.async false
set_option linter.all false
set_option maxRecDepth 100000
set_option maxHeartbeats 4000000
namespace Nw
open PySem PySem.Spec L2
theorem forL_cons {S : Type} (tg : D → Sl → Option Sl) (body : Sl → Mo S) (x : D) (xs : List D) (r : Sl) : forL tg body (x :: xs) r = optK (tg x r) fun r' s => loopK (forL tg body xs) (body r' s) := rfl
theorem lt_e (i j : Int) : ltD (.int i) (.int j) = some (.bl (decide (i < j))) := rfl
theorem gt_e (i j : Int) : gtD (.int i) (.int j) = some (.bl (decide (j < i))) := rfl
/-! ### words that are drawn -/
abbrev SG : Str := " !\"#$&'()*+,-./0123456789:;<=>?@AZ[\\]^_abcdefghijklmnopqrstuvwxyz{|}~"
theorem SG_ok : SG.cps.toList.all okC = true := by decide +kernel
theorem SG_pos : 0 < (SG.length : Int) := by decide +kernel
theorem SG_ix (v : Int) (h0 : 0 ≤ v) (h1 : v < (SG.length : Int)) : ∃ c, okC c = true ∧ ixD (.str SG) (.int v) = some (.str ⟨#[c]⟩) := by
  have hl : v.toNat < SG.cps.toList.length := by
    rw [Array.length_toList]
    have e : SG.length = SG.cps.size := rfl
    rw [e] at h1; omega
  refine ⟨SG.cps.toList[v.toNat], List.all_eq_true.mp SG_ok _ (List.getElem_mem hl), ?_⟩
  show (atI SG.cps.toList v).map _ = _
  have e2 : atI SG.cps.toList v = some SG.cps.toList[v.toNat] := by
    unfold atI ixN
    rw [if_pos h0, if_pos (by omega)]
    show SG.cps.toList[v.toNat]? = _
    rw [List.getElem?_eq_getElem hl]
  rw [e2]; rfl
theorem isW_of {w : Str} (h1 : w.length ≤ 60) (h2 : w.cps.toList.all okC = true) : isW w = true := by
  unfold isW
  rw [decide_eq_true h1, h2]; rfl
theorem word_loop (ns : List Int) (k : Nat) : ∀ (xs : List D) (w : Str) (kk : Option D) (s : Nat), w.cps.toList.all okC = true → w.length + xs.length ≤ 60 → s + xs.length ≤ sizeLine →
    ∃ w' kk', forL (tgN 4) (sAsg (tgN 3) (dOp addD (dVar 3) (dOp ixD (dVar 2) (dCall 3 (den (k + 3))._law_draw (dCons (dVar 0) (dCons (dVar 1) (dCons (dAll lenD (dCons (dVar 2) dNil)) dNil))))))) xs [some (scriptD ns), some (.obj 0), some (.str SG), some (.str w), kk] s = some (.next [some (scriptD ns), some (.obj 0), some (.str SG), some (.str w'), kk'], s + xs.length) ∧ w'.cps.toList.all okC = true ∧ w'.length = w.length + xs.length
  | [], w, kk, s, h1, h2, h3 => ⟨w, kk, rfl, h1, rfl⟩
  | x :: xs, w, kk, s, h1, h2, h3 => by
    rw [List.length_cons] at h2 h3
    obtain ⟨v, v0, v1, hv⟩ := draw_eq ns k s (SG.length : Int) SG_pos (by omega)
    obtain ⟨c, hc, hi⟩ := SG_ix v v0 v1
    have hl : lenD [.str SG] = some (.int (SG.length : Int)) := rfl
    have h1' : (⟨#[c]⟩ : Str).length = 1 := rfl
    have ha : addD (.str w) (.str ⟨#[c]⟩) = some (.str (w ++ ⟨#[c]⟩)) := by
      show (if _ then _ else _) = _
      rw [if_pos (by rw [h1', sizeLine_eq]; omega)]
    have hall : (w ++ ⟨#[c]⟩ : Str).cps.toList.all okC = true := by
      rw [str_app_cps, List.all_append, h1]
      show (true && (okC c && true)) = true
      rw [hc]; rfl
    have hlen : (w ++ ⟨#[c]⟩ : Str).length = w.length + 1 := by rw [str_app_len, h1']
    obtain ⟨w', kk', h4, h5, h6⟩ := word_loop ns k xs (w ++ ⟨#[c]⟩) (some x) (s + 1) hall (by omega) (by omega)
    refine ⟨w', kk', ?_, h5, by rw [h6, hlen, List.length_cons]; omega⟩
    rw [forL_cons, List.length_cons, show s + (xs.length + 1) = s + 1 + xs.length from by omega, ← h4]
    simp only [EV, Nat.reduceAdd, Nat.reduceSub, reduceIte, hl, hv, hi, ha, loopK]
theorem rng_int {v : Int} (h0 : 0 ≤ v) (h1 : v ≤ 100) : rngD [.int v] = some ((List.range v.toNat).map fun (j : Nat) => D.int (j : Int)) := by
  show (if 0 ≤ v ∧ v ≤ sizeLine then _ else _) = _
  rw [if_pos ⟨h0, by rw [sizeLine_eq]; omega⟩]
theorem word_eq (ns : List Int) (k s : Nat) (hs : s + 12 ≤ sizeLine) : ∃ (w : Str) (s' : Nat), (den (k + 5))._law_word [scriptD ns, .obj 0] s = .ok (.str w) s' ∧ isW w = true ∧ w.length ≤ 9 ∧ s' ≤ s + 11 := by
  obtain ⟨v, v0, v1, hv⟩ := draw_eq ns (k + 1) s 2 (by decide) (by omega)
  show ∃ w s', fnD 5 (b__law_word (den (k + 4))) [scriptD ns, .obj 0] s = _ ∧ _
  by_cases h : v = 0
  · subst h
    have h1 : eqD (.int 0) (.int 0) = some (.bl true) := by kernel_rfl
    obtain ⟨x, hx, hp⟩ := pick_eq ns k (s + 1) [.str "", .str "a", .str "b", .str "0", .str "1", .str "-", .str "~1", .str "a/b", .str "\"", .str "\\", .str "01"] (fun z => nomatch z) (by omega)
    have hw : ∃ w, x = .str w ∧ isW w = true ∧ w.length ≤ 9 := by
      simp only [List.mem_cons, List.not_mem_nil, or_false] at hx
      rcases hx with rfl | rfl | rfl | rfl | rfl | rfl | rfl | rfl | rfl | rfl | rfl <;> exact ⟨_, rfl, by decide +kernel, by decide +kernel⟩
    obtain ⟨w, rfl, hw, hw9⟩ := hw
    refine ⟨w, s + 1 + 1, ?_, hw, hw9, by omega⟩
    simp only [b__law_word, hv, h1, hp, EV, Nat.reduceAdd, Nat.reduceSub, reduceIte, show (11 : Nat) ≤ sizeLine from by decide]
  · have h1 : eqD (.int v) (.int 0) = some (.bl false) := by rw [eqD_int, decide_eq_false h]
    obtain ⟨x, hx, hp⟩ := pick_eq ns k (s + 1) [.int 1, .int 2, .int 5, .int 9] (fun z => nomatch z) (by omega)
    have hm : ∃ m : Int, x = .int m ∧ 0 ≤ m ∧ m ≤ 9 := by
      simp only [List.mem_cons, List.not_mem_nil, or_false] at hx
      rcases hx with rfl | rfl | rfl | rfl <;> exact ⟨_, rfl, by decide, by decide⟩
    obtain ⟨m, rfl, m0, m9⟩ := hm
    have hr := rng_int m0 (show m ≤ 100 by omega)
    have hll : ((List.range m.toNat).map fun (j : Nat) => D.int (j : Int)).length = m.toNat := by rw [List.length_map, List.length_range]
    obtain ⟨w', kk', h4, h5, h6⟩ := word_loop ns (k + 1) ((List.range m.toNat).map fun (j : Nat) => D.int (j : Int)) "" none (s + 1 + 1) (by decide +kernel) (by rw [hll]; show 0 + m.toNat ≤ 60; omega) (by rw [hll]; omega)
    have hlen : w'.length ≤ 60 := by
      rw [h6, hll]; show 0 + m.toNat ≤ 60; omega
    rw [hll] at h4
    refine ⟨w', s + 1 + 1 + m.toNat, ?_, isW_of hlen h5, by rw [h6, hll]; show 0 + m.toNat ≤ 9; omega, by omega⟩
    simp only [b__law_word, hv, h1, hp, hr, h4, EV, Nat.reduceAdd, Nat.reduceSub, reduceIte, show (4 : Nat) ≤ sizeLine from by decide]
/-! ### leaves -/
end Nw
set_option Elab.async false
set_option linter.all false
set_option maxRecDepth 100000
set_option maxHeartbeats 4000000
namespace Nw
open PySem PySem.Spec L2
/-! ### statements, one by one -/
section
variable {S : Type} {c : Sl → M S Bool} {fe : Sl → M S D} {f g K : Sl → Mo S} {tg : D → Sl → Option Sl} {it : Sl → M S (List D)} {r r' : Sl} {s s' s2 : S} {d : D} {i : Nat} {xs : List D} {x : Xn}
theorem sIf_t (h : c r s = .ok true s') : sIf c f g r s = f r s' := by
  unfold sIf liftX; rw [h]; rfl
theorem sIf_f (h : c r s = .ok false s') : sIf c f g r s = g r s' := by
  unfold sIf liftX; rw [h]; rfl
theorem sIf_x (h : c r s = .exc x s') : sIf c f g r s = some (.thr x r, s') := by
  unfold sIf liftX; rw [h]
theorem sSeq_n (h : f r s = some (.next r', s')) : sSeq f g r s = g r' s' := by
  unfold sSeq; rw [h]; rfl
theorem sSeq_rt (h : f r s = some (.rt d, s')) : sSeq f g r s = some (.rt d, s') := by
  unfold sSeq; rw [h]; rfl
theorem sSeq_x (h : f r s = some (.thr x r', s')) : sSeq f g r s = some (.thr x r', s') := by
  unfold sSeq; rw [h]; rfl
theorem asg1 (h : fe r s = .ok d s') : sAsg (tgN i) fe r s = some (.next (r.set i (some d)), s') := by
  unfold sAsg liftX; rw [h]; rfl
theorem asg_n (h : fe r s = .ok d s') : sSeq (sAsg (tgN i) fe) K r s = K (r.set i (some d)) s' := sSeq_n (asg1 h)
theorem asg_x (h : fe r s = .exc x s') : sAsg tg fe r s = some (.thr x r, s') := by
  unfold sAsg liftX; rw [h]
theorem drop_n (h : fe r s = .ok d s') : sSeq (sDrop fe) K r s = K r s' := by
  refine sSeq_n ?_
  unfold sDrop liftX; rw [h]
theorem drop_x (h : fe r s = .exc x s') : sSeq (sDrop fe) K r s = some (.thr x r, s') := by
  refine sSeq_x ?_
  unfold sDrop liftX; rw [h]
theorem asgO_n (h : fe r s = .ok d s') (hr : isRT d = true) : sSeq (sAsgO i fe) K r s = K (r.set i (some d)) s' := by
  refine sSeq_n ?_
  unfold sAsgO liftX
  rw [h]
  show (if isRT d = true then _ else _) = _
  rw [if_pos hr]
theorem for1 (h : it r s = .ok xs s') (hl : forL tg f xs r s' = some (.next r', s2)) : sFor it tg f r s = some (.next r', s2) := by
  unfold sFor liftX
  rw [h]; exact hl
theorem for_any {o : Option (Flw × S)} (h : it r s = .ok xs s') (hl : forL tg f xs r s' = o) : sFor it tg f r s = o := by
  unfold sFor liftX
  rw [h]; exact hl
theorem for_n (h : it r s = .ok xs s') (hl : forL tg f xs r s' = some (.next r', s2)) : sSeq (sFor it tg f) K r s = K r' s2 := sSeq_n (for1 h hl)
theorem for_x (h : it r s = .ok xs s') (hl : forL tg f xs r s' = some (.thr x r', s2)) : sSeq (sFor it tg f) K r s = some (.thr x r', s2) := sSeq_x (for_any h hl)
theorem for_rt (h : it r s = .ok xs s') (hl : forL tg f xs r s' = some (.rt d, s2)) : sSeq (sFor it tg f) K r s = some (.rt d, s2) := sSeq_rt (for_any h hl)
theorem ret1 (h : fe r s = .ok d s') : sRet fe r s = some (.rt d, s') := by
  unfold sRet liftX; rw [h]
theorem ret_x (h : fe r s = .exc x s') : sRet fe r s = some (.thr x r, s') := by
  unfold sRet liftX; rw [h]
theorem nox1 {α : Type} {m : M S α} {a : α} (h : m s = .ok a s') : nox m s = .ok a s' := by
  unfold nox; rw [h]
theorem items1 (h : fe r s = .ok d s') (hi : itemsD d = some xs) : dItems fe r s = .ok xs s' := by
  show bnd (fe r) (fun x => lift (itemsD x)) s = _
  rw [bnd_ok h, hi]; rfl
theorem lc1 {t : Sl → M S Bool} (h : it r s = .ok xs s') : dLc it tg t fe r s = lcA tg t fe r [] xs s' := by
  unfold dLc; rw [bnd_ok h]
theorem call1 {n : Nat} {gf : List D → M S D} {fs : Sl → M S (List D)} (h : fs r s = .ok xs s') (hn : xs.length = n) : dCall n gf fs r s = gf xs s' := by
  unfold dCall
  rw [bnd_ok h, if_pos hn]
theorem var1 (h : r[i]? = some (some d)) : dVar i r s = .ok d s := by
  unfold dVar getS; rw [h]; rfl
end
theorem z0 : (0 : Nat) ≤ sizeLine := Nat.zero_le _
theorem z1 : (1 : Nat) ≤ sizeLine := by decide
theorem z2 : (2 : Nat) ≤ sizeLine := by decide
theorem z3 : (3 : Nat) ≤ sizeLine := by decide
theorem z4 : (4 : Nat) ≤ sizeLine := by decide
theorem fnD_e {S : Type} (n : Nat) (B : Sl → Mo S) (args : List D) (s : S) : fnD n B args s = endK (B (startD n args) s) := rfl
theorem forL_t {S : Type} (i : Nat) (B : Sl → Mo S) (x : D) (xs : List D) (r : Sl) (s : S) : forL (tgN i) B (x :: xs) r s = loopK (forL (tgN i) B xs) (B (r.set i (some x)) s) := rfl
theorem loopK_n {S : Type} (k : Sl → Mo S) (r : Sl) (s : S) : loopK k (some (.next r, s)) = k r s := rfl
theorem app_row {es : List D} (h : es.length < 1000) (x : D) : appD (.row es) x = some (.row (es ++ [x])) := by
  show (if es.length < sizeLine then _ else _) = _
  rw [if_pos (by rw [sizeLine_eq]; omega)]
end Nw
set_option Elab.async false
set_option linter.all false
set_option maxRecDepth 100000
set_option maxHeartbeats 4000000
namespace Nw
open PySem PySem.Spec L2
/-! ### tests -/
theorem t_and {S : Type} {c e : Sl → M S Bool} {a b : Bool} {r : Sl} {st : S} (h1 : c r st = .ok a st) (h2 : a = true → e r st = .ok b st) : tAndD c e r st = .ok (a && b) st := by
  unfold tAndD
  rw [bnd_ok h1]
  cases a with
  | true => rw [if_pos rfl, h2 rfl]; rfl
  | false => rw [if_neg Bool.false_ne_true]; rfl
theorem t_or {S : Type} {c e : Sl → M S Bool} {a b : Bool} {r : Sl} {st : S} (h1 : c r st = .ok a st) (h2 : a = false → e r st = .ok b st) : tOrD c e r st = .ok (a || b) st := by
  unfold tOrD
  rw [bnd_ok h1]
  cases a with
  | true => rw [if_pos rfl]; rfl
  | false => rw [if_neg Bool.false_ne_true, h2 rfl]; rfl
theorem t_not {S : Type} {c : Sl → M S Bool} {a : Bool} {r : Sl} {st : S} (h1 : c r st = .ok a st) : tNotD c r st = .ok (!a) st := by
  unfold tNotD
  rw [bnd_ok h1]; rfl
theorem t_isi {S : Type} {T : String} {b : Bool} {i : Nat} {y : D} {r : Sl} {st : S} (h : r[i]? = some (some y)) (e : isiD T y = some (.bl b)) : (dTst (dUn (isiD T) (dVar i)) truD : Sl → M S Bool) r st = .ok b st := by
  have v : (dVar i : Sl → M S D) r st = .ok y st := var1 h
  simp only [dTst, dUn, bnd_e, v, lift_e, e, truD]
theorem if_b {S : Type} {c : Sl → M S Bool} {f g : Sl → Mo S} {b : Bool} {r : Sl} {st st' : S} (h : c r st = .ok b st') : sIf c f g r st = if b = true then f r st' else g r st' := by
  cases b with
  | true => rw [sIf_t h, if_pos rfl]
  | false => rw [sIf_f h, if_neg Bool.false_ne_true]
theorem seq_no {S : Type} {c : Sl → M S Bool} {f K : Sl → Mo S} {r : Sl} {st : S} (h : c r st = .ok false st) : sSeq (sIf c f sNil) K r st = K r st := sSeq_n ((sIf_f h).trans rfl)
theorem seq_yes {S : Type} {c : Sl → M S Bool} {f K : Sl → Mo S} {r : Sl} {st : S} {d : D} (h : c r st = .ok true st) (hf : f r st = some (.rt d, st)) : sSeq (sIf c f sNil) K r st = some (.rt d, st) := sSeq_rt ((sIf_t h).trans hf)
theorem seq_yes2 {S : Type} {c : Sl → M S Bool} {f K : Sl → Mo S} {r : Sl} {st st1 st2 : S} {d : D} (h : c r st = .ok true st1) (hf : f r st1 = some (.rt d, st2)) : sSeq (sIf c f sNil) K r st = some (.rt d, st2) := sSeq_rt ((sIf_t h).trans hf)
theorem seq_no2 {S : Type} {c : Sl → M S Bool} {f K : Sl → Mo S} {r : Sl} {st st1 : S} (h : c r st = .ok false st1) : sSeq (sIf c f sNil) K r st = K r st1 := sSeq_n ((sIf_f h).trans rfl)
end Nw
set_option Elab.async false
set_option linter.all false
set_option maxRecDepth 100000
set_option maxHeartbeats 4000000
namespace Nw
open PySem PySem.Spec L2
/-! ### texts of ways, plainly (k21) -/
/-- a step's text read sign by sign: 126 is the wave, 47 the stroke, 48 and 49 the figures 0 and 1 -/
def unE : List Nat → Option (List Nat)
  | [] => some []
  | [c] => if c = 126 then none else some [c]
  | c :: d :: xs => if c = 126 then (if d = 48 then (unE xs).map (126 :: ·) else if d = 49 then (unE xs).map (47 :: ·) else none) else (unE (d :: xs)).map (c :: ·)
def spl (c : Nat) : List Nat → List (List Nat)
  | [] => [[]]
  | x :: xs => if x = c then [] :: spl c xs else match spl c xs with
    | w :: ws => (x :: w) :: ws
    | [] => [[x]]
def dec1 : List Nat → Option (List Nat)
  | [] => none
  | x :: r => if x = 48 then some (126 :: r) else if x = 49 then some (47 :: r) else none
def decL : List (List Nat) → Option (List Nat)
  | [] => some []
  | w :: ws => (dec1 w).bind fun u => (decL ws).map (u ++ ·)
def lawD : List (List Nat) → Option (List Nat)
  | [] => none
  | w :: ws => (decL ws).map (w ++ ·)
theorem spl_ne (c : Nat) (xs : List Nat) : ∃ w ws, spl c xs = w :: ws := by
  cases xs with
  | nil => exact ⟨_, _, rfl⟩
  | cons x xs =>
    unfold spl
    by_cases h : x = c
    · rw [if_pos h]; exact ⟨_, _, rfl⟩
    · rw [if_neg h]
      cases spl c xs <;> exact ⟨_, _, rfl⟩
theorem spl_at (c : Nat) (xs : List Nat) : spl c (c :: xs) = [] :: spl c xs := if_pos rfl
theorem spl_off {c x : Nat} (h : x ≠ c) {xs : List Nat} {w : List Nat} {ws : List (List Nat)} (e : spl c xs = w :: ws) : spl c (x :: xs) = (x :: w) :: ws := by
  show (if x = c then _ else _) = _
  rw [if_neg h, e]
/-- both ways of reading a step's text -/
theorem unE_spl : ∀ (n : Nat) (xs : List Nat), xs.length ≤ n → unE xs = lawD (spl 126 xs)
  | _, [], _ => rfl
  | _, [c], _ => by
    by_cases h : c = 126
    · subst h; rfl
    · show (if c = 126 then none else some [c]) = lawD (if c = 126 then _ else _)
      rw [if_neg h, if_neg h]; rfl
  | 0, _ :: _ :: _, h => absurd h (by simp)
  | n + 1, c :: d :: xs, h => by
    rw [List.length_cons, List.length_cons] at h
    by_cases hc : c = 126
    · subst hc
      rw [spl_at]
      show (if (126 : Nat) = 126 then _ else _) = (decL (spl 126 (d :: xs))).map (([] : List Nat) ++ ·)
      rw [if_pos rfl]
      obtain ⟨w, ws, e⟩ := spl_ne 126 xs
      have ih := unE_spl n xs (by omega)
      rw [e] at ih
      by_cases hd : d = 126
      · subst hd
        rw [spl_at]
        rfl
      · rw [spl_off hd e]
        show _ = ((dec1 (d :: w)).bind fun u => (decL ws).map (u ++ ·)).map _
        show _ = ((if d = 48 then some (126 :: w) else if d = 49 then some (47 :: w) else none).bind fun u => (decL ws).map (u ++ ·)).map _
        by_cases h0 : d = 48
        · rw [if_pos h0, if_pos h0, ih]
          show ((decL ws).map (w ++ ·)).map _ = ((decL ws).map ((126 :: w) ++ ·)).map _
          cases decL ws <;> rfl
        · rw [if_neg h0, if_neg h0]
          by_cases h1 : d = 49
          · rw [if_pos h1, if_pos h1, ih]
            show ((decL ws).map (w ++ ·)).map _ = ((decL ws).map ((47 :: w) ++ ·)).map _
            cases decL ws <;> rfl
          · rw [if_neg h1, if_neg h1]; rfl
    · obtain ⟨w, ws, e⟩ := spl_ne 126 (d :: xs)
      have ih := unE_spl n (d :: xs) (by rw [List.length_cons]; omega)
      rw [e] at ih
      rw [spl_off hc e]
      show (if c = 126 then _ else (unE (d :: xs)).map (c :: ·)) = _
      rw [if_neg hc, ih]
      show ((decL ws).map (w ++ ·)).map _ = (decL ws).map ((c :: w) ++ ·)
      cases decL ws <;> rfl
def esc1 (c : Nat) : List Nat := if c = 126 then [126, 48] else if c = 47 then [126, 49] else [c]
def esc (xs : List Nat) : List Nat := (xs.map esc1).flatten
theorem esc_cons (c : Nat) (xs : List Nat) : esc (c :: xs) = esc1 c ++ esc xs := rfl
theorem unE_esc : ∀ xs : List Nat, unE (esc xs) = some xs
  | [] => rfl
  | c :: xs => by
    rw [esc_cons]
    have ih := unE_esc xs
    unfold esc1
    by_cases h : c = 126
    · rw [if_pos h, h]
      show (if (126 : Nat) = 126 then (if (48 : Nat) = 48 then (unE (esc xs)).map (126 :: ·) else if (48 : Nat) = 49 then (unE (esc xs)).map (47 :: ·) else none) else _) = _
      rw [if_pos rfl, if_pos rfl, ih]; rfl
    · rw [if_neg h]
      by_cases h2 : c = 47
      · rw [if_pos h2, h2]
        show (if (126 : Nat) = 126 then (if (49 : Nat) = 48 then (unE (esc xs)).map (126 :: ·) else if (49 : Nat) = 49 then (unE (esc xs)).map (47 :: ·) else none) else _) = _
        rw [if_pos rfl, if_neg (by decide), if_pos rfl, ih]; rfl
      · rw [if_neg h2]
        show unE (c :: esc xs) = _
        cases he : esc xs with
        | nil =>
          rw [he] at ih
          cases ih
          show (if c = 126 then none else some [c]) = _
          rw [if_neg h]
        | cons d ys =>
          show (if c = 126 then _ else (unE (d :: ys)).map (c :: ·)) = _
          rw [if_neg h, ← he, ih]; rfl
theorem esc_no : ∀ xs : List Nat, (47 : Nat) ∉ esc xs
  | [] => by intro h; cases h
  | c :: xs => by
    rw [esc_cons]
    intro h
    rcases List.mem_append.mp h with h | h
    · unfold esc1 at h
      split at h
      · simp at h
      · split at h
        · simp at h
        · rename_i h1 h2
          exact h2 (List.mem_singleton.mp h).symm
    · exact esc_no xs h
theorem spl_join {c : Nat} : ∀ (u v : List Nat), c ∉ u → spl c (u ++ c :: v) = u :: spl c v
  | [], v, _ => spl_at c v
  | x :: u, v, h => by
    have hx : x ≠ c := fun e => h (by rw [e]; exact List.mem_cons_self)
    exact spl_off hx (spl_join u v fun z => h (List.mem_cons_of_mem _ z))
theorem spl_none {c : Nat} : ∀ (u : List Nat), c ∉ u → spl c u = [u]
  | [], _ => rfl
  | x :: u, h => by
    have hx : x ≠ c := fun e => h (by rw [e]; exact List.mem_cons_self)
    exact spl_off hx (spl_none u fun z => h (List.mem_cons_of_mem _ z))
end Nw
set_option Elab.async false
set_option linter.all false
set_option maxRecDepth 100000
set_option maxHeartbeats 4000000
namespace Nw
open PySem PySem.Spec L2
/-! ### texts as lists of signs -/
abbrev cl (x : Str) : List Nat := x.cps.toList
abbrev sg (c : Nat) : Str := ⟨#[c]⟩
theorem cl_ext {x y : Str} (h : cl x = cl y) : x = y := Str.ext' (Array.toList_inj.mp h)
theorem cl_len (x : Str) : (cl x).length = x.length := Array.length_toList
theorem cl_app (x y : Str) : cl (x ++ y) = cl x ++ cl y := by
  show (x ++ y).cps.toList = _
  simp only [Str.cps_append, Array.toList_append]
theorem cl_mk (l : List Nat) : cl ⟨l.toArray⟩ = l := rfl
theorem cl_sub (x : Str) (i j : Nat) : cl (Builtin.Str.strSub x i j) = ((cl x).drop i).take (j - i) := by
  show (Builtin.Str.strSub x i j).cps.toList = _
  rw [StrLaws.strSub_toList]
def ixs (c : Nat) : List Nat → Nat → List Nat
  | [], _ => []
  | x :: xs, i => if x = c then i :: ixs c xs (i + 1) else ixs c xs (i + 1)
theorem sub_one (x : Str) (c i : Nat) : Builtin.Str.subAt x (sg c) i = decide ((cl x)[i]? = some c) := by
  rw [StrLaws.subAt_eq]
  show (((cl x).drop i).take 1 == [c]) = _
  cases h : (cl x)[i]? with
  | none =>
    rw [List.drop_eq_nil_of_le (List.getElem?_eq_none_iff.mp h)]
    rfl
  | some d =>
    obtain ⟨hl, hd⟩ := List.getElem?_eq_some_iff.mp h
    rw [List.drop_eq_getElem_cons hl, hd]
    show ([d] == [c]) = _
    by_cases e : d = c
    · rw [e]; simp
    · have e2 : ¬ (some d = some c) := fun z => e (Option.some.inj z)
      rw [decide_eq_false e2]
      simpa using e
theorem occ_loop (x : Str) (c lim : Nat) : ∀ (m i : Nat) (acc : Array Nat) (fr : Nat), i + m = x.length + 1 → fr ≤ i → acc.size + m ≤ lim →
    (forIn (List.range' i m) (acc, fr) (StrLaws.occBody x (sg c) x.length lim)).run.fst.toList = acc.toList ++ ixs c ((cl x).drop i) i
  | 0, i, acc, fr, h1, h2, h3 => by
    rw [List.drop_eq_nil_of_le (by rw [cl_len]; omega)]
    show acc.toList = acc.toList ++ []
    rw [List.append_nil]
  | m + 1, i, acc, fr, h1, h2, h3 => by
    rw [List.range'_succ, List.forIn_cons]
    unfold StrLaws.occBody
    by_cases hi : i < x.length
    · have hl : i < (cl x).length := by rw [cl_len]; exact hi
      rw [List.drop_eq_getElem_cons hl]
      by_cases hc : (cl x)[i] = c
      · have hs : Builtin.Str.subAt x (sg c) i = true := by rw [sub_one]; exact decide_eq_true (List.getElem?_eq_some_iff.mpr ⟨hl, hc⟩)
        rw [if_pos ⟨⟨⟨by show acc.size < lim; omega, h2⟩, by show i + 1 ≤ x.length; omega⟩, hs⟩]
        have ih := occ_loop x c lim m (i + 1) (acc.push i) (i + (sg c).length) (by omega) (by show i + 1 ≤ i + 1; omega) (by rw [Array.size_push]; omega)
        refine Eq.trans ih ?_
        rw [Array.toList_push]
        show _ = acc.toList ++ (if (cl x)[i] = c then i :: ixs c ((cl x).drop (i + 1)) (i + 1) else _)
        rw [if_pos hc, List.append_assoc]
        rfl
      · have hs : ¬ (Builtin.Str.subAt x (sg c) i = true) := by
          rw [sub_one]
          intro z
          obtain ⟨_, z2⟩ := List.getElem?_eq_some_iff.mp (of_decide_eq_true z)
          exact hc z2
        rw [if_neg (fun z => hs z.2)]
        refine Eq.trans (occ_loop x c lim m (i + 1) acc fr (by omega) (by omega) (by omega)) ?_
        show _ = acc.toList ++ (if (cl x)[i] = c then _ else ixs c ((cl x).drop (i + 1)) (i + 1))
        rw [if_neg hc]
    · rw [if_neg (fun z => hi (by have := z.1.2; have h4 : i + 1 ≤ x.length := this; omega))]
      refine Eq.trans (occ_loop x c lim m (i + 1) acc fr (by omega) (by omega) (by omega)) ?_
      rw [List.drop_eq_nil_of_le (by rw [cl_len]; omega), List.drop_eq_nil_of_le (by rw [cl_len]; omega)]
      rfl
theorem occ_list (x : Str) (c : Nat) : Builtin.Str.occurrences x (sg c) 0 x.length (x.length + 1) = ixs c (cl x) 0 := by
  rw [StrLaws.occ_eq, occ_loop x c (x.length + 1) (x.length + 1 - 0) 0 #[] 0 (by omega) (Nat.le_refl _) (by show 0 + (x.length + 1 - 0) ≤ _; omega)]
  rfl
theorem parts_list (x : Str) (c : Nat) : ∀ (l : List Nat) (a j : Nat), (cl x).drop j = l → a ≤ j → j ≤ x.length →
    (StrLaws.partsFrom x 1 a (ixs c l j)).map cl = match spl c l with
      | w :: ws => (((cl x).drop a).take (j - a) ++ w) :: ws
      | [] => []
  | [], a, j, hd, h1, h2 => by
    have hj : j = x.length := by
      have := List.drop_eq_nil_iff.mp hd
      rw [cl_len] at this
      omega
    show [cl (Builtin.Str.strSub x a x.length)] = [((cl x).drop a).take (j - a) ++ []]
    rw [cl_sub, hj, List.append_nil]
  | y :: l, a, j, hd, h1, h2 => by
    have hl : j < (cl x).length := by
      rcases Nat.lt_or_ge j (cl x).length with h | h
      · exact h
      · rw [List.drop_eq_nil_of_le h] at hd; cases hd
    rw [List.drop_eq_getElem_cons hl] at hd
    obtain ⟨e1, e2⟩ := List.cons.inj hd
    rw [cl_len] at hl
    by_cases hy : y = c
    · have ei : ixs c (y :: l) j = j :: ixs c l (j + 1) := if_pos hy
      have es : spl c (y :: l) = [] :: spl c l := if_pos hy
      rw [ei, es]
      show cl (Builtin.Str.strSub x a j) :: (StrLaws.partsFrom x 1 (j + 1) (ixs c l (j + 1))).map cl = (((cl x).drop a).take (j - a) ++ []) :: spl c l
      rw [parts_list x c l (j + 1) (j + 1) e2 (Nat.le_refl _) (by omega), cl_sub, List.append_nil]
      obtain ⟨w, ws, ew⟩ := spl_ne c l
      rw [ew]
      show _ :: (((cl x).drop (j + 1)).take (j + 1 - (j + 1)) ++ w) :: ws = _
      rw [Nat.sub_self]
      rfl
    · have ei : ixs c (y :: l) j = ixs c l (j + 1) := if_neg hy
      obtain ⟨w, ws, ew⟩ := spl_ne c l
      rw [ei, parts_list x c l a (j + 1) e2 (by omega) (by omega), spl_off hy ew, ew]
      show (((cl x).drop a).take (j + 1 - a) ++ w) :: ws = (((cl x).drop a).take (j - a) ++ (y :: w)) :: ws
      have eq : j + 1 - a = (j - a) + 1 := by omega
      have hg : ((cl x).drop a)[j - a]? = some y := by
        rw [List.getElem?_drop, show a + (j - a) = j by omega, List.getElem?_eq_getElem (by rw [cl_len]; exact hl), e1]
      rw [eq, List.take_succ, hg, List.append_assoc]
      rfl
theorem between_list (x : Str) (c : Nat) : (Builtin.Str.partsBetween x (Builtin.Str.occurrences x (sg c) 0 x.length (x.length + 1)) (sg c).length).map cl = spl c (cl x) := by
  rw [StrLaws.partsBetween_eq, occ_list]
  refine (parts_list x c (cl x) 0 0 rfl (Nat.le_refl _) (Nat.zero_le _)).trans ?_
  obtain ⟨w, ws, ew⟩ := spl_ne c (cl x)
  rw [ew]
  rfl
theorem map_inj {α β : Type} {f : α → β} (hf : ∀ a b, f a = f b → a = b) : ∀ {xs ys : List α}, xs.map f = ys.map f → xs = ys
  | [], [], _ => rfl
  | [], y :: ys, h => by cases h
  | x :: xs, [], h => by cases h
  | x :: xs, y :: ys, h => by
    obtain ⟨h1, h2⟩ := List.cons.inj h
    rw [hf _ _ h1, map_inj hf h2]
theorem split_list (x : Str) (c : Nat) : (Txt.split x (sg c)).map cl = spl c (cl x) := by
  have h := PySem.W.m_split x (sg c) rfl
  have h : some (PySem.W.WData.list ((Builtin.Str.partsBetween x (Builtin.Str.occurrences x (sg c) 0 x.length (x.length + 1)) (sg c).length).map .str)) = some (.list ((Txt.split x (sg c)).map .str)) := h
  have h := PySem.W.WData.list.inj (Option.some.inj h)
  have h2 : Builtin.Str.partsBetween x (Builtin.Str.occurrences x (sg c) 0 x.length (x.length + 1)) (sg c).length = Txt.split x (sg c) := map_inj (fun a b z => PySem.W.WData.str.inj z) h
  rw [← h2]
  exact between_list x c
def joinL (z : List Nat) : List (List Nat) → List Nat
  | [] => []
  | [w] => w
  | w :: v :: r => w ++ z ++ joinL z (v :: r)
theorem glued_list (z : Str) (xs : List Str) : cl (Builtin.Str.glued z xs) = joinL (cl z) (xs.map cl) := by
  rw [StrLaws.glued_eq_join]
  induction xs with
  | nil => rfl
  | cons x r ih =>
    cases r with
    | nil => rfl
    | cons y r =>
      show cl (x ++ z ++ Str.join z (y :: r)) = cl x ++ cl z ++ joinL (cl z) ((y :: r).map cl)
      rw [cl_app, cl_app, ih]
theorem join_list (z : Str) (xs : List Str) : cl (Txt.join z xs) = joinL (cl z) (xs.map cl) := glued_list z xs
theorem join_none : ∀ xs : List (List Nat), joinL [] xs = xs.flatten
  | [] => rfl
  | [w] => by show w = w ++ []; rw [List.append_nil]
  | w :: v :: r => by
    show w ++ [] ++ joinL [] (v :: r) = w ++ (v :: r).flatten
    rw [List.append_nil, join_none (v :: r)]
theorem join_spl (c : Nat) (z : List Nat) : ∀ l : List Nat, joinL z (spl c l) = (l.map fun a => if a = c then z else [a]).flatten
  | [] => rfl
  | x :: l => by
    obtain ⟨w, ws, ew⟩ := spl_ne c l
    have ih := join_spl c z l
    by_cases h : x = c
    · have es : spl c (x :: l) = [] :: spl c l := if_pos h
      rw [es, List.map_cons, List.flatten_cons, if_pos h, ← ih, ew]
      rfl
    · rw [spl_off h ew, List.map_cons, List.flatten_cons, if_neg h, ← ih, ew]
      cases ws <;> rfl
theorem repl_list (x : Str) (c : Nat) (z : Str) : cl (Txt.replace x (sg c) z) = ((cl x).map fun a => if a = c then cl z else [a]).flatten := by
  have h := PySem.W.m_replace x (sg c) z
  have h : some (PySem.W.WData.str (Builtin.Str.glued z (Builtin.Str.partsBetween x (Builtin.Str.occurrences x (sg c) 0 x.length (x.length + 1)) (sg c).length))) = some (.str (Txt.replace x (sg c) z)) := h
  have h := PySem.W.WData.str.inj (Option.some.inj h)
  rw [← h, glued_list, between_list, join_spl]
theorem esc_repl (x : Str) : cl (Txt.replace (Txt.replace x "~" "~0") "/" "~1") = esc (cl x) := by
  refine (repl_list (Txt.replace x (sg 126) "~0") 47 "~1").trans ?_
  rw [repl_list x 126 "~0"]
  generalize cl x = l
  show List.flatten (List.map (fun a => if a = 47 then [126, 49] else [a]) (List.flatten (List.map (fun a => if a = 126 then [126, 48] else [a]) l))) = esc l
  induction l with
  | nil => rfl
  | cons c l ih =>
    rw [List.map_cons, List.flatten_cons, List.map_append, List.flatten_append, ih, esc_cons]
    congr 1
    unfold esc1
    by_cases h : c = 126
    · rw [if_pos h, if_pos h]; rfl
    · rw [if_neg h, if_neg h]
      show List.flatten [if c = 47 then [126, 49] else [c]] = _
      split <;> rfl
theorem esc_len (xs : List Nat) : (esc xs).length ≤ 2 * xs.length := by
  induction xs with
  | nil => exact Nat.zero_le _
  | cons c xs ih =>
    rw [esc_cons, List.length_append, List.length_cons]
    have : (esc1 c).length ≤ 2 := by
      unfold esc1
      split
      · exact Nat.le_refl _
      · split
        · exact Nat.le_refl _
        · exact Nat.le_succ _
    omega
theorem spl_len (c : Nat) : ∀ l : List Nat, (spl c l).length ≤ l.length + 1
  | [] => Nat.le_refl _
  | x :: l => by
    obtain ⟨w, ws, ew⟩ := spl_ne c l
    have ih := spl_len c l
    by_cases h : x = c
    · have es : spl c (x :: l) = [] :: spl c l := if_pos h
      rw [es, List.length_cons, List.length_cons]; omega
    · rw [ew] at ih
      rw [spl_off h ew, List.length_cons, List.length_cons] at *
      omega
theorem spl_mem (c : Nat) : ∀ (l : List Nat), ∀ w ∈ spl c l, w.length ≤ l.length
  | [], w, h => by
    rw [List.mem_singleton.mp (show w ∈ [([] : List Nat)] from h)]
    exact Nat.le_refl _
  | x :: l, w, h => by
    obtain ⟨u, us, eu⟩ := spl_ne c l
    have ih := spl_mem c l
    rw [eu] at ih
    by_cases hx : x = c
    · have es : spl c (x :: l) = [] :: spl c l := if_pos hx
      rw [es, eu] at h
      rcases List.mem_cons.mp h with rfl | h
      · exact Nat.zero_le _
      · exact Nat.le_succ_of_le (ih w h)
    · rw [spl_off hx eu] at h
      rcases List.mem_cons.mp h with rfl | h
      · have := ih u List.mem_cons_self
        rw [List.length_cons, List.length_cons]; omega
      · exact Nat.le_succ_of_le (ih w (List.mem_cons_of_mem _ h))
theorem split_small {x : Str} {c : Nat} (h : x.length ≤ 100000) : splitDD (.str x) [.str (sg c)] = some (.row ((Txt.split x (sg c)).map D.str)) := by
  have hs := split_list x c
  have hl : (Txt.split x (sg c)).length ≤ x.length + 1 := by
    have := spl_len c (cl x)
    rw [← hs, List.length_map, cl_len] at this
    exact this
  have hm : ∀ y ∈ Txt.split x (sg c), y.length ≤ x.length := fun y hy => by
    have := spl_mem c (cl x) (cl y) (by rw [← hs]; exact List.mem_map.mpr ⟨y, hy, rfl⟩)
    rw [cl_len, cl_len] at this
    exact this
  refine if_pos ⟨rfl, by rw [sizeLine_eq]; omega, by rw [sizeLine_eq]; omega, fun y hy => ?_⟩
  have := hm y hy
  rw [sizeLine_eq]; omega
end Nw
set_option Elab.async false
set_option linter.all false
set_option maxRecDepth 100000
set_option maxHeartbeats 4000000
namespace Nw
open PySem PySem.Spec L2
/-! ### texts by their signs, in the program -/
abbrev tS (l : List Nat) : D := .str ⟨l.toArray⟩
abbrev tupS (ws : List (List Nat)) : D := .tup (ws.map tS)
def okL21 (l : List Nat) : Bool := decide (l.length ≤ 60) && l.all okC
theorem isW_l (l : List Nat) : isW ⟨l.toArray⟩ = okL21 l := rfl
theorem ts_of (x : Str) : D.str x = tS (cl x) := rfl
theorem ts_inj {a b : List Nat} (h : tS a = tS b) : a = b := by
  have h := D.str.inj h
  exact congrArg cl h
theorem ts_len (l : List Nat) : lenD [tS l] = some (.int (l.length : Int)) := rfl
theorem ts_ix (l : List Nat) (i : Nat) (h : i < l.length) : ixD (tS l) (.int (i : Int)) = some (tS [l[i]]) := by
  show (atI l (i : Int)).map _ = _
  have e : atI l (i : Int) = some l[i] := by
    unfold atI ixN
    simp [h]
  rw [e]
  rfl
theorem ts_sl (l : List Nat) (i j : Nat) : slD (tS l) (some (i : Int)) (some (j : Int)) = some (tS ((l.drop (min i l.length)).take (min j l.length - min i l.length))) := by
  show some (D.str (cutS ⟨l.toArray⟩ (some (i : Int)) (some (j : Int)))) = _
  unfold cutS
  rw [HT.sIx_nat, HT.sIx_nat]
  rfl
theorem ts_drop (l : List Nat) (i : Nat) (h : i ≤ l.length) : slD (tS l) (some (i : Int)) none = some (tS (l.drop i)) := by
  show some (D.str (cutS ⟨l.toArray⟩ (some (i : Int)) none)) = _
  unfold cutS
  rw [HT.sIx_nat, HT.sIx_none]
  show some (tS ((l.drop (min i l.length)).take (l.length - min i l.length))) = _
  rw [Nat.min_eq_left h, List.take_of_length_le (by rw [List.length_drop]; exact Nat.le_refl _)]
theorem ts_take (l : List Nat) (i : Nat) (h : i ≤ l.length) : slD (tS l) none (some (i : Int)) = some (tS (l.take i)) := by
  show some (D.str (cutS ⟨l.toArray⟩ none (some (i : Int)))) = _
  unfold cutS
  rw [HT.sIx_nat, HT.sIx_none]
  show some (tS ((l.drop 0).take (min i l.length - 0))) = _
  rw [Nat.min_eq_left h, List.drop_zero, Nat.sub_zero]
theorem str_dec (a b : List Nat) : decide ((⟨a.toArray⟩ : Str) = ⟨b.toArray⟩) = decide (a = b) := decide_eq_decide.mpr ⟨fun h => congrArg cl h, fun h => by rw [h]⟩
theorem ts_eq (a b : List Nat) : eqD (tS a) (tS b) = some (.bl (decide (a = b))) := by rw [eqD_str, str_dec]
theorem ts_ne (a b : List Nat) : neD (tS a) (tS b) = some (.bl (!decide (a = b))) := by rw [neD_str, str_dec]
theorem ts_cat (a b : List Nat) : (⟨a.toArray⟩ : Str) ++ ⟨b.toArray⟩ = ⟨(a ++ b).toArray⟩ := cl_ext (by rw [cl_app])
theorem ts_add {a b : List Nat} (h : a.length + b.length ≤ 100000) : addD (tS a) (tS b) = some (tS (a ++ b)) := by
  show (if a.length + b.length ≤ sizeLine then some (D.str (⟨a.toArray⟩ ++ ⟨b.toArray⟩)) else none) = _
  rw [if_pos (by rw [sizeLine_eq]; omega), ts_cat]
theorem ts_lit0 : D.str "" = tS [] := rfl
theorem ts_litW : D.str "~" = tS [126] := rfl
theorem ts_litS : D.str "/" = tS [47] := rfl
theorem ts_lit48 : D.str "0" = tS [48] := rfl
theorem ts_lit49 : D.str "1" = tS [49] := rfl
theorem ts_in (neg : Bool) (l : List Nat) : inD neg (tS l) (.tup [.str "0", .str "1"]) = some (.bl (if neg then !(decide (l = [48]) || decide (l = [49])) else (decide (l = [48]) || decide (l = [49])))) := by
  rw [ts_lit48, ts_lit49]
  show (eqAny 60 (tS l) [tS [48], tS [49]]).map (fun b => D.bl (if neg then !b else b)) = _
  have e : eqAny 60 (tS l) [tS [48], tS [49]] = some (decide (l = [48]) || decide (l = [49])) := by
    have h1 : eqN 60 (tS [48]) (tS l) = some (decide (l = [48])) := by
      show some ((⟨[48].toArray⟩ : Str) == ⟨l.toArray⟩) = _
      rw [beq_dec, str_dec]
      exact congrArg some (decide_eq_decide.mpr ⟨Eq.symm, Eq.symm⟩)
    have h2 : eqN 60 (tS [49]) (tS l) = some (decide (l = [49])) := by
      show some ((⟨[49].toArray⟩ : Str) == ⟨l.toArray⟩) = _
      rw [beq_dec, str_dec]
      exact congrArg some (decide_eq_decide.mpr ⟨Eq.symm, Eq.symm⟩)
    simp only [eqAny, h1, h2, Option.bind_some, Option.map_some, Bool.or_false]
  rw [e]
  cases neg <;> rfl
theorem ts_split {l : List Nat} (c : Nat) (h : l.length ≤ 100000) : splitDD (tS l) [tS [c]] = some (.row ((spl c l).map tS)) := by
  have h1 := split_small (x := ⟨l.toArray⟩) (c := c) h
  have h1 : splitDD (tS l) [tS [c]] = _ := h1
  rw [h1]
  have h2 := split_list ⟨l.toArray⟩ c
  have h2 : (Txt.split ⟨l.toArray⟩ (sg c)).map cl = spl c l := h2
  rw [← h2, List.map_map]
  rfl
theorem ts_starts (l : List Nat) : startsD (tS l) [.str "/"] = some (.bl (decide (l.head? = some 47))) := by
  show some (D.bl (Txt.startswith ⟨l.toArray⟩ "/")) = _
  congr 2
  cases l with
  | nil => rfl
  | cons c l =>
    have h : Txt.startswith ⟨(c :: l).toArray⟩ "/" = (decide (0 + 1 ≤ (c :: l).length) && Builtin.Str.subAt ⟨(c :: l).toArray⟩ (sg 47) 0) := rfl
    rw [h, sub_one, decide_eq_true (by rw [List.length_cons]; omega), Bool.true_and]
    rfl
theorem sum_flat (xs : List (List Nat)) : (xs.map List.length).sum = xs.flatten.length := by rw [List.length_flatten]
theorem ts_join {xs : List (List Nat)} (h : xs.flatten.length ≤ 100000) : joinDD (.str "") [.row (xs.map tS)] = some (tS xs.flatten) := by
  have e0 : xs.map tS = (xs.map fun l => (⟨l.toArray⟩ : Str)).map D.str := by rw [List.map_map]; rfl
  have hj := join_list "" (xs.map fun l => (⟨l.toArray⟩ : Str))
  have e1 : (xs.map fun l => (⟨l.toArray⟩ : Str)).map cl = xs := by
    rw [List.map_map]
    exact (List.map_congr_left fun _ _ => rfl).trans (List.map_id _)
  rw [e1] at hj
  have hj : cl (Txt.join "" (xs.map fun l => (⟨l.toArray⟩ : Str))) = joinL [] xs := hj
  rw [join_none] at hj
  rw [e0]
  show ((strsD _).bind fun ys => if (ys.map (·.length)).sum + ys.length * ("" : Str).length ≤ 16777216 ∧ (Txt.join "" ys).length ≤ sizeLine then some (D.str (Txt.join "" ys)) else none) = _
  rw [strsD_map, Option.bind_some, if_pos]
  · rw [show (Txt.join "" (xs.map fun l => (⟨l.toArray⟩ : Str))) = ⟨xs.flatten.toArray⟩ from cl_ext hj]
  · refine ⟨?_, ?_⟩
    · rw [List.map_map]
      have : ((xs.map ((fun x => Str.length x) ∘ fun l => (⟨l.toArray⟩ : Str)))).sum = xs.flatten.length := sum_flat xs
      rw [this]
      show _ + _ * 0 ≤ _
      omega
    · rw [← cl_len, hj, sizeLine_eq]; omega
theorem is_step_l (k : Nat) (l : List Nat) : (den (k + 3)).is_step [tS l] () = .ok (.bl (okL21 l)) () := by
  have h := is_word_eq k ⟨l.toArray⟩
  rw [isW_l] at h
  show endK (b_is_step (den (k + 2)) [some (tS l)] ()) = _
  simp only [b_is_step, h, EV, Nat.reduceAdd, Nat.reduceSub, reduceIte]
theorem look_way_l (k : Nat) (ws : List (List Nat)) : (den (k + 4)).look_way [tupS ws] () = if ws.all okL21 = true then .ok .non () else .exc ⟨.BadWay, []⟩ () := by
  show endK (b_look_way (den (k + 3)) [some (tupS ws), none] ()) = _
  have h1 : lcA (tgN 1) dYes (dCall 1 (fun ds => up ((den (k + 3)).is_step ds)) (dCons (dVar 1) dNil)) [some (tupS ws), none] [] (ws.map tS) () = .ok (.row ((ws.map okL21).map D.bl)) () := by
    rw [lcA_map (fun d => match d with | .str x => .bl (isW x) | _ => .non) _ [] fun y hy => ?_, List.nil_append, List.map_map, List.map_map]
    · rfl
    · obtain ⟨x, _, rfl⟩ := List.mem_map.mp hy
      have := is_step_l k x
      simp only [this, EV, Nat.reduceAdd, Nat.reduceSub, reduceIte]
      rfl
  have h3 : allD [.row ((ws.map okL21).map D.bl)] = some (.bl (ws.all okL21)) := by rw [all_bls, List.all_map]; rfl
  have hl : (dLc (dItems (dVar 0)) (tgN 1) dYes (dCall 1 (fun ds => up ((den (k + 3)).is_step ds)) (dCons (dVar 1) dNil)) : Sl → M Unit D) [some (tupS ws), none] () = .ok (.row ((ws.map okL21).map D.bl)) () := (lc1 (xs := ws.map tS) (s' := ()) rfl).trans h1
  unfold b_look_way
  cases e : ws.all okL21 with
  | true =>
    rw [e] at h3
    rw [if_pos rfl]
    refine (congrArg endK ((sIf_f (s' := ()) ?_).trans rfl)).trans rfl
    simp only [tNotD, dTst, dAll, dCons, dNil, bnd_e, hl, ret_ap, h3, lift_e, truD, Bool.not_true]
  | false =>
    rw [e] at h3
    rw [if_neg Bool.false_ne_true]
    refine (congrArg endK ((sIf_t (s' := ()) ?_).trans rfl)).trans rfl
    simp only [tNotD, dTst, dAll, dCons, dNil, bnd_e, hl, ret_ap, h3, lift_e, truD, Bool.not_false]
theorem okL21_len {l : List Nat} (h : okL21 l = true) : l.length ≤ 60 := of_decide_eq_true (Bool.and_eq_true _ _ ▸ h : _ ∧ _).1
/-- a way's text -/
def wayL (ws : List (List Nat)) : List Nat := (ws.map fun s => 47 :: esc s).flatten
theorem wayL_cons (w : List Nat) (ws : List (List Nat)) : wayL (w :: ws) = (47 :: esc w) ++ wayL ws := rfl
theorem wayL_len : ∀ (ws : List (List Nat)), (∀ w ∈ ws, w.length ≤ 60) → (wayL ws).length ≤ 121 * ws.length
  | [], _ => Nat.zero_le _
  | w :: ws, h => by
    rw [wayL_cons, List.length_append, List.length_cons, List.length_cons]
    have h1 := esc_len w
    have h2 := h w List.mem_cons_self
    have h3 := wayL_len ws fun x hx => h x (List.mem_cons_of_mem _ hx)
    omega
theorem ts_rep {l : List Nat} (h : l.length ≤ 60) : repAddD "/" "~" "~0" "/" "~1" (tS l) = some (tS (47 :: esc l)) := by
  have e1 : cl (Txt.replace ⟨l.toArray⟩ "~" "~0") = (l.map fun a => if a = 126 then [126, 48] else [a]).flatten := repl_list ⟨l.toArray⟩ 126 "~0"
  have e2 : cl (Txt.replace (Txt.replace ⟨l.toArray⟩ "~" "~0") "/" "~1") = esc l := esc_repl ⟨l.toArray⟩
  have l1 : (Txt.replace ⟨l.toArray⟩ "~" "~0").length ≤ 2 * l.length := by
    rw [← cl_len, e1]
    have key : ∀ m : List Nat, ((m.map fun a => if a = 126 then [126, 48] else [a]).flatten).length ≤ 2 * m.length := fun m => by
      induction m with
      | nil => exact Nat.zero_le _
      | cons c m ih =>
        rw [List.map_cons, List.flatten_cons, List.length_append, List.length_cons]
        have : (if c = 126 then [126, 48] else [c]).length ≤ 2 := by split <;> simp
        omega
    exact key l
  have l2 : (Txt.replace (Txt.replace ⟨l.toArray⟩ "~" "~0") "/" "~1").length ≤ 2 * l.length := by rw [← cl_len, e2]; exact esc_len l
  have e3 : ("/" : Str) ++ Txt.replace (Txt.replace ⟨l.toArray⟩ "~" "~0") "/" "~1" = ⟨(47 :: esc l).toArray⟩ := cl_ext (by rw [cl_app, e2]; rfl)
  refine (if_pos ⟨?_, ?_, ?_, ?_⟩).trans (by rw [e3])
  · show l.length + (l.length + 1) * 2 ≤ 16777216; omega
  · show _ + (_ + 1) * 2 ≤ 16777216; omega
  · show 1 + _ ≤ sizeLine; rw [sizeLine_eq]; omega
  · rw [e3, sizeLine_eq]
    show (47 :: esc l).length ≤ _
    have := esc_len l
    rw [List.length_cons]; omega
theorem written_l (k : Nat) {ws : List (List Nat)} (hw : ws.all okL21 = true) (hn : ws.length ≤ 100) : (den (k + 5)).written_way [tupS ws] () = .ok (tS (wayL ws)) () := by
  show endK (b_written_way (den (k + 4)) [some (tupS ws), none] ()) = _
  have h0 := look_way_l k ws
  rw [if_pos hw] at h0
  have hs : ∀ w ∈ ws, w.length ≤ 60 := fun w h => okL21_len (List.all_eq_true.mp hw w h)
  have h1 : lcA (tgN 1) dYes (dUn (repAddD "/" "~" "~0" "/" "~1") (dVar 1)) [some (tupS ws), none] [] (ws.map tS) () = .ok (.row ((ws.map fun s => 47 :: esc s).map tS)) () := by
    rw [lcA_map (fun d => match d with | .str x => tS (47 :: esc (cl x)) | _ => .non) _ [] fun y hy => ?_, List.nil_append, List.map_map, List.map_map]
    · rfl
    · obtain ⟨x, hx, rfl⟩ := List.mem_map.mp hy
      have := ts_rep (hs x hx)
      simp only [this, EV, Nat.reduceAdd, Nat.reduceSub, reduceIte]
  have hl : (dLc (dItems (dVar 0)) (tgN 1) dYes (dUn (repAddD "/" "~" "~0" "/" "~1") (dVar 1)) : Sl → M Unit D) [some (tupS ws), none] () = .ok (.row ((ws.map fun s => 47 :: esc s).map tS)) () := (lc1 (xs := ws.map tS) (s' := ()) rfl).trans h1
  have hj := ts_join (xs := ws.map fun s => 47 :: esc s) (by have := wayL_len ws hs; unfold wayL at this; omega)
  unfold b_written_way
  refine (congrArg endK ((drop_n (d := .non) (s' := ()) ?_).trans (ret1 (d := tS (wayL ws)) (s' := ()) ?_))).trans rfl
  · simp only [h0, EV, Nat.reduceAdd, Nat.reduceSub, reduceIte]
  · simp only [dMt, tyIs, dC, hl, hj, dCons, dNil, bnd_e, ret_ap, lift_e, if_true]
    rfl
theorem written_bad (k : Nat) {ws : List (List Nat)} (hw : ws.all okL21 = false) : (den (k + 5)).written_way [tupS ws] () = .exc ⟨.BadWay, []⟩ () := by
  show endK (b_written_way (den (k + 4)) [some (tupS ws), none] ()) = _
  have h0 := look_way_l k ws
  rw [hw, if_neg Bool.false_ne_true] at h0
  unfold b_written_way
  refine (congrArg endK (drop_x (x := ⟨.BadWay, []⟩) (s' := ()) ?_)).trans rfl
  simp only [h0, EV, Nat.reduceAdd, Nat.reduceSub, reduceIte]
end Nw
set_option Elab.async false
set_option linter.all false
set_option maxRecDepth 100000
set_option maxHeartbeats 4000000
namespace Nw
open PySem PySem.Spec L2
/-! ### read_step, read_way -/
theorem while_t {S : Type} {c : Sl → M S Bool} {B : Sl → Mo S} {N : Nat} {r : Sl} {s s' : S} (h : c r s = .ok true s') : whileL c B (N + 1) r s = loopK (whileL c B N) (B r s') := by
  show liftX (c r) r _ s = _
  unfold liftX; rw [h]; rfl
theorem while_f {S : Type} {c : Sl → M S Bool} {B : Sl → Mo S} {N : Nat} {r : Sl} {s s' : S} (h : c r s = .ok false s') : whileL c B (N + 1) r s = some (.next r, s') := by
  show liftX (c r) r _ s = _
  unfold liftX; rw [h]; rfl
abbrev rsC : Sl → M Unit Bool := dTst (dOp ltD (dVar 2) (dAll lenD (dCons (dVar 0) dNil))) isBl
abbrev rsB : Sl → Mo Unit := sSeq (sAsg (tgN 3) (dOp ixD (dVar 0) (dVar 2)))
    (sSeq (sIf (dTst (dOp eqD (dVar 3) (dC (.str "~"))) isBl) (sSeq (sIf (dTst (dOp (inD true) (dSl (dVar 0) (pSome (dOp addD (dVar 2) (dC (.int 1)))) (pSome (dOp addD (dVar 2) (dC (.int 2))))) (dAll tupD (dCons (dC (.str "0")) (dCons (dC (.str "1")) dNil)))) isBl) (sRaise .BadWay) sNil)
    (sSeq (sAsg (tgN 3) (dIf (dTst (dOp eqD (dOp ixD (dVar 0) (dOp addD (dVar 2) (dC (.int 1)))) (dC (.str "0"))) isBl) (dC (.str "~")) (dC (.str "/"))))
    (sAsg (tgN 2) (dOp addD (dVar 2) (dC (.int 1)))))) sNil)
    (sSeq (sAsg (tgN 1) (dOp addD (dVar 1) (dVar 3)))
    (sAsg (tgN 2) (dOp addD (dVar 2) (dC (.int 1))))))
abbrev rS (x f : List Nat) (i : Nat) (g : Option D) : Sl := [some (tS x), some (tS f), some (.int (i : Int)), g]
theorem lt_nat (i j : Nat) : ltD (.int (i : Int)) (.int (j : Int)) = some (.bl (decide (i < j))) := by
  show some (D.bl (decide ((i : Int) < (j : Int)))) = _
  congr 2
  exact decide_eq_decide.mpr (by omega)
theorem add_nat (i j : Nat) : addD (.int (i : Int)) (.int (j : Int)) = some (.int ((i + j : Nat) : Int)) := rfl
theorem add_1 (i : Nat) : addD (.int (i : Int)) (.int 1) = some (.int ((i + 1 : Nat) : Int)) := rfl
theorem add_2 (i : Nat) : addD (.int (i : Int)) (.int 2) = some (.int ((i + 2 : Nat) : Int)) := rfl
theorem rs_test (x f : List Nat) (i : Nat) (g : Option D) : rsC (rS x f i g) () = .ok (decide (i < x.length)) () := by
  have h1 := ts_len x
  have h2 := lt_nat i x.length
  simp only [rsC, rS, h1, h2, EV, Nat.reduceAdd, Nat.reduceSub, reduceIte]
theorem rs_plain {x f : List Nat} {i c : Nat} (g : Option D) (hi : i < x.length) (hc : x[i] = c) (hn : c ≠ 126) (hf : f.length ≤ 1000) : rsB (rS x f i g) () = some (.next (rS x (f ++ [c]) (i + 1) (some (tS [c]))), ()) := by
  have h1 := ts_ix x i hi
  rw [hc] at h1
  have h2 : eqD (tS [c]) (.str "~") = some (.bl false) := by
    rw [ts_litW, ts_eq, decide_eq_false]
    intro z; exact hn (List.cons.inj z).1
  have h3 : addD (tS f) (tS [c]) = some (tS (f ++ [c])) := ts_add (by rw [List.length_singleton]; omega)
  have h4 := add_1 i
  refine (asg_n (d := tS [c]) (s' := ()) (by simp only [rS, h1, EV, Nat.reduceAdd, Nat.reduceSub, reduceIte])).trans ?_
  refine (sSeq_n (r' := rS x f i (some (tS [c]))) (s' := ()) ((sIf_f (s' := ()) ?_).trans rfl)).trans ?_
  · simp only [rS, h2, EV, Nat.reduceAdd, Nat.reduceSub, reduceIte]
  refine (asg_n (d := tS (f ++ [c])) (s' := ()) (by simp only [rS, h3, EV, Nat.reduceAdd, Nat.reduceSub, reduceIte])).trans ?_
  exact asg1 (by simp only [rS, h4, EV, Nat.reduceAdd, Nat.reduceSub, reduceIte])
theorem rs_slice (x : List Nat) (i : Nat) (h : i < x.length) : slD (tS x) (some ((i + 1 : Nat) : Int)) (some ((i + 2 : Nat) : Int)) = some (tS ((x.drop (i + 1)).take 1)) := by
  rw [ts_sl]
  congr 2
  rw [Nat.min_eq_left (by omega : i + 1 ≤ x.length)]
  by_cases h2 : i + 2 ≤ x.length
  · rw [Nat.min_eq_left h2, show i + 2 - (i + 1) = 1 by omega]
  · rw [List.drop_eq_nil_of_le (by omega), List.take_nil, List.take_nil]
theorem rs_in (x f : List Nat) (i : Nat) (g : Option D) (h : i < x.length) : (dTst (dOp (inD true) (dSl (dVar 0) (pSome (dOp addD (dVar 2) (dC (.int 1)))) (pSome (dOp addD (dVar 2) (dC (.int 2))))) (dAll tupD (dCons (dC (.str "0")) (dCons (dC (.str "1")) dNil)))) isBl : Sl → M Unit Bool) (rS x f i g) () =
    .ok (!(decide ((x.drop (i + 1)).take 1 = [48]) || decide ((x.drop (i + 1)).take 1 = [49]))) () := by
  have h1 := add_1 i
  have h2 := add_2 i
  have h3 := rs_slice x i h
  have h4 := ts_in true ((x.drop (i + 1)).take 1)
  rw [if_pos rfl] at h4
  generalize (tS ((x.drop (i + 1)).take 1)) = q at h3 h4
  have z : (2 : Nat) ≤ sizeLine := z2
  simp only [rS, dSl, pSome, intD, h1, h2, h3, h4, z, EV, Nat.reduceAdd, Nat.reduceSub, reduceIte]
theorem rs_wave {x f : List Nat} {i d : Nat} (g : Option D) (hi : i + 1 < x.length) (h0 : x[i] = 126) (h1 : x[i + 1] = d) (hd : d = 48 ∨ d = 49) (hf : f.length ≤ 1000) : rsB (rS x f i g) () = some (.next (rS x (f ++ [if d = 48 then 126 else 47]) (i + 2) (some (tS [if d = 48 then 126 else 47]))), ()) := by
  have e1 := ts_ix x i (by omega)
  rw [h0] at e1
  have e2 : eqD (tS [126]) (.str "~") = some (.bl true) := by rw [ts_litW, ts_eq, decide_eq_true rfl]
  have e3 := ts_ix x (i + 1) hi
  rw [h1] at e3
  have e4 : eqD (tS [d]) (.str "0") = some (.bl (decide (d = 48))) := by
    rw [ts_lit48, ts_eq]
    congr 2
    exact decide_eq_decide.mpr ⟨fun z => (List.cons.inj z).1, fun z => by rw [z]⟩
  have a1 := add_1 i
  have a2 := add_1 (i + 1)
  have e5 : addD (tS f) (tS [if d = 48 then 126 else 47]) = some (tS (f ++ [if d = 48 then 126 else 47])) := ts_add (by rw [List.length_singleton]; omega)
  have tk : (x.drop (i + 1)).take 1 = [d] := by rw [List.drop_eq_getElem_cons hi, h1]; rfl
  have ci := rs_in x f i (some (tS [126])) (by omega)
  rw [tk] at ci
  have cf : (!(decide ([d] = [48]) || decide ([d] = [49]))) = false := by rcases hd with rfl | rfl <;> rfl
  rw [cf] at ci
  refine (asg_n (d := tS [126]) (s' := ()) (by simp only [rS, e1, EV, Nat.reduceAdd, Nat.reduceSub, reduceIte])).trans ?_
  refine (sSeq_n (r' := rS x f (i + 1) (some (tS [if d = 48 then 126 else 47]))) (s' := ()) ((sIf_t (s' := ()) ?_).trans ?_)).trans ?_
  · simp only [rS, e2, EV, Nat.reduceAdd, Nat.reduceSub, reduceIte]
  · refine (sSeq_n (r' := rS x f i (some (tS [126]))) (s' := ()) ((sIf_f (s' := ()) ci).trans rfl)).trans ?_
    refine (asg_n (d := tS [if d = 48 then 126 else 47]) (s' := ()) ?_).trans ?_
    · rcases hd with rfl | rfl
      · have e4 : eqD (tS [48]) (.str "0") = some (.bl true) := e4
        simp only [rS, a1, e3, e4, EV, Nat.reduceAdd, Nat.reduceSub, reduceIte]
        rfl
      · have e4 : eqD (tS [49]) (.str "0") = some (.bl false) := e4
        simp only [rS, a1, e3, e4, EV, Nat.reduceAdd, Nat.reduceSub, reduceIte]
        rfl
    · exact asg1 (by simp only [rS, a1, EV, Nat.reduceAdd, Nat.reduceSub, reduceIte])
  refine (asg_n (d := tS (f ++ [if d = 48 then 126 else 47])) (s' := ()) (by simp only [rS, e5, EV, Nat.reduceAdd, Nat.reduceSub, reduceIte])).trans ?_
  exact asg1 (by simp only [rS, a2, EV, Nat.reduceAdd, Nat.reduceSub, reduceIte])
theorem rs_bad {x f : List Nat} {i : Nat} (g : Option D) (hi : i < x.length) (h0 : x[i] = 126) (h1 : (x.drop (i + 1)).take 1 ≠ [48]) (h2 : (x.drop (i + 1)).take 1 ≠ [49]) : ∃ r, rsB (rS x f i g) () = some (.thr ⟨.BadWay, []⟩ r, ()) := by
  have e1 := ts_ix x i hi
  rw [h0] at e1
  have e2 : eqD (tS [126]) (.str "~") = some (.bl true) := by rw [ts_litW, ts_eq, decide_eq_true rfl]
  have ci := rs_in x f i (some (tS [126])) hi
  rw [decide_eq_false h1, decide_eq_false h2] at ci
  refine ⟨rS x f i (some (tS [126])), (asg_n (d := tS [126]) (s' := ()) (by simp only [rS, e1, EV, Nat.reduceAdd, Nat.reduceSub, reduceIte])).trans ?_⟩
  refine sSeq_x ((sIf_t (s' := ()) ?_).trans ?_)
  · simp only [rS, e2, EV, Nat.reduceAdd, Nat.reduceSub, reduceIte]
  · exact sSeq_x ((sIf_t (s' := ()) ci).trans rfl)
theorem rs_loop (x : List Nat) : ∀ (n i N : Nat) (f : List Nat) (g : Option D), x.length - i ≤ n → n < N → i ≤ x.length → f.length + (x.length - i) ≤ 1000 →
    (∀ u, unE (x.drop i) = some u → ∃ g', whileL rsC rsB N (rS x f i g) () = some (.next (rS x (f ++ u) x.length g'), ())) ∧
    (unE (x.drop i) = none → ∃ r, whileL rsC rsB N (rS x f i g) () = some (.thr ⟨.BadWay, []⟩ r, ()))
  | n, i, 0, f, g, h1, h2, h3, h4 => absurd h2 (by omega)
  | n, i, N + 1, f, g, h1, h2, h3, h4 => by
    have ht := rs_test x f i g
    by_cases hi : i < x.length
    · rw [decide_eq_true hi] at ht
      have ed : x.drop i = x[i] :: x.drop (i + 1) := List.drop_eq_getElem_cons hi
      obtain ⟨n, rfl⟩ : ∃ m, n = m + 1 := ⟨n - 1, by omega⟩
      by_cases hc : x[i] = 126
      · by_cases hj : i + 1 < x.length
        · have ed2 : x.drop (i + 1) = x[i + 1] :: x.drop (i + 2) := List.drop_eq_getElem_cons hj
          have tk : (x.drop (i + 1)).take 1 = [x[i + 1]] := by rw [ed2]; rfl
          by_cases hd : x[i + 1] = 48 ∨ x[i + 1] = 49
          · have hb := rs_wave (f := f) g hj hc rfl hd (by omega)
            have ih := rs_loop x n (i + 2) N (f ++ [if x[i + 1] = 48 then 126 else 47]) (some (tS [if x[i + 1] = 48 then 126 else 47])) (by omega) (by omega) (by omega) (by rw [List.length_append, List.length_singleton]; omega)
            have eu : unE (x.drop i) = (unE (x.drop (i + 2))).map ((if x[i + 1] = 48 then 126 else 47) :: ·) := by
              rw [ed, ed2, hc]
              show (if (126 : Nat) = 126 then _ else _) = _
              rw [if_pos rfl]
              rcases hd with hd | hd
              · rw [hd, if_pos rfl, if_pos rfl]
              · rw [hd, if_neg (by decide), if_pos rfl, if_neg (by decide)]
            rw [while_t ht, hb]
            show (∀ u, _ → ∃ g', whileL rsC rsB N _ () = _) ∧ (_ → ∃ r, whileL rsC rsB N _ () = _)
            rw [eu]
            refine ⟨fun u hu => ?_, fun hu => ?_⟩
            · cases ev : unE (x.drop (i + 2)) with
              | none => rw [ev] at hu; cases hu
              | some v =>
                rw [ev] at hu
                obtain ⟨g', hg⟩ := ih.1 v ev
                cases hu
                rw [List.append_assoc] at hg
                exact ⟨g', hg⟩
            · cases ev : unE (x.drop (i + 2)) with
              | none => exact ih.2 ev
              | some v => rw [ev] at hu; cases hu
          · obtain ⟨r, hr⟩ := rs_bad (f := f) g hi hc (by rw [tk]; intro z; exact hd (.inl (List.cons.inj z).1)) (by rw [tk]; intro z; exact hd (.inr (List.cons.inj z).1))
            have eu : unE (x.drop i) = none := by
              rw [ed, ed2, hc]
              show (if (126 : Nat) = 126 then _ else _) = _
              rw [if_pos rfl, if_neg fun z => hd (.inl z), if_neg fun z => hd (.inr z)]
            rw [while_t ht, hr, eu]
            exact ⟨fun u z => (by cases z), fun _ => ⟨r, rfl⟩⟩
        · have en : x.drop (i + 1) = [] := List.drop_eq_nil_of_le (by omega)
          obtain ⟨r, hr⟩ := rs_bad (f := f) g hi hc (by rw [en]; intro z; cases z) (by rw [en]; intro z; cases z)
          have eu : unE (x.drop i) = none := by
            rw [ed, en, hc]; rfl
          rw [while_t ht, hr, eu]
          exact ⟨fun u z => (by cases z), fun _ => ⟨r, rfl⟩⟩
      · have hb := rs_plain (f := f) g hi rfl hc (by omega)
        have ih := rs_loop x n (i + 1) N (f ++ [x[i]]) (some (tS [x[i]])) (by omega) (by omega) (by omega) (by rw [List.length_append, List.length_singleton]; omega)
        have eu : unE (x.drop i) = (unE (x.drop (i + 1))).map (x[i] :: ·) := by
          rw [ed]
          cases ed2 : x.drop (i + 1) with
          | nil =>
            show (if x[i] = 126 then none else some [x[i]]) = _
            rw [if_neg hc]; rfl
          | cons d xs =>
            show (if x[i] = 126 then _ else _) = _
            rw [if_neg hc]
        rw [while_t ht, hb]
        show (∀ u, _ → ∃ g', whileL rsC rsB N _ () = _) ∧ (_ → ∃ r, whileL rsC rsB N _ () = _)
        rw [eu]
        refine ⟨fun u hu => ?_, fun hu => ?_⟩
        · cases ev : unE (x.drop (i + 1)) with
          | none => rw [ev] at hu; cases hu
          | some v =>
            rw [ev] at hu
            obtain ⟨g', hg⟩ := ih.1 v ev
            cases hu
            rw [List.append_assoc] at hg
            exact ⟨g', hg⟩
        · cases ev : unE (x.drop (i + 1)) with
          | none => exact ih.2 ev
          | some v => rw [ev] at hu; cases hu
    · rw [decide_eq_false hi] at ht
      have hx : i = x.length := by omega
      rw [while_f ht, List.drop_eq_nil_of_le (by omega)]
      refine ⟨fun u hu => ?_, fun hu => by cases hu⟩
      cases hu
      rw [hx, List.append_nil]
      exact ⟨g, rfl⟩
/-- a part's step -/
def stepO (p : List Nat) : Option (List Nat) := (unE p).bind fun u => if okL21 u = true then some u else none
theorem read_step_l (k : Nat) (x : List Nat) (hx : x.length ≤ 900) : (den (k + 4)).read_step [tS x] () = match stepO x with
    | some u => .ok (tS u) ()
    | none => .exc ⟨.BadWay, []⟩ () := by
  show endK (b_read_step (den (k + 3)) [some (tS x), none, none, none] ()) = _
  have lp := rs_loop x x.length 0 1000 [] none (by omega) (by omega) (by omega) (by simp; omega)
  rw [List.drop_zero] at lp
  have pre : ∀ K : Sl → Mo Unit, sSeq (sAsg (tgN 1) (dC (.str ""))) (sSeq (sAsg (tgN 2) (dC (.int 0))) K) [some (tS x), none, none, none] () = K (rS x [] 0 none) () := fun K => by
    refine (asg_n (d := tS []) (s' := ()) rfl).trans ?_
    exact (asg_n (d := .int 0) (s' := ()) rfl).trans rfl
  unfold b_read_step
  rw [pre]
  unfold stepO
  cases eu : unE x with
  | none =>
    obtain ⟨r, hr⟩ := lp.2 eu
    exact (congrArg endK (sSeq_x hr)).trans rfl
  | some u =>
    obtain ⟨g', hg⟩ := lp.1 u eu
    have hs := is_step_l k u
    refine (congrArg endK (sSeq_n hg)).trans ?_
    rw [Option.bind_some]
    show endK (sSeq _ _ (rS x u x.length g') ()) = _
    cases eo : okL21 u with
    | true =>
      rw [eo] at hs
      rw [if_pos rfl]
      refine (congrArg endK ((sSeq_n (r' := rS x u x.length g') (s' := ()) ((sIf_f (s' := ()) ?_).trans rfl)).trans (ret1 (d := tS u) (s' := ()) rfl))).trans rfl
      simp only [rS, hs, EV, Nat.reduceAdd, Nat.reduceSub, reduceIte, Bool.not_true]
    | false =>
      rw [eo] at hs
      rw [if_neg Bool.false_ne_true]
      refine (congrArg endK (sSeq_x ((sIf_t (s' := ()) ?_).trans rfl))).trans rfl
      simp only [rS, hs, EV, Nat.reduceAdd, Nat.reduceSub, reduceIte, Bool.not_false]
def stepsO : List (List Nat) → Option (List (List Nat))
  | [] => some []
  | p :: ps => (stepO p).bind fun u => (stepsO ps).map (u :: ·)
theorem lcX_steps {i : Nat} {f : Sl → M Unit D} {r : Sl} : ∀ (ps : List (List Nat)) (acc : List D), (∀ p ∈ ps, f (r.set i (some (tS p))) () = match stepO p with | some u => .ok (tS u) () | none => .exc ⟨.BadWay, []⟩ ()) →
    lcX (tgN i) dYes f r acc (ps.map tS) () = match stepsO ps with
      | some us => .ok (.row (acc ++ us.map tS)) ()
      | none => .exc ⟨.BadWay, []⟩ ()
  | [], acc, h => by
    show Res.ok (D.row acc) () = Res.ok (D.row (acc ++ [])) ()
    rw [List.append_nil]
  | p :: ps, acc, h => by
    have h1 := h p List.mem_cons_self
    have e : lcX (tgN i) dYes f r acc ((p :: ps).map tS) () = bnd (f (r.set i (some (tS p)))) (fun y => lcX (tgN i) dYes f r (acc ++ [y]) (ps.map tS)) () := rfl
    rw [e]
    show _ = match (stepO p).bind fun u => (stepsO ps).map (u :: ·) with
      | some us => Res.ok (D.row (acc ++ us.map tS)) ()
      | none => Res.exc ⟨.BadWay, []⟩ ()
    cases ep : stepO p with
    | none =>
      rw [ep] at h1
      rw [bnd_exc h1]
      rfl
    | some u =>
      rw [ep] at h1
      rw [bnd_ok h1, lcX_steps ps (acc ++ [tS u]) fun q hq => h q (List.mem_cons_of_mem _ hq), Option.bind_some]
      cases stepsO ps with
      | none => rfl
      | some us =>
        show Res.ok (D.row (acc ++ [tS u] ++ us.map tS)) () = Res.ok (D.row (acc ++ (u :: us).map tS)) ()
        rw [List.append_assoc]
        rfl
/-- the way that a text is -/
def wayO (x : List Nat) : Option (List (List Nat)) := match x with
  | [] => some []
  | c :: t => if c = 47 then stepsO (spl 47 t) else none
def resW : Option (List (List Nat)) → Res Unit D
  | some ws => .ok (tupS ws) ()
  | none => .exc ⟨.BadWay, []⟩ ()
theorem read_way_l (k : Nat) (x : List Nat) (hx : x.length ≤ 900) : (den (k + 5)).read_way [tS x] () = resW (wayO x) := by
  show endK (b_read_way (den (k + 4)) [some (tS x), none] ()) = _
  have h0 : eqD (tS x) (.str "") = some (.bl (decide (x = []))) := by rw [ts_lit0, ts_eq]
  have h1 := ts_starts x
  unfold b_read_way
  cases x with
  | nil =>
    refine (congrArg endK (sSeq_rt (s' := ()) (d := tupS []) ((sIf_t (s' := ()) ?_).trans (ret1 (d := tupS []) (s' := ()) ?_)))).trans rfl
    · simp only [h0, EV, Nat.reduceAdd, Nat.reduceSub, reduceIte]
      rfl
    · simp only [z0, EV, Nat.reduceAdd, Nat.reduceSub, reduceIte]
      rfl
  | cons c t =>
    rw [decide_eq_false (by intro z; cases z)] at h0
    refine (congrArg endK (sSeq_n (r' := [some (tS (c :: t)), none]) (s' := ()) ((sIf_f (s' := ()) (by simp only [h0, EV, Nat.reduceAdd, Nat.reduceSub, reduceIte])).trans rfl))).trans ?_
    by_cases hc : c = 47
    · rw [decide_eq_true (by rw [hc]; rfl)] at h1
      refine (congrArg endK (sSeq_n (r' := [some (tS (c :: t)), none]) (s' := ()) ((sIf_f (s' := ()) (by simp only [h1, EV, Nat.reduceAdd, Nat.reduceSub, reduceIte, Bool.not_true, if_true])).trans rfl))).trans ?_
      have h2 := ts_drop (c :: t) 1 (by rw [List.length_cons]; omega)
      have h2 : slD (tS (c :: t)) (some 1) none = some (tS t) := h2
      rw [List.length_cons] at hx
      have h3 := ts_split (l := t) 47 (by omega)
      have h3 : splitDD (tS t) [.str "/"] = some (.row ((spl 47 t).map tS)) := h3
      have hit : (dItems (dMt "str" splitDD (dSl (dVar 0) (pSome (dC (.int 1))) pNone) (dCons (dC (.str "/")) dNil)) : Sl → M Unit (List D)) [some (tS (c :: t)), none] () = .ok ((spl 47 t).map tS) () := by
        simp only [dSl, pSome, pNone, intD, h2, h3, EV, Nat.reduceAdd, Nat.reduceSub, reduceIte]
      have hlc : lcX (tgN 1) dYes (dCall 1 (fun ds => up ((den (k + 4)).read_step ds)) (dCons (dVar 1) dNil)) [some (tS (c :: t)), none] [] ((spl 47 t).map tS) () = _ := lcX_steps (spl 47 t) [] fun p hp => by
        have hp2 : p.length ≤ 900 := by have := spl_mem 47 t p hp; omega
        have h := read_step_l k p hp2
        cases e : stepO p with
        | none => rw [e] at h; simp only [h, EV, Nat.reduceAdd, Nat.reduceSub, reduceIte]
        | some u => rw [e] at h; simp only [h, EV, Nat.reduceAdd, Nat.reduceSub, reduceIte]
      have hx : (dLcX (dItems (dMt "str" splitDD (dSl (dVar 0) (pSome (dC (.int 1))) pNone) (dCons (dC (.str "/")) dNil))) (tgN 1) dYes (dCall 1 (fun ds => up ((den (k + 4)).read_step ds)) (dCons (dVar 1) dNil)) : Sl → M Unit D) [some (tS (c :: t)), none] () = _ := (bnd_ok hit).trans hlc
      rw [show wayO (c :: t) = stepsO (spl 47 t) from if_pos hc]
      cases e : stepsO (spl 47 t) with
      | none =>
        rw [e] at hx
        refine (congrArg endK (ret_x (x := ⟨.BadWay, []⟩) (s' := ()) ?_)).trans rfl
        show bnd (bnd _ _) _ () = _
        exact bnd_exc (bnd_exc hx)
      | some us =>
        rw [e] at hx
        refine (congrArg endK (ret1 (d := tupS us) (s' := ()) ?_)).trans rfl
        show bnd (bnd _ _) _ () = _
        have e1 : bnd ((dLcX (dItems (dMt "str" splitDD (dSl (dVar 0) (pSome (dC (.int 1))) pNone) (dCons (dC (.str "/")) dNil))) (tgN 1) dYes (dCall 1 (fun ds => up ((den (k + 4)).read_step ds)) (dCons (dVar 1) dNil)) : Sl → M Unit D) [some (tS (c :: t)), none]) (fun x => bnd ((dNil : Sl → M Unit (List D)) [some (tS (c :: t)), none]) fun xs => ret (x :: xs)) () = .ok [.row (us.map tS)] () := (bnd_ok hx).trans rfl
        exact (bnd_ok e1).trans rfl
    · rw [decide_eq_false (by intro z; exact hc (Option.some.inj z))] at h1
      rw [show wayO (c :: t) = none from if_neg hc]
      refine (congrArg endK (sSeq_x ((sIf_t (s' := ()) ?_).trans rfl))).trans rfl
      simp only [h1, EV, Nat.reduceAdd, Nat.reduceSub, reduceIte, Bool.not_false, if_true]
end Nw
set_option Elab.async false
set_option linter.all false
set_option maxRecDepth 100000
set_option maxHeartbeats 4000000
namespace Nw
open PySem PySem.Spec L2
/-! ### the law's own reading -/
theorem refW (k : Nat) : (den (k + 1))._law_refusal [.exc .BadWay []] () = .ok (.tup [.str "refused", .str "way"]) () := by kernel_rfl
def goodW (w : List Nat) : Bool := (decide (w.take 1 = [48]) || decide (w.take 1 = [49])) && !decide (w = [])
theorem good_dec (w : List Nat) : goodW w = (dec1 w).isSome := by
  cases w with
  | nil => rfl
  | cons x r =>
    unfold goodW dec1
    show ((decide ([x] = [48]) || decide ([x] = [49])) && (!decide (x :: r = []))) = (if x = 48 then some (126 :: r) else if x = 49 then some (47 :: r) else none).isSome
    rw [decide_eq_false (show ¬ (x :: r = []) by intro z; cases z), Bool.not_false, Bool.and_true]
    by_cases h1 : x = 48
    · rw [h1]; rfl
    · by_cases h2 : x = 49
      · rw [h2]; rfl
      · rw [if_neg h1, if_neg h2, decide_eq_false (fun z => h1 (List.cons.inj z).1), decide_eq_false (fun z => h2 (List.cons.inj z).1)]; rfl
theorem decL_none : ∀ ws : List (List Nat), ws.all goodW = false → decL ws = none
  | [], h => by cases h
  | w :: ws, h => by
    rw [List.all_cons, good_dec] at h
    show (dec1 w).bind _ = none
    cases e : dec1 w with
    | none => rfl
    | some u =>
      rw [e] at h
      have h : ws.all goodW = false := h
      rw [Option.bind_some, decL_none ws h]; rfl
def dec0 (w : List Nat) : List Nat := (dec1 w).getD []
theorem decL_some : ∀ ws : List (List Nat), ws.all goodW = true → decL ws = some (ws.map dec0).flatten
  | [], h => rfl
  | w :: ws, h => by
    rw [List.all_cons, good_dec, Bool.and_eq_true] at h
    show (dec1 w).bind _ = _
    obtain ⟨u, e⟩ := Option.isSome_iff_exists.mp h.1
    rw [e, Option.bind_some, decL_some ws h.2, List.map_cons, List.flatten_cons]
    unfold dec0
    rw [e]; rfl
abbrev woG : Sl → M Unit D := dAnd (dOp (inD false) (dSl (dVar 6) pNone (pSome (dC (.int 1)))) (dAll tupD (dCons (dC (.str "0")) (dCons (dC (.str "1")) dNil)))) (dOp neD (dVar 6) (dC (.str "")))
abbrev woS : Sl → M Unit D := dOp addD (dOp ixD (dAll rowD (dCons (dC (.str "~")) (dCons (dC (.str "/")) dNil))) (dAll toIntD (dCons (dOp ixD (dVar 6) (dC (.int 0))) dNil))) (dSl (dVar 6) (pSome (dC (.int 1))) pNone)
abbrev woI : Sl → M Unit (List D) := dItems (dSl (dVar 4) (pSome (dC (.int 1))) pNone)
abbrev woC : Sl → M Unit D := dAnd (dChain leD ltD (dC (.int 32)) (dAll ordD (dCons (dVar 7) dNil)) (dC (.int 127))) (dOp neD (dAll ordD (dCons (dVar 7) dNil)) (dC (.int 37)))
abbrev woB : Sl → Mo Unit := sSeq (sAsg (tgN 4) (dMt "str" splitDD (dVar 3) (dCons (dC (.str "~")) dNil)))
    (sSeq (sIf (tNotD (dTst (dAll allD (dCons (dLc woI (tgN 6) dYes woG) dNil)) truD)) (sRet (dC .non)) sNil)
    (sSeq (sAsg (tgN 5) (dOp addD (dOp ixD (dVar 4) (dC (.int 0))) (dMt "str" joinDD (dC (.str "")) (dCons (dLc woI (tgN 6) dYes woS) dNil))))
    (sSeq (sIf (tOrD (dTst (dOp gtD (dAll lenD (dCons (dVar 5) dNil)) (dC (.int 60))) isBl) (tNotD (dTst (dAll allD (dCons (dLc (dItems (dVar 5)) (tgN 7) dYes woC) dNil)) truD))) (sRet (dC .non)) sNil)
    (sOwn1 "list" 2 appD (dVar 5)))))
abbrev woSl (x ps f p : D) (q4 q5 : Option D) : Sl := [some x, some ps, some f, some p, q4, q5, none, none]
theorem ts_take1 (w : List Nat) : slD (tS w) none (some 1) = some (tS (w.take 1)) := by
  show some (D.str (cutS ⟨w.toArray⟩ none (some ((1 : Nat) : Int)))) = _
  unfold cutS
  rw [HT.sIx_nat, HT.sIx_none]
  show some (tS ((w.drop 0).take (min 1 w.length - 0))) = _
  rw [List.drop_zero, Nat.sub_zero]
  congr 2
  cases w with
  | nil => rfl
  | cons a w => rw [Nat.min_eq_left (by rw [List.length_cons]; omega)]
theorem wo_good {x ps f p : D} {q4 q5 : Option D} (w : List Nat) : woG ((woSl x ps f p q4 q5).set 6 (some (tS w))) () = .ok (.bl (goodW w)) () := by
  have h1 := ts_take1 w
  have h2 := ts_in false (w.take 1)
  rw [if_neg Bool.false_ne_true] at h2
  have h3 : neD (tS w) (.str "") = some (.bl (!decide (w = []))) := by rw [ts_lit0, ts_ne]
  generalize tS w = q at h1 h3 ⊢
  generalize tS (w.take 1) = q1 at h1 h2
  unfold goodW
  cases e : (decide (w.take 1 = [48]) || decide (w.take 1 = [49])) with
  | true =>
    rw [e] at h2
    simp only [dSl, pSome, pNone, intD, h1, h2, h3, z2, EV, Nat.reduceAdd, Nat.reduceSub, reduceIte, Bool.true_and]
  | false =>
    rw [e] at h2
    simp only [dSl, pSome, pNone, intD, h1, h2, h3, z2, EV, Nat.reduceAdd, Nat.reduceSub, reduceIte, Bool.false_and]
theorem ord_ok (c : Nat) : ordD [tS [c]] = some (.int (c : Int)) := rfl
theorem wo_sign {x ps f p : D} {q4 q5 : Option D} (c : Nat) : woC ((woSl x ps f p q4 q5).set 7 (some (tS [c]))) () = .ok (.bl (okC c)) () := by
  have ho := ord_ok c
  have h1 : leD (.int 32) (.int (c : Int)) = some (.bl (decide (32 ≤ c))) := by
    show some (D.bl (decide ((32 : Int) ≤ c))) = _
    congr 2
    exact decide_eq_decide.mpr (by omega)
  have h2 : ltD (.int (c : Int)) (.int 127) = some (.bl (decide (c < 127))) := by
    show some (D.bl (decide ((c : Int) < 127))) = _
    congr 2
    exact decide_eq_decide.mpr (by omega)
  have h3 : neD (.int (c : Int)) (.int 37) = some (.bl (!decide (c = 37))) := by
    rw [neD_int]
    congr 3
    exact decide_eq_decide.mpr (by omega)
  generalize tS [c] = q at ho ⊢
  unfold okC
  cases e1 : decide (32 ≤ c) <;> cases e2 : decide (c < 127) <;> simp only [woC, dChain, ho, h1, h2, h3, e1, e2, EV, Nat.reduceAdd, Nat.reduceSub, reduceIte, Bool.true_and, Bool.false_and, Bool.and_false]
theorem wo_dec {x ps f p : D} {q4 q5 : Option D} {w : List Nat} (hg : goodW w = true) (hl : w.length ≤ 900) : woS ((woSl x ps f p q4 q5).set 6 (some (tS w))) () = .ok (tS (dec0 w)) () := by
  cases w with
  | nil => cases hg
  | cons a r =>
    have e0 : ixD (tS (a :: r)) (.int 0) = some (tS [a]) := ts_ix (a :: r) 0 (by rw [List.length_cons]; omega)
    have e1 : slD (tS (a :: r)) (some 1) none = some (tS r) := ts_drop (a :: r) 1 (by rw [List.length_cons]; omega)
    rw [List.length_cons] at hl
    have ha : a = 48 ∨ a = 49 := by
      rw [good_dec] at hg
      have hg : (if a = 48 then some (126 :: r) else if a = 49 then some (47 :: r) else none).isSome = true := hg
      by_cases h1 : a = 48
      · exact .inl h1
      · by_cases h2 : a = 49
        · exact .inr h2
        · rw [if_neg h1, if_neg h2] at hg; cases hg
    generalize tS (a :: r) = q at e0 e1 ⊢
    rcases ha with rfl | rfl
    · have e2 : toIntD [tS [48]] = some (.int 0) := by kernel_rfl
      have e3 : ixD (.row [.str "~", .str "/"]) (.int 0) = some (tS [126]) := rfl
      have e4 : addD (tS [126]) (tS r) = some (tS (126 :: r)) := ts_add (by rw [List.length_singleton]; omega)
      simp only [dSl, pSome, pNone, intD, e0, e1, e2, e3, e4, z2, EV, Nat.reduceAdd, Nat.reduceSub, reduceIte]
      rfl
    · have e2 : toIntD [tS [49]] = some (.int 1) := by kernel_rfl
      have e3 : ixD (.row [.str "~", .str "/"]) (.int 1) = some (tS [47]) := rfl
      have e4 : addD (tS [47]) (tS r) = some (tS (47 :: r)) := ts_add (by rw [List.length_singleton]; omega)
      simp only [dSl, pSome, pNone, intD, e0, e1, e2, e3, e4, z2, EV, Nat.reduceAdd, Nat.reduceSub, reduceIte]
      rfl
theorem lc_ts {i : Nat} {f : Sl → M Unit D} {r : Sl} (g : List Nat → D) (ws : List (List Nat)) (h : ∀ w ∈ ws, f (r.set i (some (tS w))) () = .ok (g w) ()) : lcA (tgN i) dYes f r [] (ws.map tS) () = .ok (.row (ws.map g)) () := by
  rw [lcA_map (fun d => match d with | .str x => g (cl x) | _ => .non) _ [] fun y hy => ?_, List.nil_append, List.map_map]
  · rfl
  · obtain ⟨w, hw, rfl⟩ := List.mem_map.mp hy
    exact h w hw
theorem gt_60 (n : Nat) : gtD (.int (n : Int)) (.int 60) = some (.bl (decide (60 < n))) := by
  show some (D.bl (decide ((60 : Int) < n))) = _
  congr 2
  exact decide_eq_decide.mpr (by omega)
theorem flat_len (c : Nat) : ∀ l : List Nat, (spl c l).flatten.length ≤ l.length
  | [] => Nat.zero_le _
  | x :: l => by
    obtain ⟨w, ws, e⟩ := spl_ne c l
    have ih := flat_len c l
    by_cases h : x = c
    · rw [show spl c (x :: l) = [] :: spl c l from if_pos h, List.flatten_cons, List.length_append, List.length_cons]
      simp only [List.length_nil]; omega
    · rw [e, List.flatten_cons, List.length_append] at ih
      rw [spl_off h e, List.flatten_cons, List.length_append, List.length_cons, List.length_cons]; omega
theorem dec0_len (w : List Nat) : (dec0 w).length ≤ w.length := by
  unfold dec0 dec1
  cases w with
  | nil => exact Nat.le_refl _
  | cons x r =>
    show (Option.getD (if x = 48 then some (126 :: r) else if x = 49 then some (47 :: r) else none) []).length ≤ _
    split
    · exact Nat.le_refl _
    · split
      · exact Nat.le_refl _
      · exact Nat.zero_le _
theorem flat_dec0 : ∀ ws : List (List Nat), (ws.map dec0).flatten.length ≤ ws.flatten.length
  | [] => Nat.le_refl _
  | w :: ws => by
    rw [List.map_cons, List.flatten_cons, List.flatten_cons, List.length_append, List.length_append]
    have := dec0_len w
    have := flat_dec0 ws
    omega
theorem sig_ts (u : List Nat) : signs ⟨u.toArray⟩ = u.map fun c => tS [c] := rfl
theorem wo_turn {x ps : D} {f : List D} {p : List Nat} {q4 q5 : Option D} (hf : f.length < 1000) (hp : p.length ≤ 900) : woB (woSl x ps (.row f) (tS p) q4 q5) () = match stepO p with
    | some u => some (.next (woSl x ps (.row (f ++ [tS u])) (tS p) (some (.row ((spl 126 p).map tS))) (some (tS u))), ())
    | none => some (.rt .non, ()) := by
  obtain ⟨w, ws, e⟩ := spl_ne 126 p
  have hu := unE_spl p.length p (Nat.le_refl _)
  have fl := flat_len 126 p
  have hml := spl_mem 126 p
  have h1 : splitDD (tS p) [.str "~"] = some (.row ((spl 126 p).map tS)) := ts_split (l := p) 126 (by omega)
  rw [e] at hu h1 fl hml ⊢
  rw [List.flatten_cons, List.length_append] at fl
  have hm : ∀ v ∈ ws, v.length ≤ 900 := fun v hv => by have := hml v (List.mem_cons_of_mem _ hv); omega
  refine (asg_n (d := .row ((w :: ws).map tS)) (s' := ()) (by simp only [h1, EV, Nat.reduceAdd, Nat.reduceSub, reduceIte])).trans ?_
  have it : ∀ q5, woI (woSl x ps (.row f) (tS p) (some (.row ((w :: ws).map tS))) q5) () = .ok (ws.map tS) () := fun q5 => by
    have hs : slD (.row ((w :: ws).map tS)) (some 1) none = some (.row (ws.map tS)) := by
      show some (D.row (cutL ((w :: ws).map tS) (some ((1 : Nat) : Int)) none)) = _
      unfold cutL
      rw [HT.sIx_nat, HT.sIx_none, Nat.min_eq_left (by rw [List.map_cons, List.length_cons]; omega)]
      rw [List.take_of_length_le (by rw [List.length_drop]; exact Nat.le_refl _)]
      rfl
    generalize D.row ((w :: ws).map tS) = q at hs ⊢
    simp only [dSl, pSome, pNone, intD, hs, EV, Nat.reduceAdd, Nat.reduceSub, reduceIte]
  have g1 : (dLc woI (tgN 6) dYes woG : Sl → M Unit D) (woSl x ps (.row f) (tS p) (some (.row ((w :: ws).map tS))) q5) () = .ok (.row (ws.map fun v => .bl (goodW v))) () :=
    (lc1 (it q5)).trans (lc_ts (fun v => .bl (goodW v)) ws fun v hv => wo_good v)
  have a1 : allD [.row (ws.map fun v => .bl (goodW v))] = some (.bl (ws.all goodW)) := by
    have := all_bls (ws.map goodW)
    rw [List.map_map, List.all_map] at this
    exact this
  show sSeq _ _ (woSl x ps (.row f) (tS p) (some (.row ((w :: ws).map tS))) q5) () = _
  cases eg : ws.all goodW with
  | false =>
    rw [eg] at a1
    have hn : stepO p = none := by
      unfold stepO
      rw [hu]
      show (((decL ws).map (w ++ ·))).bind _ = none
      rw [decL_none ws eg]; rfl
    rw [hn]
    refine sSeq_rt (s' := ()) ((sIf_t (s' := ()) ?_).trans (ret1 (s' := ()) rfl))
    simp only [tNotD, dTst, dAll, dCons, dNil, bnd_e, g1, ret_ap, a1, lift_e, truD, Bool.not_false]
  | true =>
    rw [eg] at a1
    refine (sSeq_n (r' := woSl x ps (.row f) (tS p) (some (.row ((w :: ws).map tS))) q5) (s' := ()) ((sIf_f (s' := ()) ?_).trans rfl)).trans ?_
    · simp only [tNotD, dTst, dAll, dCons, dNil, bnd_e, g1, ret_ap, a1, lift_e, truD, Bool.not_true]
    have g2 : (dLc woI (tgN 6) dYes woS : Sl → M Unit D) (woSl x ps (.row f) (tS p) (some (.row ((w :: ws).map tS))) q5) () = .ok (.row ((ws.map dec0).map tS)) () := by
      refine (lc1 (it q5)).trans ((lc_ts (fun v => tS (dec0 v)) ws fun v hv => wo_dec (List.all_eq_true.mp eg v hv) (hm v hv)).trans ?_)
      rw [List.map_map]; rfl
    have fd := flat_dec0 ws
    have j1 := ts_join (xs := ws.map dec0) (by omega)
    have i1 : ixD (.row ((w :: ws).map tS)) (.int 0) = some (tS w) := atI_nat (tS w :: ws.map tS) 0 (by rw [List.length_cons]; omega)
    have d1 : addD (tS w) (tS (ws.map dec0).flatten) = some (tS (w ++ (ws.map dec0).flatten)) := ts_add (by omega)
    have eu : unE p = some (w ++ (ws.map dec0).flatten) := by
      rw [hu]
      show (decL ws).map (w ++ ·) = _
      rw [decL_some ws eg]; rfl
    refine (asg_n (d := tS (w ++ (ws.map dec0).flatten)) (s' := ()) ?_).trans ?_
    · simp only [dOp, dMt, tyIs, dC, dVar, getS, g2, j1, i1, d1, dCons, dNil, bnd_e, ret_ap, lift_e, if_true, List.getElem?_cons_succ, List.getElem?_cons_zero, Option.join_some]
    generalize hu2 : w ++ (ws.map dec0).flatten = u at eu d1 ⊢
    have ul : u.length ≤ 900 := by rw [← hu2, List.length_append]; omega
    generalize D.row ((w :: ws).map tS) = q4'
    show sSeq _ _ (woSl x ps (.row f) (tS p) (some q4') (some (tS u))) () = _
    have hlen := ts_len u
    have hgt := gt_60 u.length
    have es : stepO p = if okL21 u = true then some u else none := by unfold stepO; rw [eu]; rfl
    have g3 : (dLc (dItems (dVar 5)) (tgN 7) dYes woC : Sl → M Unit D) (woSl x ps (.row f) (tS p) (some q4') (some (tS u))) () = .ok (.row (u.map fun c => .bl (okC c))) () := by
      refine (lc1 (xs := (u.map fun c => [c]).map tS) (s' := ()) ?_).trans ((lc_ts (fun v => .bl (okC (v.headD 0))) (u.map fun c => [c]) fun v hv => ?_).trans ?_)
      · show Res.ok (signs ⟨u.toArray⟩) () = _
        rw [sig_ts, List.map_map]; rfl
      · obtain ⟨c, _, rfl⟩ := List.mem_map.mp hv
        exact wo_sign c
      · rw [List.map_map]; rfl
    have a3 : allD [.row (u.map fun c => .bl (okC c))] = some (.bl (u.all okC)) := by
      have := all_bls (u.map okC)
      rw [List.map_map, List.all_map] at this
      exact this
    have ct : (tOrD (dTst (dOp gtD (dAll lenD (dCons (dVar 5) dNil)) (dC (.int 60))) isBl) (tNotD (dTst (dAll allD (dCons (dLc (dItems (dVar 5)) (tgN 7) dYes woC) dNil)) truD)) : Sl → M Unit Bool) (woSl x ps (.row f) (tS p) (some q4') (some (tS u))) () = .ok (!okL21 u) () := by
      unfold okL21
      refine (t_or (a := decide (60 < u.length)) (b := !u.all okC) ?_ fun _ => t_not ?_).trans ?_
      · simp only [hlen, hgt, EV, Nat.reduceAdd, Nat.reduceSub, reduceIte]
      · simp only [dTst, dAll, dCons, dNil, bnd_e, g3, ret_ap, a3, lift_e, truD]
      · by_cases h : u.length ≤ 60
        · rw [decide_eq_false (by omega : ¬ 60 < u.length), decide_eq_true h]; simp
        · rw [decide_eq_true (by omega : 60 < u.length), decide_eq_false h]; simp
    cases eo : okL21 u with
    | false =>
      rw [eo] at ct es
      rw [es, if_neg Bool.false_ne_true]
      exact sSeq_rt (s' := ()) ((sIf_t (s' := ()) ct).trans (ret1 (s' := ()) rfl))
    | true =>
      rw [eo] at ct es
      rw [es, if_pos rfl]
      refine (sSeq_n (s' := ()) ((sIf_f (s' := ()) ct).trans rfl)).trans ?_
      have ha := app_row hf (tS u)
      simp only [ha, EV, Nat.reduceAdd, Nat.reduceSub, reduceIte]
end Nw
set_option Elab.async false
set_option linter.all false
set_option maxRecDepth 100000
set_option maxHeartbeats 4000000
namespace Nw
open PySem PySem.Spec L2
/-! ### the law's way, what is told, steps' texts -/
theorem wo_loop {x ps : D} : ∀ (l : List (List Nat)) (f : List (List Nat)) (q3 q4 q5 : Option D), f.length + l.length ≤ 1000 → (∀ p ∈ l, p.length ≤ 900) →
    (∀ us, stepsO l = some us → ∃ q3' q4' q5', forL (tgN 3) woB (l.map tS) [some x, some ps, some (.row (f.map tS)), q3, q4, q5, none, none] () = some (.next [some x, some ps, some (.row ((f ++ us).map tS)), q3', q4', q5', none, none], ())) ∧
    (stepsO l = none → forL (tgN 3) woB (l.map tS) [some x, some ps, some (.row (f.map tS)), q3, q4, q5, none, none] () = some (.rt .non, ()))
  | [], f, q3, q4, q5, h1, h2 => ⟨fun us hu => by
      cases hu
      rw [List.append_nil]
      exact ⟨q3, q4, q5, rfl⟩, fun hu => by cases hu⟩
  | p :: l, f, q3, q4, q5, h1, h2 => by
    rw [List.length_cons] at h1
    have ht := wo_turn (x := x) (ps := ps) (f := f.map tS) (p := p) (q4 := q4) (q5 := q5) (by rw [List.length_map]; omega) (h2 p List.mem_cons_self)
    have e : forL (tgN 3) woB ((p :: l).map tS) [some x, some ps, some (.row (f.map tS)), q3, q4, q5, none, none] () = loopK (forL (tgN 3) woB (l.map tS)) (woB (woSl x ps (.row (f.map tS)) (tS p) q4 q5) ()) := by
      rw [List.map_cons, forL_t]; rfl
    rw [e, ht]
    have es : stepsO (p :: l) = (stepO p).bind fun u => (stepsO l).map (u :: ·) := rfl
    rw [es]
    cases ep : stepO p with
    | none => exact ⟨(fun us hu => by cases hu), fun _ => rfl⟩
    | some u =>
      rw [Option.bind_some]
      have ih := wo_loop (x := x) (ps := ps) l (f ++ [u]) (some (tS p)) (some (.row ((spl 126 p).map tS))) (some (tS u)) (by rw [List.length_append, List.length_singleton]; omega) fun q hq => h2 q (List.mem_cons_of_mem _ hq)
      have ef : f.map tS ++ [tS u] = (f ++ [u]).map tS := by rw [List.map_append]; rfl
      show (∀ us, _ → ∃ q3' q4' q5', forL (tgN 3) woB (l.map tS) (woSl x ps (.row (f.map tS ++ [tS u])) (tS p) _ _) () = _) ∧ (_ → forL (tgN 3) woB (l.map tS) (woSl x ps (.row (f.map tS ++ [tS u])) (tS p) _ _) () = _)
      rw [ef]
      cases el : stepsO l with
      | none => exact ⟨(fun us hu => by cases hu), fun _ => ih.2 el⟩
      | some vs =>
        refine ⟨fun us hu => ?_, fun hu => by cases hu⟩
        obtain ⟨a, b, c, h⟩ := ih.1 vs el
        cases hu
        rw [List.append_assoc] at h
        exact ⟨a, b, c, h⟩
def dueD : Option (List (List Nat)) → D
  | some ws => tupS ws
  | none => .non
theorem way_of_l (k : Nat) (x : List Nat) (hx : x.length ≤ 900) : (den (k + 1))._law_way_of [tS x] () = .ok (dueD (wayO x)) () := by
  show endK (b__law_way_of (den k) [some (tS x), none, none, none, none, none, none, none] ()) = _
  have h0 : eqD (tS x) (.str "") = some (.bl (decide (x = []))) := by rw [ts_lit0, ts_eq]
  unfold b__law_way_of
  cases x with
  | nil =>
    refine (congrArg endK (sSeq_rt (s' := ()) (d := tupS []) ((sIf_t (s' := ()) ?_).trans (ret1 (d := tupS []) (s' := ()) ?_)))).trans rfl
    · simp only [h0, EV, Nat.reduceAdd, Nat.reduceSub, reduceIte]
      rfl
    · simp only [z0, EV, Nat.reduceAdd, Nat.reduceSub, reduceIte]
      rfl
  | cons c t =>
    rw [decide_eq_false (by intro z; cases z)] at h0
    refine (congrArg endK (sSeq_n (r' := [some (tS (c :: t)), none, none, none, none, none, none, none]) (s' := ()) ((sIf_f (s' := ()) (by simp only [h0, EV, Nat.reduceAdd, Nat.reduceSub, reduceIte])).trans rfl))).trans ?_
    obtain ⟨w, ws, e⟩ := spl_ne 47 (c :: t)
    have h1 : splitDD (tS (c :: t)) [.str "/"] = some (.row ((spl 47 (c :: t)).map tS)) := ts_split (l := c :: t) 47 (by omega)
    have hml := spl_mem 47 (c :: t)
    have hl := spl_len 47 (c :: t)
    rw [e] at h1 hml hl
    rw [List.length_cons] at hl
    refine (congrArg endK ((asg_n (d := .row ((w :: ws).map tS)) (s' := ()) (by simp only [h1, EV, Nat.reduceAdd, Nat.reduceSub, reduceIte])).trans (asgO_n (d := .row (([] : List (List Nat)).map tS)) (s' := ()) (by simp only [z0, EV, Nat.reduceAdd, Nat.reduceSub, reduceIte]) rfl))).trans ?_
    have hs : slD (.row ((w :: ws).map tS)) (some 1) none = some (.row (ws.map tS)) := by
      show some (D.row (cutL ((w :: ws).map tS) (some ((1 : Nat) : Int)) none)) = _
      unfold cutL
      rw [HT.sIx_nat, HT.sIx_none, Nat.min_eq_left (by rw [List.map_cons, List.length_cons]; omega)]
      rw [List.take_of_length_le (by rw [List.length_drop]; exact Nat.le_refl _)]
      rfl
    have i1 : ixD (.row ((w :: ws).map tS)) (.int 0) = some (tS w) := atI_nat (tS w :: ws.map tS) 0 (by rw [List.length_cons]; omega)
    have hm : ∀ v ∈ ws, v.length ≤ 900 := fun v hv => by have := hml v (List.mem_cons_of_mem _ hv); omega
    generalize D.row ((w :: ws).map tS) = ps at hs i1 ⊢
    have lp := wo_loop (x := tS (c :: t)) (ps := ps) ws [] none none none (by simp only [List.length_nil]; omega) hm
    have it : (dItems (dSl (dVar 1) (pSome (dC (.int 1))) pNone) : Sl → M Unit (List D)) [some (tS (c :: t)), some ps, some (.row (([] : List (List Nat)).map tS)), none, none, none, none, none] () = .ok (ws.map tS) () := by
      simp only [dSl, pSome, pNone, intD, hs, EV, Nat.reduceAdd, Nat.reduceSub, reduceIte]
    have e0 : eqD (tS w) (.str "") = some (.bl (decide (w = []))) := by rw [ts_lit0, ts_eq]
    have hw : wayO (c :: t) = if w = [] then stepsO ws else none := by
      by_cases hc : c = 47
      · have es : spl 47 (c :: t) = [] :: spl 47 t := if_pos hc
        rw [es] at e
        obtain ⟨e1, e2⟩ := List.cons.inj e
        rw [← e1, if_pos rfl, ← e2]
        exact if_pos hc
      · obtain ⟨u, us, eu⟩ := spl_ne 47 t
        rw [spl_off hc eu] at e
        obtain ⟨e1, _⟩ := List.cons.inj e
        rw [← e1, if_neg (by intro z; cases z)]
        exact if_neg hc
    rw [hw]
    cases el : stepsO ws with
    | none =>
      have hr : (if w = [] then (none : Option (List (List Nat))) else none) = none := by split <;> rfl
      rw [hr]
      exact (congrArg endK (for_rt it (lp.2 el))).trans rfl
    | some us =>
      obtain ⟨q3, q4, q5, hlp⟩ := lp.1 us el
      refine (congrArg endK (for_n it hlp)).trans ?_
      rw [List.nil_append]
      by_cases hw0 : w = []
      · rw [decide_eq_true hw0] at e0
        rw [if_pos hw0]
        refine (congrArg endK (ret1 (d := tupS us) (s' := ()) ?_)).trans rfl
        simp only [i1, e0, EV, Nat.reduceAdd, Nat.reduceSub, reduceIte]
        rfl
      · rw [decide_eq_false hw0] at e0
        rw [if_neg hw0]
        refine (congrArg endK (ret1 (d := .non) (s' := ()) ?_)).trans rfl
        simp only [i1, e0, EV, Nat.reduceAdd, Nat.reduceSub, reduceIte]
abbrev refT : D := .tup [.str "refused", .str "way"]
abbrev tlB (dn : Den) : Sl → M Unit D := dIf (dTst (dOp eqD (dVar 0) (dC (.int 0))) isBl) (dCall 1 (fun ds => up (dn.written_way ds)) (dCons (dVar 1) dNil)) (dCall 1 (fun ds => up (dn.read_way ds)) (dCons (dVar 1) dNil))
theorem tl_ok {K : Nat} {i : Int} {a d : D} (hc : tlB (den K) [some (.int i), some a, some .non, some .non, none] () = .ok d ()) : (den (K + 1))._law_told [.int i, a] () = .ok d () := by
  have n1 : isND false .non = some (.bl true) := rfl
  show endK (b__law_told (den K) [some (.int i), some a, none, none, none] ()) = _
  unfold b__law_told
  have ht : sTryH [.NestError, .BadThing, .BadText, .BadWay, .NoWay, .NoGo, .Nothing] .NestError 4 2 (sAsg (tgN 3) (tlB (den K))) [some (.int i), some a, some .non, some .non, none] () = some (.next [some (.int i), some a, some .non, some d, none], ()) := by
    show tryK _ _ _ _ (sAsg (tgN 3) (tlB (den K)) _ ()) = _
    rw [asg1 hc]; rfl
  refine (congrArg endK ((asg_n (d := .non) (s' := ()) rfl).trans ((asg_n (d := .non) (s' := ()) rfl).trans ((sSeq_n ht).trans (ret1 (d := d) (s' := ()) ?_))))).trans rfl
  simp only [n1, EV, Nat.reduceAdd, Nat.reduceSub, reduceIte]
theorem tl_x {K : Nat} {i : Int} {a : D} (hc : tlB (den (K + 1)) [some (.int i), some a, some .non, some .non, none] () = .exc ⟨.BadWay, []⟩ ()) : (den (K + 2))._law_told [.int i, a] () = .ok refT () := by
  have n1 : isND false (.exc .BadWay []) = some (.bl false) := rfl
  have hr := refW K
  show endK (b__law_told (den (K + 1)) [some (.int i), some a, none, none, none] ()) = _
  unfold b__law_told
  have ht : sTryH [.NestError, .BadThing, .BadText, .BadWay, .NoWay, .NoGo, .Nothing] .NestError 4 2 (sAsg (tgN 3) (tlB (den (K + 1)))) [some (.int i), some a, some .non, some .non, none] () = some (.next [some (.int i), some a, some (.exc .BadWay []), some .non, none], ()) := by
    show tryK _ _ _ _ (sAsg (tgN 3) (tlB (den (K + 1))) _ ()) = _
    rw [asg_x hc]
    show (if Cl.BadWay ∈ ([.NestError, .BadThing, .BadText, .BadWay, .NoWay, .NoGo, .Nothing] : List Cl) ∧ 4 < 5 then (if subC .BadWay .NestError = true then some (Flw.next [some (.int i), some a, some (.exc .BadWay []), some .non, none], ()) else some (.thr ⟨.BadWay, []⟩ [some (.int i), some a, some .non, some .non, none], ())) else none) = _
    rw [if_pos ⟨by decide, by omega⟩, if_pos (by decide)]
  refine (congrArg endK ((asg_n (d := .non) (s' := ()) rfl).trans ((asg_n (d := .non) (s' := ()) rfl).trans ((sSeq_n ht).trans (ret1 (d := refT) (s' := ()) ?_))))).trans rfl
  generalize D.exc .BadWay [] = xd at n1 hr ⊢
  simp only [n1, hr, EV, Nat.reduceAdd, Nat.reduceSub, reduceIte]
theorem eq_00 : eqD (.int 0) (.int 0) = some (.bl true) := by kernel_rfl
theorem eq_10 : eqD (.int 1) (.int 0) = some (.bl false) := by kernel_rfl
theorem told_0 (k : Nat) {ws : List (List Nat)} (hn : ws.length ≤ 100) : (den (k + 7))._law_told [.int 0, tupS ws] () = .ok (if ws.all okL21 = true then tS (wayL ws) else refT) () := by
  have e := eq_00
  cases h : ws.all okL21 with
  | true =>
    have hc := written_l (k + 1) h hn
    rw [if_pos rfl]
    exact tl_ok (by simp only [tlB, e, hc, EV, Nat.reduceAdd, Nat.reduceSub, reduceIte])
  | false =>
    have hc := written_bad (k + 1) h
    rw [if_neg Bool.false_ne_true]
    exact tl_x (K := k + 5) (by simp only [tlB, e, hc, EV, Nat.reduceAdd, Nat.reduceSub, reduceIte])
def dueT : Option (List (List Nat)) → D
  | some ws => tupS ws
  | none => refT
theorem told_1 (k : Nat) {x : List Nat} (hx : x.length ≤ 900) : (den (k + 7))._law_told [.int 1, tS x] () = .ok (dueT (wayO x)) () := by
  have e := eq_10
  have hc := read_way_l (k + 1) x hx
  generalize tS x = q at hc ⊢
  cases h : wayO x with
  | some ws =>
    rw [h] at hc
    have hc : (den (k + 6)).read_way [q] () = .ok (tupS ws) () := hc
    show _ = Res.ok (tupS ws) ()
    exact tl_ok (by simp only [tlB, e, hc, EV, Nat.reduceAdd, Nat.reduceSub, reduceIte])
  | none =>
    rw [h] at hc
    have hc : (den (k + 6)).read_way [q] () = .exc ⟨.BadWay, []⟩ () := hc
    exact tl_x (K := k + 5) (by simp only [tlB, e, hc, EV, Nat.reduceAdd, Nat.reduceSub, reduceIte])
theorem disp_t : dispD [.str "~", .str "~0", .str "/", .str "~1"] = some (.tab [(.inr "~", .str "~0"), (.inr "/", .str "~1")]) := by kernel_rfl
theorem get_t (c : Nat) : get2D (.tab [(.inr "~", .str "~0"), (.inr "/", .str "~1")]) [tS [c], tS [c]] = some (tS (esc1 c)) := by
  show some ((valD [(.inr (sg 126), tS [126, 48]), (.inr (sg 47), tS [126, 49])] (.inr (sg c))).getD (tS [c])) = _
  congr 1
  unfold esc1
  have inj : ∀ a b : Nat, (Sum.inr (sg a) : Key) = .inr (sg b) ↔ a = b := fun a b => ⟨fun h => (List.cons.inj (congrArg cl (Sum.inr.inj h))).1, fun h => by rw [h]⟩
  unfold valD
  by_cases h1 : c = 126
  · rw [List.find?_cons_of_pos (by simpa using (inj 126 c).mpr h1.symm), if_pos h1]; rfl
  · rw [List.find?_cons_of_neg (by simpa using fun z => h1 ((inj 126 c).mp (by rw [z])).symm), if_neg h1]
    by_cases h2 : c = 47
    · rw [List.find?_cons_of_pos (by simpa using (inj 47 c).mpr h2.symm), if_pos h2]; rfl
    · rw [List.find?_cons_of_neg (by simpa using fun z => h2 ((inj 47 c).mp (by rw [z])).symm), if_neg h2]; rfl
theorem step_text_l (k : Nat) {l : List Nat} (hl : l.length ≤ 60) : (den (k + 1))._law_step_text [tS l] () = .ok (tS (esc l)) () := by
  show endK (b__law_step_text (den k) [some (tS l), none] ()) = _
  have hd := disp_t
  have h1 : lcA (tgN 1) dYes (dMt "dict" get2D (dAll dispD (dCons (dC (.str "~")) (dCons (dC (.str "~0")) (dCons (dC (.str "/")) (dCons (dC (.str "~1")) dNil))))) (dCons (dVar 1) (dCons (dVar 1) dNil))) [some (tS l), none] [] ((l.map fun c => [c]).map tS) () = .ok (.row ((l.map esc1).map tS)) () := by
    refine (lc_ts (fun v => tS (esc1 (v.headD 0))) (l.map fun c => [c]) fun v hv => ?_).trans ?_
    · obtain ⟨c, _, rfl⟩ := List.mem_map.mp hv
      have hg := get_t c
      generalize tS [c] = q at hg ⊢
      simp only [hd, hg, EV, Nat.reduceAdd, Nat.reduceSub, reduceIte]
      rfl
    · rw [List.map_map, List.map_map]; rfl
  have hl2 : (dLc (dItems (dVar 0)) (tgN 1) dYes (dMt "dict" get2D (dAll dispD (dCons (dC (.str "~")) (dCons (dC (.str "~0")) (dCons (dC (.str "/")) (dCons (dC (.str "~1")) dNil))))) (dCons (dVar 1) (dCons (dVar 1) dNil))) : Sl → M Unit D) [some (tS l), none] () = .ok (.row ((l.map esc1).map tS)) () := by
    refine (lc1 (xs := (l.map fun c => [c]).map tS) (s' := ()) ?_).trans h1
    show Res.ok (signs ⟨l.toArray⟩) () = _
    rw [sig_ts, List.map_map]; rfl
  have hj := ts_join (xs := l.map esc1) (by have := esc_len l; unfold esc at this; omega)
  unfold b__law_step_text
  refine (congrArg endK (ret1 (d := tS (esc l)) (s' := ()) ?_)).trans rfl
  simp only [dMt, tyIs, dC, hl2, hj, dCons, dNil, bnd_e, ret_ap, lift_e, if_true]
  rfl
/-! ### read again -/
theorem spl_way : ∀ (ws : List (List Nat)) (w : List Nat), spl 47 (esc w ++ wayL ws) = (w :: ws).map esc
  | [], w => by
    show spl 47 (esc w ++ []) = [esc w]
    rw [List.append_nil]
    exact spl_none _ (esc_no w)
  | v :: ws, w => by
    rw [wayL_cons]
    show spl 47 (esc w ++ 47 :: (esc v ++ wayL ws)) = _
    rw [spl_join _ _ (esc_no w), spl_way ws v]
    rfl
theorem steps_esc : ∀ ws : List (List Nat), ws.all okL21 = true → stepsO (ws.map esc) = some ws
  | [], _ => rfl
  | w :: ws, h => by
    rw [List.all_cons, Bool.and_eq_true] at h
    show (stepO (esc w)).bind (fun u => (stepsO (ws.map esc)).map (u :: ·)) = _
    rw [steps_esc ws h.2]
    unfold stepO
    rw [unE_esc, Option.bind_some, if_pos h.1]; rfl
theorem wayO_c (c : Nat) (t : List Nat) (h : c = 47) : wayO (c :: t) = stepsO (spl 47 t) := if_pos h
theorem wayO_wayL {ws : List (List Nat)} (h : ws.all okL21 = true) : wayO (wayL ws) = some ws := by
  cases ws with
  | nil => rfl
  | cons w ws =>
    have e : wayO (47 :: (esc w ++ wayL ws)) = stepsO (spl 47 (esc w ++ wayL ws)) := wayO_c 47 _ rfl
    rw [wayL_cons]
    show wayO (47 :: (esc w ++ wayL ws)) = _
    rw [e, spl_way, steps_esc _ h]
end Nw
set_option Elab.async false
set_option linter.all false
set_option maxRecDepth 100000
set_option maxHeartbeats 4000000
namespace Nw
open PySem PySem.Spec L2
/-! ### the law -/
abbrev qL (sc : D) (ws : List (List Nat)) (q3 q4 q5 q6 q7 q8 q9 : Option D) : Sl := [some sc, some (.obj 0), some (.row (ws.map tS)), q3, q4, q5, q6, q7, q8, q9, none, none]
abbrev wdB (d : Den) : Sl → Mo Nat := sSeq (sAsg (tgN 4) (dCall 2 d._law_word (dCons (dVar 0) (dCons (dVar 1) dNil))))
    (sSeq (sIf (dTst (dOp eqD (dCall 3 d._law_draw (dCons (dVar 0) (dCons (dVar 1) (dCons (dC (.int 3)) dNil)))) (dC (.int 0))) isBl) (sAsg (tgN 4) (dOp addD (dVar 4) (dCall 3 d._law_pick (dCons (dVar 0) (dCons (dVar 1) (dCons (dAll rowD (dCons (dC (.str "~")) (dCons (dC (.str "/")) (dCons (dC (.str "~0")) (dCons (dC (.str "~~/")) (dCons (dC (.str "/~1")) dNil)))))) dNil)))))) sNil)
    (sOwn1 "list" 2 appD (dVar 4)))
theorem okL21_of {l : List Nat} (h1 : l.length ≤ 60) (h2 : l.all okC = true) : okL21 l = true := by
  unfold okL21
  rw [decide_eq_true h1, h2]; rfl
theorem z5 : (5 : Nat) ≤ sizeLine := by rw [sizeLine_eq]; decide
theorem z7 : (7 : Nat) ≤ sizeLine := by rw [sizeLine_eq]; decide
theorem wd_turn (ns : List Int) (k : Nat) {ws : List (List Nat)} (q3 q4 : Option D) (s : Nat) (hw : ws.length < 1000) (hs : s + 20 ≤ sizeLine) : ∃ l q4' s', wdB (den (k + 5)) (qL (scriptD ns) ws q3 q4 none none none none none) s = some (.next (qL (scriptD ns) (ws ++ [l]) q3 q4' none none none none none), s') ∧ okL21 l = true ∧ s' ≤ s + 20 := by
  obtain ⟨w, s1, e1, w1, w2, w3⟩ := word_eq ns k s (by omega)
  obtain ⟨v, v0, v1, hv⟩ := draw_eq ns (k + 2) s1 3 (by decide) (by omega)
  have hok : (cl w).all okC = true := (Bool.and_eq_true _ _ ▸ w1 : _ ∧ _).2
  have wl : (cl w).length ≤ 9 := by rw [cl_len]; exact w2
  have e1 : (den (k + 5))._law_word [scriptD ns, .obj 0] s = .ok (tS (cl w)) s1 := e1
  generalize cl w = l at hok wl e1
  have ap : ∀ u : List Nat, appD (.row (ws.map tS)) (tS u) = some (.row ((ws ++ [u]).map tS)) := fun u => by
    rw [app_row (by rw [List.length_map]; exact hw), List.map_append]; rfl
  have pre : ∀ K : Sl → Mo Nat, sSeq (sAsg (tgN 4) (dCall 2 (den (k + 5))._law_word (dCons (dVar 0) (dCons (dVar 1) dNil)))) K (qL (scriptD ns) ws q3 q4 none none none none none) s = K (qL (scriptD ns) ws q3 (some (tS l)) none none none none none) s1 := fun K =>
    asg_n (d := tS l) (s' := s1) (by simp only [qL, e1, EV, Nat.reduceAdd, Nat.reduceSub, reduceIte])
  by_cases h : v = 0
  · subst h
    obtain ⟨x, hx, hp⟩ := pick_eq ns (k + 1) (s1 + 1) [.str "~", .str "/", .str "~0", .str "~~/", .str "/~1"] (fun z => nomatch z) (by omega)
    have hx2 : ∃ m, x = tS m ∧ m.length ≤ 3 ∧ m.all okC = true := by
      simp only [List.mem_cons, List.not_mem_nil, or_false] at hx
      rcases hx with rfl | rfl | rfl | rfl | rfl
      · exact ⟨[126], rfl, by decide, by decide⟩
      · exact ⟨[47], rfl, by decide, by decide⟩
      · exact ⟨[126, 48], rfl, by decide, by decide⟩
      · exact ⟨[126, 126, 47], rfl, by decide, by decide⟩
      · exact ⟨[47, 126, 49], rfl, by decide, by decide⟩
    obtain ⟨m, rfl, hm, hmo⟩ := hx2
    have ha : addD (tS l) (tS m) = some (tS (l ++ m)) := ts_add (by omega)
    have e0 := eq_00
    refine ⟨l ++ m, some (tS (l ++ m)), s1 + 1 + 1, ?_, okL21_of (by rw [List.length_append]; omega) (by rw [List.all_append, hok, hmo]; rfl), by omega⟩
    refine (pre _).trans ?_
    refine (sSeq_n (r' := qL (scriptD ns) ws q3 (some (tS (l ++ m))) none none none none none) (s' := s1 + 1 + 1) ((sIf_t (s' := s1 + 1) ?_).trans (asg1 ?_))).trans ?_
    · simp only [qL, hv, e0, EV, Nat.reduceAdd, Nat.reduceSub, reduceIte]
    · simp only [qL, hp, ha, z5, EV, Nat.reduceAdd, Nat.reduceSub, reduceIte]
    · have ha2 := ap (l ++ m)
      simp only [qL, ha2, EV, Nat.reduceAdd, Nat.reduceSub, reduceIte]
  · have e0 : eqD (.int v) (.int 0) = some (.bl false) := by rw [eqD_int, decide_eq_false h]
    refine ⟨l, some (tS l), s1 + 1, ?_, okL21_of (by omega) hok, by omega⟩
    refine (pre _).trans ?_
    refine (sSeq_n (r' := qL (scriptD ns) ws q3 (some (tS l)) none none none none none) (s' := s1 + 1) ((sIf_f (s' := s1 + 1) ?_).trans rfl)).trans ?_
    · simp only [qL, hv, e0, EV, Nat.reduceAdd, Nat.reduceSub, reduceIte]
    · have ha2 := ap l
      simp only [qL, ha2, EV, Nat.reduceAdd, Nat.reduceSub, reduceIte]
theorem wd_loop (ns : List Int) (k : Nat) : ∀ (xs : List D) (ws : List (List Nat)) (q3 q4 : Option D) (s : Nat), ws.all okL21 = true → ws.length + xs.length ≤ 100 → s + 20 * xs.length ≤ sizeLine →
    ∃ ws' q3' q4' s', forL (tgN 3) (wdB (den (k + 5))) xs (qL (scriptD ns) ws q3 q4 none none none none none) s = some (.next (qL (scriptD ns) ws' q3' q4' none none none none none), s') ∧ ws'.all okL21 = true ∧ ws'.length = ws.length + xs.length ∧ s' ≤ s + 20 * xs.length
  | [], ws, q3, q4, s, h1, h2, h3 => ⟨ws, q3, q4, s, rfl, h1, rfl, Nat.le_refl _⟩
  | x :: xs, ws, q3, q4, s, h1, h2, h3 => by
    rw [List.length_cons] at h2 h3
    obtain ⟨l, q4', s1, e1, o1, b1⟩ := wd_turn ns k (ws := ws) (some x) q4 s (by omega) (by omega)
    obtain ⟨ws', q3', q4'', s2, e2, o2, b2, b3⟩ := wd_loop ns k xs (ws ++ [l]) (some x) q4' s1 (by rw [List.all_append, h1, Bool.true_and, List.all_cons, o1]; rfl) (by rw [List.length_append, List.length_singleton]; omega) (by omega)
    refine ⟨ws', q3', q4'', s2, ?_, o2, by rw [b2, List.length_append, List.length_singleton, List.length_cons]; omega, by rw [List.length_cons]; omega⟩
    rw [forL_t]
    show loopK _ (wdB (den (k + 5)) (qL (scriptD ns) ws (some x) q4 none none none none none) s) = _
    rw [e1]
    exact e2
theorem ts_drop2 (l : List Nat) (n : Nat) : slD (tS l) (some (n : Int)) none = some (tS (l.drop n)) := by
  by_cases h : n ≤ l.length
  · exact ts_drop l n h
  · show some (D.str (cutS ⟨l.toArray⟩ (some (n : Int)) none)) = _
    unfold cutS
    rw [HT.sIx_nat, HT.sIx_none]
    show some (tS ((l.drop (min n l.length)).take (l.length - min n l.length))) = _
    rw [Nat.min_eq_right (by omega), List.drop_eq_nil_of_le (Nat.le_refl _), List.drop_eq_nil_of_le (by omega : l.length ≤ n), List.take_nil]
abbrev muB (d : Den) : Sl → Mo Nat := sSeq (sAsg (tgN 7) (dCall 3 d._law_draw (dCons (dVar 0) (dCons (dVar 1) (dCons (dOp addD (dAll lenD (dCons (dVar 6) dNil)) (dC (.int 1))) dNil)))))
    (sSeq (sAsg (tgN 8) (dCall 3 d._law_pick (dCons (dVar 0) (dCons (dVar 1) (dCons (dAll rowD (dCons (dC (.str "~")) (dCons (dC (.str "/")) (dCons (dC (.str "0")) (dCons (dC (.str "1")) (dCons (dC (.str "2")) (dCons (dC (.str "a")) (dCons (dC (.str "\n")) dNil)))))))) dNil)))))
    (sSeq (sAsg (tgN 9) (dCall 3 d._law_draw (dCons (dVar 0) (dCons (dVar 1) (dCons (dC (.int 3)) dNil)))))
    (sAsg (tgN 6) (dOp addD (dOp addD (dSl (dVar 6) pNone (pSome (dVar 7))) (dIf (dTst (dOp ltD (dVar 9) (dC (.int 2))) isBl) (dVar 8) (dC (.str "")))) (dSl (dVar 6) (pSome (dOp addD (dVar 7) (dAll toIntD (dCons (dOp gtD (dVar 9) (dC (.int 0))) dNil)))) pNone)))))
theorem mu_turn (ns : List Int) (k : Nat) {sc2 q3 q4 q5 q7 q8 q9 : Option D} {l : List Nat} (s : Nat) (hl : l.length ≤ 800) (hs : s + 3 ≤ sizeLine) : ∃ l' q7' q8' q9' s', muB (den (k + 4)) [some (scriptD ns), some (.obj 0), sc2, q3, q4, q5, some (tS l), q7, q8, q9, none, none] s = some (.next [some (scriptD ns), some (.obj 0), sc2, q3, q4, q5, some (tS l'), q7', q8', q9', none, none], s') ∧ l'.length ≤ l.length + 1 ∧ s' ≤ s + 3 := by
  obtain ⟨v, v0, v1, hv⟩ := draw_eq ns (k + 1) s ((l.length : Int) + 1) (by omega) (by omega)
  obtain ⟨n, rfl⟩ : ∃ n : Nat, v = (n : Int) := ⟨v.toNat, by omega⟩
  obtain ⟨x, hx, hp⟩ := pick_eq ns k (s + 1) [.str "~", .str "/", .str "0", .str "1", .str "2", .str "a", .str "\n"] (fun z => nomatch z) (by omega)
  have hx2 : ∃ m, x = tS m ∧ m.length ≤ 1 := by
    simp only [List.mem_cons, List.not_mem_nil, or_false] at hx
    rcases hx with rfl | rfl | rfl | rfl | rfl | rfl | rfl
    · exact ⟨[126], rfl, by decide⟩
    · exact ⟨[47], rfl, by decide⟩
    · exact ⟨[48], rfl, by decide⟩
    · exact ⟨[49], rfl, by decide⟩
    · exact ⟨[50], rfl, by decide⟩
    · exact ⟨[97], rfl, by decide⟩
    · exact ⟨[10], rfl, by decide⟩
  obtain ⟨m, rfl, hm⟩ := hx2
  obtain ⟨u, u0, u1, hu⟩ := draw_eq ns (k + 1) (s + 1 + 1) 3 (by decide) (by omega)
  have hlen := ts_len l
  have h1 : addD (.int (l.length : Int)) (.int 1) = some (.int ((l.length : Int) + 1)) := rfl
  have ht := ts_take l n (by omega)
  have h2 := lt_e u 2
  have h3 := gt_e u 0
  have h4 : toIntD [.bl (decide (0 < u))] = some (.int ((if decide (0 < u) = true then 1 else 0 : Nat) : Int)) := by
    show some (D.int (if decide (0 < u) = true then 1 else 0)) = _
    cases decide (0 < u) <;> rfl
  have h5 := add_nat n (if decide (0 < u) = true then 1 else 0)
  have h6 := ts_drop2 l (n + (if decide (0 < u) = true then 1 else 0))
  have lt : (l.take n).length ≤ n := by rw [List.length_take]; exact Nat.min_le_left _ _
  have ld : (l.drop (n + (if decide (0 < u) = true then 1 else 0))).length ≤ l.length - n := by rw [List.length_drop]; omega
  generalize hM : (if decide (u < 2) = true then m else []) = mm
  have lm : mm.length ≤ 1 := by
    rw [← hM]
    split
    · exact hm
    · exact Nat.zero_le _
  have h7 : addD (tS (l.take n)) (tS mm) = some (tS (l.take n ++ mm)) := ts_add (by omega)
  have h8 : addD (tS (l.take n ++ mm)) (tS (l.drop (n + (if decide (0 < u) = true then 1 else 0)))) = some (tS (l.take n ++ mm ++ l.drop (n + (if decide (0 < u) = true then 1 else 0)))) := ts_add (by rw [List.length_append]; omega)
  generalize l.drop (n + (if decide (0 < u) = true then 1 else 0)) = dl at h6 h8 ld
  generalize n + (if decide (0 < u) = true then 1 else 0) = ne at h5 h6
  generalize ((if decide (0 < u) = true then 1 else 0 : Nat) : Int) = ei at h4 h5
  refine ⟨l.take n ++ mm ++ dl, some (.int (n : Int)), some (tS m), some (.int u), s + 1 + 1 + 1, ?_, by rw [List.length_append, List.length_append]; omega, by omega⟩
  refine (asg_n (d := .int (n : Int)) (s' := s + 1) (by simp only [hlen, h1, hv, EV, Nat.reduceAdd, Nat.reduceSub, reduceIte])).trans ?_
  refine (asg_n (d := tS m) (s' := s + 1 + 1) (by simp only [hp, z7, EV, Nat.reduceAdd, Nat.reduceSub, reduceIte])).trans ?_
  refine (asg_n (d := .int u) (s' := s + 1 + 1 + 1) (by simp only [hu, EV, Nat.reduceAdd, Nat.reduceSub, reduceIte])).trans ?_
  refine asg1 ?_
  have l0 : D.str "" = tS [] := rfl
  cases hb : decide (u < 2) with
  | true =>
    rw [hb] at h2 hM
    rw [if_pos rfl] at hM
    subst hM
    simp only [dSl, pSome, pNone, intD, ht, h2, h3, h4, h5, h6, h7, h8, EV, Nat.reduceAdd, Nat.reduceSub, reduceIte]
  | false =>
    rw [hb] at h2 hM
    rw [if_neg Bool.false_ne_true] at hM
    subst hM
    simp only [dSl, pSome, pNone, intD, ht, h2, h3, h4, h5, h6, l0, h7, h8, EV, Nat.reduceAdd, Nat.reduceSub, reduceIte]
theorem mu_loop (ns : List Int) (k : Nat) {sc2 q4 q5 : Option D} : ∀ (xs : List D) (q3 q7 q8 q9 : Option D) (l : List Nat) (s : Nat), l.length + xs.length ≤ 800 → s + 3 * xs.length ≤ sizeLine → ∃ l' q3' q7' q8' q9' s', forL (tgN 3) (muB (den (k + 4))) xs [some (scriptD ns), some (.obj 0), sc2, q3, q4, q5, some (tS l), q7, q8, q9, none, none] s = some (.next [some (scriptD ns), some (.obj 0), sc2, q3', q4, q5, some (tS l'), q7', q8', q9', none, none], s') ∧ l'.length ≤ 800
  | [], q3, q7, q8, q9, l, s, h1, h2 => ⟨l, q3, q7, q8, q9, s, rfl, by simpa using h1⟩
  | x :: xs, q3, q7, q8, q9, l, s, h1, h2 => by
    rw [List.length_cons] at h1 h2
    obtain ⟨l1, a7, a8, a9, s1, e1, b1, b2⟩ := mu_turn ns k (sc2 := sc2) (q3 := some x) (q4 := q4) (q5 := q5) (q7 := q7) (q8 := q8) (q9 := q9) (l := l) s (by omega) (by omega)
    obtain ⟨l', q3', q7', q8', q9', s', e2, b3⟩ := mu_loop ns k (sc2 := sc2) (q4 := q4) (q5 := q5) xs (some x) a7 a8 a9 l1 s1 (by omega) (by omega)
    refine ⟨l', q3', q7', q8', q9', s', ?_, b3⟩
    rw [forL_t]
    show loopK _ (muB (den (k + 4)) [some (scriptD ns), some (.obj 0), sc2, some x, q4, q5, some (tS l), q7, q8, q9, none, none] s) = _
    rw [e1]
    exact e2
theorem eqLN_refl (n : Nat) : ∀ ws : List (List Nat), eqLN (eqN (n + 1)) (ws.map tS) (ws.map tS) = some true
  | [] => rfl
  | w :: ws => by
    have e : eqN (n + 1) (tS w) (tS w) = some ((⟨w.toArray⟩ : Str) == ⟨w.toArray⟩) := rfl
    rw [List.map_cons]
    unfold eqLN
    rw [e, eqLN_refl n ws, beq_dec, decide_eq_true rfl]; rfl
theorem ne_tup (ws : List (List Nat)) : neD (tupS ws) (tupS ws) = some (.bl false) := by
  have h : eqN 60 (tupS ws) (tupS ws) = (eqLN (eqN 59) (ws.map tS) (ws.map tS)).map fun a => a && ((ws.map tS).length == (ws.map tS).length) := rfl
  unfold neD
  rw [h, eqLN_refl]
  show some (D.bl (!(true && ((ws.map tS).length == (ws.map tS).length)))) = _
  rw [beq_dec, decide_eq_true rfl]; rfl
theorem ne_ref : neD refT refT = some (.bl false) := by kernel_rfl
theorem eq_ref : eqD refT refT = some (.bl true) := by kernel_rfl
theorem ne_due (o : Option (List (List Nat))) : neD (dueT o) (dueT o) = some (.bl false) := by
  cases o with
  | none => exact ne_ref
  | some ws => exact ne_tup ws
end Nw
set_option Elab.async false
set_option linter.all false
set_option maxRecDepth 100000
set_option maxHeartbeats 4000000
namespace Nw
open PySem PySem.Spec L2
def mx (ws : List (List Nat)) : Int := maxL 0 (ws.map fun w => (w.length : Int))
theorem mx_le {ws : List (List Nat)} (h : ws.all okL21 = true) : mx ws ≤ 60 := by
  rcases (maxL_spec (ws.map fun w => (w.length : Int)) 0).1 with e | e
  · unfold mx; rw [e]; omega
  · obtain ⟨w, hw, e2⟩ := List.mem_map.mp e
    unfold mx
    rw [← e2]
    have := okL21_len (List.all_eq_true.mp h w hw)
    omega
theorem mx_gt {ws : List (List Nat)} {w : List Nat} (h : w ∈ ws) (hl : 60 < w.length) : 60 < mx ws := by
  have := (maxL_spec (ws.map fun w => (w.length : Int)) 0).2.2 (w.length : Int) (List.mem_map.mpr ⟨w, h, rfl⟩)
  unfold mx
  omega
abbrev lnC : Sl → M Nat Bool := dTst (dOp gtD (dAll maxD (dCons (dOp addD (dAll rowD (dCons (dC (.int 0)) dNil)) (dLc (dItems (dVar 2)) (tgN 11) dYes (dAll lenD (dCons (dVar 11) dNil)))) dNil)) (dC (.int 60))) isBl
theorem lc_tsN {i : Nat} {f : Sl → M Nat D} {r : Sl} {s : Nat} (g : List Nat → D) (ws : List (List Nat)) (h : ∀ w ∈ ws, f (r.set i (some (tS w))) s = .ok (g w) s) : lcA (tgN i) dYes f r [] (ws.map tS) s = .ok (.row (ws.map g)) s := by
  rw [lcA_map (fun d => match d with | .str x => g (cl x) | _ => .non) _ [] fun y hy => ?_, List.nil_append, List.map_map]
  · rfl
  · obtain ⟨w, hw, rfl⟩ := List.mem_map.mp hy
    exact h w hw
theorem ln_eq {sc : D} {ws : List (List Nat)} {q3 q4 q5 q6 q7 q8 q9 : Option D} (s : Nat) (hw : ws.length ≤ 1000) : lnC (qL sc ws q3 q4 q5 q6 q7 q8 q9) s = .ok (decide (60 < mx ws)) s := by
  have h1 : (dLc (dItems (dVar 2)) (tgN 11) dYes (dAll lenD (dCons (dVar 11) dNil)) : Sl → M Nat D) (qL sc ws q3 q4 q5 q6 q7 q8 q9) s = .ok (.row (ws.map fun w => .int (w.length : Int))) s :=
    (lc1 (xs := ws.map tS) (s' := s) rfl).trans (lc_tsN (fun w => .int (w.length : Int)) ws fun w _ => by
      have := ts_len w
      simp only [qL, this, EV, Nat.reduceAdd, Nat.reduceSub, reduceIte])
  have h2 : addD (.row [.int 0]) (.row (ws.map fun w => .int (w.length : Int))) = some (.row (((0 : Int) :: ws.map fun w => (w.length : Int)).map D.int)) := by
    show (if _ then _ else _) = _
    rw [if_pos (by rw [sizeLine_eq, List.length_singleton, List.length_map]; omega), List.map_cons, List.map_map]
    rfl
  have h3 : maxD [.row (((0 : Int) :: ws.map fun w => (w.length : Int)).map D.int)] = some (.int (mx ws)) := by
    show (intsD _).bind _ = _
    rw [intsD_map]; rfl
  have h4 : gtD (.int (mx ws)) (.int 60) = some (.bl (decide (60 < mx ws))) := rfl
  unfold lnC
  generalize D.row (((0 : Int) :: ws.map fun w => (w.length : Int)).map D.int) = q2 at h2 h3
  simp only [dTst, dOp, dAll, dCons, dNil, dC, bnd_e, h1, h2, h3, h4, ret_ap, lift_e, rowD, List.length_cons, List.length_nil, Nat.zero_add, if_pos z1, isBl]
abbrev z61 : List Nat := List.replicate 61 122
theorem mul_59 : mulD (.str "z") (.int 59) = some (tS (List.replicate 59 122)) := by kernel_rfl
theorem mul_60 : mulD (.str "z") (.int 60) = some (tS (List.replicate 60 122)) := by kernel_rfl
theorem mul_61 : mulD (.str "z") (.int 61) = some (tS z61) := by kernel_rfl
theorem wayO_61 : wayO (47 :: z61) = none := by
  rw [wayO_c 47 _ rfl]
  decide +kernel
abbrev ltB (d : Den) : Sl → Mo Nat := sIf (dTst (dOp eqD (dCall 3 d._law_draw (dCons (dVar 0) (dCons (dVar 1) (dCons (dC (.int 6)) dNil)))) (dC (.int 0))) isBl) (sOwn1 "list" 2 appD (dOp mulD (dC (.str "z")) (dOp addD (dC (.int 59)) (dCall 3 d._law_draw (dCons (dVar 0) (dCons (dVar 1) (dCons (dC (.int 3)) dNil))))))) sNil
theorem lt_turn (ns : List Int) (k : Nat) {ws : List (List Nat)} (q3 q4 : Option D) (s : Nat) (hw : ws.length < 1000) (ho : ws.all okL21 = true) (hs : s + 2 ≤ sizeLine) : ∃ ws' s', ltB (den (k + 3)) (qL (scriptD ns) ws q3 q4 none none none none none) s = some (.next (qL (scriptD ns) ws' q3 q4 none none none none none), s') ∧
    s' ≤ s + 2 ∧ ws'.length ≤ ws.length + 1 ∧ (ws'.all okL21 = true ∨ ws' = ws ++ [z61]) := by
  obtain ⟨v, v0, v1, hv⟩ := draw_eq ns k s 6 (by decide) (by omega)
  have ap : ∀ u : List Nat, appD (.row (ws.map tS)) (tS u) = some (.row ((ws ++ [u]).map tS)) := fun u => by
    rw [app_row (by rw [List.length_map]; exact hw), List.map_append]; rfl
  by_cases h : v = 0
  · subst h
    have e0 := eq_00
    obtain ⟨u, u0, u1, hu⟩ := draw_eq ns k (s + 1) 3 (by decide) (by omega)
    have hu3 : u = 0 ∨ u = 1 ∨ u = 2 := by omega
    have fin : ∀ (l : List Nat) (m : Int), addD (.int 59) (.int u) = some (.int m) → mulD (.str "z") (.int m) = some (tS l) → ltB (den (k + 3)) (qL (scriptD ns) ws q3 q4 none none none none none) s = some (.next (qL (scriptD ns) (ws ++ [l]) q3 q4 none none none none none), s + 1 + 1) := fun l m h1 h2 => by
      have ha := ap l
      refine (sIf_t (s' := s + 1) ?_).trans ?_
      · simp only [qL, hv, e0, EV, Nat.reduceAdd, Nat.reduceSub, reduceIte]
      · simp only [qL, hu, h1, h2, ha, EV, Nat.reduceAdd, Nat.reduceSub, reduceIte]
    rcases hu3 with rfl | rfl | rfl
    · exact ⟨_, _, fin _ 59 rfl mul_59, by omega, by rw [List.length_append]; exact Nat.le_refl _, .inl (by rw [List.all_append, ho]; decide +kernel)⟩
    · exact ⟨_, _, fin _ 60 rfl mul_60, by omega, by rw [List.length_append]; exact Nat.le_refl _, .inl (by rw [List.all_append, ho]; decide +kernel)⟩
    · exact ⟨_, _, fin _ 61 rfl mul_61, by omega, by rw [List.length_append]; exact Nat.le_refl _, .inr rfl⟩
  · have e0 : eqD (.int v) (.int 0) = some (.bl false) := by rw [eqD_int, decide_eq_false h]
    refine ⟨ws, s + 1, (sIf_f (s' := s + 1) ?_).trans rfl, by omega, Nat.le_succ _, .inl ho⟩
    simp only [qL, hv, e0, EV, Nat.reduceAdd, Nat.reduceSub, reduceIte]
theorem six_range (v : Int) (h0 : 0 ≤ v) (h1 : v < 6) : rngD [.int v] = some ((List.range v.toNat).map fun (j : Nat) => D.int (j : Int)) := rng_int h0 (by omega)
theorem exT {α β : Type} {f : β → α} {a b : α} (h : a = b) (k : ∃ s, b = f s) : ∃ s, a = f s := by
  rw [h]; exact k
theorem law_k (k : Nat) (ns : List Int) : ∃ s', b_law (den (k + 10)) (lawSl n_law.length ns) 0 = some (.rt (.bl true), s') := by
  obtain ⟨v, v0, v1, hv⟩ := draw_eq ns (k + 7) 0 6 (by decide) (by rw [sizeLine_eq]; omega)
  have hr := six_range v v0 v1
  have hll : ((List.range v.toNat).map fun (j : Nat) => D.int (j : Int)).length = v.toNat := by rw [List.length_map, List.length_range]
  obtain ⟨ws, q3, q4, s1, e1, o1, b1, b2⟩ := wd_loop ns (k + 5) ((List.range v.toNat).map fun (j : Nat) => D.int (j : Int)) [] none none 1 rfl (by rw [hll]; simp only [List.length_nil]; omega) (by rw [hll, sizeLine_eq]; omega)
  rw [hll] at b1 b2
  rw [List.length_nil] at b1
  have z : sizeLine = 16777216 := sizeLine_eq
  obtain ⟨ws', s2, e2, c1, c2, c3⟩ := lt_turn ns (k + 7) (ws := ws) q3 q4 s1 (by omega) o1 (by omega)
  have hl6 : ws'.length ≤ 6 := by omega
  have pre : ∀ K : Sl → Mo Nat, sSeq (sAsgO 2 (dAll rowD dNil)) (sSeq (sFor (dRange (dCons (dCall 3 (den (k + 10))._law_draw (dCons (dVar 0) (dCons (dVar 1) (dCons (dC (.int 6)) dNil)))) dNil)) (tgN 3) (wdB (den (k + 10)))) (sSeq (ltB (den (k + 10))) (sSeq (sAsg (tgN 5) (dAll tupleD (dCons (dVar 2) dNil))) K))) (lawSl n_law.length ns) 0 = K (qL (scriptD ns) ws' q3 q4 (some (tupS ws')) none none none none) s2 := fun K => by
    refine (asgO_n (d := .row (([] : List (List Nat)).map tS)) (s' := 0) (by simp only [z0, EV, Nat.reduceAdd, Nat.reduceSub, reduceIte]) rfl).trans ?_
    refine (for_n (s' := 1) (xs := (List.range v.toNat).map fun (j : Nat) => D.int (j : Int)) (r' := qL (scriptD ns) ws q3 q4 none none none none none) (s2 := s1) ?_ e1).trans ?_
    · show (dRange (dCons (dCall 3 (den (k + 10))._law_draw (dCons (dVar 0) (dCons (dVar 1) (dCons (dC (.int 6)) dNil)))) dNil) : Sl → M Nat (List D)) (qL (scriptD ns) [] none none none none none none none) 0 = _
      simp only [qL, hv, hr, EV, Nat.reduceAdd, Nat.reduceSub, reduceIte]
    refine (sSeq_n e2).trans ?_
    exact asg_n (d := tupS ws') (s' := s2) rfl
  have t0 := told_0 (k + 3) (ws := ws') (by omega)
  have er := eq_ref
  unfold b_law
  rw [pre]
  have hln := ln_eq (sc := scriptD ns) (ws := ws') (q3 := q3) (q4 := q4) (q5 := some (tupS ws')) (q6 := none) (q7 := none) (q8 := none) (q9 := none) s2 (by omega)
  rcases c3 with c3 | c3
  · -- all words are steps
    rw [decide_eq_false (by have := mx_le c3; omega)] at hln
    refine exT (sSeq_n (r' := qL (scriptD ns) ws' q3 q4 (some (tupS ws')) none none none none) (s' := s2) ((sIf_f (s' := s2) hln).trans rfl)) ?_
    have hs : ∀ w ∈ ws', w.length ≤ 60 := fun w h => okL21_len (List.all_eq_true.mp c3 w h)
    have wl := wayL_len ws' hs
    have j1 : (dLc (dItems (dVar 2)) (tgN 11) dYes (dOp addD (dC (.str "/")) (dCall 1 (fun ds => up ((den (k + 10))._law_step_text ds)) (dCons (dVar 11) dNil))) : Sl → M Nat D) (qL (scriptD ns) ws' q3 q4 (some (tupS ws')) none none none none) s2 = .ok (.row ((ws'.map fun s => 47 :: esc s).map tS)) s2 := by
      refine (lc1 (xs := ws'.map tS) (s' := s2) rfl).trans ((lc_tsN (fun w => tS (47 :: esc w)) ws' fun w hw => ?_).trans ?_)
      · have h1 := step_text_l (k + 9) (hs w hw)
        have h2 : addD (.str "/") (tS (esc w)) = some (tS (47 :: esc w)) := ts_add (a := [47]) (by have := esc_len w; have := hs w hw; rw [List.length_singleton]; omega)
        simp only [qL, h1, h2, EV, Nat.reduceAdd, Nat.reduceSub, reduceIte]
      · rw [List.map_map]; rfl
    have j2 := ts_join (xs := ws'.map fun s => 47 :: esc s) (by unfold wayL at wl; omega)
    refine exT (asg_n (d := tS (wayL ws')) (s' := s2) ?_) ?_
    · simp only [dMt, tyIs, dC, j1, j2, dCons, dNil, bnd_e, ret_ap, lift_e, if_true]
      rfl
    rw [if_pos c3] at t0
    have t1 := told_1 (k + 3) (x := wayL ws') (by omega)
    rw [wayO_wayL c3] at t1
    have t1 : (den (k + 10))._law_told [.int 1, tS (wayL ws')] () = .ok (tupS ws') () := t1
    have n0 : neD (tS (wayL ws')) (tS (wayL ws')) = some (.bl false) := by rw [ts_ne, decide_eq_true rfl]; rfl
    have n1 := ne_tup ws'
    refine exT (sSeq_n (r' := qL (scriptD ns) ws' q3 q4 (some (tupS ws')) (some (tS (wayL ws'))) none none none) (s' := s2) ((sIf_f (s' := s2) ?_).trans rfl)) ?_
    · show (tOrD _ _ : Sl → M Nat Bool) (qL (scriptD ns) ws' q3 q4 (some (tupS ws')) (some (tS (wayL ws'))) none none none) s2 = _
      generalize tS (wayL ws') = q at t0 t1 n0 ⊢
      generalize tupS ws' = q1 at t0 t1 n1 ⊢
      simp only [qL, t0, t1, n0, n1, EV, Nat.reduceAdd, Nat.reduceSub, reduceIte]
    obtain ⟨u, u0, u1, hu⟩ := draw_eq ns (k + 7) s2 2 (by decide) (by omega)
    have a1 : addD (.int 1) (.int u) = some (.int (1 + u)) := rfl
    have hr2 := rng_int (v := 1 + u) (by omega) (by omega)
    have hl2 : ((List.range (1 + u).toNat).map fun (j : Nat) => D.int (j : Int)).length = (1 + u).toNat := by rw [List.length_map, List.length_range]
    obtain ⟨l', p3, p7, p8, p9, s3, e3, b3⟩ := mu_loop ns (k + 6) (sc2 := some (.row (ws'.map tS))) (q4 := q4) (q5 := some (tupS ws')) ((List.range (1 + u).toNat).map fun (j : Nat) => D.int (j : Int)) q3 none none none (wayL ws') (s2 + 1) (by rw [hl2]; omega) (by rw [hl2]; omega)
    refine exT (for_n (s' := s2 + 1) (xs := (List.range (1 + u).toNat).map fun (j : Nat) => D.int (j : Int)) ?_ e3) ?_
    · show (dRange _ : Sl → M Nat (List D)) (qL (scriptD ns) ws' q3 q4 (some (tupS ws')) (some (tS (wayL ws'))) none none none) s2 = _
      simp only [qL, hu, a1, hr2, EV, Nat.reduceAdd, Nat.reduceSub, reduceIte]
    have dw := way_of_l (k + 9) l' (by omega)
    have t2 := told_1 (k + 3) (x := l') (by omega)
    refine exT (asg_n (d := dueD (wayO l')) (s' := s3) (by simp only [dw, EV, Nat.reduceAdd, Nat.reduceSub, reduceIte])) ?_
    have nd := ne_due (wayO l')
    have hif : (dIf (dTst (dUn (isND false) (dVar 10)) isBl) (dAll tupD (dCons (dC (.str "refused")) (dCons (dC (.str "way")) dNil))) (dVar 10) : Sl → M Nat D) [some (scriptD ns), some (.obj 0), some (.row (ws'.map tS)), p3, q4, some (tupS ws'), some (tS l'), p7, p8, p9, some (dueD (wayO l')), none] s3 = .ok (dueT (wayO l')) s3 := by
      cases wayO l' with
      | none => rfl
      | some us => rfl
    generalize dueD (wayO l') = dd at hif ⊢
    generalize dueT (wayO l') = dt at hif nd t2
    refine exT (sSeq_n (r' := [some (scriptD ns), some (.obj 0), some (.row (ws'.map tS)), p3, q4, some (tupS ws'), some (tS l'), p7, p8, p9, some dd, none]) (s' := s3) ((sIf_f (s' := s3) ?_).trans rfl)) ?_
    · show (dTst (dOp neD _ _) isBl : Sl → M Nat Bool) [some (scriptD ns), some (.obj 0), some (.row (ws'.map tS)), p3, q4, some (tupS ws'), some (tS l'), p7, p8, p9, some dd, none] s3 = _
      generalize tS l' = q at t2 hif ⊢
      simp only [dTst, dOp, bnd_e, hif, dCall, dCons, dNil, dC, dVar, getS, up, t2, nd, ret_ap, lift_e, isBl, List.getElem?_cons_succ, List.getElem?_cons_zero, Option.join_some, List.length_cons, List.length_nil, Nat.zero_add, Nat.reduceAdd, reduceIte]
    · have tb := told_0 (k + 3) (ws := [[97], [10]]) (by decide)
      have tb : (den (k + 10))._law_told [.int 0, .tup [.str "a", .str "\n"]] () = .ok refT () := tb
      exact ⟨s3, ret1 (d := .bl true) (s' := s3) (by simp only [tb, er, z2, EV, Nat.reduceAdd, Nat.reduceSub, reduceIte])⟩
  · -- a word too long
    rw [decide_eq_true (mx_gt (w := z61) (by rw [c3]; exact List.mem_append_right _ (List.mem_singleton.mpr rfl)) (by decide +kernel))] at hln
    have bad : ws'.all okL21 = false := by rw [c3, List.all_append, o1]; decide +kernel
    rw [bad, if_neg Bool.false_ne_true] at t0
    have ix : ixD (.row (ws'.map tS)) (.int (-1)) = some (tS z61) := by
      rw [c3, List.map_append]
      show atI (ws.map tS ++ [tS z61]) (-1) = _
      unfold atI ixN
      have hlen : (ws.map tS ++ [tS z61]).length = ws.length + 1 := by rw [List.length_append, List.length_map]; rfl
      rw [hlen, if_neg (by decide), if_pos (by omega)]
      show (ws.map tS ++ [tS z61])[((-1 : Int) + ((ws.length + 1 : Nat) : Int)).toNat]? = _
      rw [show ((-1 : Int) + ((ws.length + 1 : Nat) : Int)).toNat = ws.length by omega, List.getElem?_append_right (by rw [List.length_map]; exact Nat.le_refl _), List.length_map, Nat.sub_self]
      rfl
    have ng : negD (.int 1) = some (.int (-1)) := rfl
    have ad : addD (.str "/") (tS z61) = some (tS (47 :: z61)) := ts_add (a := [47]) (by decide +kernel)
    have t1 := told_1 (k + 3) (x := 47 :: z61) (by decide +kernel)
    rw [wayO_61] at t1
    have t1 : (den (k + 10))._law_told [.int 1, tS (47 :: z61)] () = .ok refT () := t1
    refine ⟨s2, sSeq_rt ((sIf_t (s' := s2) hln).trans (ret1 (d := .bl true) (s' := s2) ?_))⟩
    show (dAnd _ _ : Sl → M Nat D) [some (scriptD ns), some (.obj 0), some (.row (ws'.map tS)), q3, q4, some (tupS ws'), none, none, none, none, none, none] s2 = _
    generalize D.row (ws'.map tS) = qw at ix ⊢
    generalize tS (47 :: z61) = qz at ad t1
    generalize tS z61 = qy at ix ad
    generalize tupS ws' = qv at t0 ⊢
    simp only [t0, t1, ix, ng, ad, er, z2, EV, Nat.reduceAdd, Nat.reduceSub, reduceIte]
theorem law_true : ∀ ns : List Int, ns.length ≤ 63 → ∃ s', b_law (den 100) (lawSl n_law.length ns) 0 = some (.rt (.bl true), s') := fun ns _ => by
  have h := law_k 90 ns
  rw [show 90 + 10 = 100 from rfl] at h
  exact h
end Nw
set_option Elab.async false
set_option linter.all false
set_option maxRecDepth 100000
set_option maxHeartbeats 0
namespace Nw
open PySem PySem.Spec PyProof.Rows L2
def d_is_sign : He.DefD := ⟨("is_sign", none), "is_sign", "is_sign", defArgs s_is_sign, defBody s_is_sign, defScope s_is_sign, [], []⟩
def d_is_word : He.DefD := ⟨("is_word", none), "is_word", "is_word", defArgs s_is_word, defBody s_is_word, defScope s_is_word, [], []⟩
def d_is_step : He.DefD := ⟨("is_step", none), "is_step", "is_step", defArgs s_is_step, defBody s_is_step, defScope s_is_step, [], []⟩
def d_look_way : He.DefD := ⟨("look_way", none), "look_way", "look_way", defArgs s_look_way, defBody s_look_way, defScope s_look_way, [], []⟩
def d_written_way : He.DefD := ⟨("written_way", none), "written_way", "written_way", defArgs s_written_way, defBody s_written_way, defScope s_written_way, [], []⟩
def d_read_step : He.DefD := ⟨("read_step", none), "read_step", "read_step", defArgs s_read_step, defBody s_read_step, defScope s_read_step, [], []⟩
def d_read_way : He.DefD := ⟨("read_way", none), "read_way", "read_way", defArgs s_read_way, defBody s_read_way, defScope s_read_way, [], []⟩
def d__law_cell : He.DefD := ⟨("_law_cell", none), "_law_cell", "_law_cell", defArgs s__law_cell, defBody s__law_cell, defScope s__law_cell, [], []⟩
def d__law_mix : He.DefD := ⟨("_law_mix", none), "_law_mix", "_law_mix", defArgs s__law_mix, defBody s__law_mix, defScope s__law_mix, [], []⟩
def d__law_draw : He.DefD := ⟨("_law_draw", none), "_law_draw", "_law_draw", defArgs s__law_draw, defBody s__law_draw, defScope s__law_draw, [], []⟩
def d__law_pick : He.DefD := ⟨("_law_pick", none), "_law_pick", "_law_pick", defArgs s__law_pick, defBody s__law_pick, defScope s__law_pick, [], []⟩
def d__law_refusal : He.DefD := ⟨("_law_refusal", none), "_law_refusal", "_law_refusal", defArgs s__law_refusal, defBody s__law_refusal, defScope s__law_refusal, [], []⟩
def d__law_word : He.DefD := ⟨("_law_word", none), "_law_word", "_law_word", defArgs s__law_word, defBody s__law_word, defScope s__law_word, [], []⟩
def d__law_told : He.DefD := ⟨("_law_told", none), "_law_told", "_law_told", defArgs s__law_told, defBody s__law_told, defScope s__law_told, [], []⟩
def d__law_step_text : He.DefD := ⟨("_law_step_text", none), "_law_step_text", "_law_step_text", defArgs s__law_step_text, defBody s__law_step_text, defScope s__law_step_text, [], []⟩
def d__law_way_of : He.DefD := ⟨("_law_way_of", none), "_law_way_of", "_law_way_of", defArgs s__law_way_of, defBody s__law_way_of, defScope s__law_way_of, [], []⟩
def d_law : He.DefD := ⟨("law", none), "law", "law", defArgs s_law, defBody s_law, defScope s_law, [], []⟩
def fn : List He.DefD := [d_is_sign, d_is_word, d_is_step, d_look_way, d_written_way, d_read_step, d_read_way, d__law_cell, d__law_mix, d__law_draw, d__law_pick, d__law_refusal, d__law_word, d__law_told, d__law_step_text, d__law_way_of, d_law]
def fa0 : List He.Fa := [.glo "is_sign", .glo "is_word", .glo "is_step", .glo "look_way", .glo "written_way", .glo "read_step", .glo "read_way", .glo "_law_cell", .glo "_law_mix", .glo "_law_draw", .glo "_law_pick", .glo "_law_refusal", .glo "_law_word", .glo "_law_told", .glo "_law_step_text", .glo "_law_way_of", .glo "law", .glo "BadText", .glo "BadThing", .glo "BadWay", .glo "NestError", .glo "NoGo", .glo "NoWay", .glo "Nothing", .free "ValueError", .free "all", .free "int", .free "isinstance", .free "len", .free "max", .free "ord", .free "range", .free "tuple", .exc "BadWay", .int "MOST_SIGNS" (60)]
def fa : List He.Fa := fa0
def loose0 : List PySem.Str := [("NestError" : PySem.Str), ("BadThing" : PySem.Str), ("BadText" : PySem.Str), ("BadWay" : PySem.Str), ("NoWay" : PySem.Str), ("NoGo" : PySem.Str), ("Nothing" : PySem.Str), ("MOST_SIGNS" : PySem.Str), ("is_sign" : PySem.Str), ("is_word" : PySem.Str), ("is_step" : PySem.Str), ("look_way" : PySem.Str), ("written_way" : PySem.Str), ("read_step" : PySem.Str), ("read_way" : PySem.Str), ("_law_cell" : PySem.Str), ("_law_mix" : PySem.Str), ("_law_draw" : PySem.Str), ("_law_pick" : PySem.Str), ("_law_refusal" : PySem.Str), ("_law_word" : PySem.Str), ("_law_told" : PySem.Str), ("_law_step_text" : PySem.Str), ("_law_way_of" : PySem.Str)]
def loose : List PySem.Str := loose0
abbrev RR : PySem.W.OpenRow := PySem.W.OpenLaw.row PySem.Challenge.rw_nestways_k21_whole_way_texts
def tabs : List He.Tab := []
def ex (K : PySem.W.Frag) : Bool := xfB K [.NestError, .BadThing, .BadText, .BadWay, .NoWay, .NoGo, .Nothing]
abbrev hookK : PySem.W.Hook := He.hookX 5 fa fn tabs [] ex
def ob (s : PySem.W.SharedT) : He.AlX := He.obsX 5 fa fn tabs [] ex (HandSHeadRun.getT s)
theorem ob_eq (s : PySem.W.SharedT) : ob s = hookK.obs s.abs := He.obsX_eq (HandSHeadRun.getT_eq s)
def fixW (w : World) (b : Bool) : World := { w with params := { w.params with followText := fun s => if s = "special-get-raises" then b else w.params.followText s } }
theorem fixW_eq (w : World) : fixW w (w.params.followText "special-get-raises") = w := by
  have h : (fun s => if s = "special-get-raises" then w.params.followText "special-get-raises" else w.params.followText s) = w.params.followText := by
    funext s
    split
    · rename_i e; rw [e]
    · rfl
  unfold fixW
  rw [h]
theorem run_t (w : World) : HandSHeadRun.RunEq RR (PySem.W.view RR.prog [28]) hookK ob 4000 loose (fixW w true) := by
  intro os
  kernel_rfl
theorem run_f (w : World) : HandSHeadRun.RunEq RR (PySem.W.view RR.prog [28]) hookK ob 4000 loose (fixW w false) := by
  intro os
  kernel_rfl
theorem run (w : World) : HandSHeadRun.RunEq RR (PySem.W.view RR.prog [28]) hookK ob 4000 loose w := by
  have h := fixW_eq w
  cases e : w.params.followText "special-get-raises" with
  | false => rw [e] at h; rw [← h]; exact run_f w
  | true => rw [e] at h; rw [← h]; exact run_t w
theorem facts {P : Program} {w : World} {K : PySem.W.Frag} {h : Heap} {mg : Str → Option Value} {f : Addr} (X : K.In h) (G : h.Ns mainGlobals mg) (hfa : mg ("law" : Str) = some (.ref f)) (c : He.SaysX fa fn tabs [] ex w h K) :
    ∃ fd : FuncData, (∀ (s : Shared) (v : Value), BindsTo s fd ⟨[v], []⟩ [("script", v)]) ∧ ∀ base : Heap, K.In base → base.Ns mainGlobals mg → FnOk P w K mg base CX0 (100 + 3) f fd ["script"] (spLaw K 63) := by
  have fx : Fx w K mg := {
    xf := xf_of c.more
    f_ValueError := He.free_ok X G (c.t.d.fact 24 (f := .free "ValueError") rfl)
    f_all := He.free_ok X G (c.t.d.fact 25 (f := .free "all") rfl)
    f_int := He.free_ok X G (c.t.d.fact 26 (f := .free "int") rfl)
    f_isinstance := He.free_ok X G (c.t.d.fact 27 (f := .free "isinstance") rfl)
    f_len := He.free_ok X G (c.t.d.fact 28 (f := .free "len") rfl)
    f_max := He.free_ok X G (c.t.d.fact 29 (f := .free "max") rfl)
    f_ord := He.free_ok X G (c.t.d.fact 30 (f := .free "ord") rfl)
    f_range := He.free_ok X G (c.t.d.fact 31 (f := .free "range") rfl)
    f_tuple := He.free_ok X G (c.t.d.fact 32 (f := .free "tuple") rfl)
    c_BadText := He.glo_ok X G (c.t.d.fact 17 (f := .glo "BadText") rfl)
    c_BadThing := He.glo_ok X G (c.t.d.fact 18 (f := .glo "BadThing") rfl)
    c_BadWay := He.glo_ok X G (c.t.d.fact 19 (f := .glo "BadWay") rfl)
    c_NestError := He.glo_ok X G (c.t.d.fact 20 (f := .glo "NestError") rfl)
    c_NoGo := He.glo_ok X G (c.t.d.fact 21 (f := .glo "NoGo") rfl)
    c_NoWay := He.glo_ok X G (c.t.d.fact 22 (f := .glo "NoWay") rfl)
    c_Nothing := He.glo_ok X G (c.t.d.fact 23 (f := .glo "Nothing") rfl)
    e_BadWay := (He.exc_ok (c.t.d.fact 33 (f := .exc "BadWay") rfl)).1
    k_BadWay := (He.exc_ok (c.t.d.fact 33 (f := .exc "BadWay") rfl)).2.1
    g_MOST_SIGNS := He.int_ok X G (c.t.d.fact 34 (f := .int "MOST_SIGNS" (60)) rfl)
  }
  have fns : Fns K mg := {
    is_sign := ⟨c.t.d.def_ 0 (d := d_is_sign) rfl, He.glo_ok X G (c.t.d.fact 0 (f := .glo "is_sign") rfl)⟩
    is_word := ⟨c.t.d.def_ 1 (d := d_is_word) rfl, He.glo_ok X G (c.t.d.fact 1 (f := .glo "is_word") rfl)⟩
    is_step := ⟨c.t.d.def_ 2 (d := d_is_step) rfl, He.glo_ok X G (c.t.d.fact 2 (f := .glo "is_step") rfl)⟩
    look_way := ⟨c.t.d.def_ 3 (d := d_look_way) rfl, He.glo_ok X G (c.t.d.fact 3 (f := .glo "look_way") rfl)⟩
    written_way := ⟨c.t.d.def_ 4 (d := d_written_way) rfl, He.glo_ok X G (c.t.d.fact 4 (f := .glo "written_way") rfl)⟩
    read_step := ⟨c.t.d.def_ 5 (d := d_read_step) rfl, He.glo_ok X G (c.t.d.fact 5 (f := .glo "read_step") rfl)⟩
    read_way := ⟨c.t.d.def_ 6 (d := d_read_way) rfl, He.glo_ok X G (c.t.d.fact 6 (f := .glo "read_way") rfl)⟩
    _law_cell := ⟨c.t.d.def_ 7 (d := d__law_cell) rfl, He.glo_ok X G (c.t.d.fact 7 (f := .glo "_law_cell") rfl)⟩
    _law_mix := ⟨c.t.d.def_ 8 (d := d__law_mix) rfl, He.glo_ok X G (c.t.d.fact 8 (f := .glo "_law_mix") rfl)⟩
    _law_draw := ⟨c.t.d.def_ 9 (d := d__law_draw) rfl, He.glo_ok X G (c.t.d.fact 9 (f := .glo "_law_draw") rfl)⟩
    _law_pick := ⟨c.t.d.def_ 10 (d := d__law_pick) rfl, He.glo_ok X G (c.t.d.fact 10 (f := .glo "_law_pick") rfl)⟩
    _law_refusal := ⟨c.t.d.def_ 11 (d := d__law_refusal) rfl, He.glo_ok X G (c.t.d.fact 11 (f := .glo "_law_refusal") rfl)⟩
    _law_word := ⟨c.t.d.def_ 12 (d := d__law_word) rfl, He.glo_ok X G (c.t.d.fact 12 (f := .glo "_law_word") rfl)⟩
    _law_told := ⟨c.t.d.def_ 13 (d := d__law_told) rfl, He.glo_ok X G (c.t.d.fact 13 (f := .glo "_law_told") rfl)⟩
    _law_step_text := ⟨c.t.d.def_ 14 (d := d__law_step_text) rfl, He.glo_ok X G (c.t.d.fact 14 (f := .glo "_law_step_text") rfl)⟩
    _law_way_of := ⟨c.t.d.def_ 15 (d := d__law_way_of) rfl, He.glo_ok X G (c.t.d.fact 15 (f := .glo "_law_way_of") rfl)⟩
    law := ⟨c.t.d.def_ 16 (d := d_law) rfl, He.glo_ok X G (c.t.d.fact 16 (f := .glo "law") rfl)⟩
  }
  obtain ⟨⟨fd, F⟩, e0⟩ := fns.law
  have e := hfa.symm.trans e0
  cases e
  have b := FunD.bindsA (ps := ["script"]) F fun _ _ _ _ _ _ us hl => match us, hl with | [_], _ => rfl
  exact ⟨fd, fun s v => b s [v] rfl, fun base _ _ => fn_law (N := n_law) F sc_law rfl rfl (by first | exact Or.inl rfl | exact Or.inr rfl) (fun T => rest_law fx (by omega) (hyp_all fx fns 100) T) (by rw [sizeLine_eq]; decide) (fun _ _ _ _ _ _ _ => rfl) law_true⟩
end Nw
open PySem PySem.W PySem.Calls PyProof.Rows
theorem PySem.Challenge.cw_nestways_k21_whole_way_texts_holds : PySem.Challenge.rw_nestways_k21_whole_way_texts.Holds := by
  w_on; o_law
  refine HandSHeadRun.head_any (r := OpenLaw.row PySem.Challenge.rw_nestways_k21_whole_way_texts) (q := view (OpenLaw.row PySem.Challenge.rw_nestways_k21_whole_way_texts).prog [28]) (H := Nw.hookK) (ob := Nw.ob) (M := 4000) (loose := Nw.loose) (d := HandSHeadRun.topDef (OpenLaw.row PySem.Challenge.rw_nestways_k21_whole_way_texts).prog 28) (kwd := []) Nw.ob_eq
    (by kernel_rfl) (fun s => by kernel_rfl) Nw.run (by kernel_rfl) (by kernel_rfl) (by kernel_rfl) (by rfl) (by first | assumption | decide +kernel) (by decide +kernel) ⟨rfl, rfl, rfl, rfl, rfl, by decide +kernel⟩ ?hw ?hc
  case hw => w_witness2
  case hc =>
    refine L2.walk_ofE (l := PySem.Challenge.rw_nestways_k21_whole_way_texts) (n := 63) (k := 100 + 3) (x := "script") (CX := L2.CX0) rfl (by decide) (by kernel_rfl) ⟨rfl, by decide, by decide⟩ ?F (fun _ _ _ _ z => z)
    intro w mg fa h Y G hmg0
    obtain ⟨K, KX, c⟩ := Y
    have hmg : mg ("law" : PySem.Str) = some (.ref fa) := by
      have e : (HandSHeadRun.topDef (OpenLaw.row PySem.Challenge.rw_nestways_k21_whole_way_texts).prog 28).name = ("law" : PySem.Str) := by kernel_rfl
      rw [← e]
      exact hmg0
    obtain ⟨fd, hb, hF⟩ := Nw.facts (P := (PySem.Challenge.rw_nestways_k21_whole_way_texts).prog) (w := w) KX G hmg c
    exact ⟨K, fd, Nw.spLaw K 63, KX, hb, fun H a ns hl _ hS => ⟨a, ns, rfl, hl, hS, fun _ => rfl⟩, hF⟩
