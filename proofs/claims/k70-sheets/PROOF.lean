import PyProof.Rows.All
import Wide.All
import OpenK.AllK
import Wide.FinOn
import KE.KStateDown
import HandS.ForMost
import HandS.ForExc
import HandS.More
import HandS.Flow
import HandS.IsInst
import HandS.ExcValue
import HandS.ExcIs
import HandS.ExcField
import HandS.ExcCtx
import HandS.Hot
import HandS.HotCalls
import HandS.SuiteRaise
import HandS.RaiseFrom
import HandS.ExcInit
import HandS.ExcInitHot
import HandS.Defaults
import HandS.HeadHook1
import HandS.TupAny
import HandS.TupMul
import HandS.TupLe
import HandS.Style
import PyProof.NeKinds
import PyProof.Rows.StrMul
import PyProof.Rows.SortShellAny
import KE.KExcIs
import KE.KDictSum
import KE.KDictList
import HandS.Conv
import HandS.ExcOwn
import KE.KEqDict
import HandS.HeadEnd
import PyProof.DictCopy
import HandS.TryOnly
import HandS.Set
import HandS.SetFor
import HandS.SetKeys
import HandS.HeadHook3
import HandS.Iter
import KE.KExcInit
import PySem.Challenge.RW_nestways_k70_whole_sheets
import Lean
import HandS.Head0
import HandS.Head1
import HandS.Head2
import HandS.HeadHook2
import HandS.HeadHook4
import KE.KIntText
set_option Elab.async false
set_option linter.all false
set_option maxRecDepth 100000
set_option maxHeartbeats 4000000
/-! Part A: plain data, how the abstract heap bears it, what a piece of code does to both. -/
namespace Nw
open PySem PySem.Spec L2
/-! ### results -/
inductive Cl where
  | NestError | BadThing | BadText | BadWay | NoWay | NoGo | Nothing | Clash | Apart
  deriving DecidableEq
def Cl.name : Cl → Str
  | .NestError => "NestError" | .BadThing => "BadThing" | .BadText => "BadText" | .BadWay => "BadWay" | .NoWay => "NoWay"
  | .NoGo => "NoGo" | .Nothing => "Nothing" | .Clash => "Clash" | .Apart => "Apart"
/-- plain data: lists and dicts as they stand (row, tab), lists that are only read (kro: the script, a module's own), errors held, things that change (obj) -/
inductive D where
  | non | bl (b : Bool) | int (i : Int) | str (x : Str) | row (xs : List D) | tup (xs : List D) | tab (kvs : List (Key × D)) | kro (xs : List D)
  | exc (c : Cl) (fs : List (Str × D)) | obj (k : Nat)
  deriving Inhabited
structure Xn where
  c : Cl
  fs : List (Str × D)
inductive Res (S α : Type) where
  | ok (a : α) (s : S) | exc (x : Xn) (s : S) | bot
abbrev M (S α : Type) := S → Res S α
def ret {S α : Type} (a : α) : M S α := fun s => .ok a s
def bot {S α : Type} : M S α := fun _ => .bot
def bnd {S α β : Type} (m : M S α) (k : α → M S β) : M S β := fun s => match m s with
  | .ok a s' => k a s'
  | .exc x s' => .exc x s'
  | .bot => .bot
def lift {S α : Type} : Option α → M S α
  | some a => ret a
  | none => bot
section
variable {S α β : Type}
@[simp] theorem ret_ap (a : α) (s : S) : ret a s = .ok a s := rfl
@[simp] theorem bot_ap (s : S) : (bot : M S α) s = .bot := rfl
theorem bnd_ok {m : M S α} {k : α → M S β} {s s' : S} {a : α} (h : m s = .ok a s') : bnd m k s = k a s' := by unfold bnd; rw [h]
theorem bnd_exc {m : M S α} {k : α → M S β} {s s' : S} {x : Xn} (h : m s = .exc x s') : bnd m k s = .exc x s' := by unfold bnd; rw [h]
theorem bnd_bot {m : M S α} {k : α → M S β} {s : S} (h : m s = .bot) : bnd m k s = .bot := by unfold bnd; rw [h]
@[simp] theorem bnd_ret (a : α) (k : α → M S β) : bnd (ret a) k = k a := rfl
@[simp] theorem bnd_bot' (k : α → M S β) : bnd bot k = bot := rfl
@[simp] theorem lift_some (a : α) : (lift (some a) : M S α) = ret a := rfl
@[simp] theorem lift_none : (lift none : M S α) = bot := rfl
end
/-- the slots of a def, by plain data -/
abbrev Sl := List (Option D)
/-- how a statement ends -/
inductive Flw where
  | next (r : Sl) | rt (d : D) | brk (r : Sl) | cnt (r : Sl) | thr (x : Xn) (r : Sl)
abbrev Mo (S : Type) := S → Option (Flw × S)
/-! ### what bears the data -/
/-- an error that is held: its class, its own dict -/
def ExH (cls : Value) (dd : Option Addr) (a : Addr) : HO := .ext fun h => ∃ oe : Obj, h.get? a = some oe ∧ Zc cls dd oe ∧ ∃ vs, oe.data = .fields vs
def kOk : Key → Prop
  | .inl _ => True
  | .inr x => x.length ≤ sizeLine
mutual
def Rep (K : PySem.W.Frag) (nm : Nat → Option Addr) (F : Hp) : D → V → Prop
  | .non, v => v = .non
  | .bl b, v => v = .bl b
  | .int i, v => v = .int i
  | .str x, v => v = .str x ∧ x.length ≤ sizeLine
  | .row ds, v => ∃ a vs, v = .ref a ∧ F a = some (.lst vs) ∧ ds.length ≤ sizeLine ∧ Reps K nm F ds vs
  | .tup ds, v => ∃ a vs, v = .ref a ∧ F a = some (.tup vs) ∧ ds.length ≤ sizeLine ∧ Reps K nm F ds vs
  | .tab kvs, v => ∃ a ws, v = .ref a ∧ F a = some (.dK ws) ∧ kvs.length ≤ sizeLine ∧ RepsK K nm F kvs ws
  | .kro ds, v => ∃ a vs, v = .ref a ∧ SqL K F a vs ∧ ds.length ≤ sizeLine ∧ Reps K nm F ds vs
  | .exc c fs, v => ∃ a dd, v = .ref a ∧ F a = some (ExH (.ref (He.ga K c.name)) dd a) ∧ ((fs = [] ∧ dd = none) ∨ ∃ d ws, dd = some d ∧ F d = some (.xd ws) ∧ RepsF K nm F fs ws)
  | .obj k, v => ∃ a, nm k = some a ∧ v = .ref a
def Reps (K : PySem.W.Frag) (nm : Nat → Option Addr) (F : Hp) : List D → List V → Prop
  | [], vs => vs = []
  | d :: ds, vs => ∃ v ws, vs = v :: ws ∧ Rep K nm F d v ∧ Reps K nm F ds ws
def RepsK (K : PySem.W.Frag) (nm : Nat → Option Addr) (F : Hp) : List (Key × D) → List (Key × V) → Prop
  | [], ws => ws = []
  | (k, d) :: r, ws => ∃ v ws', ws = (k, v) :: ws' ∧ kOk k ∧ Rep K nm F d v ∧ RepsK K nm F r ws'
def RepsF (K : PySem.W.Frag) (nm : Nat → Option Addr) (F : Hp) : List (Str × D) → List (Str × V) → Prop
  | [], ws => ws = []
  | (k, d) :: r, ws => ∃ v ws', ws = (k, v) :: ws' ∧ Rep K nm F d v ∧ RepsF K nm F r ws'
end
def RepX (K : PySem.W.Frag) (nm : Nat → Option Addr) (F : Hp) (x : Xn) (cls : Value) (dd : Option Addr) : Prop :=
  cls = .ref (He.ga K x.c.name) ∧ ((x.fs = [] ∧ dd = none) ∨ ∃ d ws, dd = some d ∧ F d = some (.xd ws) ∧ RepsF K nm F x.fs ws)
theorem sqL_mono {K : PySem.W.Frag} {F F' : Hp} (h : Same F F') {a : Addr} {vs : List V} (q : SqL K F a vs) : SqL K F' a vs := h.seq q
section
variable {K : PySem.W.Frag} {nm : Nat → Option Addr} {F F' : Hp}
mutual
theorem Rep.mono (h : Same F F') : ∀ {d : D} {v : V}, Rep K nm F d v → Rep K nm F' d v
  | .non, v, r => r
  | .bl b, v, r => r
  | .int i, v, r => r
  | .str x, v, r => r
  | .row ds, v, r => by
    obtain ⟨a, vs, e, hf, hz, hr⟩ := r
    exact ⟨a, vs, e, h _ _ hf, hz, Reps.mono h hr⟩
  | .tup ds, v, r => by
    obtain ⟨a, vs, e, hf, hz, hr⟩ := r
    exact ⟨a, vs, e, h _ _ hf, hz, Reps.mono h hr⟩
  | .tab kvs, v, r => by
    obtain ⟨a, vs, e, hf, hz, hr⟩ := r
    exact ⟨a, vs, e, h _ _ hf, hz, RepsK.mono h hr⟩
  | .kro ds, v, r => by
    obtain ⟨a, vs, e, hf, hz, hr⟩ := r
    exact ⟨a, vs, e, sqL_mono h hf, hz, Reps.mono h hr⟩
  | .exc c fs, v, r => by
    obtain ⟨a, dd, e, hf, hr⟩ := r
    refine ⟨a, dd, e, h _ _ hf, ?_⟩
    rcases hr with hr | ⟨d, ws, e1, e2, e3⟩
    · exact .inl hr
    · exact .inr ⟨d, ws, e1, h _ _ e2, RepsF.mono h e3⟩
  | .obj k, v, r => r
theorem Reps.mono (h : Same F F') : ∀ {ds : List D} {vs : List V}, Reps K nm F ds vs → Reps K nm F' ds vs
  | [], vs, r => r
  | d :: ds, vs, r => by
    obtain ⟨v, ws, e, h1, h2⟩ := r
    exact ⟨v, ws, e, Rep.mono h h1, Reps.mono h h2⟩
theorem RepsK.mono (h : Same F F') : ∀ {ds : List (Key × D)} {vs : List (Key × V)}, RepsK K nm F ds vs → RepsK K nm F' ds vs
  | [], vs, r => r
  | (k, d) :: ds, vs, r => by
    obtain ⟨v, ws, e, hk, h1, h2⟩ := r
    exact ⟨v, ws, e, hk, Rep.mono h h1, RepsK.mono h h2⟩
theorem RepsF.mono (h : Same F F') : ∀ {ds : List (Str × D)} {vs : List (Str × V)}, RepsF K nm F ds vs → RepsF K nm F' ds vs
  | [], vs, r => r
  | (k, d) :: ds, vs, r => by
    obtain ⟨v, ws, e, h1, h2⟩ := r
    exact ⟨v, ws, e, Rep.mono h h1, RepsF.mono h h2⟩
end
theorem RepX.mono (h : Same F F') {x : Xn} {cls : Value} {dd : Option Addr} (r : RepX K nm F x cls dd) : RepX K nm F' x cls dd := by
  obtain ⟨e, hr⟩ := r
  refine ⟨e, ?_⟩
  rcases hr with hr | ⟨d, ws, e1, e2, e3⟩
  · exact .inl hr
  · exact .inr ⟨d, ws, e1, h _ _ e2, e3.mono h⟩
theorem Reps.length : ∀ {ds : List D} {vs : List V}, Reps K nm F ds vs → vs.length = ds.length
  | [], vs, r => by rw [show vs = [] from r]; rfl
  | d :: ds, vs, r => by
    obtain ⟨v, ws, e, _, h2⟩ := r
    rw [e, List.length_cons, List.length_cons, h2.length]
theorem RepsK.length : ∀ {ds : List (Key × D)} {vs : List (Key × V)}, RepsK K nm F ds vs → vs.length = ds.length
  | [], vs, r => by rw [show vs = [] from r]; rfl
  | (k, d) :: ds, vs, r => by
    obtain ⟨v, ws, e, _, _, h2⟩ := r
    rw [e, List.length_cons, List.length_cons, h2.length]
theorem RepsK.get : ∀ {ds : List (Key × D)} {vs : List (Key × V)} {i : Nat} {k : Key} {d : D}, RepsK K nm F ds vs → ds[i]? = some (k, d) → ∃ v, vs[i]? = some (k, v) ∧ kOk k ∧ Rep K nm F d v
  | [], vs, i, k, d, r, e => by simp at e
  | (k, d) :: ds, vs, 0, k', d', r, e => by
    obtain ⟨v, ws, rfl, hk, h1, _⟩ := r
    have e' : (k, d) = (k', d') := by simpa using e
    cases e'
    exact ⟨v, rfl, hk, h1⟩
  | (k, d) :: ds, vs, i + 1, k', d', r, e => by
    obtain ⟨v, ws, rfl, _, _, h2⟩ := r
    obtain ⟨u, h3, h4⟩ := h2.get (i := i) (k := k') (d := d') (by simpa using e)
    exact ⟨u, by simpa using h3, h4⟩
theorem RepsK.keys : ∀ {ds : List (Key × D)} {vs : List (Key × V)}, RepsK K nm F ds vs → vs.map (·.1) = ds.map (·.1)
  | [], vs, r => by rw [show vs = [] from r]; rfl
  | (k, d) :: ds, vs, r => by
    obtain ⟨v, ws, rfl, _, _, h2⟩ := r
    rw [List.map_cons, List.map_cons, h2.keys]
theorem RepsK.vals : ∀ {ds : List (Key × D)} {vs : List (Key × V)}, RepsK K nm F ds vs → Reps K nm F (ds.map (·.2)) (vs.map (·.2))
  | [], vs, r => by rw [show vs = [] from r]; rfl
  | (k, d) :: ds, vs, r => by
    obtain ⟨v, ws, rfl, _, h1, h2⟩ := r
    exact ⟨v, _, rfl, h1, h2.vals⟩
theorem RepsK.kok : ∀ {ds : List (Key × D)} {vs : List (Key × V)}, RepsK K nm F ds vs → ∀ p ∈ ds, kOk p.1
  | [], vs, r, p, hp => by cases hp
  | (k, d) :: ds, vs, r, p, hp => by
    obtain ⟨v, ws, rfl, hk, _, h2⟩ := r
    rcases List.mem_cons.mp hp with rfl | hp
    · exact hk
    · exact h2.kok p hp
theorem Reps.get : ∀ {ds : List D} {vs : List V} {i : Nat} {d : D}, Reps K nm F ds vs → ds[i]? = some d → ∃ v, vs[i]? = some v ∧ Rep K nm F d v
  | [], vs, i, d, r, e => by simp at e
  | d :: ds, vs, 0, d', r, e => by
    obtain ⟨v, ws, rfl, h1, _⟩ := r
    have e' : d = d' := by simpa using e
    subst e'
    exact ⟨v, rfl, h1⟩
  | d :: ds, vs, i + 1, d', r, e => by
    obtain ⟨v, ws, rfl, _, h2⟩ := r
    obtain ⟨u, h3, h4⟩ := h2.get (i := i) (d := d') (by simpa using e)
    exact ⟨u, by simpa using h3, h4⟩
theorem Reps.get' : ∀ {ds : List D} {vs : List V} {i : Nat} {v : V}, Reps K nm F ds vs → vs[i]? = some v → ∃ d, ds[i]? = some d ∧ Rep K nm F d v := fun {ds vs i v} r e => by
  have hl := r.length
  have hi : i < ds.length := by
    have := (List.getElem?_eq_some_iff.mp e).1
    omega
  obtain ⟨u, h1, h2⟩ := r.get (List.getElem?_eq_getElem hi)
  rw [e] at h1
  cases h1
  exact ⟨_, List.getElem?_eq_getElem hi, h2⟩
theorem Reps.append : ∀ {ds es : List D} {vs ws : List V}, Reps K nm F ds vs → Reps K nm F es ws → Reps K nm F (ds ++ es) (vs ++ ws)
  | [], es, vs, ws, r, q => by rw [show vs = [] from r]; exact q
  | d :: ds, es, vs, ws, r, q => by
    obtain ⟨v, us, rfl, h1, h2⟩ := r
    exact ⟨v, us ++ ws, rfl, h1, h2.append q⟩
theorem Reps.take : ∀ {ds : List D} {vs : List V} (n : Nat), Reps K nm F ds vs → Reps K nm F (ds.take n) (vs.take n)
  | _, _, 0, _ => rfl
  | [], vs, n + 1, r => by rw [show vs = [] from r]; rfl
  | d :: ds, vs, n + 1, r => by
    obtain ⟨v, us, rfl, h1, h2⟩ := r
    exact ⟨v, us.take n, rfl, h1, h2.take n⟩
theorem Reps.drop : ∀ {ds : List D} {vs : List V} (n : Nat), Reps K nm F ds vs → Reps K nm F (ds.drop n) (vs.drop n)
  | _, _, 0, r => r
  | [], vs, n + 1, r => by rw [show vs = [] from r]; rfl
  | d :: ds, vs, n + 1, r => by
    obtain ⟨v, us, rfl, h1, h2⟩ := r
    exact h2.drop n
theorem Reps.reverse {ds : List D} {vs : List V} (r : Reps K nm F ds vs) : Reps K nm F ds.reverse vs.reverse := by
  induction ds generalizing vs with
  | nil => rw [show vs = [] from r]; rfl
  | cons d ds ih =>
    obtain ⟨v, us, rfl, h1, h2⟩ := r
    rw [List.reverse_cons, List.reverse_cons]
    exact (ih h2).append ⟨v, [], rfl, h1, rfl⟩
theorem reps_map {α : Type} {f : α → D} {g : α → V} (l : List α) (h : ∀ a ∈ l, Rep K nm F (f a) (g a)) : Reps K nm F (l.map f) (l.map g) := by
  induction l with
  | nil => rfl
  | cons a l ih => exact ⟨g a, l.map g, rfl, h a List.mem_cons_self, ih fun b hb => h b (List.mem_cons_of_mem _ hb)⟩
theorem reps_ints (ns : List Int) : Reps K nm F (ns.map D.int) (ns.map V.int) := reps_map ns fun _ _ => rfl
theorem reps_bls (ns : List Bool) : Reps K nm F (ns.map D.bl) (ns.map V.bl) := reps_map ns fun _ _ => rfl
end
/-! ### the world of a piece of code -/
structure Reg where
  K : PySem.W.Frag
  nm : Nat → Option Addr
  S : Type
  Mu : Addr → Prop
  SI : S → Hp → Prop
  loc : ∀ s H H', SI s H → (∀ a, Mu a → H' a = H a) → SI s H'
  dom : ∀ s H a, SI s H → Mu a → H a ≠ none
/-- nothing changes -/
abbrev R0 (K : PySem.W.Frag) (nm : Nat → Option Addr) : Reg := ⟨K, nm, Unit, fun _ => False, fun _ _ => True, fun _ _ _ h _ => h, fun _ _ _ _ h => h.elim⟩
/-- the law's list of draws, at T, is the thing number 0 -/
abbrev RT (K : PySem.W.Frag) (T : Addr) : Reg where
  K := K
  nm := fun k => if k = 0 then some T else none
  S := Nat
  Mu := fun a => a = T
  SI := fun n H => H T = some (.lst (List.replicate n (.int 0))) ∧ n ≤ sizeLine
  loc := fun n H H' h k => ⟨by rw [k T rfl]; exact h.1, h.2⟩
  dom := fun n H a h e => by rw [show a = T from e, h.1]; exact fun z => nomatch z
/-- F is borne by H (a dict may be locked) -/
def Sub (F H : Hp) : Prop := ∀ a o, F a = some o → H a = some o ∨ ∃ kvs ob, o = .dK kvs ∧ H a = some (.frz ob (.dK kvs))
structure Wd (R : Reg) (F H : Hp) (s : R.S) : Prop where
  sub : Sub F H
  mu : ∀ a, R.Mu a → F a = none
  si : R.SI s H
structure Stp (R : Reg) (F H F' H' : Hp) : Prop where
  fs : Same F F'
  hs : ∀ a o, ¬ R.Mu a → H a = some o → H' a = some o ∨ (F' a = some o ∧ ∃ kvs ob, o = .dK kvs ∧ H' a = some (.frz ob o))
  nw : ∀ a, F' a ≠ none → F a ≠ none ∨ H a = none
  th : ∀ a, H' a = none → H a = none
theorem Stp.refl {R : Reg} {F H : Hp} : Stp R F H F H := ⟨fun _ _ h => h, fun _ _ _ h => .inl h, fun _ h => .inl h, fun _ h => h⟩
theorem Stp.trans {R : Reg} {F H F1 H1 F2 H2 : Hp} (a : Stp R F H F1 H1) (b : Stp R F1 H1 F2 H2) : Stp R F H F2 H2 where
  fs := a.fs.trans b.fs
  hs := fun x o m h => by
    rcases a.hs x o m h with h | ⟨h1, kvs, ob, e, h2⟩
    · exact b.hs x o m h
    · rcases b.hs x _ m h2 with h3 | ⟨_, _, _, e3, _⟩
      · exact .inr ⟨b.fs _ _ h1, kvs, ob, e, h3⟩
      · cases e3
  nw := fun x h => by
    rcases b.nw x h with h | h
    · exact a.nw x h
    · exact .inr (a.th x h)
  th := fun x h => a.th x (b.th x h)
theorem Stp.own {R : Reg} {F H F' H' : Hp} (st : Stp R F H F' H') {a : Addr} {o : HO} (m : ¬ R.Mu a) (f : F a = none) (h : H a = some o) : H' a = some o := by
  rcases st.hs a o m h with h1 | ⟨h1, _⟩
  · exact h1
  · rcases st.nw a (by rw [h1]; exact fun z => nomatch z) with z | z
    · exact absurd f z
    · rw [h] at z; cases z
theorem Stp.nd {R : Reg} {F H F' H' : Hp} (st : Stp R F H F' H') {a : Addr} {o : HO} (m : ¬ R.Mu a) (n : ∀ kvs, o ≠ .dK kvs) (h : H a = some o) : H' a = some o := by
  rcases st.hs a o m h with h1 | ⟨_, kvs, _, e, _⟩
  · exact h1
  · exact absurd e (n kvs)
/-- a new object laid, into both -/
theorem Stp.new {R : Reg} {F H : Hp} {p : Addr} (o : HO) (hp : H p = none) (hF : F p = none) : Stp R F H (upd F p o) (upd H p o) where
  fs := fun b u q => by rw [upd_ne (ne_of_none q hF)]; exact q
  hs := fun b u _ q => by rw [upd_ne (ne_of_none q hp)]; exact .inl q
  nw := fun b h => by
    by_cases e : b = p
    · rw [e]; exact .inr hp
    · rw [upd_ne e] at h; exact .inl h
  th := fun b h => by
    by_cases e : b = p
    · rw [e, upd_same] at h; cases h
    · rw [upd_ne e] at h; exact h
/-- a new object laid, into the heap alone -/
theorem Stp.newH {R : Reg} {F H : Hp} {p : Addr} (o : HO) (hp : H p = none) : Stp R F H F (upd H p o) where
  fs := fun _ _ q => q
  hs := fun b u _ q => by rw [upd_ne (ne_of_none q hp)]; exact .inl q
  nw := fun b h => .inl h
  th := fun b h => by
    by_cases e : b = p
    · rw [e, upd_same] at h; cases h
    · rw [upd_ne e] at h; exact h
theorem Sub.free {F H : Hp} (h : Sub F H) {a : Addr} (e : H a = none) : F a = none := by
  cases q : F a with
  | none => rfl
  | some o =>
    rcases h a o q with z | ⟨_, _, _, z⟩ <;> rw [e] at z <;> cases z
theorem Wd.free {R : Reg} {F H : Hp} {s : R.S} (h : Wd R F H s) {a : Addr} (e : H a = none) : F a = none := h.sub.free e
theorem Wd.new {R : Reg} {F H : Hp} {s : R.S} (w : Wd R F H s) {p : Addr} (o : HO) (hp : H p = none) : Wd R (upd F p o) (upd H p o) s where
  sub := fun a u q => by
    by_cases e : a = p
    · rw [e, upd_same] at q; cases q; rw [e]; exact .inl upd_same
    · rw [upd_ne e] at q ⊢
      exact w.sub a u q
  mu := fun a m => by
    have ne : a ≠ p := fun e => w.si |> fun si => R.dom s H a si m (by rw [e]; exact hp)
    rw [upd_ne ne]; exact w.mu a m
  si := R.loc s H _ w.si fun a m => upd_ne fun e => R.dom s H a w.si m (by rw [e]; exact hp)
theorem Wd.newH {R : Reg} {F H : Hp} {s : R.S} (w : Wd R F H s) {p : Addr} (o : HO) (hp : H p = none) : Wd R F (upd H p o) s where
  sub := fun a u q => by
    have ne : a ≠ p := fun e => by rw [e, w.free hp] at q; cases q
    rw [upd_ne ne]
    exact w.sub a u q
  mu := w.mu
  si := R.loc s H _ w.si fun a m => upd_ne fun e => R.dom s H a w.si m (by rw [e]; exact hp)
theorem Sub.lst {F H : Hp} (h : Sub F H) {a : Addr} {xs : List V} (e : F a = some (.lst xs)) : H a = some (.lst xs) := by
  rcases h a _ e with z | ⟨_, _, z, _⟩
  · exact z
  · cases z
theorem Sub.tup {F H : Hp} (h : Sub F H) {a : Addr} {xs : List V} (e : F a = some (.tup xs)) : H a = some (.tup xs) := by
  rcases h a _ e with z | ⟨_, _, z, _⟩
  · exact z
  · cases z
theorem Sub.dK {F H : Hp} (h : Sub F H) {a : Addr} {xs : List (Key × V)} (e : F a = some (.dK xs)) : Rd H a (.dK xs) := by
  rcases h a _ e with z | ⟨_, ob, z, q⟩
  · exact .inl z
  · cases z; exact .inr ⟨ob, q⟩
theorem Sub.sqL {K : PySem.W.Frag} {F H : Hp} (h : Sub F H) {a : Addr} {xs : List V} (e : SqL K F a xs) : SqL K H a xs := by
  rcases e with (e | ⟨o, e⟩) | e
  · exact .inl (.inl (h.lst e))
  · rcases h a _ e with z | ⟨_, _, z, _⟩
    · exact .inl (.inr ⟨o, z⟩)
    · cases z
  · exact .inr e
/-! ### what is wanted behind a computation -/
def Post {α : Type} (R : Reg) (F H : Hp) (r : Res R.S α) (k : α → R.S → Hp → Hp → Prop) (x : Xn → R.S → Hp → Hp → Prop) : Prop := match r with
  | .ok a s => ∀ F' H', Wd R F' H' s → Stp R F H F' H' → k a s F' H'
  | .exc e s => ∀ F' H', Wd R F' H' s → Stp R F H F' H' → x e s F' H'
  | .bot => False
section
variable {α β : Type} {R : Reg} {F H F1 H1 : Hp} {k : α → R.S → Hp → Hp → Prop} {x : Xn → R.S → Hp → Hp → Prop}
theorem Post.from {r : Res R.S α} (h : Post R F H r k x) (st : Stp R F H F1 H1) : Post R F1 H1 r k x := by
  cases r with
  | ok a s => exact fun F' H' w q => h F' H' w (st.trans q)
  | exc e s => exact fun F' H' w q => h F' H' w (st.trans q)
  | bot => exact h
theorem Post.imp {r : Res R.S α} {k' : α → R.S → Hp → Hp → Prop} {x' : Xn → R.S → Hp → Hp → Prop} (h : Post R F H r k x) (hk : ∀ a s F' H', Wd R F' H' s → Stp R F H F' H' → k a s F' H' → k' a s F' H') (hx : ∀ a s F' H', Wd R F' H' s → Stp R F H F' H' → x a s F' H' → x' a s F' H') : Post R F H r k' x' := by
  cases r with
  | ok a s => exact fun F' H' w q => hk a s F' H' w q (h F' H' w q)
  | exc e s => exact fun F' H' w q => hx e s F' H' w q (h F' H' w q)
  | bot => exact h
theorem Post.bnd {m : M R.S α} {n : α → M R.S β} {s : R.S} {k : β → R.S → Hp → Hp → Prop} (h : Post R F H (Nw.bnd m n s) k x) : Post R F H (m s) (fun a s1 F1 H1 => Post R F1 H1 (n a s1) k x) x := by
  unfold Nw.bnd at h
  cases e : m s with
  | ok a s1 => rw [e] at h; exact fun F' H' w q => Post.from h q
  | exc a s1 => rw [e] at h; exact h
  | bot => rw [e] at h; exact h
theorem Post.lift {o : Option α} {s : R.S} (h : Post R F H (Nw.lift o s) k x) : ∃ a, o = some a ∧ ∀ F' H', Wd R F' H' s → Stp R F H F' H' → k a s F' H' := by
  cases o with
  | none => exact False.elim h
  | some a => exact ⟨a, rfl, h⟩
theorem Post.ret {a : α} {s : R.S} (h : Post R F H (Nw.ret a s) k x) (w : Wd R F H s) : k a s F H := h F H w Stp.refl
end
/-- the slots that hold plain data; those in O are the def's own things, read by other rules -/
structure Pu (R : Reg) (O : List Nat) (F : Hp) (σ : St) (r : Sl) : Prop where
  len : r.length = σ.length
  at_ : ∀ i d, i ∉ O → r[i]? = some (some d) → ∃ v, σ[i]? = some (some v) ∧ Rep R.K R.nm F d v
theorem Pu.mono {R : Reg} {O : List Nat} {F F' : Hp} {σ : St} {r : Sl} (h : Pu R O F σ r) (s : Same F F') : Pu R O F' σ r := ⟨h.len, fun i d hi e => by
  obtain ⟨v, h1, h2⟩ := h.at_ i d hi e
  exact ⟨v, h1, h2.mono s⟩⟩
section
variable (R : Reg) (W : WX) (O : List Nat)
/-- an expression computes f -/
def tD (f : Sl → M R.S D) : TE := fun σ H Q => ∃ F r s, Wd R F H s ∧ Pu R O F σ r ∧ Post R F H (f r s) (fun d _ F' H' => ∀ v, Rep R.K R.nm F' d v → Q v H') (fun x _ F' H' => ∀ cls dd, RepX R.K R.nm F' x cls dd → W cls dd σ H')
def tDT (f : Sl → M R.S Bool) : TT := fun σ H Q => ∃ F r s, Wd R F H s ∧ Pu R O F σ r ∧ Post R F H (f r s) (fun b _ _ H' => Q b H') (fun x _ F' H' => ∀ cls dd, RepX R.K R.nm F' x cls dd → W cls dd σ H')
def tDA (f : Sl → M R.S (List D)) : TA := fun σ H Q => ∃ F r s, Wd R F H s ∧ Pu R O F σ r ∧ Post R F H (f r s) (fun ds _ F' H' => ∀ vs, Reps R.K R.nm F' ds vs → Q vs H') (fun x _ F' H' => ∀ cls dd, RepX R.K R.nm F' x cls dd → W cls dd σ H')
end
/-! ### weaker readings -/
section
variable {X : Cx}
theorem pe_imp {e : Expr} {t t' : TE} (h : PE X e t) (k : ∀ σ H Q, t' σ H Q → t σ H Q) : PE X e t' := ⟨fun pins s σ H Q I q => h.run pins s σ H Q I (k σ H Q q)⟩
theorem pt_imp {e : Expr} {t t' : TT} (h : PT X e t) (k : ∀ σ H Q, t' σ H Q → t σ H Q) : PT X e t' := ⟨fun pins s σ H Q I q => h.run pins s σ H Q I (k σ H Q q)⟩
theorem pw_imp {e : Expr} {t t' : TT} (h : PW X e t) (k : ∀ σ H Q, t' σ H Q → t σ H Q) : PW X e t' := ⟨fun wh pins s σ H Q I q => h.run wh pins s σ H Q I (k σ H Q q)⟩
theorem pa_imp {e : List Expr} {t t' : TA} (h : PA X e t) (k : ∀ σ H Q, t' σ H Q → t σ H Q) : PA X e t' := ⟨fun pos pins s σ H Q I q => h.run pos pins s σ H Q I (k σ H Q q)⟩
theorem ps_imp {e : Stmt} {t t' : TS} (h : PS X e t) (k : ∀ D σ H, t' D σ H → t D σ H) : PS X e t' := ⟨fun pins s σ H D I q => h.run pins s σ H D I (k D σ H q)⟩
theorem pss_imp {e : List Stmt} {t t' : TS} (h : PSs X e t) (k : ∀ D σ H, t' D σ H → t D σ H) : PSs X e t' := ⟨fun pins s σ H D I q => h.run pins s σ H D I (k D σ H q)⟩
theorem pi_imp {tg e : Expr} {t t' : TI} (h : PI X tg e t) (k : ∀ σ H Q, t' σ H Q → t σ H Q) : PI X tg e t' := ⟨fun pins s σ H Q I q => h.run pins s σ H Q I (k σ H Q q)⟩
theorem pe_or2 {e : Expr} {t t' : TE} (h : PE X e t) (h' : PE X e t') : PE X e (fun σ H Q => t σ H Q ∨ t' σ H Q) := ⟨fun pins s σ H Q I q => q.elim (h.run pins s σ H Q I) (h'.run pins s σ H Q I)⟩
theorem ps_or2 {e : Stmt} {t t' : TS} (h : PS X e t) (h' : PS X e t') : PS X e (fun D σ H => t D σ H ∨ t' D σ H) := ⟨fun pins s σ H D I q => q.elim (h.run pins s σ H D I) (h'.run pins s σ H D I)⟩
theorem pi_or2 {tg e : Expr} {t t' : TI} (h : PI X tg e t) (h' : PI X tg e t') : PI X tg e (fun σ H Q => t σ H Q ∨ t' σ H Q) := ⟨fun pins s σ H Q I q => q.elim (h.run pins s σ H Q I) (h'.run pins s σ H Q I)⟩
end
end Nw
set_option Elab.async false
set_option linter.all false
set_option maxRecDepth 100000
set_option maxHeartbeats 4000000
/-! Part B: expressions. -/
namespace Nw
open PySem PySem.Spec L2
/-! ### what the pieces compute -/
section
variable {S : Type}
def getS (r : Sl) (i : Nat) : Option D := (r[i]?).join
def dVar (i : Nat) : Sl → M S D := fun r => lift (getS r i)
def dC (d : D) : Sl → M S D := fun _ => ret d
def dUn (op : D → Option D) (f : Sl → M S D) : Sl → M S D := fun r => bnd (f r) fun x => lift (op x)
def dOp (op : D → D → Option D) (f g : Sl → M S D) : Sl → M S D := fun r => bnd (f r) fun x => bnd (g r) fun y => lift (op x y)
def dNil : Sl → M S (List D) := fun _ => ret []
def dCons (f : Sl → M S D) (g : Sl → M S (List D)) : Sl → M S (List D) := fun r => bnd (f r) fun x => bnd (g r) fun xs => ret (x :: xs)
def dAll (op : List D → Option D) (f : Sl → M S (List D)) : Sl → M S D := fun r => bnd (f r) fun xs => lift (op xs)
def dCall (n : Nat) (g : List D → M S D) (f : Sl → M S (List D)) : Sl → M S D := fun r => bnd (f r) fun xs => if xs.length = n then g xs else bot
def dTst (f : Sl → M S D) (tr : D → Option Bool) : Sl → M S Bool := fun r => bnd (f r) fun x => lift (tr x)
def dIf (c : Sl → M S Bool) (f g : Sl → M S D) : Sl → M S D := fun r => bnd (c r) fun b => if b = true then f r else g r
def tAndD (c e : Sl → M S Bool) : Sl → M S Bool := fun r => bnd (c r) fun b => if b = true then e r else ret false
def tOrD (c e : Sl → M S Bool) : Sl → M S Bool := fun r => bnd (c r) fun b => if b = true then ret true else e r
def tNotD (c : Sl → M S Bool) : Sl → M S Bool := fun r => bnd (c r) fun b => ret (!b)
end
/-- a value's truth -/
def truD : D → Option Bool
  | .non => some false
  | .bl b => some b
  | .int i => some (i != 0)
  | .str x => some ((x.length : Int) != 0)
  | .row xs => some (!xs.isEmpty)
  | .tup xs => some (!xs.isEmpty)
  | .tab xs => some (!xs.isEmpty)
  | .kro xs => some (!xs.isEmpty)
  | _ => none
def isBl : D → Option Bool
  | .bl b => some b
  | _ => none
section
variable {S : Type}
/-- a and b, a or b, not a as values -/
def dAnd (f g : Sl → M S D) : Sl → M S D := fun r => bnd (f r) fun x => bnd (lift (truD x)) fun b => if b = true then g r else ret x
def dOr (f g : Sl → M S D) : Sl → M S D := fun r => bnd (f r) fun x => bnd (lift (truD x)) fun b => if b = true then ret x else g r
end
def notD (x : D) : Option D := (truD x).map fun b => .bl (!b)
section
variable {X : Cx} {R : Reg} {W : WX} {O : List Nat}
/-! ### names and constants -/
theorem getS_some {r : Sl} {i : Nat} {d : D} (h : getS r i = some d) : r[i]? = some (some d) := by
  unfold getS at h
  cases e : r[i]? with
  | none => rw [e] at h; cases h
  | some o => rw [e] at h; exact congrArg some h
theorem de_var (i : Nat) {x : Str} {pos : Pos} (hO : i ∉ O) (hN : X.N[i]? = some x := by rfl) (hv : Vis X.env.scope x := by first | exact Or.inl rfl | exact Or.inr (Or.inl rfl) | exact Or.inr (Or.inr rfl)) (hd : (x == ("__debug__" : Str)) = false := by decide)
    (hcd : (x == ("__classdict__" : Str)) = false := by decide) : PE X (.Name x pos) (tD R W O (dVar i)) := pe_imp (pe_var hN hv hd hcd) fun σ H Q h => by
  obtain ⟨F, r, s, w, pu, p⟩ := h
  obtain ⟨d, e, k⟩ := p.lift
  obtain ⟨v, h1, h2⟩ := pu.at_ i d hO (getS_some e)
  exact ⟨v, h1, k F H w Stp.refl v h2⟩
theorem de_c {e : Expr} {v : V} (d : D) (h : PE X e (tC v)) (hr : ∀ F, Rep R.K R.nm F d v) : PE X e (tD R W O (dC d)) := pe_imp h fun σ H Q h => by
  obtain ⟨F, r, s, w, pu, p⟩ := h
  exact p F H w Stp.refl v (hr F)
theorem de_int {i j pos} : PE X (.Constant (.int i) j pos) (tD R W O (dC (.int i))) := de_c _ pe_int fun _ => rfl
theorem de_bl {i j pos} : PE X (.Constant (.bool i) j pos) (tD R W O (dC (.bl i))) := de_c _ pe_bl fun _ => rfl
theorem de_non {j pos} : PE X (.Constant .none j pos) (tD R W O (dC .non)) := de_c _ pe_non fun _ => rfl
theorem de_str {i j pos} (h : i.length ≤ sizeLine := by decide +kernel) : PE X (.Constant (.str i) j pos) (tD R W O (dC (.str i))) := de_c _ pe_str fun _ => ⟨rfl, h⟩
/-- a module's number, text, list -/
theorem de_gint {x : Str} {i : Int} {pos : Pos} (hg : Gl X x) (hm : ∃ t, X.mg x = some (.int i t)) (hd : (x == ("__debug__" : Str)) = false := by decide) : PE X (.Name x pos) (tD R W O (dC (.int i))) := by
  obtain ⟨t, hm⟩ := hm
  exact de_c _ (pe_glob (v := .int i) hg hm ⟨t, rfl⟩ hd) fun _ => rfl
theorem de_gstr {x z : Str} {pos : Pos} (hg : Gl X x) (hm : ∃ t, X.mg x = some (.str z t)) (hz : z.length ≤ sizeLine := by decide +kernel) (hd : (x == ("__debug__" : Str)) = false := by decide) : PE X (.Name x pos) (tD R W O (dC (.str z))) := by
  obtain ⟨t, hm⟩ := hm
  exact de_c _ (pe_glob (v := .str z) hg hm ⟨t, rfl⟩ hd) fun _ => ⟨rfl, hz⟩
/-! ### operators -/
def OpSat (R : Reg) (r : R2) (op : D → D → Option D) : Prop := ∀ (x y : V) (d e d' : D) (F H : Hp) (s : R.S) (Q : VK), Wd R F H s → Rep R.K R.nm F d x → Rep R.K R.nm F e y → op d e = some d' →
  (∀ v F' H', Wd R F' H' s → Stp R F H F' H' → Rep R.K R.nm F' d' v → Q v H') → r x y H Q
variable {a b e : Expr} {f g : Sl → M R.S D} {pos : Pos}
theorem sat_op {r : R2} {op : D → D → Option D} (hs : OpSat R r op) (σ : L2.St) (H : Hp) (Q : VK) (h : tD R W O (dOp op f g) σ H Q) : tOp r (tD R W O f) (tD R W O g) σ H Q := by
  obtain ⟨F, ρ, s, w, pu, p⟩ := h
  refine ⟨F, ρ, s, w, pu, p.bnd.imp (fun d s1 F1 H1 w1 st1 p1 v rv => ?_) fun _ _ _ _ _ _ z => z⟩
  refine ⟨F1, ρ, s1, w1, pu.mono st1.fs, p1.bnd.imp (fun e s2 F2 H2 w2 st2 p2 u ru => ?_) fun _ _ _ _ _ _ z => z⟩
  obtain ⟨d', e', k⟩ := p2.lift
  exact hs v u d e d' F2 H2 s2 Q w2 (rv.mono st2.fs) ru e' fun v' F' H' w' st' r' => k F' H' w' st' v' r'
theorem de_op {o : Operator} {r : R2} {op : D → D → Option D} (ho : OpR X (binaryOp o) r) (hs : OpSat R r op) (ha : PE X a (tD R W O f)) (hb : PE X b (tD R W O g)) : PE X (.BinOp a o b pos) (tD R W O (dOp op f g)) :=
  pe_imp (pe_op ho ha hb) (sat_op hs)
theorem de_cmp {o : CmpOp} {r : R2} {op : D → D → Option D} (ho : OpR X (compareOp o) r) (hs : OpSat R r op) (ha : PE X a (tD R W O f)) (hb : PE X b (tD R W O g)) (hm : behindInMarks o b = false) : PE X (.Compare a [o] [b] pos) (tD R W O (dOp op f g)) :=
  pe_imp (pe_cmpR ho ha hb hm) (sat_op hs)
theorem dt_cmp {o : CmpOp} {r : R2} {op : D → D → Option D} (ho : OpR X (compareOp o) r) (hs : OpSat R r op) (ha : PE X a (tD R W O f)) (hb : PE X b (tD R W O g)) (hm : behindInMarks o b = false) : PT X (.Compare a [o] [b] pos) (tDT R W O (dTst (dOp op f g) isBl)) :=
  pt_imp (pt_cmpR ho ha hb hm) fun σ H Q h => by
    obtain ⟨F, ρ, s, w, pu, p⟩ := h
    refine sat_op hs σ H _ ⟨F, ρ, s, w, pu, p.bnd.imp (fun d s1 F1 H1 w1 st1 p1 v rv => ?_) fun _ _ _ _ _ _ z => z⟩
    obtain ⟨c, ec, k⟩ := p1.lift
    cases d <;> try cases ec
    exact ⟨_, rv, k F1 H1 w1 Stp.refl⟩
theorem OpSat.or {r r' : R2} {op op' : D → D → Option D} (h : OpSat R r op) (h' : OpSat R r' op') : OpSat R (fun x y H Q => r x y H Q ∨ r' x y H Q) (fun d e => (op d e).or (op' d e)) := fun x y d e d' F H s Q w rx ry eo k => by
  have eo : (op d e).or (op' d e) = some d' := eo
  cases q : op d e with
  | some z =>
    rw [q] at eo
    exact .inl (h x y d e d' F H s Q w rx ry (by rw [q]; exact eo) k)
  | none =>
    rw [q] at eo
    exact .inr (h' x y d e d' F H s Q w rx ry eo k)
/-! ### unary -/
def UnSat (R : Reg) (r : V → Hp → VK → Prop) (op : D → Option D) : Prop := ∀ (x : V) (d d' : D) (F H : Hp) (s : R.S) (Q : VK), Wd R F H s → Rep R.K R.nm F d x → op d = some d' →
  (∀ v F' H', Wd R F' H' s → Stp R F H F' H' → Rep R.K R.nm F' d' v → Q v H') → r x H Q
theorem de_un {o : UnaryOp} {r : V → Hp → VK → Prop} {op : D → Option D} (ho : UnR X (unaryOp o) r) (hs : UnSat R r op) (ha : PE X a (tD R W O f)) : PE X (.UnaryOp o a pos) (tD R W O (dUn op f)) :=
  pe_imp (pe_un ho ha) fun σ H Q h => by
    obtain ⟨F, ρ, s, w, pu, p⟩ := h
    refine ⟨F, ρ, s, w, pu, p.bnd.imp (fun d s1 F1 H1 w1 st1 p1 v rv => ?_) fun _ _ _ _ _ _ z => z⟩
    obtain ⟨d', e', k⟩ := p1.lift
    exact hs v d d' F1 H1 s1 Q w1 rv e' fun v' F' H' w' st' r' => k F' H' w' st' v' r'
def negD : D → Option D
  | .int i => some (.int (-i))
  | _ => none
theorem sat_neg : UnSat R (rU fun i => .int (-i)) negD := fun x d d' F H s Q w rx e k => by
  cases d <;> try cases e
  exact ⟨_, rx, k _ F H w Stp.refl rfl⟩
theorem de_neg (ha : PE X a (tD R W O f)) : PE X (.UnaryOp .USub a pos) (tD R W O (dUn negD f)) := de_un un_neg sat_neg ha
/-! ### truth -/
def TruW (K : PySem.W.Frag) (x : V) (H : Hp) (k : Bool) : Prop := TruV K x H k ∨ ∃ p kvs, x = .ref p ∧ Rd H p (.dK kvs) ∧ k = !kvs.isEmpty
theorem tru_okW : TruR X (fun x H Q => ∃ k, TruW X.K x H k ∧ Q k H) := by
  intro pins s σ H x v Q I rx h
  obtain ⟨k, e | ⟨p, kvs, rfl, hd, rfl⟩, q⟩ := h
  · exact tru_ok pins s σ H x v Q I rx ⟨k, e, q⟩
  · cases rx
    exact d_truth I hd fun s' I' => ⟨H, I', q⟩
theorem truW_of {K : PySem.W.Frag} {nm : Nat → Option Addr} {F H : Hp} {d : D} {v : V} {k : Bool} (sb : Sub F H) (r : Rep K nm F d v) (e : truD d = some k) : TruW K v H k := by
  cases d with
  | non => cases e; rw [show v = V.non from r]; exact .inl rfl
  | bl c => cases e; rw [show v = V.bl k from r]; exact .inl rfl
  | int i => cases e; rw [show v = V.int i from r]; exact .inl rfl
  | str x => cases e; obtain ⟨rfl, hz⟩ := r; exact .inl ⟨hz, rfl⟩
  | row xs =>
    cases e
    obtain ⟨a, vs, rfl, h1, h2, h3⟩ := r
    refine .inl (.inl ⟨vs, SqL.of (sb.lst h1), ?_⟩)
    cases xs with
    | nil => rw [show vs = [] from h3]; rfl
    | cons d ds => obtain ⟨v, ws, rfl, _⟩ := h3; rfl
  | tup xs =>
    cases e
    obtain ⟨a, vs, rfl, h1, h2, h3⟩ := r
    refine .inl (.inr (.inl ⟨vs, SqT.of (sb.tup h1), ?_⟩))
    cases xs with
    | nil => rw [show vs = [] from h3]; rfl
    | cons d ds => obtain ⟨v, ws, rfl, _⟩ := h3; rfl
  | tab xs =>
    cases e
    obtain ⟨a, vs, rfl, h1, h2, h3⟩ := r
    refine .inr ⟨a, vs, rfl, sb.dK h1, ?_⟩
    cases xs with
    | nil => rw [show vs = [] from h3]; rfl
    | cons d ds => obtain ⟨k, d⟩ := d; obtain ⟨v, ws, rfl, _⟩ := h3; rfl
  | kro xs =>
    cases e
    obtain ⟨a, vs, rfl, h1, h2, h3⟩ := r
    refine .inl (.inl ⟨vs, sb.sqL h1, ?_⟩)
    cases xs with
    | nil => rw [show vs = [] from h3]; rfl
    | cons d ds => obtain ⟨v, ws, rfl, _⟩ := h3; rfl
  | exc _ _ => cases e
  | obj _ => cases e
def tTruW (K : PySem.W.Frag) (ta : TE) : TT := fun σ H Q => ta σ H fun x H' => ∃ k, TruW K x H' k ∧ Q k H'
theorem sat_tru (hK : R.K = X.K) (σ : L2.St) (H : Hp) (Q : Bool → Hp → Prop) (h : tDT R W O (dTst f truD) σ H Q) : tTruW X.K (tD R W O f) σ H Q := by
  obtain ⟨F, ρ, s, w, pu, p⟩ := h
  refine ⟨F, ρ, s, w, pu, p.bnd.imp (fun d s1 F1 H1 w1 st1 p1 v rv => ?_) fun _ _ _ _ _ _ z => z⟩
  obtain ⟨c, ec, k⟩ := p1.lift
  exact ⟨c, by rw [← hK]; exact truW_of w1.sub rv ec, k F1 H1 w1 Stp.refl⟩
/-- an expression as a test -/
theorem dt_tru (hK : R.K = X.K) (ha : PE X a (tD R W O f)) (he : ∀ whole, isTrue a X.env whole = (do let v ← whole; standAt a.pos; holding [v] (truthy v)) := by intro _; rfl) : PT X a (tDT R W O (dTst f truD)) := by
  refine pt_imp (t := tTruW X.K (tD R W O f)) ⟨fun pins s σ H Q I h => ?_⟩ (sat_tru hK)
  exact PyProof.Rows.isTrue_plain (thn (ha.run pins s σ H _ I h) fun v s1 ⟨x, H1, I1, r1, q1⟩ => tru_okW pins s1 σ H1 x v Q I1 r1 q1) (he _)
variable {c c' : Sl → M R.S Bool} {rest : List Expr}
theorem dt_not (ha : PT X a (tDT R W O c)) : PT X (.UnaryOp .Not a pos) (tDT R W O (tNotD c)) := pt_imp (pt_not ha) fun σ H Q h => by
  obtain ⟨F, ρ, s, w, pu, p⟩ := h
  exact ⟨F, ρ, s, w, pu, p.bnd.imp (fun b s1 F1 H1 w1 st1 p1 => p1 F1 H1 w1 Stp.refl) fun _ _ _ _ _ _ z => z⟩
theorem dw_and1 (ha : PT X a (tDT R W O c)) : PW X (.BoolOp .And [a] pos) (tDT R W O c) := pw_and1 ha
theorem dw_or1 (ha : PT X a (tDT R W O c)) : PW X (.BoolOp .Or [a] pos) (tDT R W O c) := pw_or1 ha
theorem dw_and (ha : PT X a (tDT R W O c)) (hb : PW X (.BoolOp .And (b :: rest) pos) (tDT R W O c')) : PW X (.BoolOp .And (a :: b :: rest) pos) (tDT R W O (tAndD c c')) := pw_imp (pw_and ha hb) fun σ H Q h => by
  obtain ⟨F, ρ, s, w, pu, p⟩ := h
  refine ⟨F, ρ, s, w, pu, p.bnd.imp (fun b s1 F1 H1 w1 st1 p1 => ?_) fun _ _ _ _ _ _ z => z⟩
  cases b with
  | true => rw [if_pos rfl] at p1 ⊢; exact ⟨F1, ρ, s1, w1, pu.mono st1.fs, p1⟩
  | false => rw [if_neg Bool.false_ne_true] at p1 ⊢; exact p1 F1 H1 w1 Stp.refl
theorem dw_or (ha : PT X a (tDT R W O c)) (hb : PW X (.BoolOp .Or (b :: rest) pos) (tDT R W O c')) : PW X (.BoolOp .Or (a :: b :: rest) pos) (tDT R W O (tOrD c c')) := pw_imp (pw_or ha hb) fun σ H Q h => by
  obtain ⟨F, ρ, s, w, pu, p⟩ := h
  refine ⟨F, ρ, s, w, pu, p.bnd.imp (fun b s1 F1 H1 w1 st1 p1 => ?_) fun _ _ _ _ _ _ z => z⟩
  cases b with
  | true => rw [if_pos rfl] at p1 ⊢; exact p1 F1 H1 w1 Stp.refl
  | false => rw [if_neg Bool.false_ne_true] at p1 ⊢; exact ⟨F1, ρ, s1, w1, pu.mono st1.fs, p1⟩
/-- and, or, not as values -/
theorem de_one {op} (h : PE X a (tD R W O f)) : PE X (.BoolOp op [a] pos) (tD R W O f) := pe_one h
theorem de_and (hK : R.K = X.K) (ha : PE X a (tD R W O f)) (hb : PE X (.BoolOp .And (b :: rest) pos) (tD R W O g)) : PE X (.BoolOp .And (a :: b :: rest) pos) (tD R W O (dAnd f g)) := by
  refine ⟨fun pins s σ H Q I h => ?_⟩
  obtain ⟨F, ρ, st, w, pu, p⟩ := h
  refine PyProof.Rows.BoolOp_and (thn (ha.run pins s σ H (fun v H1 => ∃ k, TruW X.K v H1 k ∧ if k = true then tD R W O g σ H1 Q else Q v H1) I ⟨F, ρ, st, w, pu, p.bnd.imp (fun d s1 F1 H1 w1 st1 p1 v rv => ?_) fun _ _ _ _ _ _ z => z⟩) fun v s1 ⟨x, H1, I1, r1, q1⟩ => ?_)
  · obtain ⟨k, ek, p2⟩ := p1.bnd.lift
    refine ⟨k, by rw [← hK]; exact truW_of w1.sub rv ek, ?_⟩
    have p3 := p2 F1 H1 w1 Stp.refl
    cases k with
    | true => rw [if_pos rfl] at p3 ⊢; exact ⟨F1, ρ, s1, w1, pu.mono st1.fs, p3⟩
    | false => rw [if_neg Bool.false_ne_true] at p3 ⊢; exact p3 F1 H1 w1 Stp.refl v rv
  · obtain ⟨k, e, q1⟩ := q1
    refine thn (tru_okW pins s1 σ H1 x v (fun c H2 => c = k ∧ H2 = H1) I1 r1 ⟨k, e, rfl, rfl⟩) fun c s2 hc => ?_
    obtain ⟨H2, I2, e1, e2⟩ := hc
    rw [e2] at I2
    rw [← e1] at q1
    cases c with
    | true => exact hb.run pins s2 σ H1 Q I2 q1
    | false => exact ⟨x, H1, I2, r1, q1⟩
theorem de_or (hK : R.K = X.K) (ha : PE X a (tD R W O f)) (hb : PE X (.BoolOp .Or (b :: rest) pos) (tD R W O g)) : PE X (.BoolOp .Or (a :: b :: rest) pos) (tD R W O (dOr f g)) := by
  refine ⟨fun pins s σ H Q I h => ?_⟩
  obtain ⟨F, ρ, st, w, pu, p⟩ := h
  refine PyProof.Rows.BoolOp_or (thn (ha.run pins s σ H (fun v H1 => ∃ k, TruW X.K v H1 k ∧ if k = true then Q v H1 else tD R W O g σ H1 Q) I ⟨F, ρ, st, w, pu, p.bnd.imp (fun d s1 F1 H1 w1 st1 p1 v rv => ?_) fun _ _ _ _ _ _ z => z⟩) fun v s1 ⟨x, H1, I1, r1, q1⟩ => ?_)
  · obtain ⟨k, ek, p2⟩ := p1.bnd.lift
    refine ⟨k, by rw [← hK]; exact truW_of w1.sub rv ek, ?_⟩
    have p3 := p2 F1 H1 w1 Stp.refl
    cases k with
    | true => rw [if_pos rfl] at p3 ⊢; exact p3 F1 H1 w1 Stp.refl v rv
    | false => rw [if_neg Bool.false_ne_true] at p3 ⊢; exact ⟨F1, ρ, s1, w1, pu.mono st1.fs, p3⟩
  · obtain ⟨k, e, q1⟩ := q1
    refine thn (tru_okW pins s1 σ H1 x v (fun c H2 => c = k ∧ H2 = H1) I1 r1 ⟨k, e, rfl, rfl⟩) fun c s2 hc => ?_
    obtain ⟨H2, I2, e1, e2⟩ := hc
    rw [e2] at I2
    rw [← e1] at q1
    cases c with
    | true => exact ⟨x, H1, I2, r1, q1⟩
    | false => exact hb.run pins s2 σ H1 Q I2 q1
theorem de_not (hK : R.K = X.K) (ha : PE X a (tD R W O f)) : PE X (.UnaryOp .Not a pos) (tD R W O (dUn notD f)) := by
  refine ⟨fun pins s σ H Q I h => ?_⟩
  obtain ⟨F, ρ, st, w, pu, p⟩ := h
  refine PyProof.Rows.UnaryOp_ (thn (ha.run pins s σ H (fun v H1 => ∃ k, TruW X.K v H1 k ∧ Q (.bl (!k)) H1) I ⟨F, ρ, st, w, pu, p.bnd.imp (fun d s1 F1 H1 w1 st1 p1 v rv => ?_) fun _ _ _ _ _ _ z => z⟩) fun v s1 ⟨x, H1, I1, r1, q1⟩ => ?_)
  · obtain ⟨z, ez, p2⟩ := p1.lift
    unfold notD at ez
    cases ek : truD d with
    | none => rw [ek] at ez; cases ez
    | some k =>
      rw [ek] at ez
      cases ez
      exact ⟨k, by rw [← hK]; exact truW_of w1.sub rv ek, p2 F1 H1 w1 Stp.refl _ rfl⟩
  · obtain ⟨k, e, q1⟩ := q1
    exact PyProof.Rows.not_of (thn (tru_okW pins s1 σ H1 x v (fun c H2 => Q (.bl (!c)) H2) I1 r1 ⟨k, e, q1⟩) fun c s2 ⟨H2, I2, q2⟩ => ⟨.bl (!c), H2, I2, rfl, q2⟩)
theorem de_if {t : Expr} (hc : PT X t (tDT R W O c)) (ha : PE X a (tD R W O f)) (hb : PE X b (tD R W O g)) : PE X (.IfExp t a b pos) (tD R W O (dIf c f g)) := pe_imp (pe_ifExp hc ha hb) fun σ H Q h => by
  obtain ⟨F, ρ, s, w, pu, p⟩ := h
  refine ⟨F, ρ, s, w, pu, p.bnd.imp (fun k s1 F1 H1 w1 st1 p1 => ?_) fun _ _ _ _ _ _ z => z⟩
  cases k with
  | true => rw [if_pos rfl] at p1 ⊢; exact ⟨F1, ρ, s1, w1, pu.mono st1.fs, p1⟩
  | false => rw [if_neg Bool.false_ne_true] at p1 ⊢; exact ⟨F1, ρ, s1, w1, pu.mono st1.fs, p1⟩
/-! ### arguments, displays, calls -/
variable {es : List Expr} {fs : Sl → M R.S (List D)}
theorem da_nil : PA X [] (tDA R W O dNil) := pa_imp pa_nil fun σ H Q h => by
  obtain ⟨F, ρ, s, w, pu, p⟩ := h
  exact p F H w Stp.refl [] rfl
theorem da_cons (ha : PE X e (tD R W O f)) (hr : PA X es (tDA R W O fs)) (hs : starEach (e :: es) X.env = (false, eval e X.env) :: starEach es X.env := by rfl) : PA X (e :: es) (tDA R W O (dCons f fs)) := pa_imp (pa_cons ha hr hs) fun σ H Q h => by
  obtain ⟨F, ρ, s, w, pu, p⟩ := h
  refine ⟨F, ρ, s, w, pu, p.bnd.imp (fun d s1 F1 H1 w1 st1 p1 v rv => ?_) fun _ _ _ _ _ _ z => z⟩
  refine ⟨F1, ρ, s1, w1, pu.mono st1.fs, p1.bnd.imp (fun ds s2 F2 H2 w2 st2 p2 vs rvs => ?_) fun _ _ _ _ _ _ z => z⟩
  exact p2 F2 H2 w2 Stp.refl (v :: vs) ⟨v, vs, rfl, rv.mono st2.fs, rvs⟩
def tupD (xs : List D) : Option D := if xs.length ≤ sizeLine then some (.tup xs) else none
def rowD (xs : List D) : Option D := if xs.length ≤ sizeLine then some (.row xs) else none
theorem tupD_some {xs : List D} {d : D} (h : tupD xs = some d) : xs.length ≤ sizeLine ∧ d = .tup xs := by
  unfold tupD at h
  split at h
  · cases h; exact ⟨by assumption, rfl⟩
  · cases h
theorem rowD_some {xs : List D} {d : D} (h : rowD xs = some d) : xs.length ≤ sizeLine ∧ d = .row xs := by
  unfold rowD at h
  split at h
  · cases h; exact ⟨by assumption, rfl⟩
  · cases h
/-- a new list, tuple is laid -/
theorem new_row {F H : Hp} {s : R.S} {xs : List D} {vs : List V} {p : Addr} {Q : VK} (w : Wd R F H s) (hz : xs.length ≤ sizeLine) (r : Reps R.K R.nm F xs vs) (hp : H p = none)
    (k : ∀ v F' H', Wd R F' H' s → Stp R F H F' H' → Rep R.K R.nm F' (.row xs) v → Q v H') : Q (.ref p) (upd H p (.lst vs)) := by
  have st : Stp R F H (upd F p (.lst vs)) (upd H p (.lst vs)) := Stp.new _ hp (w.free hp)
  exact k (.ref p) (upd F p (.lst vs)) _ (w.new _ hp) st ⟨p, vs, rfl, upd_same, hz, r.mono st.fs⟩
theorem new_tup {F H : Hp} {s : R.S} {xs : List D} {vs : List V} {p : Addr} {Q : VK} (w : Wd R F H s) (hz : xs.length ≤ sizeLine) (r : Reps R.K R.nm F xs vs) (hp : H p = none)
    (k : ∀ v F' H', Wd R F' H' s → Stp R F H F' H' → Rep R.K R.nm F' (.tup xs) v → Q v H') : Q (.ref p) (upd H p (.tup vs)) := by
  have st : Stp R F H (upd F p (.tup vs)) (upd H p (.tup vs)) := Stp.new _ hp (w.free hp)
  exact k (.ref p) (upd F p (.tup vs)) _ (w.new _ hp) st ⟨p, vs, rfl, upd_same, hz, r.mono st.fs⟩
theorem new_tab {F H : Hp} {s : R.S} {xs : List (Key × D)} {vs : List (Key × V)} {p : Addr} {Q : VK} (w : Wd R F H s) (hz : xs.length ≤ sizeLine) (r : RepsK R.K R.nm F xs vs) (hp : H p = none)
    (k : ∀ v F' H', Wd R F' H' s → Stp R F H F' H' → Rep R.K R.nm F' (.tab xs) v → Q v H') : Q (.ref p) (upd H p (.dK vs)) := by
  have st : Stp R F H (upd F p (.dK vs)) (upd H p (.dK vs)) := Stp.new _ hp (w.free hp)
  exact k (.ref p) (upd F p (.dK vs)) _ (w.new _ hp) st ⟨p, vs, rfl, upd_same, hz, r.mono st.fs⟩
theorem de_tup {x1} (h : PA X es (tDA R W O fs)) : PE X (.Tuple es x1 pos) (tD R W O (dAll tupD fs)) := pe_imp (pe_tup h) fun σ H Q h => by
  obtain ⟨F, ρ, s, w, pu, p⟩ := h
  refine ⟨F, ρ, s, w, pu, p.bnd.imp (fun ds s1 F1 H1 w1 st1 p1 vs rvs => ?_) fun _ _ _ _ _ _ z => z⟩
  obtain ⟨d, ed, k⟩ := p1.lift
  obtain ⟨hz, rfl⟩ := tupD_some ed
  exact ⟨by rw [rvs.length]; exact hz, fun q hq => new_tup w1 hz rvs hq fun v F' H' w' st' r' => k F' H' w' st' v r'⟩
theorem de_lst (h : PA X es (tDA R W O fs)) : PE X (.List es pos) (tD R W O (dAll rowD fs)) := pe_imp (pe_lst h) fun σ H Q h => by
  obtain ⟨F, ρ, s, w, pu, p⟩ := h
  refine ⟨F, ρ, s, w, pu, p.bnd.imp (fun ds s1 F1 H1 w1 st1 p1 vs rvs => ?_) fun _ _ _ _ _ _ z => z⟩
  obtain ⟨d, ed, k⟩ := p1.lift
  obtain ⟨hz, rfl⟩ := rowD_some ed
  exact ⟨by rw [rvs.length]; exact hz, fun q hq => new_row w1 hz rvs hq fun v F' H' w' st' r' => k F' H' w' st' v r'⟩
/-- a built-in's call -/
def CallSat (R : Reg) (r : List V → Hp → VK → Prop) (op : List D → Option D) : Prop := ∀ (xs : List V) (ds : List D) (d' : D) (F H : Hp) (s : R.S) (Q : VK), Wd R F H s → Reps R.K R.nm F ds xs → op ds = some d' →
  (∀ v F' H', Wd R F' H' s → Stp R F H F' H' → Rep R.K R.nm F' d' v → Q v H') → r xs H Q
theorem sat_cb {r : List V → Hp → VK → Prop} {op : List D → Option D} (hs : CallSat R r op) (σ : L2.St) (H : Hp) (Q : VK) (h : tD R W O (dAll op fs) σ H Q) : tCB r (tDA R W O fs) σ H Q := by
  obtain ⟨F, ρ, s, w, pu, p⟩ := h
  refine ⟨F, ρ, s, w, pu, p.bnd.imp (fun ds s1 F1 H1 w1 st1 p1 vs rvs => ?_) fun _ _ _ _ _ _ z => z⟩
  obtain ⟨d, ed, k⟩ := p1.lift
  exact hs vs ds d F1 H1 s1 Q w1 rvs ed fun v F' H' w' st' r' => k F' H' w' st' v r'
theorem de_callB {id : String} {x : Str} {p : Pos} {r : List V → Hp → VK → Prop} {op : List D → Option D} (hc : CallR X (.builtin id) r) (hs : CallSat R r op) (hg : Gl X x) (hm : X.mg x = none) (hv : bootBuiltins x = some (.builtin id)) (ha : PA X (e :: es) (tDA R W O fs)) (hn : x ≠ "__name__" := by decide) (hdb : (x == ("__debug__" : Str)) = false := by decide)
    (he : starEach (e :: es) X.env = (false, eval e X.env) :: starEach es X.env := by rfl) (hpl : (backTo pos (starEach es X.env)).any (·.1) = false := by rfl) : PE X (.Call (.Name x p) (e :: es) [] pos) (tD R W O (dAll op fs)) :=
  pe_imp (pe_callB hc hg hm hv ha hn hdb he hpl) (sat_cb hs)
theorem de_callTy {T : String} {x : Str} {p : Pos} {r : List V → Hp → VK → Prop} {op : List D → Option D} (hc : CallR X (.type T) r) (hs : CallSat R r op) (hg : Gl X x) (hm : X.mg x = none) (hv : bootBuiltins x = some (.type T)) (ha : PA X (e :: es) (tDA R W O fs)) (hn : x ≠ "__name__" := by decide) (hdb : (x == ("__debug__" : Str)) = false := by decide)
    (he : starEach (e :: es) X.env = (false, eval e X.env) :: starEach es X.env := by rfl) (hpl : (backTo pos (starEach es X.env)).any (·.1) = false := by rfl) : PE X (.Call (.Name x p) (e :: es) [] pos) (tD R W O (dAll op fs)) :=
  pe_imp (pe_callTy hc hg hm hv ha hn hdb he hpl) (sat_cb hs)
/-! ### an own def's call -/
/-- what a def that computes g promises -/
def spD (R : Reg) (n : Nat) (g : List D → M R.S D) : Sp := fun vs H Q E => vs.length = n ∧ ∃ F s ds, Wd R F H s ∧ Reps R.K R.nm F ds vs ∧
  Post R F H (g ds s) (fun d _ F' H' => ∀ v, Rep R.K R.nm F' d v → Q v H') (fun x _ F' H' => ∀ cls dd, RepX R.K R.nm F' x cls dd → E cls dd H')
/-- .. whatever changes around it -/
def spP (K : PySem.W.Frag) (n : Nat) (g : List D → M Unit D) : Sp := fun vs H Q E => ∃ nm, spD (R0 K nm) n g vs H Q E
/-- .. over the law's draws -/
def spT (K : PySem.W.Frag) (n : Nat) (g : List D → M Nat D) : Sp := fun vs H Q E => ∃ T, spD (RT K T) n g vs H Q E
theorem wd_0 {F H : Hp} {s : R.S} (w : Wd R F H s) : Wd (R0 R.K R.nm) F H () := ⟨w.sub, fun _ m => m.elim, trivial⟩
theorem wd_of_0 {F H F' H' : Hp} {s : R.S} (w : Wd R F H s) (w' : Wd (R0 R.K R.nm) F' H' ()) (st : Stp (R0 R.K R.nm) F H F' H') : Wd R F' H' s where
  sub := w'.sub
  mu := fun a m => by
    cases q : F' a with
    | none => rfl
    | some o =>
      rcases st.nw a (by rw [q]; exact fun z => nomatch z) with z | z
      · exact absurd (w.mu a m) z
      · exact absurd z (R.dom s H a w.si m)
  si := R.loc s H H' w.si fun a m => by
    cases q : H a with
    | none => exact absurd q (R.dom s H a w.si m)
    | some o => exact st.own (fun z => z) (w.mu a m) q
theorem stp_of_0 {F H F' H' : Hp} (st : Stp (R0 R.K R.nm) F H F' H') : Stp R F H F' H' := ⟨st.fs, fun a o _ h => st.hs a o (fun z => z) h, st.nw, st.th⟩
/-- a pure computation among others -/
def up {S α : Type} (m : M Unit α) : M S α := fun s => match m () with
  | .ok a _ => .ok a s
  | .exc x _ => .exc x s
  | .bot => .bot
theorem post_up {α : Type} {F H : Hp} {s : R.S} {m : M Unit α} {k : α → Hp → Hp → Prop} {x : Xn → Hp → Hp → Prop} (w : Wd R F H s) (h : Post R F H (up m s) (fun a _ F' H' => k a F' H') (fun e _ F' H' => x e F' H')) : Post (R0 R.K R.nm) F H (m ()) (fun a _ F' H' => k a F' H') (fun e _ F' H' => x e F' H') := by
  unfold up at h
  cases e : m () with
  | ok a u => rw [e] at h; exact fun F' H' w' st => h F' H' (wd_of_0 w w' st) (stp_of_0 st)
  | exc a u => rw [e] at h; exact fun F' H' w' st => h F' H' (wd_of_0 w w' st) (stp_of_0 st)
  | bot => rw [e] at h; exact h
/-- how exceptions leave: as they are (false), or with no context (true) -/
def CXm (md : Bool) (P : Program) (w : World) : CXT := if md = true then L2N.CX P w else L2.CX P w
def TkM (md : Bool) (X : Cx) (W : WX) : Prop := if md = true then L2N.Takes X W else L2.Takes X W
theorem passM {md : Bool} {X : Cx} {W : WX} (tk : TkM md X W) (σ : L2.St) : PassesAt (CXm md X.prog X.w) X σ (WE W σ) := by
  cases md with
  | true => exact L2N.passAt tk σ
  | false => exact L2.passAt tk σ
/-- what the top says of a def -/
def Has (md : Bool) (P : Program) (w : World) (K : PySem.W.Frag) (mg : Str → Option Value) (base : Heap) (k : Nat) (x : Str) (sp : Sp) : Prop :=
  ∃ f fd ps, FnOk P w K mg base (CXm md P w) k f fd ps sp ∧ mg x = some (.ref f) ∧ PySem.W.keepIn K (.ref f) = true ∧ Binds K fd ps []
/-- what a body leans on -/
structure Cxt (X : Cx) (R : Reg) (W : WX) (n : Nat) : Prop where
  hK : R.K = X.K
  hr : Room n X.A
  nd : X.N.Nodup
  calm : X.calm = true
theorem sat_callP {n : Nat} {g : List D → M Unit D} (σ : L2.St) (H : Hp) (Q : VK) (h : tD R W O (dCall n (fun ds => up (g ds)) fs) σ H Q) : tCallS (spP R.K n g) (WE W) (tDA R W O fs) σ H Q := by
  obtain ⟨F, ρ, s, w, pu, p⟩ := h
  refine ⟨F, ρ, s, w, pu, p.bnd.imp (fun ds s1 F1 H1 w1 st1 p1 vs rvs => ?_) fun _ _ _ _ _ _ z => z⟩
  split at p1
  · rename_i hn
    exact ⟨R.nm, by rw [rvs.length]; exact hn, F1, (), ds, wd_0 w1, rvs, post_up (k := fun d F' H' => ∀ v, Rep R.K R.nm F' d v → Q v H') (x := fun x F' H' => ∀ cls dd, RepX R.K R.nm F' x cls dd → W cls dd σ H') w1 p1⟩
  · exact False.elim p1
theorem de_callP {md : Bool} {k n : Nat} {g : List D → M Unit D} {x : Str} {p : Pos} (c : Cxt X R W k) (tk : TkM md X W) (h : Has md X.prog X.w X.K X.mg X.base k x (spP X.K n g)) (hg : Gl X x) (ha : PA X (e :: es) (tDA R W O fs)) (hdb : (x == ("__debug__" : Str)) = false := by decide)
    (he : starEach (e :: es) X.env = (false, eval e X.env) :: starEach es X.env := by rfl) (hpl : (backTo pos (starEach es X.env)).any (·.1) = false := by rfl) : PE X (.Call (.Name x p) (e :: es) [] pos) (tD R W O (dCall n (fun ds => up (g ds)) fs)) := by
  obtain ⟨f, fd, ps, F, hm, hk, hb⟩ := h
  rw [← c.hK] at F
  exact pe_imp (pe_callS (sp := spP R.K n g) (by rw [← c.hK]; exact F) c.hr hg hm hk hb (fun σ => passM tk σ) ha hdb he hpl) sat_callP
end
section
variable {X : Cx} {K : PySem.W.Frag} {T : Addr} {W : WX} {O : List Nat} {e : Expr} {es : List Expr} {fs : Sl → M Nat (List D)} {pos : Pos}
theorem sat_callT {n : Nat} {g : List D → M Nat D} (σ : L2.St) (H : Hp) (Q : VK) (h : tD (RT K T) W O (dCall n g fs) σ H Q) : tCallS (spT K n g) (WE W) (tDA (RT K T) W O fs) σ H Q := by
  obtain ⟨F, ρ, s, w, pu, p⟩ := h
  refine ⟨F, ρ, s, w, pu, p.bnd.imp (fun ds s1 F1 H1 w1 st1 p1 vs rvs => ?_) fun _ _ _ _ _ _ z => z⟩
  by_cases hn : ds.length = n
  · rw [if_pos hn] at p1
    exact ⟨T, by rw [rvs.length]; exact hn, F1, s1, ds, w1, rvs, p1⟩
  · rw [if_neg hn] at p1
    exact False.elim p1
theorem de_callT {md : Bool} {k n : Nat} {g : List D → M Nat D} {x : Str} {p : Pos} (c : Cxt X (RT K T) W k) (tk : TkM md X W) (h : Has md X.prog X.w X.K X.mg X.base k x (spT X.K n g)) (hg : Gl X x) (ha : PA X (e :: es) (tDA (RT K T) W O fs)) (hdb : (x == ("__debug__" : Str)) = false := by decide)
    (he : starEach (e :: es) X.env = (false, eval e X.env) :: starEach es X.env := by rfl) (hpl : (backTo pos (starEach es X.env)).any (·.1) = false := by rfl) : PE X (.Call (.Name x p) (e :: es) [] pos) (tD (RT K T) W O (dCall n g fs)) := by
  obtain ⟨f, fd, ps, F, hm, hk, hb⟩ := h
  have hK : K = X.K := c.hK
  subst hK
  exact pe_imp (pe_callS F c.hr hg hm hk hb (fun σ => passM tk σ) ha hdb he hpl) sat_callT
end
end Nw
set_option Elab.async false
set_option linter.all false
set_option maxRecDepth 100000
set_option maxHeartbeats 4000000
/-! Part C: what is walked, comprehensions, statements. -/
namespace Nw
open PySem PySem.Spec L2
section
variable {S : Type}
def nox {α : Type} (m : M S α) : M S α := fun s => match m s with
  | .ok a s' => .ok a s'
  | _ => .bot
/-- the turns of a comprehension -/
def lcA (tg : D → Sl → Option Sl) (t : Sl → M S Bool) (f : Sl → M S D) (r : Sl) : List D → List D → M S D
  | acc, [] => ret (.row acc)
  | acc, x :: xs => bnd (lift (tg x r)) fun r' => bnd (nox (t r')) fun b => if b = true then bnd (nox (f r')) fun y => lcA tg t f r (acc ++ [y]) xs else lcA tg t f r acc xs
def dLc (it : Sl → M S (List D)) (tg : D → Sl → Option Sl) (t : Sl → M S Bool) (f : Sl → M S D) : Sl → M S D := fun r => bnd (it r) fun xs => lcA tg t f r [] xs
def dYes : Sl → M S Bool := fun _ => ret true
end
def tgN (i : Nat) : D → Sl → Option Sl := fun d r => some (r.set i (some d))
theorem post_nox {α : Type} {R : Reg} {F H : Hp} {m : M R.S α} {s : R.S} {k : α → R.S → Hp → Hp → Prop} {x x' : Xn → R.S → Hp → Hp → Prop} (h : Post R F H (nox m s) k x) : Post R F H (m s) k x' := by
  unfold nox at h
  cases e : m s with
  | ok a s' => rw [e] at h; exact h
  | exc a s' => rw [e] at h; exact False.elim h
  | bot => rw [e] at h; exact h
/-- the wish behind a first part stays at its place -/
theorem Post.bnd0 {α β : Type} {R : Reg} {F H : Hp} {x : Xn → R.S → Hp → Hp → Prop} {m : M R.S α} {n : α → M R.S β} {s : R.S} {k : β → R.S → Hp → Hp → Prop} (h : Post R F H (Nw.bnd m n s) k x) : Post R F H (m s) (fun a s1 _ _ => Post R F H (n a s1) k x) x := by
  unfold Nw.bnd at h
  cases e : m s with
  | ok a s1 => rw [e] at h; exact fun F' H' w q => h
  | exc a s1 => rw [e] at h; exact h
  | bot => rw [e] at h; exact h
theorem Post.lift0 {α β : Type} {R : Reg} {F H : Hp} {x : Xn → R.S → Hp → Hp → Prop} {m : Option α} {n : α → M R.S β} {s : R.S} {k : β → R.S → Hp → Hp → Prop} (h : Post R F H (Nw.bnd (Nw.lift m) n s) k x) : ∃ a, m = some a ∧ Post R F H (n a s) k x := by
  cases m with
  | none => exact False.elim h
  | some a => exact ⟨a, rfl, h⟩
/-! ### a thing of one's own -/
section
variable {R : Reg} {F H F0 H0 : Hp} {s : R.S} {p : Addr}
theorem Wd.ownW (w : Wd R F H s) (hF : F p = none) (hm : ¬ R.Mu p) (o : HO) : Wd R F (upd H p o) s where
  sub := fun a u q => by
    have ne : a ≠ p := fun e => by rw [e, hF] at q; cases q
    rw [upd_ne ne]; exact w.sub a u q
  mu := w.mu
  si := R.loc s H _ w.si fun a m => upd_ne fun e => hm (by rw [← e]; exact m)
theorem Stp.ownW (st : Stp R F0 H0 F H) (h0 : H0 p = none) (o : HO) : Stp R F0 H0 F (upd H p o) where
  fs := st.fs
  hs := fun a u m q => by rw [upd_ne (ne_of_none q h0)]; exact st.hs a u m q
  nw := st.nw
  th := fun a h => by
    by_cases e : a = p
    · rw [e]; exact h0
    · rw [upd_ne e] at h; exact st.th a h
theorem Stp.freeF (st : Stp R F0 H0 F H) (hp : F0 p = none) (hh : H0 p ≠ none) : F p = none := by
  cases q : F p with
  | none => rfl
  | some o =>
    rcases st.nw p (by rw [q]; exact fun z => nomatch z) with z | z
    · exact absurd hp z
    · exact absurd z hh
theorem Wd.notMu (w : Wd R F H s) (hp : H p = none) : ¬ R.Mu p := fun m => R.dom s H p w.si m hp
/-- it is given out: from now on it stays -/
theorem Wd.frz (w : Wd R F H s) {o : HO} (hH : H p = some o) (hm : ¬ R.Mu p) : Wd R (upd F p o) H s where
  sub := fun a u q => by
    by_cases e : a = p
    · rw [e, upd_same] at q; cases q; rw [e]; exact .inl hH
    · rw [upd_ne e] at q; exact w.sub a u q
  mu := fun a m => by rw [upd_ne fun e => hm (by rw [← e]; exact m)]; exact w.mu a m
  si := w.si
theorem Stp.frz (st : Stp R F0 H0 F H) (h0 : H0 p = none) (hF : F p = none) (o : HO) : Stp R F0 H0 (upd F p o) H where
  fs := fun a u q => by
    have q' := st.fs a u q
    rw [upd_ne (ne_of_none q' hF)]; exact q'
  hs := fun a u m q => by
    rcases st.hs a u m q with h | ⟨h1, h2⟩
    · exact .inl h
    · exact .inr ⟨by rw [upd_ne (ne_of_none h1 hF)]; exact h1, h2⟩
  nw := fun a h => by
    by_cases e : a = p
    · rw [e]; exact .inr h0
    · rw [upd_ne e] at h; exact st.nw a h
  th := st.th
end
/-! ### what is walked -/
/-- what a walk leans on: plain data and locks stay -/
structure Kp (F H F2 H2 : Hp) : Prop where
  fs : Same F F2
  sub : Sub F2 H2
  lk : ∀ a ob kvs, F a = some (.dK kvs) → H a = some (.frz ob (.dK kvs)) → H2 a = some (.frz ob (.dK kvs))
theorem Stp.kp {R : Reg} {F H F2 H2 : Hp} {s : R.S} (st : Stp R F H F2 H2) (sb : Sub F2 H2) (w : Wd R F H s) : Kp F H F2 H2 := ⟨st.fs, sb, fun a ob kvs h1 h2 => st.nd (fun m => by rw [w.mu a m] at h1; cases h1) (fun _ z => nomatch z) h2⟩
structure Walks (R : Reg) (J : It) (F H : Hp) (ds : List D) : Prop where
  hz : ds.length ≤ sizeLine
  go : ∀ i F2 H2, Kp F H F2 H2 → i < ds.length → J.go i H2
  yld : ∀ i F2 H2 x H3, Kp F H F2 H2 → i < ds.length → J.yld i H2 x H3 → H3 = H2 ∧ ∃ d, ds[i]? = some d ∧ Rep R.K R.nm F2 d x
  stop : ∀ F2 H2, Kp F H F2 H2 → J.stop ds.length H2
section
variable (R : Reg) (W : WX) (O : List Nat)
def tDI (f : Sl → M R.S (List D)) : TI := fun σ H Q => ∃ F r s, Wd R F H s ∧ Pu R O F σ r ∧ Post R F H (f r s) (fun ds _ F' H' => ∀ J, Walks R J F' H' ds → Q J H') (fun x _ F' H' => ∀ cls dd, RepX R.K R.nm F' x cls dd → W cls dd σ H')
end
/-- the signs of a text -/
def signs (x : Str) : List D := x.cps.toList.map fun c => .str ⟨#[c]⟩
/-- what a for walks in a thing -/
def itemsD : D → Option (List D)
  | .row xs => some xs
  | .tup xs => some xs
  | .kro xs => some xs
  | .str x => some (signs x)
  | _ => none
def dItems {S : Type} (f : Sl → M S D) : Sl → M S (List D) := fun r => bnd (f r) fun x => lift (itemsD x)
def rngD : List D → Option (List D)
  | [.int j] => if 0 ≤ j ∧ j ≤ sizeLine then some ((List.range j.toNat).map fun (i : Nat) => .int (i : Int)) else none
  | _ => none
def dRange {S : Type} (f : Sl → M S (List D)) : Sl → M S (List D) := fun r => bnd (f r) fun x => lift (rngD x)
section
variable {X : Cx} {R : Reg} {W : WX} {O : List Nat} {tg e : Expr} {es : List Expr} {pos : Pos} {f : Sl → M R.S D} {fs : Sl → M R.S (List D)}
theorem walks_list {F H : Hp} {a : Addr} {ds : List D} {vs : List V} (K : PySem.W.Frag) (hq : SqL K F a vs) (hz : ds.length ≤ sizeLine) (r : Reps R.K R.nm F ds vs) : Walks R (Itl K a) F H ds where
  hz := hz
  go := fun i F2 H2 st h => by
    obtain ⟨v, h1, h2⟩ := r.get (List.getElem?_eq_getElem h)
    exact ⟨vs, v, st.sub.sqL (sqL_mono st.fs hq), h1⟩
  yld := fun i F2 H2 x H3 st h y => by
    obtain ⟨v, h1, h2⟩ := r.get (List.getElem?_eq_getElem h)
    obtain ⟨e, y⟩ := y
    have q := y vs (st.sub.sqL (sqL_mono st.fs hq))
    rw [h1] at q
    cases q
    exact ⟨e, _, List.getElem?_eq_getElem h, h2.mono st.fs⟩
  stop := fun F2 H2 st => ⟨vs, st.sub.sqL (sqL_mono st.fs hq), by rw [r.length]; exact Nat.le_refl _⟩
theorem walks_tup {F H : Hp} {a : Addr} {ds : List D} {vs : List V} (K : PySem.W.Frag) (hq : F a = some (.tup vs)) (hz : ds.length ≤ sizeLine) (r : Reps R.K R.nm F ds vs) : Walks R (Itt K a) F H ds where
  hz := hz
  go := fun i F2 H2 st h => by
    obtain ⟨v, h1, h2⟩ := r.get (List.getElem?_eq_getElem h)
    exact ⟨vs, v, SqT.of (st.sub.tup (st.fs _ _ hq)), h1⟩
  yld := fun i F2 H2 x H3 st h y => by
    obtain ⟨v, h1, h2⟩ := r.get (List.getElem?_eq_getElem h)
    obtain ⟨e, y⟩ := y
    have q := y vs (SqT.of (st.sub.tup (st.fs _ _ hq)))
    rw [h1] at q
    cases q
    exact ⟨e, _, List.getElem?_eq_getElem h, h2.mono st.fs⟩
  stop := fun F2 H2 st => ⟨vs, SqT.of (st.sub.tup (st.fs _ _ hq)), by rw [r.length]; exact Nat.le_refl _⟩
theorem signs_length (x : Str) : (signs x).length = x.cps.size := by
  unfold signs
  rw [List.length_map, Array.length_toList]
theorem str_length (x : Str) : x.length = x.cps.size := rfl
theorem walks_str {F H : Hp} {x : Str} (hz : x.length ≤ sizeLine) : Walks R (Its x) F H (signs x) where
  hz := by rw [signs_length]; exact hz
  go := fun i F2 H2 st h => by rw [signs_length] at h; exact h
  yld := fun i F2 H2 v H3 st h y => by
    obtain ⟨e, c, hc, hv⟩ := y
    refine ⟨e, .str ⟨#[c]⟩, ?_, hv, by show 1 ≤ sizeLine; rw [sizeLine_eq]; decide⟩
    unfold signs
    rw [List.getElem?_map, Array.getElem?_toList, hc]
    rfl
  stop := fun F2 H2 st => by rw [signs_length]; exact Nat.le_refl _
theorem walks_range {F H : Hp} {n : Nat} (hz : n ≤ sizeLine) : Walks R (Itr 0 n) F H ((List.range n).map fun (i : Nat) => .int (i : Int)) where
  hz := by rw [List.length_map, List.length_range]; exact hz
  go := fun i F2 H2 st h => by rw [List.length_map, List.length_range] at h; exact h
  yld := fun i F2 H2 v H3 st h y => by
    rw [List.length_map, List.length_range] at h
    obtain ⟨e, hv⟩ := y
    refine ⟨e, .int i, ?_, ?_⟩
    · rw [List.getElem?_map, List.getElem?_range h]; rfl
    · rw [hv]; show V.int (0 + (i : Int)) = V.int i; rw [Int.zero_add]
  stop := fun F2 H2 st => by rw [List.length_map, List.length_range]; exact Nat.le_refl _
/-- a list, a tuple, a text -/
theorem di_any (hK : R.K = X.K) (he : PE X e (tD R W O f)) : PI X tg e (tDI R W O (dItems f)) :=
  pi_imp (pi_or2 (pi_list he) (pi_or2 (pi_tup he) (pi_str he))) fun σ H Q h => by
    obtain ⟨F, ρ, s, w, pu, p⟩ := h
    have hb := p.bnd
    cases ef : f ρ s with
    | bot => rw [ef] at hb; exact False.elim hb
    | exc x s1 =>
      rw [ef] at hb
      exact .inl ⟨F, ρ, s, w, pu, by rw [ef]; exact hb⟩
    | ok d s1 =>
      rw [ef] at hb
      cases d with
      | row xs =>
        refine .inl ⟨F, ρ, s, w, pu, ?_⟩
        rw [ef]
        intro F1 H1 w1 st1 v rv
        obtain ⟨ys, ey, k⟩ := (hb F1 H1 w1 st1).lift
        cases ey
        obtain ⟨a, vs, rfl, h1, h2, h3⟩ := rv
        exact ⟨a, rfl, ⟨vs, SqL.of (w1.sub.lst h1)⟩, k F1 H1 w1 Stp.refl _ (walks_list X.K (SqL.of h1) h2 h3)⟩
      | tup xs =>
        refine .inr (.inl ⟨F, ρ, s, w, pu, ?_⟩)
        rw [ef]
        intro F1 H1 w1 st1 v rv
        obtain ⟨ys, ey, k⟩ := (hb F1 H1 w1 st1).lift
        cases ey
        obtain ⟨a, vs, rfl, h1, h2, h3⟩ := rv
        exact ⟨a, rfl, ⟨vs, SqT.of (w1.sub.tup h1)⟩, k F1 H1 w1 Stp.refl _ (walks_tup X.K h1 h2 h3)⟩
      | kro xs =>
        refine .inl ⟨F, ρ, s, w, pu, ?_⟩
        rw [ef]
        intro F1 H1 w1 st1 v rv
        obtain ⟨ys, ey, k⟩ := (hb F1 H1 w1 st1).lift
        cases ey
        obtain ⟨a, vs, rfl, h1, h2, h3⟩ := rv
        rw [hK] at h1
        exact ⟨a, rfl, ⟨vs, w1.sub.sqL h1⟩, k F1 H1 w1 Stp.refl _ (walks_list X.K h1 h2 h3)⟩
      | str x =>
        refine .inr (.inr ⟨F, ρ, s, w, pu, ?_⟩)
        rw [ef]
        intro F1 H1 w1 st1 v rv
        obtain ⟨ys, ey, k⟩ := (hb F1 H1 w1 st1).lift
        cases ey
        exact ⟨x, rv.1, k F1 H1 w1 Stp.refl _ (walks_str rv.2)⟩
      | _ => exact .inl ⟨F, ρ, s, w, pu, by rw [ef]; exact fun F1 H1 w1 st1 v rv => False.elim (hb F1 H1 w1 st1)⟩
/-- range(n) -/
theorem di_range {p : Pos} (hg : Gl X "range") (hm : X.mg "range" = none) (ha : PA X [e] (tDA R W O fs)) (hs : starEach [e] X.env = [(false, eval e X.env)] := by rfl) : PI X tg (.Call (.Name "range" p) [e] [] pos) (tDI R W O (dRange fs)) :=
  pi_imp (pi_range1 hg hm ha hs) fun σ H Q h => by
    obtain ⟨F, ρ, s, w, pu, p⟩ := h
    refine ⟨F, ρ, s, w, pu, p.bnd.imp (fun ds s1 F1 H1 w1 st1 p1 vs rvs => ?_) fun _ _ _ _ _ _ z => z⟩
    obtain ⟨ys, ey, k⟩ := p1.lift
    unfold rngD at ey
    split at ey
    · rename_i j
      split at ey
      · rename_i hj
        cases ey
        obtain ⟨v, ws, rfl, rv, e2⟩ := rvs
        cases rv
        rw [show ws = [] from e2]
        refine ⟨j, rfl, by omega, ?_, k F1 H1 w1 Stp.refl _ (walks_range ?_)⟩
        · rw [sizeLine_eq] at hj; omega
        · omega
      · cases ey
    · cases ey
/-! ### targets -/
structure SetAt (R : Reg) (F : Hp) (vs : List Nat) (σ σ' : L2.St) (r r' : Sl) : Prop where
  len : σ'.length = σ.length
  lenr : r'.length = r.length
  off : ∀ j, j ∉ vs → σ'[j]? = σ[j]? ∧ r'[j]? = r[j]?
  on : ∀ j d, j ∈ vs → r'[j]? = some (some d) → ∃ v, σ'[j]? = some (some v) ∧ Rep R.K R.nm F d v
def TgSat (R : Reg) (g : TG) (vs : List Nat) (tg : D → Sl → Option Sl) : Prop := ∀ (v : V) (d : D) (σ : L2.St) (r r' : Sl) (F H : Hp) (Q : L2.St → Hp → Prop), Sub F H → Rep R.K R.nm F d v → r.length = σ.length → tg d r = some r' → (∀ σ', SetAt R F vs σ σ' r r' → Q σ' H) → g v σ H Q
theorem setAt_one {F : Hp} {i : Nat} {v : V} {d : D} {σ : L2.St} {r : Sl} (hl : r.length = σ.length) (rv : Rep R.K R.nm F d v) : SetAt R F [i] σ (σ.set i (some v)) r (r.set i (some d)) where
  len := List.length_set
  lenr := List.length_set
  off := fun j hj => by
    have ne : i ≠ j := fun e => hj (by rw [e]; exact List.mem_singleton.mpr rfl)
    exact ⟨List.getElem?_set_ne ne, List.getElem?_set_ne ne⟩
  on := fun j d' hj e => by
    have ej : j = i := List.mem_singleton.mp hj
    subst ej
    by_cases hi : j < r.length
    · rw [List.getElem?_set_self hi] at e
      cases e
      exact ⟨v, List.getElem?_set_self (by omega), rv⟩
    · rw [List.getElem?_eq_none (by rw [List.length_set]; omega)] at e
      cases e
theorem tg_name {i : Nat} : TgSat R (gName i) [i] (tgN i) := fun v d σ r r' F H Q sb rv hl e k => by
  cases e
  exact k _ (setAt_one hl rv)
theorem wipe_eq {σ σ' : L2.St} {vs : List Nat} (hl : σ'.length = σ.length) (h : ∀ j, j ∉ vs → σ'[j]? = (wipe σ vs)[j]?) : wipe σ' vs = wipe σ vs := by
  refine List.ext_getElem? fun j => ?_
  by_cases hj : j ∈ vs
  · have hw : ∀ (τ : L2.St), (wipe τ vs)[j]? = if j < τ.length then some none else none := fun τ => by
      by_cases hjl : j < τ.length
      · rw [if_pos hjl]
        cases e : (wipe τ vs)[j]? with
        | none =>
          have := List.getElem?_eq_none_iff.mp e
          rw [wipe_length] at this
          omega
        | some o =>
          cases o with
          | none => rfl
          | some x => exact absurd hj (wipe_some e).2
      · rw [if_neg hjl]
        exact List.getElem?_eq_none (by rw [wipe_length]; omega)
    rw [hw, hw, hl]
  · rw [wipe_out hj, h j hj]
/-! ### comprehensions -/
abbrev W0 : WX := fun _ _ _ _ => False
theorem sat_lc {it : Sl → M R.S (List D)} {g : TG} {vs : List Nat} {tgt : D → Sl → Option Sl} {t : Sl → M R.S Bool} {f : Sl → M R.S D} (hg : TgSat R g vs tgt) (σ : L2.St) (H : Hp) (Q : VK) (h : tD R W O (dLc it tgt t f) σ H Q) :
    tLc (tDI R W O it) g (tDT R W0 O t) (tD R W0 O f) vs σ H Q := by
  obtain ⟨F, ρ, s, w, pu, p⟩ := h
  refine ⟨F, ρ, s, w, pu, p.bnd.imp (fun ds s1 F1 H1 w1 st1 p1 J wk Dn hD => ?_) fun _ _ _ _ _ _ z => z⟩
  have pu1 := pu.mono st1.fs
  have nMu : ¬ R.Mu Dn := w1.notMu hD
  have fD : F1 Dn = none := w1.free hD
  refine ⟨fun i m Hc => m = ds.length - i ∧ i ≤ ds.length ∧ ∃ Fc sc acc ws, Wd R Fc Hc sc ∧ Stp R F1 H1 Fc Hc ∧ Hc Dn = some (.lst ws) ∧ Fc Dn = none ∧ Reps R.K R.nm Fc acc ws ∧ acc.length ≤ i ∧
    Post R F1 H1 (lcA tgt t f ρ acc (ds.drop i) sc) (fun d _ F' H' => ∀ v, Rep R.K R.nm F' d v → Q v H') (fun x _ F' H' => ∀ cls dd, RepX R.K R.nm F' x cls dd → W cls dd σ H'),
    ⟨_, rfl, Nat.zero_le _, F1, s1, [], [], w1.newH _ hD, Stp.newH _ hD, upd_same, fD, rfl, Nat.le_refl _, p1⟩, ?_⟩
  rintro i m Hc ⟨rfl, hi, Fc, sc, acc, ws, wc, stc, hDc, fDc, rc, hacc, pc⟩
  by_cases hlt : i < ds.length
  · refine .inr ⟨wk.go i Fc Hc (stc.kp wc.sub w1) hlt, fun Hn => (ds.length - (i + 1)) = ds.length - (i + 1) ∧ i + 1 ≤ ds.length ∧ ∃ Fc sc acc ws, Wd R Fc Hn sc ∧ Stp R F1 H1 Fc Hn ∧ Hn Dn = some (.lst ws) ∧ Fc Dn = none ∧ Reps R.K R.nm Fc acc ws ∧ acc.length ≤ i + 1 ∧
      Post R F1 H1 (lcA tgt t f ρ acc (ds.drop (i + 1)) sc) (fun d _ F' H' => ∀ v, Rep R.K R.nm F' d v → Q v H') (fun x _ F' H' => ∀ cls dd, RepX R.K R.nm F' x cls dd → W cls dd σ H'),
      fun H' q => ⟨_, by omega, q⟩, fun x H' y => ?_⟩
    obtain ⟨rfl, d, hd, rd⟩ := wk.yld i Fc Hc x H' (stc.kp wc.sub w1) hlt y
    have ed : ds.drop i = d :: ds.drop (i + 1) := by
      rw [List.drop_eq_getElem_cons hlt]
      rw [List.getElem?_eq_getElem hlt] at hd
      cases hd
      rfl
    rw [ed] at pc
    obtain ⟨r', er, pc⟩ := pc.lift0
    refine hg x d (wipe σ vs) ρ r' Fc H' _ wc.sub rd (by rw [wipe_length]; exact pu.len) er fun σ2 sa => ⟨wipe_eq (by rw [sa.len, wipe_length]) fun j hj => (sa.off j hj).1, ?_⟩
    have pu2 : Pu R O Fc σ2 r' := ⟨by rw [sa.lenr, sa.len, wipe_length]; exact pu.len, fun j d' hj e => by
      by_cases hv : j ∈ vs
      · exact sa.on j d' hv e
      · obtain ⟨e1, e2⟩ := sa.off j hv
        rw [e2] at e
        obtain ⟨v, h1, h2⟩ := (pu1.mono stc.fs).at_ j d' hj e
        exact ⟨v, by rw [e1, wipe_out hv]; exact h1, h2⟩⟩
    refine ⟨Fc, r', sc, wc, pu2, ((post_nox pc.bnd0).from stc).imp (fun b s3 F3 H3 w3 st3 p3 => ?_) fun _ _ _ _ _ _ z => z⟩
    have hD3 : H3 Dn = some (.lst ws) := st3.own nMu fDc hDc
    have fD3 : F3 Dn = none := st3.freeF fDc (by rw [hDc]; exact fun z => nomatch z)
    cases b with
    | false =>
      rw [if_neg Bool.false_ne_true] at p3
      refine iteF ?_
      exact ⟨rfl, hlt, F3, s3, acc, ws, w3, stc.trans st3, hD3, fD3, rc.mono st3.fs, by omega, p3⟩
    | true =>
      rw [if_pos rfl] at p3
      refine iteT ?_
      refine ⟨F3, r', s3, w3, pu2.mono st3.fs, ((post_nox p3.bnd0).from (stc.trans st3)).imp (fun y' s4 F4 H4 w4 st4 p4 u ru => ?_) fun _ _ _ _ _ _ z => z⟩
      have hD4 : H4 Dn = some (.lst ws) := st4.own nMu fD3 hD3
      have fD4 : F4 Dn = none := st4.freeF fD3 (by rw [hD3]; exact fun z => nomatch z)
      have hz := wk.hz
      refine ⟨ws, hD4, by rw [rc.length]; omega, rfl, hlt, F4, s4, acc ++ [y'], ws ++ [u], w4.ownW fD4 nMu _, ((stc.trans st3).trans st4).ownW hD _, upd_same, fD4, ((rc.mono st3.fs).mono st4.fs).append ⟨u, [], rfl, ru, rfl⟩, by rw [List.length_append, List.length_singleton]; omega, p4⟩
  · have ei : i = ds.length := by omega
    subst ei
    refine .inl ⟨wk.stop Fc Hc (stc.kp wc.sub w1), ?_⟩
    rw [List.drop_length] at pc
    have hz := wk.hz
    exact pc (upd Fc Dn (.lst ws)) Hc (wc.frz hDc nMu) (stc.frz hD fDc _) (.ref Dn) ⟨Dn, ws, rfl, upd_same, by omega, rc.mono fun b o q => by rw [upd_ne (ne_of_none q fDc)]; exact q⟩
end
end Nw
set_option Elab.async false
set_option linter.all false
set_option maxRecDepth 100000
set_option maxHeartbeats 4000000
/-! Part S: statements. -/
namespace Nw
open PySem PySem.Spec L2
section
variable {S : Type}
def liftX {α : Type} (m : M S α) (r : Sl) (k : α → Mo S) : Mo S := fun s => match m s with
  | .ok a s' => k a s'
  | .exc x s' => some (.thr x r, s')
  | .bot => none
def sNil : Sl → Mo S := fun r s => some (.next r, s)
def seqK (g : Sl → Mo S) : Option (Flw × S) → Option (Flw × S)
  | some (.next r, s) => g r s
  | some (.rt d, s) => some (.rt d, s)
  | some (.brk r, s) => some (.brk r, s)
  | some (.cnt r, s) => some (.cnt r, s)
  | some (.thr x r, s) => some (.thr x r, s)
  | none => none
def sSeq (f g : Sl → Mo S) : Sl → Mo S := fun r s => seqK g (f r s)
def sRet (f : Sl → M S D) : Sl → Mo S := fun r => liftX (f r) r fun d s => some (.rt d, s)
def sRetN : Sl → Mo S := fun r s => some (.rt .non, s)
def sDrop (f : Sl → M S D) : Sl → Mo S := fun r => liftX (f r) r fun _ s => some (.next r, s)
def sAsg (tg : D → Sl → Option Sl) (f : Sl → M S D) : Sl → Mo S := fun r => liftX (f r) r fun d s => (tg d r).map fun r' => (.next r', s)
def sIf (c : Sl → M S Bool) (f g : Sl → Mo S) : Sl → Mo S := fun r => liftX (c r) r fun b => if b = true then f r else g r
def sCnt : Sl → Mo S := fun r s => some (.cnt r, s)
def sBrk : Sl → Mo S := fun r s => some (.brk r, s)
def loopK (k : Sl → Mo S) : Option (Flw × S) → Option (Flw × S)
  | some (.next r, s) => k r s
  | some (.cnt r, s) => k r s
  | some (.brk r, s) => some (.next r, s)
  | some (.rt d, s) => some (.rt d, s)
  | some (.thr x r, s) => some (.thr x r, s)
  | none => none
def optK {α : Type} (o : Option α) (k : α → Mo S) : Mo S := fun s => match o with
  | some a => k a s
  | none => none
def forL (tg : D → Sl → Option Sl) (body : Sl → Mo S) : List D → Sl → Mo S
  | [], r => fun s => some (.next r, s)
  | x :: xs, r => optK (tg x r) fun r' s => loopK (forL tg body xs) (body r' s)
def sFor (it : Sl → M S (List D)) (tg : D → Sl → Option Sl) (body : Sl → Mo S) : Sl → Mo S := fun r => liftX (it r) r fun xs => forL tg body xs r
def whileL (c : Sl → M S Bool) (body : Sl → Mo S) : Nat → Sl → Mo S
  | 0, _ => fun _ => none
  | n + 1, r => liftX (c r) r fun b => if b = true then (fun s => loopK (whileL c body n) (body r s)) else fun s => some (.next r, s)
end
/-! ### own things -/
def OwnAt (R : Reg) (H0 F H : Hp) (a : Addr) (d : D) : Prop := H0 a = none ∧ F a = none ∧ ¬ R.Mu a ∧ match d with
  | .row ds => ∃ vs, H a = some (.lst vs) ∧ ds.length ≤ sizeLine ∧ Reps R.K R.nm F ds vs
  | .tab kvs => ∃ ws, H a = some (.dK ws) ∧ kvs.length ≤ sizeLine ∧ RepsK R.K R.nm F kvs ws
  | _ => False
def isRT : D → Bool
  | .row _ => true
  | .tab _ => true
  | _ => false
theorem OwnAt.rt {R : Reg} {H0 F H : Hp} {a : Addr} {d : D} (h : OwnAt R H0 F H a d) : isRT d = true := by
  cases d <;> first | rfl | exact h.2.2.2.elim
structure Slots (R : Reg) (H0 : Hp) (O : List Nat) (F H : Hp) (σ : L2.St) (r : Sl) : Prop where
  pu : Pu R O F σ r
  ow : ∀ i d, i ∈ O → isRT d = true → r[i]? = some (some d) → ∃ a, σ[i]? = some (some (.ref a)) ∧ OwnAt R H0 F H a d
  ns : ∀ i d, i ∈ O → isRT d = false → r[i]? = some (some d) → ∃ v, σ[i]? = some (some v) ∧ Rep R.K R.nm F d v
  sep : ∀ i j a d e, i ∈ O → j ∈ O → isRT d = true → isRT e = true → r[i]? = some (some d) → r[j]? = some (some e) → σ[i]? = some (some (.ref a)) → σ[j]? = some (some (.ref a)) → i = j
section
variable {R : Reg} {H0 F H F' H' F0 : Hp} {O O' : List Nat} {σ σ' : L2.St} {r r' : Sl} {s : R.S}
theorem OwnAt.there {a : Addr} {d : D} (h : OwnAt R H0 F H a d) : ∃ o, H a = some o := by
  obtain ⟨_, _, _, h⟩ := h
  cases d with
  | row ds => obtain ⟨vs, e, _⟩ := h; exact ⟨_, e⟩
  | tab ds => obtain ⟨vs, e, _⟩ := h; exact ⟨_, e⟩
  | _ => exact h.elim
theorem OwnAt.step {a : Addr} {d : D} (h : OwnAt R H0 F H a d) (st : Stp R F H F' H') : OwnAt R H0 F' H' a d := by
  obtain ⟨o, ho⟩ := h.there
  obtain ⟨h0, hF, hm, h⟩ := h
  refine ⟨h0, st.freeF hF (by rw [ho]; exact fun z => nomatch z), hm, ?_⟩
  cases d with
  | row ds => obtain ⟨vs, e, hz, hr⟩ := h; exact ⟨vs, st.own hm hF e, hz, hr.mono st.fs⟩
  | tab ds => obtain ⟨vs, e, hz, hr⟩ := h; exact ⟨vs, st.own hm hF e, hz, hr.mono st.fs⟩
  | _ => exact h.elim
/-- .. where another own thing has changed -/
theorem OwnAt.other {a p : Addr} {d : D} {o : HO} (h : OwnAt R H0 F H a d) (ne : a ≠ p) : OwnAt R H0 F (upd H p o) a d := by
  obtain ⟨h0, hF, hm, h⟩ := h
  refine ⟨h0, hF, hm, ?_⟩
  cases d with
  | row ds => obtain ⟨vs, e, hz, hr⟩ := h; exact ⟨vs, by rw [upd_ne ne]; exact e, hz, hr⟩
  | tab ds => obtain ⟨vs, e, hz, hr⟩ := h; exact ⟨vs, by rw [upd_ne ne]; exact e, hz, hr⟩
  | _ => exact h.elim
theorem Slots.step (h : Slots R H0 O F H σ r) (st : Stp R F H F' H') : Slots R H0 O F' H' σ r :=
  ⟨h.pu.mono st.fs, (fun i d hi hr e => let ⟨a, h1, h2⟩ := h.ow i d hi hr e; ⟨a, h1, h2.step st⟩), (fun i d hi hr e => let ⟨a, h1, h2⟩ := h.ns i d hi hr e; ⟨a, h1, h2.mono st.fs⟩), h.sep⟩
theorem Slots.setAt {vs : List Nat} (h : Slots R H0 O F H σ r) (sa : SetAt R F vs σ σ' r r') (h1 : ∀ j ∈ O', j ∈ O ∧ j ∉ vs) (h2 : ∀ j ∈ O, j ∉ vs → j ∈ O') : Slots R H0 O' F H σ' r' where
  pu := ⟨by rw [sa.lenr, sa.len]; exact h.pu.len, fun j d hj e => by
    by_cases hv : j ∈ vs
    · exact sa.on j d hv e
    · obtain ⟨e1, e2⟩ := sa.off j hv
      rw [e2] at e
      rw [e1]
      exact h.pu.at_ j d (fun z => hj (h2 j z hv)) e⟩
  ow := fun j d hj hr e => by
    obtain ⟨k1, k2⟩ := h1 j hj
    obtain ⟨e1, e2⟩ := sa.off j k2
    rw [e2] at e
    rw [e1]
    exact h.ow j d k1 hr e
  ns := fun j d hj hr e => by
    obtain ⟨k1, k2⟩ := h1 j hj
    obtain ⟨e1, e2⟩ := sa.off j k2
    rw [e2] at e
    rw [e1]
    exact h.ns j d k1 hr e
  sep := fun i j a d e hi hj hr1 hr2 e1 e2 e3 e4 => by
    obtain ⟨k1, k2⟩ := h1 i hi
    obtain ⟨k3, k4⟩ := h1 j hj
    obtain ⟨o1, o2⟩ := sa.off i k2
    obtain ⟨o3, o4⟩ := sa.off j k4
    rw [o2] at e1
    rw [o4] at e2
    rw [o1] at e3
    rw [o3] at e4
    exact h.sep i j a d e k1 k3 hr1 hr2 e1 e2 e3 e4
/-- all own things are given out -/
theorem Slots.all (h : Slots R H0 O F H σ r) (w : Wd R F H s) (st : Stp R F0 H0 F H) : ∃ F', Wd R F' H s ∧ Stp R F0 H0 F' H ∧ Slots R H0 [] F' H σ r ∧ Same F F' ∧ ∀ a, F' a ≠ none → F a ≠ none ∨ ∃ i d, i ∈ O ∧ r[i]? = some (some d) ∧ σ[i]? = some (some (.ref a)) := by
  classical
  let own : Addr → Prop := fun a => ∃ i d, i ∈ O ∧ isRT d = true ∧ r[i]? = some (some d) ∧ σ[i]? = some (some (.ref a))
  have ownE : ∀ a, own a → ∃ d, OwnAt R H0 F H a d := fun a ⟨i, d, hi, hr, h1, h2⟩ => by
    obtain ⟨b, h3, h4⟩ := h.ow i d hi hr h1
    rw [h2] at h3
    cases h3
    exact ⟨d, h4⟩
  let G : Hp := fun a => if own a then H a else F a
  have sm : Same F G := fun a o e => by
    show (if own a then H a else F a) = some o
    by_cases c : own a
    · obtain ⟨d, hd⟩ := ownE a c
      rw [hd.2.1] at e
      cases e
    · rw [if_neg c]; exact e
  refine ⟨G, ⟨fun a o e => ?_, fun a m => ?_, w.si⟩, ⟨st.fs.trans sm, fun a o m q => (st.hs a o m q).imp id fun ⟨h1, h2⟩ => ⟨sm _ _ h1, h2⟩, fun a e => ?_, st.th⟩, ⟨⟨h.pu.len, fun i d _ e => ?_⟩, (fun i d hi => absurd hi (by simp)), (fun i d hi => absurd hi (by simp)), fun i j a d e hi => absurd hi (by simp)⟩, sm, fun a e => ?_⟩
  · have e : (if own a then H a else F a) = some o := e
    by_cases c : own a
    · rw [if_pos c] at e; exact .inl e
    · rw [if_neg c] at e; exact w.sub a o e
  · show (if own a then H a else F a) = none
    by_cases c : own a
    · obtain ⟨d, hd⟩ := ownE a c
      exact absurd m hd.2.2.1
    · rw [if_neg c]; exact w.mu a m
  · have e : (if own a then H a else F a) ≠ none := e
    by_cases c : own a
    · obtain ⟨d, hd⟩ := ownE a c
      exact .inr hd.1
    · rw [if_neg c] at e; exact st.nw a e
  · by_cases hi : i ∈ O
    · cases hrt : isRT d with
      | false =>
        obtain ⟨v, h1, h2⟩ := h.ns i d hi hrt e
        exact ⟨v, h1, h2.mono sm⟩
      | true =>
        obtain ⟨a, h1, h0, hF, hm, h2⟩ := h.ow i d hi hrt e
        refine ⟨_, h1, ?_⟩
        have c : own a := ⟨i, d, hi, hrt, e, h1⟩
        have ga : G a = H a := if_pos c
        cases d with
        | row ds => obtain ⟨vs, e1, hz, hr⟩ := h2; exact ⟨a, vs, rfl, by rw [ga]; exact e1, hz, hr.mono sm⟩
        | tab ds => obtain ⟨vs, e1, hz, hr⟩ := h2; exact ⟨a, vs, rfl, by rw [ga]; exact e1, hz, hr.mono sm⟩
        | _ => exact h2.elim
    · obtain ⟨v, h1, h2⟩ := h.pu.at_ i d hi e
      exact ⟨v, h1, h2.mono sm⟩
  · have e : (if own a then H a else F a) ≠ none := e
    by_cases c : own a
    · obtain ⟨i, d, hi, _, h1, h2⟩ := c
      exact .inr ⟨i, d, hi, h1, h2⟩
    · rw [if_neg c] at e; exact .inl e
end
/-! ### what is wanted behind a statement -/
/-- a value that is new, at its top -/
def Fre (R : Reg) (H0 F H : Hp) (d : D) (v : V) : Prop := match d with
  | .row ds => ∃ a, v = .ref a ∧ OwnAt R H0 F H a (.row ds)
  | .tab ds => ∃ a, v = .ref a ∧ OwnAt R H0 F H a (.tab ds)
  | d => Rep R.K R.nm F d v
/-- what a def tells: anything, a new thing, a thing whose rows and tables straight within it are new -/
inductive FrK where
  | f | t | e
def NewEl (H0 F : Hp) (d : D) (v : V) : Prop := match d with
  | .row ds => ∀ (a : Addr) (vs : List V), v = .ref a → F a = some (.lst vs) → ∀ (i : Nat) (x : D), ds[i]? = some x → isRT x = true → ∃ p : Addr, vs[i]? = some (V.ref p) ∧ H0 p = none
  | .tup ds => ∀ (a : Addr) (vs : List V), v = .ref a → F a = some (.tup vs) → ∀ (i : Nat) (x : D), ds[i]? = some x → isRT x = true → ∃ p : Addr, vs[i]? = some (V.ref p) ∧ H0 p = none
  | .tab _ => False
  | _ => True
def RetOk (fr : FrK) (R : Reg) (H0 F H : Hp) (d : D) (v : V) : Prop := match fr with
  | .f => Rep R.K R.nm F d v
  | .t => Fre R H0 F H d v
  | .e => Rep R.K R.nm F d v ∧ NewEl H0 F d v
theorem NewEl.base {H0 H1 F : Hp} {d : D} {v : V} (rb : ∀ a, H1 a = none → H0 a = none) (h : NewEl H1 F d v) : NewEl H0 F d v := by
  cases d with
  | row ds => exact fun a vs e1 e2 i x e3 hr => let ⟨p, h1, h2⟩ := h a vs e1 e2 i x e3 hr; ⟨p, h1, rb p h2⟩
  | tup ds => exact fun a vs e1 e2 i x e3 hr => let ⟨p, h1, h2⟩ := h a vs e1 e2 i x e3 hr; ⟨p, h1, rb p h2⟩
  | _ => exact h
theorem NewEl.mono {K : PySem.W.Frag} {nm : Nat → Option Addr} {H0 F F' : Hp} {d : D} {v : V} (sm : Same F F') (r : Rep K nm F d v) (h : NewEl H0 F d v) : NewEl H0 F' d v := by
  cases d with
  | row ds =>
    obtain ⟨a, vs, e1, e2, _⟩ := r
    intro b ws e3 e4
    rw [e1] at e3
    cases e3
    rw [sm _ _ e2] at e4
    cases e4
    exact h a vs e1 e2
  | tup ds =>
    obtain ⟨a, vs, e1, e2, _⟩ := r
    intro b ws e3 e4
    rw [e1] at e3
    cases e3
    rw [sm _ _ e2] at e4
    cases e4
    exact h a vs e1 e2
  | _ => exact h
theorem Fre.base {R : Reg} {H0 H1 F H : Hp} {d : D} {v : V} (rb : ∀ a, H1 a = none → H0 a = none) (h : Fre R H1 F H d v) : Fre R H0 F H d v := by
  cases d with
  | row ds => obtain ⟨a, e, h1, h2⟩ := h; exact ⟨a, e, rb a h1, h2⟩
  | tab ds => obtain ⟨a, e, h1, h2⟩ := h; exact ⟨a, e, rb a h1, h2⟩
  | _ => exact h
theorem RetOk.base {fr : FrK} {R : Reg} {H0 H1 F H : Hp} {d : D} {v : V} (rb : ∀ a, H1 a = none → H0 a = none) (h : RetOk fr R H1 F H d v) : RetOk fr R H0 F H d v := by
  cases fr with
  | f => exact h
  | t => exact Fre.base rb h
  | e => exact ⟨h.1, h.2.base rb⟩
/-- it is given out -/
theorem Fre.give {R : Reg} {F0 H0 F H : Hp} {s : R.S} {d : D} {v : V} (h : Fre R H0 F H d v) (w : Wd R F H s) (st : Stp R F0 H0 F H) : ∃ F', Wd R F' H s ∧ Stp R F0 H0 F' H ∧ Rep R.K R.nm F' d v := by
  have own : ∀ a o, OwnAt R H0 F H a d → H a = some o → Wd R (upd F a o) H s ∧ Stp R F0 H0 (upd F a o) H ∧ Same F (upd F a o) := fun a o h e => by
    refine ⟨w.frz e h.2.2.1, st.frz h.1 h.2.1 _, fun b u q => ?_⟩
    rw [upd_ne (ne_of_none q h.2.1)]; exact q
  cases d with
  | row ds =>
    obtain ⟨a, rfl, h⟩ := h
    obtain ⟨vs, e, hz, hr⟩ := h.2.2.2
    obtain ⟨h1, h2, h3⟩ := own a _ h e
    exact ⟨_, h1, h2, a, vs, rfl, upd_same, hz, hr.mono h3⟩
  | tab ds =>
    obtain ⟨a, rfl, h⟩ := h
    obtain ⟨vs, e, hz, hr⟩ := h.2.2.2
    obtain ⟨h1, h2, h3⟩ := own a _ h e
    exact ⟨_, h1, h2, a, vs, rfl, upd_same, hz, hr.mono h3⟩
  | _ => exact ⟨F, w, st, h⟩
def PostS (R : Reg) (fr : FrK) (F0 H0 : Hp) (o : Option (Flw × R.S)) (E : Ends) (W : WX) (B O' : List Nat) : Prop := match o with
  | some (.next r, s) => ∀ σ F H, Wd R F H s → Stp R F0 H0 F H → Slots R H0 O' F H σ r → E.nx σ H
  | some (.rt d, s) => ∀ v F H, Wd R F H s → Stp R F0 H0 F H → RetOk fr R H0 F H d v → E.rt v H
  | some (.brk r, s) => ∀ σ F H, Wd R F H s → Stp R F0 H0 F H → Slots R H0 B F H σ r → E.bk σ H
  | some (.cnt r, s) => ∀ σ F H, Wd R F H s → Stp R F0 H0 F H → Slots R H0 B F H σ r → E.ct σ H
  | some (.thr x r, s) => ∀ σ F H cls dd, Wd R F H s → Stp R F0 H0 F H → Slots R H0 [] F H σ r → RepX R.K R.nm F x cls dd → W cls dd σ H
  | none => False
def tDS (R : Reg) (W : WX) (fr : FrK) (B O O' : List Nat) (f : Sl → Mo R.S) : TS := fun E σ H => ∃ F0 H0 F r s, Wd R F H s ∧ Stp R F0 H0 F H ∧ Slots R H0 O F H σ r ∧ PostS R fr F0 H0 (f r s) E W B O'
section
variable {R : Reg} {W : WX} {fr : FrK} {B O O' O1 : List Nat} {F0 H0 F H : Hp} {σ : L2.St} {r : Sl} {s : R.S} {E : Ends}
/-- a part that computes, within a statement -/
theorem postS_x {α : Type} {m : M R.S α} {k : α → Mo R.S} (w : Wd R F H s) (st : Stp R F0 H0 F H) (sl : Slots R H0 O F H σ r) (h : PostS R fr F0 H0 (liftX m r k s) E W B O') :
    Post R F H (m s) (fun a s1 F1 H1 => Wd R F1 H1 s1 ∧ Stp R F0 H0 F1 H1 ∧ Slots R H0 O F1 H1 σ r ∧ PostS R fr F0 H0 (k a s1) E W B O') (fun x _ F' H' => ∀ cls dd, RepX R.K R.nm F' x cls dd → W cls dd σ H') := by
  unfold liftX at h
  cases e : m s with
  | ok a s1 => rw [e] at h; exact fun F1 H1 w1 st1 => ⟨w1, st.trans st1, sl.step st1, h⟩
  | exc x s1 =>
    rw [e] at h
    intro F1 H1 w1 st1 cls dd rx
    obtain ⟨G, wG, stG, slG, sm, _⟩ := (sl.step st1).all w1 (st.trans st1)
    exact h σ G H1 cls dd wG stG slG (rx.mono sm)
  | bot => rw [e] at h; exact h.elim
theorem PostS.ends {o : Option (Flw × R.S)} {E' : Ends} (h : PostS R fr F0 H0 o E W B O') (hr : E'.rt = E.rt) (hn : ∀ σ H, E.nx σ H → E'.nx σ H) (hb : ∀ σ H, E.bk σ H → E'.bk σ H) (hc : ∀ σ H, E.ct σ H → E'.ct σ H) : PostS R fr F0 H0 o E' W B O' := by
  match o, h with
  | some (.next r, s), h => exact fun σ F H w st sl => hn _ _ (h σ F H w st sl)
  | some (.rt d, s), h => exact fun v F H w st rv => by rw [hr]; exact h v F H w st rv
  | some (.brk r, s), h => exact fun σ F H w st sl => hb _ _ (h σ F H w st sl)
  | some (.cnt r, s), h => exact fun σ F H w st sl => hc _ _ (h σ F H w st sl)
  | some (.thr x r, s), h => exact h
end
section
variable {X : Cx} {R : Reg} {W : WX} {fr : FrK} {B O O' O1 : List Nat} {st : Stmt} {rest body orelse : List Stmt} {f g : Sl → Mo R.S} {pos : Pos} {e tg iter : Expr} {fe : Sl → M R.S D} {c : Sl → M R.S Bool}
theorem dss_nil : PSs X [] (tDS R W fr B O O sNil) := pss_imp pss_nil fun E σ H h => by
  obtain ⟨F0, H0, F, r, s, w, st, sl, p⟩ := h
  exact p σ F H w st sl
theorem dss_cons (h1 : PS X st (tDS R W fr B O O1 f)) (h2 : PSs X rest (tDS R W fr B O1 O' g)) : PSs X (st :: rest) (tDS R W fr B O O' (sSeq f g)) := pss_imp (pss_cons h1 h2) fun E σ H h => by
  obtain ⟨F0, H0, F, r, s, w, st, sl, p⟩ := h
  refine ⟨F0, H0, F, r, s, w, st, sl, ?_⟩
  unfold sSeq at p
  cases e : f r s with
  | none => rw [e] at p; exact p
  | some q =>
    obtain ⟨fl, s'⟩ := q
    rw [e] at p
    cases fl with
    | next r' => exact fun σ' F' H' w' st' sl' => ⟨F0, H0, F', r', s', w', st', sl', p⟩
    | rt d => exact p
    | brk r' => exact p
    | cnt r' => exact p
    | thr x r' => exact p
theorem dss_one (h1 : PS X st (tDS R W fr B O O' f)) : PSs X [st] (tDS R W fr B O O' f) := pss_one h1
theorem ds_pass : PS X (.Pass pos) (tDS R W fr B O O sNil) := ps_imp ps_pass fun E σ H h => by
  obtain ⟨F0, H0, F, r, s, w, st, sl, p⟩ := h
  exact p σ F H w st sl
theorem ds_cnt : PS X (.Continue pos) (tDS R W fr O O O' sCnt) := ps_imp ps_continue fun E σ H h => by
  obtain ⟨F0, H0, F, r, s, w, st, sl, p⟩ := h
  exact p σ F H w st sl
theorem ds_ret (he : PE X e (tD R W O fe)) : PS X (.Return (some e) pos) (tDS R W .f B O O' (sRet fe)) := ps_imp (ps_ret he) fun E σ H h => by
  obtain ⟨F0, H0, F, r, s, w, st, sl, p⟩ := h
  exact ⟨F, r, s, w, sl.pu, (postS_x w st sl p).imp (fun d s1 F1 H1 w1 st1 q v rv => q.2.2.2 v F1 H1 q.1 q.2.1 rv) fun _ _ _ _ _ _ z => z⟩
theorem ds_retN : PS X (.Return none pos) (tDS R W fr B O O' sRetN) := ps_imp ps_retN fun E σ H h => by
  obtain ⟨F0, H0, F, r, s, w, st, sl, p⟩ := h
  exact p .non F H w st (by cases fr <;> first | exact rfl | exact ⟨rfl, trivial⟩)
theorem ds_expr (he : PE X e (tD R W O fe)) (hs : swapsWith e none pos.line X.env = pure false := by rfl) : PS X (.Expr e pos) (tDS R W fr B O O (sDrop fe)) := ps_imp (ps_expr he hs) fun E σ H h => by
  obtain ⟨F0, H0, F, r, s, w, st, sl, p⟩ := h
  exact ⟨F, r, s, w, sl.pu, (postS_x w st sl p).imp (fun d s1 F1 H1 w1 st1 q v rv => q.2.2.2 σ F1 H1 q.1 q.2.1 q.2.2.1) fun _ _ _ _ _ _ z => z⟩
theorem ds_doc {x j pos pos'} : PS X (.Expr (.Constant (.str x) j pos) pos') (tDS R W fr B O O sNil) := ps_imp ps_doc fun E σ H h => by
  obtain ⟨F0, H0, F, r, s, w, st, sl, p⟩ := h
  exact p σ F H w st sl
theorem ds_if {t : Expr} {a b : List Stmt} (hc : PT X t (tDT R W O c)) (ha : PSs X a (tDS R W fr B O O' f)) (hb : PSs X b (tDS R W fr B O O' g)) : PS X (.If t a b pos) (tDS R W fr B O O' (sIf c f g)) := ps_imp (ps_if hc ha hb) fun E σ H h => by
  obtain ⟨F0, H0, F, r, s, w, st, sl, p⟩ := h
  refine ⟨F, r, s, w, sl.pu, (postS_x w st sl p).imp (fun k s1 F1 H1 w1 st1 q => ?_) fun _ _ _ _ _ _ z => z⟩
  obtain ⟨w2, st2, sl2, p2⟩ := q
  cases k with
  | true => rw [if_pos rfl] at p2 ⊢; exact ⟨F0, H0, F1, r, s1, w2, st2, sl2, p2⟩
  | false => rw [if_neg Bool.false_ne_true] at p2 ⊢; exact ⟨F0, H0, F1, r, s1, w2, st2, sl2, p2⟩
/-- target = e -/
theorem sat_asg {gt : TG} {vs : List Nat} {tgt : D → Sl → Option Sl} (hg : TgSat R gt vs tgt) (h1 : ∀ j ∈ O', j ∈ O ∧ j ∉ vs) (h2 : ∀ j ∈ O, j ∉ vs → j ∈ O') (E : Ends) (σ : L2.St) (H : Hp) (h : tDS R W fr B O O' (sAsg tgt fe) E σ H) : tAsg (tD R W O fe) gt E σ H := by
  obtain ⟨F0, H0, F, r, s, w, st, sl, p⟩ := h
  refine ⟨F, r, s, w, sl.pu, (postS_x w st sl p).imp (fun d s1 F1 H1 w1 st1 q v rv => ?_) fun _ _ _ _ _ _ z => z⟩
  obtain ⟨w2, st2, sl2, p2⟩ := q
  cases et : tgt d r with
  | none => rw [et] at p2; exact p2.elim
  | some r' =>
    rw [et] at p2
    exact hg v d σ r r' F1 H1 _ w2.sub rv sl2.pu.len et fun σ' sa => p2 σ' F1 H1 w2 st2 (sl2.setAt sa h1 h2)
theorem ds_set {i : Nat} {x : Str} {pos' : Pos} (hN : X.N.Nodup) (hi : X.N[i]? = some x) (hx : Loc X.env.scope x) (he : PE X e (tD R W O fe)) (h1 : ∀ j ∈ O', j ∈ O ∧ j ∉ [i]) (h2 : ∀ j ∈ O, j ∉ [i] → j ∈ O') (hs : swapsWith e (some (.Name x pos')) pos.line X.env = pure false := by rfl) (hf : X.fn x = true ∨ X.env.scope.names.lookup x = some .local := by first | exact .inl rfl | exact .inr rfl | assumption) :
    PS X (.Assign [.Name x pos'] e pos) (tDS R W fr B O O' (sAsg (tgN i) fe)) := ps_imp (ps_set hN hi hx he hs hf) (sat_asg tg_name h1 h2)
/-- another base, from here on -/
structure Rb (R : Reg) (F0 H0 F1 H1 : Hp) : Prop where
  st : ∀ F2 H2, Stp R F1 H1 F2 H2 → Stp R F0 H0 F2 H2
  nn : ∀ a, H1 a = none → H0 a = none
theorem Slots.base {F0 H0 F H H1 F2 H2 : Hp} {σ : L2.St} {r : Sl} (rb : ∀ a, H1 a = none → H0 a = none) (h : Slots R H1 O F H σ r) : Slots R H0 O F H σ r :=
  ⟨h.pu, (fun i d hi hr e => let ⟨a, h1, h2, h3⟩ := h.ow i d hi hr e; ⟨a, h1, rb a h2, h3⟩), h.ns, h.sep⟩
theorem Slots.rebase {F0 H0 F H : Hp} {σ : L2.St} {r : Sl} {s : R.S} (sl : Slots R H0 O F H σ r) (w : Wd R F H s) (st : Stp R F0 H0 F H) : ∃ H1, Stp R F H1 F H ∧ Slots R H1 O F H σ r ∧ Rb R F0 H0 F H1 ∧ ∀ a o, F a = some o → H1 a = H a := by
  classical
  let own : Addr → Prop := fun a => ∃ i d, i ∈ O ∧ isRT d = true ∧ r[i]? = some (some d) ∧ σ[i]? = some (some (.ref a))
  have ownE : ∀ a, own a → ∃ d, OwnAt R H0 F H a d := fun a ⟨i, d, hi, hr, h1, h2⟩ => by
    obtain ⟨b, h3, h4⟩ := sl.ow i d hi hr h1
    rw [h2] at h3
    cases h3
    exact ⟨d, h4⟩
  let G : Hp := fun a => if own a then none else H a
  have g1 : ∀ a, own a → G a = none := fun a c => if_pos c
  have g2 : ∀ a, ¬ own a → G a = H a := fun a c => if_neg c
  have nn : ∀ a, G a = none → H0 a = none := fun a e => by
    by_cases c : own a
    · obtain ⟨d, hd⟩ := ownE a c; exact hd.1
    · rw [g2 a c] at e; exact st.th a e
  refine ⟨G, ⟨fun _ _ e => e, fun a o _ e => ?_, fun a e => .inl e, fun a e => ?_⟩, ⟨sl.pu, fun i d hi hrt e => ?_, sl.ns, sl.sep⟩, ⟨fun F2 H2 s2 => ⟨st.fs.trans s2.fs, fun a o m e => ?_, fun a e => ?_, fun a e => nn a (s2.th a e)⟩, nn⟩, fun a o e => ?_⟩
  · by_cases c : own a
    · rw [g1 a c] at e; cases e
    · rw [g2 a c] at e; exact .inl e
  · by_cases c : own a
    · exact g1 a c
    · rw [g2 a c]; exact e
  · obtain ⟨a, h1, h2, h3⟩ := sl.ow i d hi hrt e
    exact ⟨a, h1, g1 a ⟨i, d, hi, hrt, e, h1⟩, h3⟩
  · have q := st.hs a o m e
    by_cases c : own a
    · obtain ⟨d, hd⟩ := ownE a c; rw [hd.1] at e; cases e
    · rcases q with q | ⟨q1, kvs, ob, q2, q3⟩
      · exact s2.hs a o m (by rw [g2 a c]; exact q)
      · exact .inr ⟨s2.fs _ _ q1, kvs, ob, q2, s2.nd m (fun _ z => nomatch z) (by rw [g2 a c]; exact q3)⟩
  · rcases s2.nw a e with q | q
    · exact st.nw a q
    · exact .inr (nn a q)
  · by_cases c : own a
    · obtain ⟨d, hd⟩ := ownE a c; rw [hd.2.1] at e; cases e
    · exact g2 a c
theorem Stp.kpr {F H H1 F2 H2 : Hp} {s : R.S} (st : Stp R F H1 F2 H2) (sb : Sub F2 H2) (w : Wd R F H s) (h : ∀ a o, F a = some o → H1 a = H a) : Kp F H F2 H2 := ⟨st.fs, sb, fun a ob kvs h1 h2 => st.nd (fun m => by rw [w.mu a m] at h1; cases h1) (fun _ z => nomatch z) (by rw [h a _ h1]; exact h2)⟩
theorem PostS.rebase {F0 H0 F1 H1 : Hp} {o : Option (Flw × R.S)} {E : Ends} (h : PostS R fr F0 H0 o E W B O') (rb : Rb R F0 H0 F1 H1) : PostS R fr F1 H1 o E W B O' := by
  match o, h with
  | some (.next r, s), h => exact fun σ F H w st sl => h σ F H w (rb.st _ _ st) (sl.base (F0 := F0) (F2 := F0) (H2 := H0) rb.nn)
  | some (.rt d, s), h => exact fun v F H w st rv => h v F H w (rb.st _ _ st) (rv.base rb.nn)
  | some (.brk r, s), h => exact fun σ F H w st sl => h σ F H w (rb.st _ _ st) (sl.base (F0 := F0) (F2 := F0) (H2 := H0) rb.nn)
  | some (.cnt r, s), h => exact fun σ F H w st sl => h σ F H w (rb.st _ _ st) (sl.base (F0 := F0) (F2 := F0) (H2 := H0) rb.nn)
  | some (.thr x r, s), h => exact fun σ F H cls dd w st sl rx => h σ F H cls dd w (rb.st _ _ st) (sl.base (F0 := F0) (F2 := F0) (H2 := H0) rb.nn) rx
/-- one turn of a loop -/
theorem forL_turn {F0 H0 : Hp} {tgt : D → Sl → Option Sl} {x : D} {xs : List D} {r : Sl} {s : R.S} {E : Ends} {N : L2.St → Hp → Prop} (p : PostS R fr F0 H0 (forL tgt f (x :: xs) r s) E W B O)
    (hN : ∀ r2 s2 σ F H, Wd R F H s2 → Stp R F0 H0 F H → Slots R H0 O F H σ r2 → PostS R fr F0 H0 (forL tgt f xs r2 s2) E W B O → N σ H) : ∃ r', tgt x r = some r' ∧ PostS R fr F0 H0 (f r' s) { E with nx := N, ct := N, bk := E.nx } W O O := by
  have p : PostS R fr F0 H0 (optK (tgt x r) (fun r' s => loopK (forL tgt f xs) (f r' s)) s) E W B O := p
  cases et : tgt x r with
  | none => rw [et] at p; exact p.elim
  | some r' =>
    rw [et] at p
    refine ⟨r', rfl, ?_⟩
    have p : PostS R fr F0 H0 (loopK (forL tgt f xs) (f r' s)) E W B O := p
    cases ef : f r' s with
    | none => rw [ef] at p; exact p
    | some q =>
      obtain ⟨fl, s'⟩ := q
      rw [ef] at p
      cases fl with
      | next r2 => exact fun σ F H w st sl => hN r2 s' σ F H w st sl p
      | cnt r2 => exact fun σ F H w st sl => hN r2 s' σ F H w st sl p
      | brk r2 => exact p
      | rt d => exact p
      | thr x r2 => exact p
theorem sat_for {it : Sl → M R.S (List D)} {gt : TG} {vs : List Nat} {tgt : D → Sl → Option Sl} (hgs : TgSat R gt vs tgt) (hv : ∀ j ∈ O, j ∉ vs) (E : Ends) (σ : L2.St) (H : Hp) (h : tDS R W fr B O O (sFor it tgt f) E σ H) : tFor (tDI R W O it) gt (tDS R W fr O O O f) E σ H := by
  obtain ⟨F0, H0, F, r, s, w, st, sl, p⟩ := h
  refine ⟨F, r, s, w, sl.pu, (postS_x w st sl p).imp (fun ds s1 F1 H1 w1 st1 q J wk => ?_) fun _ _ _ _ _ _ z => z⟩
  obtain ⟨w2, st2, sl2, p2⟩ := q
  obtain ⟨Hb, stb, slb, rb, hb⟩ := sl2.rebase w2 st2
  have p3 := p2.rebase rb
  refine ⟨fun i m σc Hc => m = ds.length - i ∧ i ≤ ds.length ∧ ∃ Fc rc sc, Wd R Fc Hc sc ∧ Stp R F1 Hb Fc Hc ∧ Slots R Hb O Fc Hc σc rc ∧ PostS R fr F1 Hb (forL tgt f (ds.drop i) rc sc) E W B O,
    ⟨_, rfl, Nat.zero_le _, F1, r, s1, w2, stb, slb, p3⟩, ?_⟩
  rintro i m σc Hc ⟨rfl, hi, Fc, rc, sc, wc, stc, slc, pc⟩
  have kp : Kp F1 H1 Fc Hc := stc.kpr wc.sub w2 hb
  by_cases hlt : i < ds.length
  · refine .inr ⟨wk.go i Fc Hc kp hlt, fun σn Hn => (ds.length - (i + 1)) = ds.length - (i + 1) ∧ i + 1 ≤ ds.length ∧ ∃ Fc rc sc, Wd R Fc Hn sc ∧ Stp R F1 Hb Fc Hn ∧ Slots R Hb O Fc Hn σn rc ∧ PostS R fr F1 Hb (forL tgt f (ds.drop (i + 1)) rc sc) E W B O,
      fun σ' H' q => ⟨_, by omega, q⟩, fun x H' y => ?_⟩
    obtain ⟨rfl, d, hd, rd⟩ := wk.yld i Fc Hc x H' kp hlt y
    have ed : ds.drop i = d :: ds.drop (i + 1) := by
      rw [List.drop_eq_getElem_cons hlt]
      rw [List.getElem?_eq_getElem hlt] at hd
      cases hd
      rfl
    rw [ed] at pc
    obtain ⟨r', er, pb⟩ := forL_turn (N := fun σn Hn => (ds.length - (i + 1)) = ds.length - (i + 1) ∧ i + 1 ≤ ds.length ∧ ∃ Fc rc sc, Wd R Fc Hn sc ∧ Stp R F1 Hb Fc Hn ∧ Slots R Hb O Fc Hn σn rc ∧ PostS R fr F1 Hb (forL tgt f (ds.drop (i + 1)) rc sc) E W B O) pc fun r2 s2 σ2 F2 H2 w2 st2 sl2 q2 => ⟨rfl, hlt, F2, r2, s2, w2, st2, sl2, q2⟩
    exact hgs x d σc rc r' Fc H' _ wc.sub rd slc.pu.len er fun σ2 sa => ⟨F1, Hb, Fc, r', sc, wc, stc, slc.setAt sa (fun j hj => ⟨hj, hv j hj⟩) fun j hj _ => hj, pb⟩
  · have ei : i = ds.length := by omega
    subst ei
    rw [List.drop_length] at pc
    exact .inl ⟨wk.stop Fc Hc kp, pc σc Fc Hc wc stc slc⟩
/-- for -/
theorem ds_for {it : Sl → M R.S (List D)} {gt : TG} {vs : List Nat} {tgt : D → Sl → Option Sl} (hp : PassesOwn (model X.prog X.w) X.A X.env X.xe) (hc : X.calm = true) (hi : PI X tg iter (tDI R W O it)) (hg : PG X tg gt) (hgs : TgSat R gt vs tgt) (hb : PSs X body (tDS R W fr O O O f)) (hv : ∀ j ∈ O, j ∉ vs)
    (hs : ∀ x, foldedSetIterable iter X.env x = pure x := by intro _; rfl) : PS X (.For tg iter body [] pos) (tDS R W fr B O O (sFor it tgt f)) := ps_imp (ps_for hp hc hi hg hb hs) (sat_for hgs hv)
/-- while, so many turns at most -/
theorem sat_while (n : Nat) (E : Ends) (σ : L2.St) (H : Hp) (h : tDS R W fr B O O (fun r => whileL c f n r) E σ H) : tWhile (tDT R W O c) (tDS R W fr O O O f) E σ H := by
  obtain ⟨F0, H0, F, r, s, w, st, sl, p⟩ := h
  refine ⟨fun m σc Hc => ∃ Fc rc sc, Wd R Fc Hc sc ∧ Stp R F0 H0 Fc Hc ∧ Slots R H0 O Fc Hc σc rc ∧ PostS R fr F0 H0 (whileL c f m rc sc) E W B O, ⟨n, F, r, s, w, st, sl, p⟩, ?_⟩
  rintro m σc Hc ⟨Fc, rc, sc, wc, stc, slc, pc⟩
  cases m with
  | zero => exact pc.elim
  | succ m =>
    have pc : PostS R fr F0 H0 (liftX (c rc) rc (fun b => if b = true then (fun s => loopK (whileL c f m) (f rc s)) else fun s => some (.next rc, s)) sc) E W B O := pc
    refine ⟨Fc, rc, sc, wc, slc.pu, (postS_x wc stc slc pc).imp (fun b s1 F1 H1 w1 st1 q => ?_) fun _ _ _ _ _ _ z => z⟩
    obtain ⟨w2, st2, sl2, p2⟩ := q
    cases b with
    | false =>
      refine iteF ?_
      exact p2 σc F1 H1 w2 st2 sl2
    | true =>
      refine iteT ?_
      refine ⟨fun σ' H' => ∃ Fc rc sc, Wd R Fc H' sc ∧ Stp R F0 H0 Fc H' ∧ Slots R H0 O Fc H' σ' rc ∧ PostS R fr F0 H0 (whileL c f m rc sc) E W B O, fun σ' H' q => ⟨m, by omega, q⟩, F0, H0, F1, rc, s1, w2, st2, sl2, ?_⟩
      have p2 : PostS R fr F0 H0 (loopK (whileL c f m) (f rc s1)) E W B O := p2
      cases ef : f rc s1 with
      | none => rw [ef] at p2; exact p2
      | some q =>
        obtain ⟨fl, s'⟩ := q
        rw [ef] at p2
        cases fl with
        | next r2 => exact fun σ' F' H' w' st' sl' => ⟨F', r2, s', w', st', sl', p2⟩
        | cnt r2 => exact fun σ' F' H' w' st' sl' => ⟨F', r2, s', w', st', sl', p2⟩
        | brk r2 => exact p2
        | rt d => exact p2
        | thr x r2 => exact p2
theorem ds_while (n : Nat) (hp : PassesOwn (model X.prog X.w) X.A X.env X.xe) (hc : PT X e (tDT R W O c)) (hb : PSs X body (tDS R W fr O O O f)) : PS X (.While e body [] pos) (tDS R W fr B O O (fun r => whileL c f n r)) := ps_imp (ps_while hp hc hb) (sat_while n)
/-- a def's own things are given out ahead of the rest -/
theorem dss_frz {stm : List Stmt} (h : PSs X stm (tDS R W fr B O1 O' f)) (h1 : ∀ j ∈ O1, j ∈ O) : PSs X stm (tDS R W fr B O O' f) := pss_imp h fun E σ H h => by
  classical
  obtain ⟨F0, H0, F, r, s, w, st, sl, p⟩ := h
  -- those of O that are not in O1
  let own : Addr → Prop := fun a => ∃ i d, i ∈ O ∧ i ∉ O1 ∧ isRT d = true ∧ r[i]? = some (some d) ∧ σ[i]? = some (some (.ref a))
  have ownE : ∀ a, own a → ∃ d, OwnAt R H0 F H a d := fun a ⟨i, d, hi, _, hr, k1, k2⟩ => by
    obtain ⟨b, k3, k4⟩ := sl.ow i d hi hr k1
    rw [k2] at k3
    cases k3
    exact ⟨d, k4⟩
  let G : Hp := fun a => if own a then H a else F a
  have g1 : ∀ a, own a → G a = H a := fun a c => if_pos c
  have g2 : ∀ a, ¬ own a → G a = F a := fun a c => if_neg c
  have sm : Same F G := fun a o e => by
    by_cases c : own a
    · obtain ⟨d, hd⟩ := ownE a c
      rw [hd.2.1] at e
      cases e
    · rw [g2 a c]; exact e
  refine ⟨F0, H0, G, r, s, ⟨fun a o e => ?_, fun a m => ?_, w.si⟩, ⟨st.fs.trans sm, fun a o m q => (st.hs a o m q).imp id fun ⟨h1, h2⟩ => ⟨sm _ _ h1, h2⟩, fun a e => ?_, st.th⟩, ⟨⟨sl.pu.len, fun i d hi e => ?_⟩, fun i d hi hrt e => ?_, (fun i d hi hrt e => let ⟨v, q1, q2⟩ := sl.ns i d (h1 i hi) hrt e; ⟨v, q1, q2.mono sm⟩), fun i j a d e hi hj => sl.sep i j a d e (h1 i hi) (h1 j hj)⟩, p⟩
  · by_cases c : own a
    · rw [g1 a c] at e; exact .inl e
    · rw [g2 a c] at e; exact w.sub a o e
  · by_cases c : own a
    · obtain ⟨d, hd⟩ := ownE a c
      exact absurd m hd.2.2.1
    · rw [g2 a c]; exact w.mu a m
  · by_cases c : own a
    · obtain ⟨d, hd⟩ := ownE a c
      exact .inr hd.1
    · rw [g2 a c] at e; exact st.nw a e
  · by_cases hO : i ∈ O
    · cases hrt : isRT d with
      | false =>
        obtain ⟨v, q1, q2⟩ := sl.ns i d hO hrt e
        exact ⟨v, q1, q2.mono sm⟩
      | true =>
        obtain ⟨a, k1, k0, hF, hm, k2⟩ := sl.ow i d hO hrt e
        refine ⟨_, k1, ?_⟩
        have ga : G a = H a := g1 a ⟨i, d, hO, hi, hrt, e, k1⟩
        cases d with
        | row ds => obtain ⟨vs, e1, hz, hr⟩ := k2; exact ⟨a, vs, rfl, by rw [ga]; exact e1, hz, hr.mono sm⟩
        | tab ds => obtain ⟨vs, e1, hz, hr⟩ := k2; exact ⟨a, vs, rfl, by rw [ga]; exact e1, hz, hr.mono sm⟩
        | _ => exact k2.elim
    · obtain ⟨v, k1, k2⟩ := sl.pu.at_ i d hO e
      exact ⟨v, k1, k2.mono sm⟩
  · obtain ⟨a, k1, k0, hF, hm, k2⟩ := sl.ow i d (h1 i hi) hrt e
    have c : ¬ own a := fun ⟨j, d', hj, hj1, hr', e1, e2⟩ => hj1 (by rw [← sl.sep i j a d d' (h1 i hi) hj hrt hr' e e1 k1 e2]; exact hi)
    refine ⟨a, k1, k0, by rw [g2 a c]; exact hF, hm, ?_⟩
    cases d with
    | row ds => obtain ⟨vs, e1, hz, hr⟩ := k2; exact ⟨vs, e1, hz, hr.mono sm⟩
    | tab ds => obtain ⟨vs, e1, hz, hr⟩ := k2; exact ⟨vs, e1, hz, hr.mono sm⟩
    | _ => exact k2.elim
end
end Nw
set_option Elab.async false
set_option linter.all false
set_option maxRecDepth 100000
set_option maxHeartbeats 4000000
/-! Part E: == and !=, in. -/
namespace Nw
open PySem PySem.Spec L2
def simD : D → Bool
  | .non => true | .bl _ => true | .int _ => true | .str _ => true | .row _ => true | .tup _ => true | _ => false
def eqLN (f : D → D → Option Bool) : List D → List D → Option Bool
  | x :: xs, y :: ys => (f x y).bind fun a => (eqLN f xs ys).map fun b => a && b
  | _, _ => some true
def eqN : Nat → D → D → Option Bool
  | 0 => fun _ _ => none
  | n + 1 => fun d e => match d, e with
    | .non, .non => some true
    | .bl a, .bl b => some (a == b)
    | .int a, .int b => some (a == b)
    | .str a, .str b => some (a == b)
    | .bl a, .int b => some ((if a then 1 else 0) == b)
    | .int a, .bl b => some (a == (if b then 1 else 0))
    | .row xs, .row ys => if xs.length = ys.length then eqLN (eqN n) xs ys else some false
    | .tup xs, .tup ys => (eqLN (eqN n) xs ys).map fun a => a && (xs.length == ys.length)
    | d, e => if simD d && simD e then some false else none
section
variable {K : PySem.W.Frag} {nm : Nat → Option Addr} {F : Hp}
theorem eqLN_same {f : D → D → Option Bool} (hf : ∀ d e v k, Rep K nm F d v → Rep K nm F e v → f d e = some k → k = true) : ∀ {xs ys : List D} {vs : List V} {k : Bool}, Reps K nm F xs vs → Reps K nm F ys vs → eqLN f xs ys = some k → k = true
  | [], ys, vs, k, r, q, e => by
    rw [show vs = [] from r] at q
    cases ys with
    | nil => cases e; rfl
    | cons y ys => obtain ⟨v, ws, e', _⟩ := q; cases e'
  | x :: xs, ys, vs, k, r, q, e => by
    obtain ⟨v, ws, rfl, r1, r2⟩ := r
    cases ys with
    | nil => cases (show (v :: ws : List V) = [] from q)
    | cons y ys =>
      obtain ⟨v', ws', e', q1, q2⟩ := q
      cases e'
      unfold eqLN at e
      cases e1 : f x y with
      | none => rw [e1] at e; cases e
      | some a =>
        rw [e1] at e
        cases e2 : eqLN f xs ys with
        | none => rw [e2] at e; cases e
        | some b =>
          rw [e2] at e
          cases e
          rw [hf x y v a r1 q1 e1, eqLN_same hf r2 q2 e2]
          rfl
theorem eqN_same : ∀ (n : Nat) (d e : D) (v : V) (k : Bool), Rep K nm F d v → Rep K nm F e v → eqN n d e = some k → k = true
  | 0, _, _, _, _, _, _, h => by cases h
  | n + 1, d, e, v, k, r, q, h => by
    cases d <;> cases e <;> first
      | (cases (show (none : Option Bool) = some k from h))
      | (cases (show some true = some k from h); rfl)
      | (rename_i a b; cases (show some (a == b) = some k from h); first
          | (cases (show v = V.bl a from r); cases (show V.bl a = V.bl b from q); exact beq_self_eq_true _)
          | (cases (show v = V.int a from r); cases (show V.int a = V.int b from q); exact beq_self_eq_true _)
          | (cases r.1; cases q.1; exact beq_self_eq_true _))
      | (rename_i xs ys
         have h : (if xs.length = ys.length then eqLN (eqN n) xs ys else some false) = some k := h
         obtain ⟨a, vs, rfl, e1, _, r1⟩ := r
         obtain ⟨b, ws, e0, e2, _, r2⟩ := q
         cases e0
         rw [e1] at e2
         cases e2
         rw [if_pos (r1.length.symm.trans r2.length)] at h
         exact eqLN_same (eqN_same n) r1 r2 h)
      | (rename_i xs ys
         have h : ((eqLN (eqN n) xs ys).map fun a => a && (xs.length == ys.length)) = some k := h
         obtain ⟨a, vs, rfl, e1, _, r1⟩ := r
         obtain ⟨b, ws, e0, e2, _, r2⟩ := q
         cases e0
         rw [e1] at e2
         cases e2
         cases el : eqLN (eqN n) xs ys with
         | none => rw [el] at h; cases h
         | some z =>
           rw [el] at h
           cases h
           rw [eqLN_same (eqN_same n) r1 r2 el, r1.length.symm.trans r2.length]
           simp)
      | (exfalso; first
          | (cases (show v = V.non from r); first | (cases (show V.non = V.bl _ from q)) | (cases (show V.non = V.int _ from q)) | (cases q.1) | (obtain ⟨_, _, e0, _⟩ := q; cases e0))
          | (rename_i a b; cases (show v = V.bl a from r); first | (cases (show V.bl a = V.int _ from q)) | (cases q.1) | (obtain ⟨_, _, e0, _⟩ := q; cases e0))
          | (rename_i a; cases (show v = V.bl a from r); first | (cases (show V.bl a = V.non from q)))
          | (rename_i a b; cases (show v = V.int a from r); first | (cases (show V.int a = V.bl _ from q)) | (cases q.1) | (obtain ⟨_, _, e0, _⟩ := q; cases e0))
          | (rename_i a; cases (show v = V.int a from r); first | (cases (show V.int a = V.non from q)))
          | (cases r.1; first | (cases (show V.str _ = V.non from q)) | (cases (show V.str _ = V.bl _ from q)) | (cases (show V.str _ = V.int _ from q)) | (obtain ⟨_, _, e0, _⟩ := q; cases e0))
          | (obtain ⟨_, _, rfl, e1, _⟩ := r; first | (cases (show V.ref _ = V.non from q)) | (cases (show V.ref _ = V.bl _ from q)) | (cases (show V.ref _ = V.int _ from q)) | (cases q.1) | (obtain ⟨_, _, e0, e2, _⟩ := q; cases e0; rw [e1] at e2; cases e2)))
end
section
variable {X : Cx} {nm : Nat → Option Addr} {F H : Hp} {pins : List (Addr × Obj)} {σ : L2.St} {s : Shared}
/-- the items of two rows, one by one -/
theorem eqLN_at {f : D → D → Option Bool} {A : Around} (hf : ∀ d e v u v' u' k, Rep X.K nm F d v → Rep X.K nm F e u → RelV v v' → RelV u u' → f d e = some k → SeqAt.EqAt A s v' u' k) :
    ∀ {xs ys : List D} {vs ws : List V} {us ts : List Value} {k : Bool}, Reps X.K nm F xs vs → Reps X.K nm F ys ws → Vals vs us → Vals ws ts → eqLN f xs ys = some k →
      ∃ e : Nat → Bool, (∀ j (h1 : j < us.length) (h2 : j < ts.length), SeqAt.EqAt A s us[j] ts[j] (e j)) ∧ (List.range (min us.length ts.length)).all e = k
  | [], ys, vs, ws, us, ts, k, r, q, ru, rt, h => by
    rw [show vs = [] from r] at ru
    cases ru
    cases h
    exact ⟨fun _ => true, fun j h1 => absurd h1 (Nat.not_lt_zero j), by simp⟩
  | x :: xs, [], vs, ws, us, ts, k, r, q, ru, rt, h => by
    rw [show ws = [] from q] at rt
    cases rt
    cases h
    exact ⟨fun _ => true, fun j _ h1 => absurd h1 (Nat.not_lt_zero j), by simp⟩
  | x :: xs, y :: ys, vs, ws, us, ts, k, r, q, ru, rt, h => by
    obtain ⟨v, vs', rfl, r1, r2⟩ := r
    obtain ⟨w, ws', rfl, q1, q2⟩ := q
    cases ru with
    | cons a1 a2 =>
      cases rt with
      | cons b1 b2 =>
        unfold eqLN at h
        cases e1 : f x y with
        | none => rw [e1] at h; cases h
        | some a =>
          rw [e1] at h
          cases e2 : eqLN f xs ys with
          | none => rw [e2] at h; cases h
          | some b =>
            rw [e2] at h
            cases h
            obtain ⟨e, he, hk⟩ := eqLN_at hf r2 q2 a2 b2 e2
            refine ⟨fun j => match j with | 0 => a | j + 1 => e j, fun j h1 h2 => ?_, ?_⟩
            · cases j with
              | zero => exact hf x y v w _ _ a r1 q1 a1 b1 e1
              | succ j => exact he j (Nat.lt_of_succ_lt_succ h1) (Nat.lt_of_succ_lt_succ h2)
            · rw [List.length_cons, List.length_cons, Nat.add_min_add_right, List.range_succ_eq_map, List.all_cons, List.all_map]
              show (a && (List.range _).all e) = (a && b)
              rw [hk]
theorem all_size {xs ys : List D} {vs ws : List V} {us ts : List Value} (r : Reps X.K nm F xs vs) (q : Reps X.K nm F ys ws) (ru : Vals vs us) (rt : Vals ws ts) : us.length = xs.length ∧ ts.length = ys.length :=
  ⟨by rw [← ru.length, r.length], by rw [← rt.length, q.length]⟩
theorem rep_row (I : Inv X pins σ H s) (sb : Sub F H) {xs : List D} {v : V} {v' : Value} (r : Rep X.K nm F (.row xs) v) (rv : RelV v v') : ∃ a vs us, v = .ref a ∧ v' = .ref a ∧ F a = some (.lst vs) ∧ Reps X.K nm F xs vs ∧ Vals vs us ∧ s.heap.IsList a us.toArray := by
  obtain ⟨a, vs, rfl, h1, _, h3⟩ := r
  cases rv
  obtain ⟨us, r1, p1, _⟩ := I.list (SqL.of (sb.lst h1))
  exact ⟨a, vs, us, rfl, rfl, h1, h3, r1, p1.isList⟩
theorem rep_tup (I : Inv X pins σ H s) (sb : Sub F H) {xs : List D} {v : V} {v' : Value} (r : Rep X.K nm F (.tup xs) v) (rv : RelV v v') : ∃ a vs us, v = .ref a ∧ v' = .ref a ∧ F a = some (.tup vs) ∧ Reps X.K nm F xs vs ∧ Vals vs us ∧ s.heap.IsTuple a us.toArray := by
  obtain ⟨a, vs, rfl, h1, _, h3⟩ := r
  cases rv
  obtain ⟨us, r1, p1, _⟩ := I.tuple (SqT.of (sb.tup h1))
  exact ⟨a, vs, us, rfl, rfl, h1, h3, r1, p1⟩
/-- the comparison of two rows, two tuples -/
theorem rcAt_row (I : Inv X pins σ H s) (sb : Sub F H) {n : Nat} {A : Around} (hu : A.units < cLine) (ih : ∀ d e v u v' u' k, Rep X.K nm F d v → Rep X.K nm F e u → RelV v v' → RelV u u' → eqN n d e = some k → SeqAt.EqAt A.in1 s v' u' k)
    {xs ys : List D} {v u : V} {v' u' : Value} {k : Bool} (r : Rep X.K nm F (.row xs) v) (q : Rep X.K nm F (.row ys) u) (rv : RelV v v') (ru : RelV u u') (h : (if xs.length = ys.length then eqLN (eqN n) xs ys else some false) = some k) : SeqAt.RcAt A s v' u' k ∧ SeqAt.RcNeAt A s v' u' (!k) := by
  obtain ⟨a, vs, us, rfl, rfl, h1, h2, h3, h4⟩ := rep_row I sb r rv
  obtain ⟨b, ws, ts, rfl, rfl, k1, k2, k3, k4⟩ := rep_row I sb q ru
  obtain ⟨l1, l2⟩ := all_size h2 k2 h3 k3
  by_cases hl : xs.length = ys.length
  · rw [if_pos hl] at h
    obtain ⟨e, he, hk⟩ := eqLN_at ih h2 k2 h3 k3 h
    have hsz : us.toArray.size = ts.toArray.size := by rw [List.size_toArray, List.size_toArray]; omega
    have hmin : min us.length ts.length = us.toArray.size := by rw [List.size_toArray]; omega
    rw [hmin] at hk
    have he' : ∀ j (h1 : j < us.toArray.size) (h2 : j < ts.toArray.size), SeqAt.EqAt A.in1 s us.toArray[j] ts.toArray[j] (e j) := fun j h1 h2 => by simpa using he j (by simpa using h1) (by simpa using h2)
    rw [← hk]
    exact ⟨SeqAt.RcAt.lists h4 k4 hsz hu he', SeqAt.RcNeAt.lists h4 k4 hsz hu he'⟩
  · rw [if_neg hl] at h
    cases h
    have hsz : (us.toArray.size != ts.toArray.size) = true := by rw [List.size_toArray, List.size_toArray]; simp; omega
    exact ⟨SeqAt.RcAt.lists_lengths h4 k4 hsz hu, SeqAt.RcNeAt.lists_lengths h4 k4 hsz hu⟩
theorem rcAt_tup (I : Inv X pins σ H s) (sb : Sub F H) {n : Nat} {A : Around} (hu : A.units < cLine) (ih : ∀ d e v u v' u' k, Rep X.K nm F d v → Rep X.K nm F e u → RelV v v' → RelV u u' → eqN n d e = some k → SeqAt.EqAt A.in1 s v' u' k)
    {xs ys : List D} {v u : V} {v' u' : Value} {k : Bool} (r : Rep X.K nm F (.tup xs) v) (q : Rep X.K nm F (.tup ys) u) (rv : RelV v v') (ru : RelV u u') (h : ((eqLN (eqN n) xs ys).map fun a => a && (xs.length == ys.length)) = some k) : SeqAt.RcAt A s v' u' k ∧ SeqAt.RcNeAt A s v' u' (!k) := by
  obtain ⟨a, vs, us, rfl, rfl, h1, h2, h3, h4⟩ := rep_tup I sb r rv
  obtain ⟨b, ws, ts, rfl, rfl, k1, k2, k3, k4⟩ := rep_tup I sb q ru
  obtain ⟨l1, l2⟩ := all_size h2 k2 h3 k3
  cases el : eqLN (eqN n) xs ys with
  | none => rw [el] at h; cases h
  | some z =>
    rw [el] at h
    cases h
    obtain ⟨e, he, hk⟩ := eqLN_at ih h2 k2 h3 k3 el
    have he' : ∀ j (h1 : j < us.toArray.size) (h2 : j < ts.toArray.size), SeqAt.EqAt A.in1 s us.toArray[j] ts.toArray[j] (e j) := fun j h1 h2 => by simpa using he j (by simpa using h1) (by simpa using h2)
    have e1 := SeqAt.RcAt.tuples h4 k4 hu he'
    have e2 := SeqAt.RcNeAt.tuples h4 k4 hu he'
    rw [List.size_toArray, List.size_toArray] at e1 e2
    rw [hk] at e1 e2
    rw [← l1, ← l2]
    exact ⟨e1, e2⟩
theorem rc_step (I : Inv X pins σ H s) (sb : Sub F H) {n : Nat} {A : Around} (hu : A.units < cLine) (ih : ∀ d e v u v' u' k, Rep X.K nm F d v → Rep X.K nm F e u → RelV v v' → RelV u u' → eqN n d e = some k → SeqAt.EqAt A.in1 s v' u' k)
    {d1 d2 : D} {v1 v2 : V} {v1' v2' : Value} {k : Bool} (r1 : Rep X.K nm F d1 v1) (r2 : Rep X.K nm F d2 v2) (q1 : RelV v1 v1') (q2 : RelV v2 v2') (h : eqN (n + 1) d1 d2 = some k) : SeqAt.RcAt A s v1' v2' k ∧ SeqAt.RcNeAt A s v1' v2' (!k) := by
  cases d1 with
  | non =>
    cases d2 with
    | non =>
      cases (show v1 = V.non from r1)
      cases (show v1' = Value.none from q1)
      cases (show v2 = V.non from r2)
      cases (show v2' = Value.none from q2)
      cases h
      exact ⟨SeqAt.RcAt.none_none, SeqAt.RcNeAt.none_none⟩
    | bl x2 =>
      cases (show v1 = V.non from r1)
      cases (show v1' = Value.none from q1)
      cases (show v2 = V.bl _ from r2)
      cases (show v2' = Value.bool _ from q2)
      cases h
      exact ⟨SeqAt.RcAt.none_bool _, SeqAt.RcNeAt.none_bool _⟩
    | int x2 =>
      cases (show v1 = V.non from r1)
      cases (show v1' = Value.none from q1)
      cases (show v2 = V.int _ from r2)
      obtain ⟨t2, ht2⟩ := (show ∃ t, v2' = Value.int _ t from q2)
      cases ht2
      cases h
      exact ⟨SeqAt.RcAt.none_int _ _, SeqAt.RcNeAt.none_int _ _⟩
    | str x2 =>
      cases (show v1 = V.non from r1)
      cases (show v1' = Value.none from q1)
      obtain ⟨hv2, _⟩ := r2
      cases hv2
      obtain ⟨t2, ht2⟩ := (show ∃ t, v2' = Value.str _ t from q2)
      cases ht2
      cases h
      exact ⟨SeqAt.RcAt.none_str _ _, SeqAt.RcNeAt.none_str _ _⟩
    | row x2 =>
      cases (show v1 = V.non from r1)
      cases (show v1' = Value.none from q1)
      obtain ⟨a2, vs2, us2, hq2, hr2, _, _, _, hl2⟩ := rep_row I sb r2 q2
      cases hq2
      cases hr2
      cases h
      exact ⟨SeqAt.RcAt.none_list hl2 hu, SeqAt.RcNeAt.none_list hl2 hu⟩
    | tup x2 =>
      cases (show v1 = V.non from r1)
      cases (show v1' = Value.none from q1)
      obtain ⟨a2, vs2, us2, hq2, hr2, _, _, _, hl2⟩ := rep_tup I sb r2 q2
      cases hq2
      cases hr2
      cases h
      exact ⟨SeqAt.RcAt.none_tuple hl2 hu, SeqAt.RcNeAt.none_tuple hl2 hu⟩
    | _ => cases h
  | bl x1 =>
    cases d2 with
    | non =>
      cases (show v1 = V.bl _ from r1)
      cases (show v1' = Value.bool _ from q1)
      cases (show v2 = V.non from r2)
      cases (show v2' = Value.none from q2)
      cases h
      exact ⟨SeqAt.RcAt.bool_none _, SeqAt.RcNeAt.bool_none _⟩
    | bl x2 =>
      cases (show v1 = V.bl _ from r1)
      cases (show v1' = Value.bool _ from q1)
      cases (show v2 = V.bl _ from r2)
      cases (show v2' = Value.bool _ from q2)
      cases h
      exact ⟨SeqAt.RcAt.bool_bool _ _, SeqAt.RcNeAt.bool_bool _ _⟩
    | int x2 =>
      cases (show v1 = V.bl _ from r1)
      cases (show v1' = Value.bool _ from q1)
      cases (show v2 = V.int _ from r2)
      obtain ⟨t2, ht2⟩ := (show ∃ t, v2' = Value.int _ t from q2)
      cases ht2
      cases h
      exact ⟨SeqAt.RcAt.bool_int _ _ _, SeqAt.RcNeAt.bool_int _ _ _⟩
    | str x2 =>
      cases (show v1 = V.bl _ from r1)
      cases (show v1' = Value.bool _ from q1)
      obtain ⟨hv2, _⟩ := r2
      cases hv2
      obtain ⟨t2, ht2⟩ := (show ∃ t, v2' = Value.str _ t from q2)
      cases ht2
      cases h
      exact ⟨SeqAt.RcAt.bool_str _ _ _, SeqAt.RcNeAt.bool_str _ _ _⟩
    | row x2 =>
      cases (show v1 = V.bl _ from r1)
      cases (show v1' = Value.bool _ from q1)
      obtain ⟨a2, vs2, us2, hq2, hr2, _, _, _, hl2⟩ := rep_row I sb r2 q2
      cases hq2
      cases hr2
      cases h
      exact ⟨SeqAt.RcAt.bool_list _ hl2 hu, SeqAt.RcNeAt.bool_list _ hl2 hu⟩
    | tup x2 =>
      cases (show v1 = V.bl _ from r1)
      cases (show v1' = Value.bool _ from q1)
      obtain ⟨a2, vs2, us2, hq2, hr2, _, _, _, hl2⟩ := rep_tup I sb r2 q2
      cases hq2
      cases hr2
      cases h
      exact ⟨SeqAt.RcAt.bool_tuple _ hl2 hu, SeqAt.RcNeAt.bool_tuple _ hl2 hu⟩
    | _ => cases h
  | int x1 =>
    cases d2 with
    | non =>
      cases (show v1 = V.int _ from r1)
      obtain ⟨t1, ht1⟩ := (show ∃ t, v1' = Value.int _ t from q1)
      cases ht1
      cases (show v2 = V.non from r2)
      cases (show v2' = Value.none from q2)
      cases h
      exact ⟨SeqAt.RcAt.int_none _ _, SeqAt.RcNeAt.int_none _ _⟩
    | bl x2 =>
      cases (show v1 = V.int _ from r1)
      obtain ⟨t1, ht1⟩ := (show ∃ t, v1' = Value.int _ t from q1)
      cases ht1
      cases (show v2 = V.bl _ from r2)
      cases (show v2' = Value.bool _ from q2)
      cases h
      exact ⟨SeqAt.RcAt.int_bool _ _ _, SeqAt.RcNeAt.int_bool _ _ _⟩
    | int x2 =>
      cases (show v1 = V.int _ from r1)
      obtain ⟨t1, ht1⟩ := (show ∃ t, v1' = Value.int _ t from q1)
      cases ht1
      cases (show v2 = V.int _ from r2)
      obtain ⟨t2, ht2⟩ := (show ∃ t, v2' = Value.int _ t from q2)
      cases ht2
      cases h
      exact ⟨SeqAt.RcAt.int_int _ _ _ _, SeqAt.RcNeAt.int_int _ _ _ _⟩
    | str x2 =>
      cases (show v1 = V.int _ from r1)
      obtain ⟨t1, ht1⟩ := (show ∃ t, v1' = Value.int _ t from q1)
      cases ht1
      obtain ⟨hv2, _⟩ := r2
      cases hv2
      obtain ⟨t2, ht2⟩ := (show ∃ t, v2' = Value.str _ t from q2)
      cases ht2
      cases h
      exact ⟨SeqAt.RcAt.int_str _ _ _ _, SeqAt.RcNeAt.int_str _ _ _ _⟩
    | row x2 =>
      cases (show v1 = V.int _ from r1)
      obtain ⟨t1, ht1⟩ := (show ∃ t, v1' = Value.int _ t from q1)
      cases ht1
      obtain ⟨a2, vs2, us2, hq2, hr2, _, _, _, hl2⟩ := rep_row I sb r2 q2
      cases hq2
      cases hr2
      cases h
      exact ⟨SeqAt.RcAt.int_list _ _ hl2 hu, SeqAt.RcNeAt.int_list _ _ hl2 hu⟩
    | tup x2 =>
      cases (show v1 = V.int _ from r1)
      obtain ⟨t1, ht1⟩ := (show ∃ t, v1' = Value.int _ t from q1)
      cases ht1
      obtain ⟨a2, vs2, us2, hq2, hr2, _, _, _, hl2⟩ := rep_tup I sb r2 q2
      cases hq2
      cases hr2
      cases h
      exact ⟨SeqAt.RcAt.int_tuple _ _ hl2 hu, SeqAt.RcNeAt.int_tuple _ _ hl2 hu⟩
    | _ => cases h
  | str x1 =>
    cases d2 with
    | non =>
      obtain ⟨hv1, _⟩ := r1
      cases hv1
      obtain ⟨t1, ht1⟩ := (show ∃ t, v1' = Value.str _ t from q1)
      cases ht1
      cases (show v2 = V.non from r2)
      cases (show v2' = Value.none from q2)
      cases h
      exact ⟨SeqAt.RcAt.str_none _ _, SeqAt.RcNeAt.str_none _ _⟩
    | bl x2 =>
      obtain ⟨hv1, _⟩ := r1
      cases hv1
      obtain ⟨t1, ht1⟩ := (show ∃ t, v1' = Value.str _ t from q1)
      cases ht1
      cases (show v2 = V.bl _ from r2)
      cases (show v2' = Value.bool _ from q2)
      cases h
      exact ⟨SeqAt.RcAt.str_bool _ _ _, SeqAt.RcNeAt.str_bool _ _ _⟩
    | int x2 =>
      obtain ⟨hv1, _⟩ := r1
      cases hv1
      obtain ⟨t1, ht1⟩ := (show ∃ t, v1' = Value.str _ t from q1)
      cases ht1
      cases (show v2 = V.int _ from r2)
      obtain ⟨t2, ht2⟩ := (show ∃ t, v2' = Value.int _ t from q2)
      cases ht2
      cases h
      exact ⟨SeqAt.RcAt.str_int _ _ _ _, SeqAt.RcNeAt.str_int _ _ _ _⟩
    | str x2 =>
      obtain ⟨hv1, _⟩ := r1
      cases hv1
      obtain ⟨t1, ht1⟩ := (show ∃ t, v1' = Value.str _ t from q1)
      cases ht1
      obtain ⟨hv2, _⟩ := r2
      cases hv2
      obtain ⟨t2, ht2⟩ := (show ∃ t, v2' = Value.str _ t from q2)
      cases ht2
      cases h
      exact ⟨SeqAt.RcAt.str_str _ _ _ _, SeqAt.RcNeAt.str_str _ _ _ _⟩
    | row x2 =>
      obtain ⟨hv1, _⟩ := r1
      cases hv1
      obtain ⟨t1, ht1⟩ := (show ∃ t, v1' = Value.str _ t from q1)
      cases ht1
      obtain ⟨a2, vs2, us2, hq2, hr2, _, _, _, hl2⟩ := rep_row I sb r2 q2
      cases hq2
      cases hr2
      cases h
      exact ⟨SeqAt.RcAt.str_list _ _ hl2 hu, SeqAt.RcNeAt.str_list _ _ hl2 hu⟩
    | tup x2 =>
      obtain ⟨hv1, _⟩ := r1
      cases hv1
      obtain ⟨t1, ht1⟩ := (show ∃ t, v1' = Value.str _ t from q1)
      cases ht1
      obtain ⟨a2, vs2, us2, hq2, hr2, _, _, _, hl2⟩ := rep_tup I sb r2 q2
      cases hq2
      cases hr2
      cases h
      exact ⟨SeqAt.RcAt.str_tuple _ _ hl2 hu, SeqAt.RcNeAt.str_tuple _ _ hl2 hu⟩
    | _ => cases h
  | row x1 =>
    cases d2 with
    | non =>
      obtain ⟨a1, vs1, us1, hq1, hr1, _, _, _, hl1⟩ := rep_row I sb r1 q1
      cases hq1
      cases hr1
      cases (show v2 = V.non from r2)
      cases (show v2' = Value.none from q2)
      cases h
      exact ⟨SeqAt.RcAt.list_none hl1 hu, SeqAt.RcNeAt.list_none hl1 hu⟩
    | bl x2 =>
      obtain ⟨a1, vs1, us1, hq1, hr1, _, _, _, hl1⟩ := rep_row I sb r1 q1
      cases hq1
      cases hr1
      cases (show v2 = V.bl _ from r2)
      cases (show v2' = Value.bool _ from q2)
      cases h
      exact ⟨SeqAt.RcAt.list_bool _ hl1 hu, SeqAt.RcNeAt.list_bool _ hl1 hu⟩
    | int x2 =>
      obtain ⟨a1, vs1, us1, hq1, hr1, _, _, _, hl1⟩ := rep_row I sb r1 q1
      cases hq1
      cases hr1
      cases (show v2 = V.int _ from r2)
      obtain ⟨t2, ht2⟩ := (show ∃ t, v2' = Value.int _ t from q2)
      cases ht2
      cases h
      exact ⟨SeqAt.RcAt.list_int _ _ hl1 hu, SeqAt.RcNeAt.list_int _ _ hl1 hu⟩
    | str x2 =>
      obtain ⟨a1, vs1, us1, hq1, hr1, _, _, _, hl1⟩ := rep_row I sb r1 q1
      cases hq1
      cases hr1
      obtain ⟨hv2, _⟩ := r2
      cases hv2
      obtain ⟨t2, ht2⟩ := (show ∃ t, v2' = Value.str _ t from q2)
      cases ht2
      cases h
      exact ⟨SeqAt.RcAt.list_str _ _ hl1 hu, SeqAt.RcNeAt.list_str _ _ hl1 hu⟩
    | row x2 =>
      exact rcAt_row I sb hu ih r1 r2 q1 q2 h
    | tup x2 =>
      obtain ⟨a1, vs1, us1, hq1, hr1, _, _, _, hl1⟩ := rep_row I sb r1 q1
      cases hq1
      cases hr1
      obtain ⟨a2, vs2, us2, hq2, hr2, _, _, _, hl2⟩ := rep_tup I sb r2 q2
      cases hq2
      cases hr2
      cases h
      exact ⟨SeqAt.RcAt.list_tuple hl1 hl2 hu, SeqAt.RcNeAt.list_tuple hl1 hl2 hu⟩
    | _ => cases h
  | tup x1 =>
    cases d2 with
    | non =>
      obtain ⟨a1, vs1, us1, hq1, hr1, _, _, _, hl1⟩ := rep_tup I sb r1 q1
      cases hq1
      cases hr1
      cases (show v2 = V.non from r2)
      cases (show v2' = Value.none from q2)
      cases h
      exact ⟨SeqAt.RcAt.tuple_none hl1 hu, SeqAt.RcNeAt.tuple_none hl1 hu⟩
    | bl x2 =>
      obtain ⟨a1, vs1, us1, hq1, hr1, _, _, _, hl1⟩ := rep_tup I sb r1 q1
      cases hq1
      cases hr1
      cases (show v2 = V.bl _ from r2)
      cases (show v2' = Value.bool _ from q2)
      cases h
      exact ⟨SeqAt.RcAt.tuple_bool _ hl1 hu, SeqAt.RcNeAt.tuple_bool _ hl1 hu⟩
    | int x2 =>
      obtain ⟨a1, vs1, us1, hq1, hr1, _, _, _, hl1⟩ := rep_tup I sb r1 q1
      cases hq1
      cases hr1
      cases (show v2 = V.int _ from r2)
      obtain ⟨t2, ht2⟩ := (show ∃ t, v2' = Value.int _ t from q2)
      cases ht2
      cases h
      exact ⟨SeqAt.RcAt.tuple_int _ _ hl1 hu, SeqAt.RcNeAt.tuple_int _ _ hl1 hu⟩
    | str x2 =>
      obtain ⟨a1, vs1, us1, hq1, hr1, _, _, _, hl1⟩ := rep_tup I sb r1 q1
      cases hq1
      cases hr1
      obtain ⟨hv2, _⟩ := r2
      cases hv2
      obtain ⟨t2, ht2⟩ := (show ∃ t, v2' = Value.str _ t from q2)
      cases ht2
      cases h
      exact ⟨SeqAt.RcAt.tuple_str _ _ hl1 hu, SeqAt.RcNeAt.tuple_str _ _ hl1 hu⟩
    | row x2 =>
      obtain ⟨a1, vs1, us1, hq1, hr1, _, _, _, hl1⟩ := rep_tup I sb r1 q1
      cases hq1
      cases hr1
      obtain ⟨a2, vs2, us2, hq2, hr2, _, _, _, hl2⟩ := rep_row I sb r2 q2
      cases hq2
      cases hr2
      cases h
      exact ⟨SeqAt.RcAt.tuple_list hl1 hl2 hu, SeqAt.RcNeAt.tuple_list hl1 hl2 hu⟩
    | tup x2 =>
      exact rcAt_tup I sb hu ih r1 r2 q1 q2 h
    | _ => cases h
  | _ => cases d2 <;> cases h
theorem eq_step (I : Inv X pins σ H s) (sb : Sub F H) {n : Nat} {A : Around} (hu : A.units < cLine) (ih : ∀ d e v u v' u' k, Rep X.K nm F d v → Rep X.K nm F e u → RelV v v' → RelV u u' → eqN n d e = some k → SeqAt.EqAt A.in1 s v' u' k)
    {d1 d2 : D} {v1 v2 : V} {v1' v2' : Value} {k : Bool} (r1 : Rep X.K nm F d1 v1) (r2 : Rep X.K nm F d2 v2) (q1 : RelV v1 v1') (q2 : RelV v2 v2') (h : eqN (n + 1) d1 d2 = some k) : SeqAt.EqAt A s v1' v2' k := by
  cases d1 with
  | non =>
    cases d2 with
    | non =>
      cases (show v1 = V.non from r1)
      cases (show v1' = Value.none from q1)
      cases (show v2 = V.non from r2)
      cases (show v2' = Value.none from q2)
      cases h
      exact SeqAt.EqAt.same _
    | bl x2 =>
      cases (show v1 = V.non from r1)
      cases (show v1' = Value.none from q1)
      cases (show v2 = V.bl _ from r2)
      cases (show v2' = Value.bool _ from q2)
      cases h
      exact SeqAt.EqAt.none_bool _
    | int x2 =>
      cases (show v1 = V.non from r1)
      cases (show v1' = Value.none from q1)
      cases (show v2 = V.int _ from r2)
      obtain ⟨t2, ht2⟩ := (show ∃ t, v2' = Value.int _ t from q2)
      cases ht2
      cases h
      exact SeqAt.EqAt.none_int _ _
    | str x2 =>
      cases (show v1 = V.non from r1)
      cases (show v1' = Value.none from q1)
      obtain ⟨hv2, _⟩ := r2
      cases hv2
      obtain ⟨t2, ht2⟩ := (show ∃ t, v2' = Value.str _ t from q2)
      cases ht2
      cases h
      exact SeqAt.EqAt.none_str _ _
    | row x2 =>
      cases (show v1 = V.non from r1)
      cases (show v1' = Value.none from q1)
      obtain ⟨a2, vs2, us2, hq2, hr2, _, _, _, hl2⟩ := rep_row I sb r2 q2
      cases hq2
      cases hr2
      cases h
      exact SeqAt.EqAt.none_list hl2 hu
    | tup x2 =>
      cases (show v1 = V.non from r1)
      cases (show v1' = Value.none from q1)
      obtain ⟨a2, vs2, us2, hq2, hr2, _, _, _, hl2⟩ := rep_tup I sb r2 q2
      cases hq2
      cases hr2
      cases h
      exact SeqAt.EqAt.none_tuple hl2 hu
    | _ => cases h
  | bl x1 =>
    cases d2 with
    | non =>
      cases (show v1 = V.bl _ from r1)
      cases (show v1' = Value.bool _ from q1)
      cases (show v2 = V.non from r2)
      cases (show v2' = Value.none from q2)
      cases h
      exact SeqAt.EqAt.bool_none _
    | bl x2 =>
      cases (show v1 = V.bl _ from r1)
      cases (show v1' = Value.bool _ from q1)
      cases (show v2 = V.bl _ from r2)
      cases (show v2' = Value.bool _ from q2)
      cases h
      exact SeqAt.EqAt.bool_bool _ _
    | int x2 =>
      cases (show v1 = V.bl _ from r1)
      cases (show v1' = Value.bool _ from q1)
      cases (show v2 = V.int _ from r2)
      obtain ⟨t2, ht2⟩ := (show ∃ t, v2' = Value.int _ t from q2)
      cases ht2
      cases h
      exact SeqAt.EqAt.bool_int _ _ _
    | str x2 =>
      cases (show v1 = V.bl _ from r1)
      cases (show v1' = Value.bool _ from q1)
      obtain ⟨hv2, _⟩ := r2
      cases hv2
      obtain ⟨t2, ht2⟩ := (show ∃ t, v2' = Value.str _ t from q2)
      cases ht2
      cases h
      exact SeqAt.EqAt.bool_str _ _ _
    | row x2 =>
      cases (show v1 = V.bl _ from r1)
      cases (show v1' = Value.bool _ from q1)
      obtain ⟨a2, vs2, us2, hq2, hr2, _, _, _, hl2⟩ := rep_row I sb r2 q2
      cases hq2
      cases hr2
      cases h
      exact SeqAt.EqAt.bool_list _ hl2 hu
    | tup x2 =>
      cases (show v1 = V.bl _ from r1)
      cases (show v1' = Value.bool _ from q1)
      obtain ⟨a2, vs2, us2, hq2, hr2, _, _, _, hl2⟩ := rep_tup I sb r2 q2
      cases hq2
      cases hr2
      cases h
      exact SeqAt.EqAt.bool_tuple _ hl2 hu
    | _ => cases h
  | int x1 =>
    cases d2 with
    | non =>
      cases (show v1 = V.int _ from r1)
      obtain ⟨t1, ht1⟩ := (show ∃ t, v1' = Value.int _ t from q1)
      cases ht1
      cases (show v2 = V.non from r2)
      cases (show v2' = Value.none from q2)
      cases h
      exact SeqAt.EqAt.int_none _ _
    | bl x2 =>
      cases (show v1 = V.int _ from r1)
      obtain ⟨t1, ht1⟩ := (show ∃ t, v1' = Value.int _ t from q1)
      cases ht1
      cases (show v2 = V.bl _ from r2)
      cases (show v2' = Value.bool _ from q2)
      cases h
      exact SeqAt.EqAt.int_bool _ _ _
    | int x2 =>
      cases (show v1 = V.int _ from r1)
      obtain ⟨t1, ht1⟩ := (show ∃ t, v1' = Value.int _ t from q1)
      cases ht1
      cases (show v2 = V.int _ from r2)
      obtain ⟨t2, ht2⟩ := (show ∃ t, v2' = Value.int _ t from q2)
      cases ht2
      cases h
      exact SeqAt.EqAt.int_int _ _ _ _
    | str x2 =>
      cases (show v1 = V.int _ from r1)
      obtain ⟨t1, ht1⟩ := (show ∃ t, v1' = Value.int _ t from q1)
      cases ht1
      obtain ⟨hv2, _⟩ := r2
      cases hv2
      obtain ⟨t2, ht2⟩ := (show ∃ t, v2' = Value.str _ t from q2)
      cases ht2
      cases h
      exact SeqAt.EqAt.int_str _ _ _ _
    | row x2 =>
      cases (show v1 = V.int _ from r1)
      obtain ⟨t1, ht1⟩ := (show ∃ t, v1' = Value.int _ t from q1)
      cases ht1
      obtain ⟨a2, vs2, us2, hq2, hr2, _, _, _, hl2⟩ := rep_row I sb r2 q2
      cases hq2
      cases hr2
      cases h
      exact SeqAt.EqAt.int_list _ _ hl2 hu
    | tup x2 =>
      cases (show v1 = V.int _ from r1)
      obtain ⟨t1, ht1⟩ := (show ∃ t, v1' = Value.int _ t from q1)
      cases ht1
      obtain ⟨a2, vs2, us2, hq2, hr2, _, _, _, hl2⟩ := rep_tup I sb r2 q2
      cases hq2
      cases hr2
      cases h
      exact SeqAt.EqAt.int_tuple _ _ hl2 hu
    | _ => cases h
  | str x1 =>
    cases d2 with
    | non =>
      obtain ⟨hv1, _⟩ := r1
      cases hv1
      obtain ⟨t1, ht1⟩ := (show ∃ t, v1' = Value.str _ t from q1)
      cases ht1
      cases (show v2 = V.non from r2)
      cases (show v2' = Value.none from q2)
      cases h
      exact SeqAt.EqAt.str_none _ _
    | bl x2 =>
      obtain ⟨hv1, _⟩ := r1
      cases hv1
      obtain ⟨t1, ht1⟩ := (show ∃ t, v1' = Value.str _ t from q1)
      cases ht1
      cases (show v2 = V.bl _ from r2)
      cases (show v2' = Value.bool _ from q2)
      cases h
      exact SeqAt.EqAt.str_bool _ _ _
    | int x2 =>
      obtain ⟨hv1, _⟩ := r1
      cases hv1
      obtain ⟨t1, ht1⟩ := (show ∃ t, v1' = Value.str _ t from q1)
      cases ht1
      cases (show v2 = V.int _ from r2)
      obtain ⟨t2, ht2⟩ := (show ∃ t, v2' = Value.int _ t from q2)
      cases ht2
      cases h
      exact SeqAt.EqAt.str_int _ _ _ _
    | str x2 =>
      obtain ⟨hv1, _⟩ := r1
      cases hv1
      obtain ⟨t1, ht1⟩ := (show ∃ t, v1' = Value.str _ t from q1)
      cases ht1
      obtain ⟨hv2, _⟩ := r2
      cases hv2
      obtain ⟨t2, ht2⟩ := (show ∃ t, v2' = Value.str _ t from q2)
      cases ht2
      cases h
      exact SeqAt.EqAt.str_str _ _ _ _
    | row x2 =>
      obtain ⟨hv1, _⟩ := r1
      cases hv1
      obtain ⟨t1, ht1⟩ := (show ∃ t, v1' = Value.str _ t from q1)
      cases ht1
      obtain ⟨a2, vs2, us2, hq2, hr2, _, _, _, hl2⟩ := rep_row I sb r2 q2
      cases hq2
      cases hr2
      cases h
      exact SeqAt.EqAt.str_list _ _ hl2 hu
    | tup x2 =>
      obtain ⟨hv1, _⟩ := r1
      cases hv1
      obtain ⟨t1, ht1⟩ := (show ∃ t, v1' = Value.str _ t from q1)
      cases ht1
      obtain ⟨a2, vs2, us2, hq2, hr2, _, _, _, hl2⟩ := rep_tup I sb r2 q2
      cases hq2
      cases hr2
      cases h
      exact SeqAt.EqAt.str_tuple _ _ hl2 hu
    | _ => cases h
  | row x1 =>
    cases d2 with
    | non =>
      obtain ⟨a1, vs1, us1, hq1, hr1, _, _, _, hl1⟩ := rep_row I sb r1 q1
      cases hq1
      cases hr1
      cases (show v2 = V.non from r2)
      cases (show v2' = Value.none from q2)
      cases h
      exact SeqAt.EqAt.list_none hl1 hu
    | bl x2 =>
      obtain ⟨a1, vs1, us1, hq1, hr1, _, _, _, hl1⟩ := rep_row I sb r1 q1
      cases hq1
      cases hr1
      cases (show v2 = V.bl _ from r2)
      cases (show v2' = Value.bool _ from q2)
      cases h
      exact SeqAt.EqAt.list_bool _ hl1 hu
    | int x2 =>
      obtain ⟨a1, vs1, us1, hq1, hr1, _, _, _, hl1⟩ := rep_row I sb r1 q1
      cases hq1
      cases hr1
      cases (show v2 = V.int _ from r2)
      obtain ⟨t2, ht2⟩ := (show ∃ t, v2' = Value.int _ t from q2)
      cases ht2
      cases h
      exact SeqAt.EqAt.list_int _ _ hl1 hu
    | str x2 =>
      obtain ⟨a1, vs1, us1, hq1, hr1, _, _, _, hl1⟩ := rep_row I sb r1 q1
      cases hq1
      cases hr1
      obtain ⟨hv2, _⟩ := r2
      cases hv2
      obtain ⟨t2, ht2⟩ := (show ∃ t, v2' = Value.str _ t from q2)
      cases ht2
      cases h
      exact SeqAt.EqAt.list_str _ _ hl1 hu
    | row x2 =>
      have hh := (rc_step I sb hu ih r1 r2 q1 q2 h).1
      have hs := eqN_same (K := X.K) (nm := nm) (F := F) (n + 1) (.row x1) (.row x2)
      obtain ⟨a1, vs1, us1, hq1, hr1, _⟩ := rep_row I sb r1 q1
      obtain ⟨a2, vs2, us2, hq2, hr2, _⟩ := rep_row I sb r2 q2
      cases hq1
      cases hr1
      cases hq2
      cases hr2
      by_cases e : a1 = a2
      · subst e
        rw [hs _ k r1 r2 h]
        exact SeqAt.EqAt.same _
      · exact SeqAt.EqAt.of_refs e hh
    | tup x2 =>
      obtain ⟨a1, vs1, us1, hq1, hr1, _, _, _, hl1⟩ := rep_row I sb r1 q1
      cases hq1
      cases hr1
      obtain ⟨a2, vs2, us2, hq2, hr2, _, _, _, hl2⟩ := rep_tup I sb r2 q2
      cases hq2
      cases hr2
      cases h
      exact SeqAt.EqAt.list_tuple hl1 hl2 hu
    | _ => cases h
  | tup x1 =>
    cases d2 with
    | non =>
      obtain ⟨a1, vs1, us1, hq1, hr1, _, _, _, hl1⟩ := rep_tup I sb r1 q1
      cases hq1
      cases hr1
      cases (show v2 = V.non from r2)
      cases (show v2' = Value.none from q2)
      cases h
      exact SeqAt.EqAt.tuple_none hl1 hu
    | bl x2 =>
      obtain ⟨a1, vs1, us1, hq1, hr1, _, _, _, hl1⟩ := rep_tup I sb r1 q1
      cases hq1
      cases hr1
      cases (show v2 = V.bl _ from r2)
      cases (show v2' = Value.bool _ from q2)
      cases h
      exact SeqAt.EqAt.tuple_bool _ hl1 hu
    | int x2 =>
      obtain ⟨a1, vs1, us1, hq1, hr1, _, _, _, hl1⟩ := rep_tup I sb r1 q1
      cases hq1
      cases hr1
      cases (show v2 = V.int _ from r2)
      obtain ⟨t2, ht2⟩ := (show ∃ t, v2' = Value.int _ t from q2)
      cases ht2
      cases h
      exact SeqAt.EqAt.tuple_int _ _ hl1 hu
    | str x2 =>
      obtain ⟨a1, vs1, us1, hq1, hr1, _, _, _, hl1⟩ := rep_tup I sb r1 q1
      cases hq1
      cases hr1
      obtain ⟨hv2, _⟩ := r2
      cases hv2
      obtain ⟨t2, ht2⟩ := (show ∃ t, v2' = Value.str _ t from q2)
      cases ht2
      cases h
      exact SeqAt.EqAt.tuple_str _ _ hl1 hu
    | row x2 =>
      obtain ⟨a1, vs1, us1, hq1, hr1, _, _, _, hl1⟩ := rep_tup I sb r1 q1
      cases hq1
      cases hr1
      obtain ⟨a2, vs2, us2, hq2, hr2, _, _, _, hl2⟩ := rep_row I sb r2 q2
      cases hq2
      cases hr2
      cases h
      exact SeqAt.EqAt.tuple_list hl1 hl2 hu
    | tup x2 =>
      have hh := (rc_step I sb hu ih r1 r2 q1 q2 h).1
      have hs := eqN_same (K := X.K) (nm := nm) (F := F) (n + 1) (.tup x1) (.tup x2)
      obtain ⟨a1, vs1, us1, hq1, hr1, _⟩ := rep_tup I sb r1 q1
      obtain ⟨a2, vs2, us2, hq2, hr2, _⟩ := rep_tup I sb r2 q2
      cases hq1
      cases hr1
      cases hq2
      cases hr2
      by_cases e : a1 = a2
      · subst e
        rw [hs _ k r1 r2 h]
        exact SeqAt.EqAt.same _
      · exact SeqAt.EqAt.of_refs e hh
    | _ => cases h
  | _ => cases d2 <;> cases h
theorem eq_all (I : Inv X pins σ H s) (sb : Sub F H) : ∀ (n : Nat) (A : Around), A.units + n < cLine → ∀ d e v u v' u' k, Rep X.K nm F d v → Rep X.K nm F e u → RelV v v' → RelV u u' → eqN n d e = some k → SeqAt.EqAt A s v' u' k
  | 0, _, _, _, _, _, _, _, _, _, _, _, _, _, h => by cases h
  | n + 1, A, hu, _, _, _, _, _, _, _, r1, r2, q1, q2, h => eq_step I sb (by omega) (eq_all I sb n A.in1 (by show A.units + 1 + n < cLine; omega)) r1 r2 q1 q2 h
theorem rc_all (I : Inv X pins σ H s) (sb : Sub F H) (n : Nat) (A : Around) (hu : A.units + n < cLine) {d1 d2 : D} {v1 v2 : V} {v1' v2' : Value} {k : Bool} (r1 : Rep X.K nm F d1 v1) (r2 : Rep X.K nm F d2 v2) (q1 : RelV v1 v1') (q2 : RelV v2 v2') (h : eqN n d1 d2 = some k) : SeqAt.RcAt A s v1' v2' k ∧ SeqAt.RcNeAt A s v1' v2' (!k) := by
  cases n with
  | zero => cases h
  | succ n => exact rc_step I sb (by omega) (eq_all I sb n A.in1 (by show A.units + 1 + n < cLine; omega)) r1 r2 q1 q2 h
end
/-- d == e, d != e -/
def eqD (d e : D) : Option D := (eqN 60 d e).map .bl
def neD (d e : D) : Option D := (eqN 60 d e).map fun b => .bl (!b)
def rEqA (K : PySem.W.Frag) (nm : Nat → Option Addr) (neg : Bool) : R2 := fun x y H Q => ∃ F d e k, Sub F H ∧ Rep K nm F d x ∧ Rep K nm F e y ∧ eqN 60 d e = some k ∧ Q (.bl (if neg then !k else k)) H
section
variable {X : Cx} {R : Reg} {nm : Nat → Option Addr}
theorem op_eqA (hu : X.A.units + 64 < cLine) : OpR X (compareOp .Eq) (rEqA X.K nm false) := by
  intro pins s σ H x y v u Q I rx ry h
  obtain ⟨F, d, e, k, sb, r1, r2, h, q⟩ := h
  exact (rc_all I sb 60 X.A (by omega) r1 r2 rx ry h).1 X.prog X.w _ _ ⟨.bl k, H, I, rfl, q⟩
theorem op_neA (hu : X.A.units + 64 < cLine) : OpR X (compareOp .NotEq) (rEqA X.K nm true) := by
  intro pins s σ H x y v u Q I rx ry h
  obtain ⟨F, d, e, k, sb, r1, r2, h, q⟩ := h
  exact (rc_all I sb 60 X.A (by omega) r1 r2 rx ry h).2 X.prog X.w _ _ ⟨.bl (!k), H, I, rfl, q⟩
theorem sat_eq : OpSat R (rEqA R.K R.nm false) eqD := fun x y d e d' F H s Q w rx ry h k => by
  unfold eqD at h
  cases e1 : eqN 60 d e with
  | none => rw [e1] at h; cases h
  | some b => rw [e1] at h; cases h; exact ⟨F, d, e, b, w.sub, rx, ry, e1, k _ F H w Stp.refl rfl⟩
theorem sat_ne : OpSat R (rEqA R.K R.nm true) neD := fun x y d e d' F H s Q w rx ry h k => by
  unfold neD at h
  cases e1 : eqN 60 d e with
  | none => rw [e1] at h; cases h
  | some b => rw [e1] at h; cases h; exact ⟨F, d, e, b, w.sub, rx, ry, e1, k _ F H w Stp.refl rfl⟩
end
end Nw
set_option Elab.async false
set_option linter.all false
set_option maxRecDepth 100000
set_option maxHeartbeats 4000000
/-! Part O: operators, built-ins. -/
namespace Nw
open PySem PySem.Spec L2
section
variable {X : Cx} {R : Reg} {W : WX} {O : List Nat}
/-! ### + - * // % ** -/
def addD : D → D → Option D
  | .int i, .int j => some (.int (i + j))
  | .str x, .str y => if x.length + y.length ≤ sizeLine then some (.str (x ++ y)) else none
  | .row xs, .row ys => if xs.length + ys.length ≤ sizeLine then some (.row (xs ++ ys)) else none
  | .tup xs, .tup ys => if xs.length + ys.length ≤ sizeLine then some (.tup (xs ++ ys)) else none
  | _, _ => none
def rAddA (K : PySem.W.Frag) : R2 := fun x y H Q => (rI0 fun i j => .int (i + j)) x y H Q ∨ (∃ i j, x = .str i ∧ y = .str j ∧ i.length + j.length ≤ sizeLine ∧ Q (.str (i ++ j)) H) ∨ rCat x y H Q ∨ rCatA K x y H Q
theorem op_addA : OpR X (binaryOp .Add) (rAddA X.K) := op_add.or (op_add_str.or (op_cat.or op_catA))
theorem str_app_cps (x y : Str) : (x ++ y).cps.toList = x.cps.toList ++ y.cps.toList := by
  show (x.cps ++ y.cps).toList = _
  rw [Array.toList_append]
theorem str_app_len (x y : Str) : (x ++ y).length = x.length + y.length := by
  show (x.cps ++ y.cps).size = _
  rw [Array.size_append]
  rfl
theorem sat_add (K : PySem.W.Frag) : OpSat R (rAddA K) addD := fun x y d e d' F H s Q w rx ry h k => by
  unfold addD at h
  split at h
  · cases h
    exact .inl ⟨_, _, rx, ry, k _ F H w Stp.refl rfl⟩
  · split at h
    · rename_i hz
      cases h
      obtain ⟨rfl, _⟩ := rx
      obtain ⟨rfl, _⟩ := ry
      exact .inr (.inl ⟨_, _, rfl, rfl, hz, k _ F H w Stp.refl ⟨rfl, by rw [str_app_len]; exact hz⟩⟩)
    · cases h
  · split at h
    · rename_i hz
      cases h
      obtain ⟨a, vs, rfl, h1, _, h2⟩ := rx
      obtain ⟨b, ws, rfl, k1, _, k2⟩ := ry
      exact .inr (.inr (.inl ⟨a, b, vs, ws, rfl, rfl, w.sub.lst h1, w.sub.lst k1, by rw [h2.length, k2.length]; exact hz, fun p hp => new_row w (by rw [List.length_append]; exact hz) (h2.append k2) hp k⟩))
    · cases h
  · split at h
    · rename_i xs ys hz
      cases h
      have rx' := rx
      have ry' := ry
      obtain ⟨a, vs, rfl, h1, _, h2⟩ := rx
      obtain ⟨b, ws, rfl, k1, _, k2⟩ := ry
      refine .inr (.inr (.inr ⟨a, b, vs, ws, rfl, rfl, SqT.of (w.sub.tup h1), SqT.of (w.sub.tup k1), by rw [h2.length, k2.length]; exact hz, fun e => ?_, fun _ e => ?_, fun _ _ p hp => new_tup w (by rw [List.length_append]; exact hz) (h2.append k2) hp k⟩))
      · have : xs = [] := List.eq_nil_of_length_eq_zero (by rw [← h2.length, e]; rfl)
        subst this
        exact k _ F H w Stp.refl ry'
      · have : ys = [] := List.eq_nil_of_length_eq_zero (by rw [← k2.length, e]; rfl)
        subst this
        rw [List.append_nil] at k
        exact k _ F H w Stp.refl rx'
    · cases h
  · cases h
def subD : D → D → Option D
  | .int i, .int j => some (.int (i - j))
  | _, _ => none
theorem sat_sub : OpSat R (rI0 fun i j => .int (i - j)) subD := fun x y d e d' F H s Q w rx ry h k => by
  unfold subD at h
  split at h
  · cases h; exact ⟨_, _, rx, ry, k _ F H w Stp.refl rfl⟩
  · cases h
/-- n times a list, a tuple, a text -/
def mulD : D → D → Option D
  | .int i, .int j => if (-(2 ^ 64) < i ∧ i < 2 ^ 64) ∨ (-(2 ^ 64) < j ∧ j < 2 ^ 64) then some (.int (i * j)) else none
  | .str x, .int j => if 0 ≤ j ∧ j ≤ 1000 ∧ x.length ≤ 1000 then some (.str (Txt.mul x j)) else none
  | .row xs, .int j => if 0 ≤ j ∧ j ≤ 1000 ∧ xs.length ≤ 1000 then some (.row (List.replicate j.toNat xs).flatten) else none
  | .tup xs, .int j => if 2 ≤ j ∧ j ≤ 1000 ∧ xs.length ≤ 1000 ∧ xs ≠ [] then some (.tup (List.replicate j.toNat xs).flatten) else none
  | _, _ => none
def rMulA (K : PySem.W.Frag) : R2 := fun x y H Q => (rI CMul fun i j => .int (i * j)) x y H Q ∨ (∃ z j, x = .str z ∧ y = .int j ∧ MulOk z j ∧ Q (.str (Txt.mul z j)) H) ∨ rRep x y H Q ∨ rRepT K x y H Q
theorem op_mulS : OpR X (binaryOp .Mult) (fun x y H Q => ∃ z j, x = .str z ∧ y = .int j ∧ MulOk z j ∧ Q (.str (Txt.mul z j)) H) := by
  intro pins s σ H x y v u Q I rx ry h
  obtain ⟨z, j, rfl, rfl, hm, q⟩ := h
  obtain ⟨t, rfl⟩ := rx
  obtain ⟨t', rfl⟩ := ry
  exact PySem.SB.mul hm fun t' k => ⟨.str _, H, I.tok k, ⟨_, rfl⟩, q⟩
theorem op_mulA : OpR X (binaryOp .Mult) (rMulA X.K) := op_mul.or (op_mulS.or (op_rep.or op_repT))
theorem reps_rep {K : PySem.W.Frag} {nm : Nat → Option Addr} {F : Hp} {xs : List D} {vs : List V} (r : Reps K nm F xs vs) : ∀ k : Nat, Reps K nm F (List.replicate k xs).flatten (List.replicate k vs).flatten
  | 0 => rfl
  | k + 1 => by
    rw [List.replicate_succ, List.replicate_succ, List.flatten_cons, List.flatten_cons]
    exact r.append (reps_rep r k)
theorem len_rep {α : Type} (xs : List α) (k : Nat) : (List.replicate k xs).flatten.length = k * xs.length := by
  induction k with
  | zero => simp
  | succ k ih => rw [List.replicate_succ, List.flatten_cons, List.length_append, ih, Nat.succ_mul]; omega
theorem mul_1000 {a b : Nat} (h1 : a ≤ 1000) (h2 : b ≤ 1000) : a * b ≤ sizeLine := by
  have := Nat.mul_le_mul h1 h2
  rw [sizeLine_eq]
  omega
theorem sat_mul (K : PySem.W.Frag) : OpSat R (rMulA K) mulD := fun x y d e d' F H s Q w rx ry h k => by
  unfold mulD at h
  split at h
  · split at h
    · rename_i hc
      cases h
      exact .inl ⟨_, _, rx, ry, hc, k _ F H w Stp.refl rfl⟩
    · cases h
  · split at h
    · rename_i z j hc
      cases h
      obtain ⟨rfl, _⟩ := rx
      refine .inr (.inl ⟨_, _, rfl, ry, PyProof.Rows.mulOk_of 1000 1000 hc.2.2 (by omega) (by omega) (by omega) (by omega), k _ F H w Stp.refl ⟨rfl, ?_⟩⟩)
      have e := PyProof.Rows.len_mul z j
      rw [if_neg (by simp; omega)] at e
      have e2 : ((Txt.mul z j).length : Int) = ((z.length * j.toNat : Nat) : Int) := by
        rw [e, Int.natCast_mul, Int.toNat_of_nonneg hc.1]
      have e3 := mul_1000 hc.2.2 (show j.toNat ≤ 1000 by omega)
      omega
    · cases h
  · split at h
    · rename_i xs j hc
      cases h
      obtain ⟨a, vs, rfl, h1, _, h2⟩ := rx
      have e3 := mul_1000 hc.2.2 (show j.toNat ≤ 1000 by have := hc.2.1; omega)
      refine .inr (.inr (.inl ⟨a, _, vs, rfl, ry, w.sub.lst h1, by omega, by omega, ?_, fun p hp => new_row w ?_ (reps_rep h2 _) hp k⟩))
      · rw [h2.length]; exact e3
      · rw [len_rep, Nat.mul_comm]; exact e3
    · cases h
  · split at h
    · rename_i xs j hc
      cases h
      obtain ⟨a, vs, rfl, h1, _, h2⟩ := rx
      have e3 := mul_1000 hc.2.2.1 (show j.toNat ≤ 1000 by have := hc.2.1; omega)
      refine .inr (.inr (.inr ⟨a, _, vs, rfl, ry, SqT.of (w.sub.tup h1), fun e => hc.2.2.2 (List.eq_nil_of_length_eq_zero (by rw [← h2.length, e]; rfl)), hc.1, hc.2.1, by rw [h2.length]; exact hc.2.2.1, fun p hp => new_tup w ?_ (reps_rep h2 _) hp k⟩))
      rw [len_rep, Nat.mul_comm]; exact e3
    · cases h
  · cases h
def modD : D → D → Option D
  | .int i, .int j => if 0 < j then some (.int (i % j)) else none
  | _, _ => none
theorem sat_mod : OpSat R (rI (fun _ j => 0 < j) fun i j => .int (i % j)) modD := fun x y d e d' F H s Q w rx ry h k => by
  unfold modD at h
  split at h
  · split at h
    · rename_i hc; cases h; exact ⟨_, _, rx, ry, hc, k _ F H w Stp.refl rfl⟩
    · cases h
  · cases h
def fdivD : D → D → Option D
  | .int i, .int j => if 0 < j ∧ j < 1073741824 then some (.int (i / j)) else none
  | _, _ => none
theorem sat_fdiv : OpSat R (rI CDiv fun i j => .int (i / j)) fdivD := fun x y d e d' F H s Q w rx ry h k => by
  unfold fdivD at h
  split at h
  · split at h
    · rename_i hc; cases h; exact ⟨_, _, rx, ry, hc, k _ F H w Stp.refl rfl⟩
    · cases h
  · cases h
def powD : D → D → Option D
  | .int i, .int j => if 0 ≤ j ∧ j ≤ 1000000 ∧ i.natAbs < 2 ^ 64 then some (.int (i ^ j.toNat)) else none
  | _, _ => none
theorem sat_pow : OpSat R (rI CPow fun i j => .int (i ^ j.toNat)) powD := fun x y d e d' F H s Q w rx ry h k => by
  unfold powD at h
  split at h
  · split at h
    · rename_i hc; cases h; exact ⟨_, _, rx, ry, hc, k _ F H w Stp.refl rfl⟩
    · cases h
  · cases h
/-! ### comparisons of numbers -/
def cmpD (p : Int → Int → Bool) : D → D → Option D
  | .int i, .int j => some (.bl (p i j))
  | _, _ => none
theorem sat_cmp (p : Int → Int → Bool) : OpSat R (rI0 fun i j => .bl (p i j)) (cmpD p) := fun x y d e d' F H s Q w rx ry h k => by
  unfold cmpD at h
  split at h
  · cases h; exact ⟨_, _, rx, ry, k _ F H w Stp.refl rfl⟩
  · cases h
def ltD := cmpD fun i j => decide (i < j)
def leD := cmpD fun i j => decide (i ≤ j)
def gtD := cmpD fun i j => decide (j < i)
def geD := cmpD fun i j => decide (j ≤ i)
variable {a b e : Expr} {f g : Sl → M R.S D} {pos : Pos}
theorem de_add (hK : R.K = X.K) (ha : PE X a (tD R W O f)) (hb : PE X b (tD R W O g)) : PE X (.BinOp a .Add b pos) (tD R W O (dOp addD f g)) := de_op op_addA (sat_add X.K) ha hb
theorem de_sub (ha : PE X a (tD R W O f)) (hb : PE X b (tD R W O g)) : PE X (.BinOp a .Sub b pos) (tD R W O (dOp subD f g)) := de_op op_sub sat_sub ha hb
theorem de_mul (ha : PE X a (tD R W O f)) (hb : PE X b (tD R W O g)) : PE X (.BinOp a .Mult b pos) (tD R W O (dOp mulD f g)) := de_op op_mulA (sat_mul X.K) ha hb
theorem de_mod (ha : PE X a (tD R W O f)) (hb : PE X b (tD R W O g)) : PE X (.BinOp a .Mod b pos) (tD R W O (dOp modD f g)) := de_op op_mod sat_mod ha hb
theorem de_fdiv (ha : PE X a (tD R W O f)) (hb : PE X b (tD R W O g)) : PE X (.BinOp a .FloorDiv b pos) (tD R W O (dOp fdivD f g)) := de_op op_fdiv sat_fdiv ha hb
theorem de_pow (ha : PE X a (tD R W O f)) (hb : PE X b (tD R W O g)) : PE X (.BinOp a .Pow b pos) (tD R W O (dOp powD f g)) := de_op op_pow sat_pow ha hb
/-- a comparison, as a value and as a test -/
structure CmpOk (X : Cx) (R : Reg) (o : CmpOp) (op : D → D → Option D) : Prop where
  ok : ∃ r : R2, OpR X (compareOp o) r ∧ OpSat R r op
theorem ck_lt : CmpOk X R .Lt ltD := ⟨_, op_lt, sat_cmp _⟩
theorem ck_le : CmpOk X R .LtE leD := ⟨_, op_le, sat_cmp _⟩
theorem ck_gt : CmpOk X R .Gt gtD := ⟨_, op_gt, sat_cmp _⟩
theorem ck_ge : CmpOk X R .GtE geD := ⟨_, op_ge, sat_cmp _⟩
theorem ck_eq {n : Nat} (c : Cxt X R W n) : CmpOk X R .Eq eqD := ⟨_, by have := op_eqA (X := X) (nm := R.nm) c.hr.units; rw [← c.hK] at this; exact this, sat_eq⟩
theorem ck_ne {n : Nat} (c : Cxt X R W n) : CmpOk X R .NotEq neD := ⟨_, by have := op_neA (X := X) (nm := R.nm) c.hr.units; rw [← c.hK] at this; exact this, sat_ne⟩
theorem de_ck {o : CmpOp} {op : D → D → Option D} (h : CmpOk X R o op) (ha : PE X a (tD R W O f)) (hb : PE X b (tD R W O g)) (hm : behindInMarks o b = false) : PE X (.Compare a [o] [b] pos) (tD R W O (dOp op f g)) := let ⟨_, h1, h2⟩ := h.ok; de_cmp h1 h2 ha hb hm
theorem dt_ck {o : CmpOp} {op : D → D → Option D} (h : CmpOk X R o op) (ha : PE X a (tD R W O f)) (hb : PE X b (tD R W O g)) (hm : behindInMarks o b = false) : PT X (.Compare a [o] [b] pos) (tDT R W O (dTst (dOp op f g) isBl)) := let ⟨_, h1, h2⟩ := h.ok; dt_cmp h1 h2 ha hb hm
/-! ### is None, is True -/
def isNonD : D → Bool
  | .non => true
  | _ => false
def isND (neg : Bool) (d : D) : Option D := some (.bl (if neg then !isNonD d else isNonD d))
theorem nonV_of {K : PySem.W.Frag} {nm : Nat → Option Addr} {F : Hp} {d : D} {v : V} (r : Rep K nm F d v) : decide (v = .non) = isNonD d := by
  cases d with
  | non => rw [show v = V.non from r]; rfl
  | bl b => rw [show v = V.bl b from r]; rfl
  | int b => rw [show v = V.int b from r]; rfl
  | str b => rw [r.1]; rfl
  | row b => obtain ⟨a, vs, rfl, _⟩ := r; rfl
  | tup b => obtain ⟨a, vs, rfl, _⟩ := r; rfl
  | tab b => obtain ⟨a, vs, rfl, _⟩ := r; rfl
  | kro b => obtain ⟨a, vs, rfl, _⟩ := r; rfl
  | exc b c => obtain ⟨a, vs, rfl, _⟩ := r; rfl
  | obj b => obtain ⟨a, _, rfl⟩ := r; rfl
theorem sat_isN {tg : TE → TE} {neg : Bool} (htg : tg = if neg then tNotN else tIsN) (σ : L2.St) (H : Hp) (Q : VK) (h : tD R W O (dUn (isND neg) f) σ H Q) : tg (tD R W O f) σ H Q := by
  obtain ⟨F, ρ, s, w, pu, p⟩ := h
  subst htg
  cases neg with
  | false =>
    refine ⟨F, ρ, s, w, pu, p.bnd.imp (fun d s1 F1 H1 w1 st1 p1 v rv => ?_) fun _ _ _ _ _ _ z => z⟩
    show Q (.bl (decide (v = .non))) H1
    rw [nonV_of rv]
    exact p1 F1 H1 w1 Stp.refl _ rfl
  | true =>
    refine ⟨F, ρ, s, w, pu, p.bnd.imp (fun d s1 F1 H1 w1 st1 p1 v rv => ?_) fun _ _ _ _ _ _ z => z⟩
    show Q (.bl (!decide (v = .non))) H1
    rw [nonV_of rv]
    exact p1 F1 H1 w1 Stp.refl _ rfl
theorem de_isN {j pos'} (ha : PE X a (tD R W O f)) : PE X (.Compare a [.Is] [.Constant .none j pos'] pos) (tD R W O (dUn (isND false) f)) := pe_imp (pe_cmp (pc_isN ha) rfl) (sat_isN rfl)
theorem de_notN {j pos'} (ha : PE X a (tD R W O f)) : PE X (.Compare a [.IsNot] [.Constant .none j pos'] pos) (tD R W O (dUn (isND true) f)) := pe_imp (pe_cmp (pc_notN ha) rfl) (sat_isN rfl)
theorem sat_tB (σ : L2.St) (H : Hp) (Q : Bool → Hp → Prop) {h : Sl → M R.S D} {t : TE} (k : ∀ σ H Q, tD R W O h σ H Q → t σ H Q) (p : tDT R W O (dTst h isBl) σ H Q) : tB t σ H Q := by
  refine k σ H _ ?_
  obtain ⟨F, ρ, s, w, pu, p⟩ := p
  refine ⟨F, ρ, s, w, pu, p.bnd.imp (fun d s1 F1 H1 w1 st1 p1 v rv => ?_) fun _ _ _ _ _ _ z => z⟩
  obtain ⟨c, ec, k⟩ := p1.lift
  cases d <;> try cases ec
  exact ⟨_, rv, k F1 H1 w1 Stp.refl⟩
theorem dt_isN {j pos'} (ha : PE X a (tD R W O f)) : PT X (.Compare a [.Is] [.Constant .none j pos'] pos) (tDT R W O (dTst (dUn (isND false) f) isBl)) := pt_imp (pt_cmp (pc_isN ha) rfl) fun σ H Q h => sat_tB σ H Q (sat_isN rfl) h
theorem dt_notN {j pos'} (ha : PE X a (tD R W O f)) : PT X (.Compare a [.IsNot] [.Constant .none j pos'] pos) (tDT R W O (dTst (dUn (isND true) f) isBl)) := pt_imp (pt_cmp (pc_notN ha) rfl) fun σ H Q h => sat_tB σ H Q (sat_isN rfl) h
def isBD (neg : Bool) : D → D → Option D
  | .bl x, .bl y => some (.bl (if neg then !decide (x = y) else decide (x = y)))
  | _, _ => none
theorem ck_is : CmpOk X R .Is (isBD false) := ⟨_, op_is_bl, fun x y d e d' F H s Q w rx ry h k => by
  unfold isBD at h
  split at h
  · cases h; exact ⟨_, _, rx, ry, k _ F H w Stp.refl rfl⟩
  · cases h⟩
theorem ck_isnot : CmpOk X R .IsNot (isBD true) := ⟨_, op_isnot_bl, fun x y d e d' F H s Q w rx ry h k => by
  unfold isBD at h
  split at h
  · cases h; exact ⟨_, _, rx, ry, k _ F H w Stp.refl rfl⟩
  · cases h⟩
/-! ### a < b < c -/
def dChain {S : Type} (op op' : D → D → Option D) (f g h : Sl → M S D) : Sl → M S D := fun r => bnd (f r) fun x => bnd (g r) fun y => bnd (lift ((op x y).bind isBl)) fun b => if b = true then bnd (h r) fun z => lift (op' y z) else ret (.bl false)
theorem sat_chain {r r' : R2} {op op' : D → D → Option D} {h : Sl → M R.S D} (hs : OpSat R r op) (hs' : OpSat R r' op') (σ : L2.St) (H : Hp) (Q : VK) (p : tD R W O (dChain op op' f g h) σ H Q) : tChain r r' (tD R W O f) (tD R W O g) (tD R W O h) σ H Q := by
  obtain ⟨F, ρ, s, w, pu, p⟩ := p
  refine ⟨F, ρ, s, w, pu, p.bnd.imp (fun d s1 F1 H1 w1 st1 p1 v rv => ?_) fun _ _ _ _ _ _ z => z⟩
  refine ⟨F1, ρ, s1, w1, pu.mono st1.fs, p1.bnd.imp (fun e s2 F2 H2 w2 st2 p2 u ru => ?_) fun _ _ _ _ _ _ z => z⟩
  obtain ⟨b, eb, p3⟩ := p2.bnd.lift
  cases eo : op d e with
  | none => rw [eo] at eb; cases eb
  | some z =>
    rw [eo] at eb
    cases z <;> try cases eb
    refine hs v u d e _ F2 H2 s2 _ w2 (rv.mono st2.fs) ru eo fun v' F3 H3 w3 st3 r3 => ?_
    refine ⟨b, r3, ?_⟩
    have p4 := p3 F3 H3 w3 st3
    cases b with
    | false => rw [if_neg Bool.false_ne_true] at p4 ⊢; exact p4 F3 H3 w3 Stp.refl _ rfl
    | true =>
      rw [if_pos rfl] at p4 ⊢
      refine ⟨F3, ρ, s2, w3, (pu.mono (st1.fs.trans st2.fs)).mono st3.fs, p4.bnd.imp (fun e' s5 F5 H5 w5 st5 p5 u' ru' => ?_) fun _ _ _ _ _ _ z => z⟩
      obtain ⟨d5, e5, k⟩ := p5.lift
      exact hs' u u' e e' d5 F5 H5 s5 Q w5 ((ru.mono st3.fs).mono st5.fs) ru' e5 fun v' F' H' w' st' r' => k F' H' w' st' v' r'
theorem de_chain {c : Expr} {o o' : CmpOp} {op op' : D → D → Option D} {h : Sl → M R.S D} (k : CmpOk X R o op) (k' : CmpOk X R o' op') (ha : PE X a (tD R W O f)) (hb : PE X b (tD R W O g)) (hc : PE X c (tD R W O h)) (hm : lastMarks [o, o'] [b, c] = false := by with_unfolding_all rfl) :
    PE X (.Compare a [o, o'] [b, c] pos) (tD R W O (dChain op op' f g h)) := let ⟨_, h1, h2⟩ := k.ok; let ⟨_, h3, h4⟩ := k'.ok; pe_imp (pe_chain h1 h3 ha hb hc hm) (sat_chain h2 h4)
theorem dt_chain {c : Expr} {o o' : CmpOp} {op op' : D → D → Option D} {h : Sl → M R.S D} (k : CmpOk X R o op) (k' : CmpOk X R o' op') (ha : PE X a (tD R W O f)) (hb : PE X b (tD R W O g)) (hc : PE X c (tD R W O h)) (hm : lastMarks [o, o'] [b, c] = false := by with_unfolding_all rfl) :
    PT X (.Compare a [o, o'] [b, c] pos) (tDT R W O (dTst (dChain op op' f g h) isBl)) := by
  obtain ⟨_, h1, h2⟩ := k.ok
  obtain ⟨_, h3, h4⟩ := k'.ok
  refine pt_imp (pt_chain h1 h3 ha hb hc hm) fun σ H Q p => ?_
  refine sat_chain h2 h4 σ H _ ?_
  obtain ⟨F, ρ, s, w, pu, p⟩ := p
  refine ⟨F, ρ, s, w, pu, p.bnd.imp (fun d s1 F1 H1 w1 st1 p1 v rv => ?_) fun _ _ _ _ _ _ z => z⟩
  obtain ⟨c, ec, k⟩ := p1.lift
  cases d <;> try cases ec
  exact ⟨_, rv, k F1 H1 w1 Stp.refl⟩
end
end Nw
set_option Elab.async false
set_option linter.all false
set_option maxRecDepth 100000
set_option maxHeartbeats 4000000
/-! Part P: in, places, slices, the built-in functions. -/
namespace Nw
open PySem PySem.Spec L2
/-! ### equal to one that stands at the same place -/
section
variable {K : PySem.W.Frag} {nm : Nat → Option Addr} {F : Hp}
theorem eqLN_det {f : D → D → Option Bool} (hf : ∀ d d' e v k k', Rep K nm F d v → Rep K nm F d' v → f d e = some k → f d' e = some k' → k = k') : ∀ {xs xs' ys : List D} {vs : List V} {k k' : Bool}, Reps K nm F xs vs → Reps K nm F xs' vs → eqLN f xs ys = some k → eqLN f xs' ys = some k' → k = k'
  | [], xs', ys, vs, k, k', r, q, h, h' => by
    rw [show vs = [] from r] at q
    cases xs' with
    | nil => rw [h] at h'; exact Option.some.inj h'
    | cons y ys => obtain ⟨v, ws, e', _⟩ := q; cases e'
  | x :: xs, xs', ys, vs, k, k', r, q, h, h' => by
    obtain ⟨v, ws, rfl, r1, r2⟩ := r
    cases xs' with
    | nil => cases (show (v :: ws : List V) = [] from q)
    | cons x' xs' =>
      obtain ⟨v', ws', e', q1, q2⟩ := q
      cases e'
      cases ys with
      | nil => cases h; cases h'; rfl
      | cons y ys =>
        unfold eqLN at h h'
        cases e1 : f x y with
        | none => rw [e1] at h; cases h
        | some a =>
          cases e2 : f x' y with
          | none => rw [e2] at h'; cases h'
          | some a' =>
            rw [e1] at h
            rw [e2] at h'
            cases e3 : eqLN f xs ys with
            | none => rw [e3] at h; cases h
            | some b =>
              cases e4 : eqLN f xs' ys with
              | none => rw [e4] at h'; cases h'
              | some b' =>
                rw [e3] at h
                rw [e4] at h'
                cases h
                cases h'
                rw [hf x x' y v a a' r1 q1 e1 e2, eqLN_det hf r2 q2 e3 e4]
/-- what is simple and stands at one place is of one kind -/
theorem sim_kind {d d' : D} {v : V} (r : Rep K nm F d v) (q : Rep K nm F d' v) (h : simD d = true) (h' : simD d' = true) :
    d = d' ∨ (∃ xs xs' vs, d = .row xs ∧ d' = .row xs' ∧ Reps K nm F xs vs ∧ Reps K nm F xs' vs) ∨ (∃ xs xs' vs, d = .tup xs ∧ d' = .tup xs' ∧ Reps K nm F xs vs ∧ Reps K nm F xs' vs) := by
  cases d <;> try cases h
  all_goals (cases d' <;> try cases h')
  all_goals first
    | exact .inl rfl
    | (rename_i a b; cases (show v = V.bl a from r); cases (show V.bl a = V.bl b from q); exact .inl rfl)
    | (rename_i a b; cases (show v = V.int a from r); cases (show V.int a = V.int b from q); exact .inl rfl)
    | (cases r.1; cases q.1; exact .inl rfl)
    | (obtain ⟨a, vs, rfl, e1, _, r1⟩ := r
       obtain ⟨b, ws, e0, e2, _, r2⟩ := q
       cases e0
       rw [e1] at e2
       cases e2
       first
         | exact .inr (.inl ⟨_, _, _, rfl, rfl, r1, r2⟩)
         | exact .inr (.inr ⟨_, _, _, rfl, rfl, r1, r2⟩))
    | (exfalso; first
        | (cases (show v = V.non from r); first | (cases (show V.non = V.bl _ from q)) | (cases (show V.non = V.int _ from q)) | (cases q.1) | (obtain ⟨_, _, e0, _⟩ := q; cases e0))
        | (rename_i a b; cases (show v = V.bl a from r); first | (cases (show V.bl a = V.int _ from q)) | (cases q.1) | (obtain ⟨_, _, e0, _⟩ := q; cases e0))
        | (rename_i a; cases (show v = V.bl a from r); first | (cases (show V.bl a = V.non from q)))
        | (rename_i a b; cases (show v = V.int a from r); first | (cases (show V.int a = V.bl _ from q)) | (cases q.1) | (obtain ⟨_, _, e0, _⟩ := q; cases e0))
        | (rename_i a; cases (show v = V.int a from r); first | (cases (show V.int a = V.non from q)))
        | (cases r.1; first | (cases (show V.str _ = V.non from q)) | (cases (show V.str _ = V.bl _ from q)) | (cases (show V.str _ = V.int _ from q)) | (obtain ⟨_, _, e0, _⟩ := q; cases e0))
        | (obtain ⟨_, _, rfl, e1, _⟩ := r; first | (cases (show V.ref _ = V.non from q)) | (cases (show V.ref _ = V.bl _ from q)) | (cases (show V.ref _ = V.int _ from q)) | (cases q.1) | (obtain ⟨_, _, e0, e2, _⟩ := q; cases e0; rw [e1] at e2; cases e2)))
theorem eqN_sim : ∀ {n : Nat} {d e : D} {k : Bool}, eqN n d e = some k → simD d = true ∧ simD e = true
  | 0, _, _, _, h => by cases h
  | n + 1, d, e, k, h => by
    cases d <;> cases e <;> first | exact ⟨rfl, rfl⟩ | (cases (show (none : Option Bool) = some k from h))
theorem eqN_det : ∀ (n : Nat) (d d' e : D) (v : V) (k k' : Bool), Rep K nm F d v → Rep K nm F d' v → eqN n d e = some k → eqN n d' e = some k' → k = k'
  | 0, _, _, _, _, _, _, _, _, h, _ => by cases h
  | n + 1, d, d', e, v, k, k', r, q, h, h' => by
    rcases sim_kind r q (eqN_sim h).1 (eqN_sim h').1 with rfl | ⟨xs, xs', vs, rfl, rfl, r1, r2⟩ | ⟨xs, xs', vs, rfl, rfl, r1, r2⟩
    · rw [h] at h'; exact Option.some.inj h'
    · cases e with
      | row ys =>
        have h : (if xs.length = ys.length then eqLN (eqN n) xs ys else some false) = some k := h
        have h' : (if xs'.length = ys.length then eqLN (eqN n) xs' ys else some false) = some k' := h'
        have hl : xs.length = xs'.length := by rw [← r1.length, r2.length]
        rw [← hl] at h'
        by_cases c : xs.length = ys.length
        · rw [if_pos c] at h h'
          exact eqLN_det (eqN_det n) r1 r2 h h'
        · rw [if_neg c] at h h'
          cases h
          cases h'
          rfl
      | _ => first | (cases h; cases h'; rfl) | (cases (show (none : Option Bool) = some k from h))
    · cases e with
      | tup ys =>
        have h : ((eqLN (eqN n) xs ys).map fun a => a && (xs.length == ys.length)) = some k := h
        have h' : ((eqLN (eqN n) xs' ys).map fun a => a && (xs'.length == ys.length)) = some k' := h'
        have hl : xs.length = xs'.length := by rw [← r1.length, r2.length]
        cases e1 : eqLN (eqN n) xs ys with
        | none => rw [e1] at h; cases h
        | some a =>
          cases e2 : eqLN (eqN n) xs' ys with
          | none => rw [e2] at h'; cases h'
          | some a' =>
            rw [e1] at h
            rw [e2] at h'
            cases h
            cases h'
            rw [eqLN_det (eqN_det n) r1 r2 e1 e2, hl]
      | _ => first | (cases h; cases h'; rfl) | (cases (show (none : Option Bool) = some k from h))
end
/-- whether d is among them -/
def eqAny (n : Nat) (d : D) : List D → Option Bool
  | [] => some false
  | y :: ys => (eqN n y d).bind fun a => (eqAny n d ys).map fun b => a || b
theorem eqAny_each {n : Nat} {d : D} : ∀ {ys : List D} {k : Bool}, eqAny n d ys = some k → ∀ y ∈ ys, ∃ b, eqN n y d = some b
  | [], k, h, y, hy => by cases hy
  | y :: ys, k, h, z, hz => by
    unfold eqAny at h
    cases e1 : eqN n y d with
    | none => rw [e1] at h; cases h
    | some a =>
      rw [e1] at h
      cases e2 : eqAny n d ys with
      | none => rw [e2] at h; cases h
      | some b =>
        rcases List.mem_cons.mp hz with rfl | hz
        · exact ⟨a, e1⟩
        · exact eqAny_each e2 z hz
section
variable {X : Cx} {nm : Nat → Option Addr} {F H : Hp} {pins : List (Addr × Obj)} {σ : L2.St} {s : Shared}
/-- the answers by the items' values -/
theorem any_of (I : Inv X pins σ H s) (sb : Sub F H) {A : Around} (hu : A.units + 60 < cLine) {d : D} {v : V} {v' : Value} (r : Rep X.K nm F d v) (q : RelV v v') : ∀ {ds : List D} {vs : List V} {us : List Value} {k : Bool}, Reps X.K nm F ds vs → Vals vs us → eqAny 60 d ds = some k →
    ∃ e : Value → Bool, (∀ y ∈ us, SeqAt.EqAt A s y v' (e y)) ∧ us.any e = k := fun {ds vs us k} rs qs h => by
  classical
  -- e: what eqN says of some datum at that place
  let e : Value → Bool := fun u => decide (∃ d' w, Rep X.K nm F d' w ∧ RelV w u ∧ eqN 60 d' d = some true)
  have he : ∀ d' w u b, Rep X.K nm F d' w → RelV w u → eqN 60 d' d = some b → e u = b := fun d' w u b h1 h2 h3 => by
    cases b with
    | true => exact decide_eq_true ⟨d', w, h1, h2, h3⟩
    | false =>
      refine decide_eq_false fun ⟨d2, w2, k1, k2, k3⟩ => ?_
      have ew : w2 = w := k2.inj h2
      subst ew
      cases eqN_det 60 d2 d' d w2 true false k1 h1 k3 h3
  refine ⟨e, ?_, ?_⟩
  · intro y hy
    obtain ⟨j, hj, ej⟩ := List.mem_iff_getElem.mp hy
    have hv : ∃ w, vs[j]? = some w ∧ RelV w y := by
      have hl := qs.length
      have hjv : j < vs.length := by omega
      obtain ⟨u, h1, h2⟩ := qs.get (List.getElem?_eq_getElem hjv)
      rw [List.getElem?_eq_getElem hj] at h1
      cases h1
      rw [ej] at h2
      exact ⟨_, List.getElem?_eq_getElem hjv, h2⟩
    obtain ⟨w, h1, h2⟩ := hv
    obtain ⟨d', h3, h4⟩ := rs.get' h1
    obtain ⟨b, hb⟩ := eqAny_each h d' (List.mem_of_getElem? h3)
    rw [he d' w y b h4 h2 hb]
    exact eq_all I sb 60 A hu d' d w v y v' b h4 r h2 q hb
  · induction ds generalizing vs us k with
    | nil =>
      rw [show vs = [] from rs] at qs
      cases qs
      cases h
      rfl
    | cons d0 ds ih =>
      obtain ⟨w, ws, rfl, r1, r2⟩ := rs
      cases qs with
      | cons q1 q2 =>
        unfold eqAny at h
        cases e1 : eqN 60 d0 d with
        | none => rw [e1] at h; cases h
        | some a =>
          rw [e1] at h
          cases e2 : eqAny 60 d ds with
          | none => rw [e2] at h; cases h
          | some b =>
            rw [e2] at h
            cases h
            rw [List.any_cons, he d0 w _ a r1 q1 e1, ih r2 q2 e2]
end
/-! ### in -/
def keyD : D → Option Key
  | .int i => some (.inl i)
  | .str x => some (.inr x)
  | _ => none
def valD (kvs : List (Key × D)) (k : Key) : Option D := (kvs.find? fun kv => decide (kv.1 = k)).map (·.2)
theorem keyD_rep {K : PySem.W.Frag} {nm : Nat → Option Addr} {F : Hp} {d : D} {v : V} {k : Key} (r : Rep K nm F d v) (h : keyD d = some k) : v = kV k := by
  cases d <;> try cases h
  · exact r
  · exact r.1
theorem repsK_val {K : PySem.W.Frag} {nm : Nat → Option Addr} {F : Hp} (k : Key) : ∀ {kvs : List (Key × D)} {ws : List (Key × V)}, RepsK K nm F kvs ws → (valD kvs k = none ∧ valV ws k = none) ∨ ∃ d v, valD kvs k = some d ∧ valV ws k = some v ∧ Rep K nm F d v
  | [], ws, r => by rw [show ws = [] from r]; exact .inl ⟨rfl, rfl⟩
  | (j, d) :: kvs, ws, r => by
    obtain ⟨v, ws', rfl, _, r1, r2⟩ := r
    by_cases e : j = k
    · refine .inr ⟨d, v, ?_, ?_, r1⟩
      · unfold valD; rw [List.find?_cons_of_pos (by simp [e])]; rfl
      · exact valV_pos e
    · have h1 : valD ((j, d) :: kvs) k = valD kvs k := by unfold valD; rw [List.find?_cons_of_neg (by simp [e])]
      have h2 : valV ((j, v) :: ws') k = valV ws' k := valV_neg e
      rw [h1, h2]
      exact repsK_val k r2
def inD (neg : Bool) : D → D → Option D
  | .str x, .str y => some (.bl (if neg then !(!(Builtin.Str.occurrences y x 0 y.length 1).isEmpty) else !(Builtin.Str.occurrences y x 0 y.length 1).isEmpty))
  | d, .row ys => (eqAny 60 d ys).map fun b => .bl (if neg then !b else b)
  | d, .tup ys => (eqAny 60 d ys).map fun b => .bl (if neg then !b else b)
  | d, .kro ys => (eqAny 60 d ys).map fun b => .bl (if neg then !b else b)
  | d, .tab kvs => (keyD d).map fun k => .bl (if neg then !(valD kvs k).isSome else (valD kvs k).isSome)
  | _, _ => none
def rInS (K : PySem.W.Frag) (nm : Nat → Option Addr) (neg : Bool) : R2 := fun x y H Q => ∃ F d p ds vs k, Sub F H ∧ Rep K nm F d x ∧ y = .ref p ∧ (SqL K H p vs ∨ SqT K H p vs) ∧ Reps K nm F ds vs ∧ eqAny 60 d ds = some k ∧ Q (.bl (if neg then !k else k)) H
def rInK (neg : Bool) : R2 := fun x y H Q => ∃ a o, y = .ref a ∧ DGet H a x o ∧ Q (.bl (if neg then !o.isSome else o.isSome)) H
section
variable {X : Cx} {R : Reg} {nm : Nat → Option Addr}
theorem op_inS (hu : X.A.units + 64 < cLine) (neg : Bool) : OpR X (compareOp (if neg then .NotIn else .In)) (rInS X.K nm neg) := by
  intro pins s σ H x y v u Q I rx ry h
  obtain ⟨F, d, p, ds, vs, k, sb, rd, rfl, hs, rs, hk, q⟩ := h
  cases ry
  rcases hs with hs | hs
  · obtain ⟨its, rv, pl, _⟩ := I.list hs
    obtain ⟨e, he, ek⟩ := any_of I sb (A := X.A.in1) (by show X.A.units + 1 + 60 < cLine; omega) rd rx rs rv hk
    cases neg with
    | false => exact SeqAt.in_listAt e pl.isList (fun y hy => he y (by simpa using hy)) ⟨.bl k, H, I, by rw [List.any_toArray, ek]; rfl, q⟩
    | true => exact SeqAt.notIn_listAt e pl.isList (fun y hy => he y (by simpa using hy)) ⟨.bl (!k), H, I, by rw [List.any_toArray, ek]; rfl, q⟩
  · obtain ⟨its, rv, pl, _⟩ := I.tuple hs
    obtain ⟨e, he, ek⟩ := any_of I sb (A := X.A.in1) (by show X.A.units + 1 + 60 < cLine; omega) rd rx rs rv hk
    cases neg with
    | false => exact SeqAt.in_tupleAt e pl (fun y hy => he y (by simpa using hy)) ⟨.bl k, H, I, by rw [List.any_toArray, ek]; rfl, q⟩
    | true => exact SeqAt.notIn_tupleAt e pl (fun y hy => he y (by simpa using hy)) ⟨.bl (!k), H, I, by rw [List.any_toArray, ek]; rfl, q⟩
theorem op_inK (hu : X.A.units + 1 < cLine) (neg : Bool) : OpR X (compareOp (if neg then .NotIn else .In)) (rInK neg) := by
  intro pins s σ H x y v u Q I rx ry h
  obtain ⟨a, o, rfl, g, q⟩ := h
  cases ry
  cases neg with
  | false => exact d_in hu I g rx fun s' I' => ⟨.bl _, H, I', rfl, q⟩
  | true => exact d_notIn hu I g rx fun s' I' => ⟨.bl _, H, I', rfl, q⟩
def rInT (neg : Bool) : R2 := fun x y H Q => ∃ i j, x = .str i ∧ y = .str j ∧ Q (.bl (if neg then !(!(Builtin.Str.occurrences j i 0 j.length 1).isEmpty) else !(Builtin.Str.occurrences j i 0 j.length 1).isEmpty)) H
theorem op_inT (neg : Bool) : OpR X (compareOp (if neg then .NotIn else .In)) (rInT neg) := by
  cases neg with
  | false => exact op_in_str
  | true => exact op_notin_str
theorem sat_in (neg : Bool) : OpSat R (fun x y H Q => rInT neg x y H Q ∨ rInS R.K R.nm neg x y H Q ∨ rInK neg x y H Q) (inD neg) := fun x y d e d' F H s Q w rx ry h k => by
  unfold inD at h
  split at h
  · cases h
    exact .inl ⟨_, _, rx.1, ry.1, k _ F H w Stp.refl rfl⟩
  · rename_i ys
    cases e1 : eqAny 60 d ys with
    | none => rw [e1] at h; cases h
    | some b =>
      rw [e1] at h
      cases h
      obtain ⟨a, vs, rfl, h1, _, h2⟩ := ry
      exact .inr (.inl ⟨F, d, a, ys, vs, b, w.sub, rx, rfl, .inl (SqL.of (w.sub.lst h1)), h2, e1, k _ F H w Stp.refl rfl⟩)
  · rename_i ys
    cases e1 : eqAny 60 d ys with
    | none => rw [e1] at h; cases h
    | some b =>
      rw [e1] at h
      cases h
      obtain ⟨a, vs, rfl, h1, _, h2⟩ := ry
      exact .inr (.inl ⟨F, d, a, ys, vs, b, w.sub, rx, rfl, .inr (SqT.of (w.sub.tup h1)), h2, e1, k _ F H w Stp.refl rfl⟩)
  · rename_i ys
    cases e1 : eqAny 60 d ys with
    | none => rw [e1] at h; cases h
    | some b =>
      rw [e1] at h
      cases h
      obtain ⟨a, vs, rfl, h1, _, h2⟩ := ry
      exact .inr (.inl ⟨F, d, a, ys, vs, b, w.sub, rx, rfl, .inl (w.sub.sqL h1), h2, e1, k _ F H w Stp.refl rfl⟩)
  · rename_i kvs
    cases e1 : keyD d with
    | none => rw [e1] at h; cases h
    | some key =>
      rw [e1] at h
      cases h
      obtain ⟨a, ws, rfl, h1, _, h2⟩ := ry
      refine .inr (.inr ⟨a, valV ws key, rfl, .inl ⟨ws, key, w.sub.dK h1, keyD_rep rx e1, rfl⟩, k _ F H w Stp.refl ?_⟩)
      show Rep R.K R.nm F (D.bl (if neg = true then !(valD kvs key).isSome else (valD kvs key).isSome)) (V.bl (if neg = true then !(valV ws key).isSome else (valV ws key).isSome))
      rcases repsK_val key h2 with ⟨z1, z2⟩ | ⟨d1, v1, z1, z2, _⟩ <;> rw [z1, z2] <;> rfl
  · cases h
theorem ck_in {W : WX} {n : Nat} (c : Cxt X R W n) : CmpOk X R .In (inD false) := ⟨_, by
  have h1 := op_inT (X := X) false
  have h2 := op_inS (X := X) (nm := R.nm) c.hr.units false
  have h3 := op_inK (X := X) (hu_of c.hr) false
  rw [← c.hK] at h2
  exact h1.or (h2.or h3), sat_in false⟩
theorem ck_notin {W : WX} {n : Nat} (c : Cxt X R W n) : CmpOk X R .NotIn (inD true) := ⟨_, by
  have h1 := op_inT (X := X) true
  have h2 := op_inS (X := X) (nm := R.nm) c.hr.units true
  have h3 := op_inK (X := X) (hu_of c.hr) true
  rw [← c.hK] at h2
  exact h1.or (h2.or h3), sat_in true⟩
/-! ### places -/
variable {W : WX} {O : List Nat} {a b e : Expr} {f g : Sl → M R.S D} {pos : Pos} {es : List Expr} {fs : Sl → M R.S (List D)}
def ixD : D → D → Option D
  | .row xs, .int i => atI xs i
  | .tup xs, .int i => atI xs i
  | .kro xs, .int i => atI xs i
  | .str z, .int i => (atI z.cps.toList i).map fun c => .str ⟨#[c]⟩
  | .tab kvs, k => (keyD k).bind fun k => valD kvs k
  | _, _ => none
theorem atI_rep {K : PySem.W.Frag} {nm : Nat → Option Addr} {F : Hp} {xs : List D} {vs : List V} {i : Int} {d : D} (r : Reps K nm F xs vs) (h : atI xs i = some d) : ∃ v, atI vs i = some v ∧ Rep K nm F d v := by
  unfold atI at h ⊢
  rw [r.length]
  cases e : ixN xs.length i with
  | none => rw [e] at h; cases h
  | some j =>
    rw [e] at h
    exact r.get h
def rIxA (K : PySem.W.Frag) : R2 := fun x y H Q => rIx K x y H Q
def tIxA (K : PySem.W.Frag) (ta tb : TE) : TE := fun σ H Q => tOp (rIx K) ta tb σ H Q ∨ tDGet ta tb σ H Q
theorem one_str_len (c : Nat) : (⟨#[c]⟩ : Str).length ≤ sizeLine := by show 1 ≤ sizeLine; rw [sizeLine_eq]; decide
theorem de_ix {n : Nat} (c : Cxt X R W n) (ha : PE X a (tD R W O f)) (hb : PE X b (tD R W O g)) (hs : PlainIx b := by exact fun _ _ => rfl) : PE X (.Subscript a b pos) (tD R W O (dOp ixD f g)) :=
  pe_imp (pe_or2 (pe_ix ix_seq ha hb hs) (pe_dget (hu_of c.hr) ha hb hs)) fun σ H Q h => by
    obtain ⟨F, ρ, s, w, pu, p⟩ := h
    have hb1 := p.bnd
    cases ef : f ρ s with
    | bot => rw [ef] at hb1; exact hb1.elim
    | exc x s1 => rw [ef] at hb1; exact .inl ⟨F, ρ, s, w, pu, by rw [ef]; exact hb1⟩
    | ok d s1 =>
      rw [ef] at hb1
      by_cases hd : ∃ kvs, d = .tab kvs
      · obtain ⟨kvs, rfl⟩ := hd
        refine .inr ⟨F, ρ, s, w, pu, ?_⟩
        rw [ef]
        intro F1 H1 w1 st1 v rv
        refine ⟨F1, ρ, s1, w1, pu.mono st1.fs, (hb1 F1 H1 w1 st1).bnd.imp (fun e s2 F2 H2 w2 st2 p2 u ru => ?_) fun _ _ _ _ _ _ z => z⟩
        obtain ⟨d', e', k⟩ := p2.lift
        have e' : ((keyD e).bind fun k => valD kvs k) = some d' := e'
        cases ek : keyD e with
        | none => rw [ek] at e'; cases e'
        | some key =>
          rw [ek] at e'
          obtain ⟨p, ws, rfl, h1, _, h2⟩ := rv.mono st2.fs
          rcases repsK_val key h2 with ⟨z1, z2⟩ | ⟨d1, v1, z1, z2, r1⟩
          · rw [show valD kvs key = some d' from e'] at z1; cases z1
          · rw [show valD kvs key = some d' from e'] at z1
            cases z1
            exact ⟨p, v1, rfl, .inl ⟨ws, key, w2.sub.dK h1, keyD_rep ru ek, z2.symm⟩, k F2 H2 w2 Stp.refl v1 r1⟩
      · refine .inl ⟨F, ρ, s, w, pu, ?_⟩
        rw [ef]
        intro F1 H1 w1 st1 v rv
        refine ⟨F1, ρ, s1, w1, pu.mono st1.fs, (hb1 F1 H1 w1 st1).bnd.imp (fun e s2 F2 H2 w2 st2 p2 u ru => ?_) fun _ _ _ _ _ _ z => z⟩
        obtain ⟨d', e', k⟩ := p2.lift
        have rv := rv.mono st2.fs
        unfold ixD at e'
        split at e'
        · obtain ⟨p, vs, rfl, h1, _, h2⟩ := rv
          obtain ⟨v', h3, h4⟩ := atI_rep h2 e'
          exact .inl ⟨p, vs, _, v', rfl, ru, SqL.of (w2.sub.lst h1), h3, k F2 H2 w2 Stp.refl v' h4⟩
        · obtain ⟨p, vs, rfl, h1, _, h2⟩ := rv
          obtain ⟨v', h3, h4⟩ := atI_rep h2 e'
          exact .inr (.inl ⟨p, vs, _, v', rfl, ru, SqT.of (w2.sub.tup h1), h3, k F2 H2 w2 Stp.refl v' h4⟩)
        · obtain ⟨p, vs, rfl, h1, _, h2⟩ := rv
          obtain ⟨v', h3, h4⟩ := atI_rep h2 e'
          rw [c.hK] at h1
          exact .inl ⟨p, vs, _, v', rfl, ru, w2.sub.sqL h1, h3, k F2 H2 w2 Stp.refl v' h4⟩
        · obtain ⟨ch, ec, ed⟩ := Option.map_eq_some_iff.mp e'
          cases ed
          exact .inr (.inr ⟨_, _, ch, rv.1, ru, rv.2, ec, k F2 H2 w2 Stp.refl _ ⟨rfl, one_str_len ch⟩⟩)
        · rename_i kvs _
          exact absurd ⟨kvs, rfl⟩ hd
        · cases e'
/-! ### slices -/
def cutL {α : Type} (xs : List α) (lo hi : Option Int) : List α := (xs.drop (HT.sIx xs.length 0 lo)).take (HT.sIx xs.length xs.length hi - HT.sIx xs.length 0 lo)
def slD : D → Option Int → Option Int → Option D
  | .row xs, lo, hi => some (.row (cutL xs lo hi))
  | .tup xs, lo, hi => some (.tup (cutL xs lo hi))
  | .str z, lo, hi => some (.str (cutS z lo hi))
  | _, _, _ => none
def pNone {S : Type} : Sl → M S (Option Int) := fun _ => ret none
def intD : D → Option (Option Int)
  | .int i => some (some i)
  | _ => none
def pSome {S : Type} (f : Sl → M S D) : Sl → M S (Option Int) := fun r => bnd (f r) fun x => lift (intD x)
def dSl {S : Type} (f : Sl → M S D) (lo hi : Sl → M S (Option Int)) : Sl → M S D := fun r => bnd (f r) fun x => bnd (lo r) fun l => bnd (hi r) fun h => lift (slD x l h)
def tDO (R : Reg) (W : WX) (O : List Nat) (f : Sl → M R.S (Option Int)) : TO := fun σ H Q => ∃ F r s, Wd R F H s ∧ Pu R O F σ r ∧ Post R F H (f r s) (fun o _ _ H' => Q o H') (fun x _ F' H' => ∀ cls dd, RepX R.K R.nm F' x cls dd → W cls dd σ H')
theorem po_imp {e : Option Expr} {t t' : TO} (h : PO X e t) (k : ∀ σ H Q, t' σ H Q → t σ H Q) : PO X e t' := ⟨fun pins s σ H Q I q => h.run pins s σ H Q I (k σ H Q q)⟩
theorem dp_none : PO X none (tDO R W O pNone) := po_imp po_none fun σ H Q h => by
  obtain ⟨F, ρ, s, w, pu, p⟩ := h
  exact p F H w Stp.refl
theorem dp_some (h : PE X e (tD R W O f)) : PO X (some e) (tDO R W O (pSome f)) := po_imp (po_some h) fun σ H Q h => by
  obtain ⟨F, ρ, s, w, pu, p⟩ := h
  refine ⟨F, ρ, s, w, pu, p.bnd.imp (fun d s1 F1 H1 w1 st1 p1 v rv => ?_) fun _ _ _ _ _ _ z => z⟩
  obtain ⟨i, e', k⟩ := p1.lift
  cases d <;> try cases e'
  exact ⟨_, rv, k F1 H1 w1 Stp.refl⟩
theorem cutL_le {α : Type} (xs : List α) (lo hi : Option Int) : (cutL xs lo hi).length ≤ xs.length := by
  unfold cutL
  rw [List.length_take, List.length_drop]
  omega
theorem reps_cut {K : PySem.W.Frag} {nm : Nat → Option Addr} {F : Hp} {xs : List D} {vs : List V} (r : Reps K nm F xs vs) (lo hi : Option Int) : Reps K nm F (cutL xs lo hi) (cutV vs lo hi) := by
  unfold cutL cutV
  rw [r.length]
  exact (r.drop _).take _
theorem cut_whole {α : Type} {xs : List α} {lo hi : Option Int} (h : HT.sIx xs.length 0 lo = 0 ∧ HT.sIx xs.length xs.length hi = xs.length) : cutL xs lo hi = xs := by
  unfold cutL
  rw [h.1, h.2, List.drop_zero, Nat.sub_zero, List.take_length]
theorem de_sl {lo hi : Option Expr} {fl fh : Sl → M R.S (Option Int)} {p2 : Pos} (he : PE X e (tD R W O f)) (hl : PO X lo (tDO R W O fl)) (hh : PO X hi (tDO R W O fh)) : PE X (.Subscript e (.Slice lo hi none p2) pos) (tD R W O (dSl f fl fh)) :=
  pe_imp (pe_slice (sl_list.or (sl_tupA.or sl_str)) he hl hh) fun σ H Q h => by
    obtain ⟨F, ρ, s, w, pu, p⟩ := h
    refine ⟨F, ρ, s, w, pu, p.bnd.imp (fun d s1 F1 H1 w1 st1 p1 v rv => ?_) fun _ _ _ _ _ _ z => z⟩
    refine ⟨F1, ρ, s1, w1, pu.mono st1.fs, p1.bnd.imp (fun l s2 F2 H2 w2 st2 p2 => ?_) fun _ _ _ _ _ _ z => z⟩
    refine ⟨F2, ρ, s2, w2, (pu.mono st1.fs).mono st2.fs, p2.bnd.imp (fun h s3 F3 H3 w3 st3 p3 => ?_) fun _ _ _ _ _ _ z => z⟩
    obtain ⟨d', e', k⟩ := p3.lift
    have rv := (rv.mono st2.fs).mono st3.fs
    cases d with
    | row xs =>
      cases e'
      obtain ⟨a, vs, rfl, h1, hz, h2⟩ := rv
      exact .inl ⟨a, vs, rfl, SqL.of (w3.sub.lst h1), fun q hq => new_row w3 (Nat.le_trans (cutL_le _ _ _) hz) (reps_cut h2 l h) hq fun v F' H' w' st' r' => k F' H' w' st' v r'⟩
    | tup xs =>
      cases e'
      have rv' := rv
      obtain ⟨a, vs, rfl, h1, hz, h2⟩ := rv
      refine .inr (.inl ⟨a, vs, rfl, SqT.of (w3.sub.tup h1), fun e => ?_, fun _ q hq => new_tup w3 (Nat.le_trans (cutL_le _ _ _) hz) (reps_cut h2 l h) hq fun v F' H' w' st' r' => k F' H' w' st' v r'⟩)
      rw [h2.length] at e
      refine k F3 H3 w3 Stp.refl _ ?_
      rw [cut_whole e]
      exact rv'
    | str z =>
      cases e'
      exact .inr (.inr ⟨z, rv.1, rv.2, k F3 H3 w3 Stp.refl _ ⟨rfl, Nat.le_trans (cutS_length z l h) rv.2⟩⟩)
    | _ => cases e'
/-- xs[::-1] -/
def revD : D → Option D
  | .row xs => some (.row xs.reverse)
  | _ => none
theorem de_rev {k : Nat} {p1 p2 p3 : Pos} (he : PE X e (tD R W O f)) : PE X (.Subscript e (.Slice none none (some (.UnaryOp .USub (.Constant (.int 1) k p1) p2)) p3) pos) (tD R W O (dUn revD f)) := pe_imp (pe_revL he) fun σ H Q h => by
  obtain ⟨F, ρ, s, w, pu, p⟩ := h
  refine ⟨F, ρ, s, w, pu, p.bnd.imp (fun d s1 F1 H1 w1 st1 p1 v rv => ?_) fun _ _ _ _ _ _ z => z⟩
  obtain ⟨d', e', k⟩ := p1.lift
  cases d <;> try cases e'
  obtain ⟨a, vs, rfl, h1, hz, h2⟩ := rv
  exact ⟨a, vs, rfl, SqL.of (w1.sub.lst h1), fun q hq => new_row w1 (by rw [List.length_reverse]; exact hz) h2.reverse hq fun v F' H' w' st' r' => k F' H' w' st' v r'⟩
/-! ### built-in functions -/
def lenD : List D → Option D
  | [.str x] => some (.int x.length)
  | [.row xs] => some (.int xs.length)
  | [.tup xs] => some (.int xs.length)
  | [.kro xs] => some (.int xs.length)
  | [.tab xs] => some (.int xs.length)
  | _ => none
theorem call_lenR : CallR X (.builtin "len") (fun xs H Q => ∃ a kvs, xs = [V.ref a] ∧ Rd H a (.dK kvs) ∧ Q (.int kvs.length) H) := by
  intro pins s σ H xs us Q I r h
  obtain ⟨a, kvs, rfl, ha, q⟩ := h
  obtain ⟨u, rfl, ru⟩ := vals1 r
  cases ru
  exact d_len I ha fun t s' I' => ⟨.int kvs.length, H, I', ⟨t, rfl⟩, q⟩
theorem sat_len : CallSat R (fun xs H Q => (∃ x n, xs = [x] ∧ LenV R.K x H n ∧ Q (.int n) H) ∨ ∃ a kvs, xs = [V.ref a] ∧ Rd H a (.dK kvs) ∧ Q (.int kvs.length) H) lenD := fun xs ds d' F H s Q w rs h k => by
  unfold lenD at h
  split at h
  · cases h
    obtain ⟨v, ws, rfl, ⟨rfl, hz⟩, e2⟩ := rs
    rw [show ws = [] from e2]
    exact .inl ⟨_, _, rfl, ⟨hz, rfl⟩, k _ F H w Stp.refl rfl⟩
  · cases h
    obtain ⟨v, ws, rfl, ⟨a, vs, rfl, h1, _, h2⟩, e2⟩ := rs
    rw [show ws = [] from e2]
    exact .inl ⟨_, _, rfl, .inl ⟨vs, SqL.of (w.sub.lst h1), rfl⟩, k _ F H w Stp.refl (by rw [h2.length]; rfl)⟩
  · cases h
    obtain ⟨v, ws, rfl, ⟨a, vs, rfl, h1, _, h2⟩, e2⟩ := rs
    rw [show ws = [] from e2]
    exact .inl ⟨_, _, rfl, .inr ⟨vs, SqT.of (w.sub.tup h1), rfl⟩, k _ F H w Stp.refl (by rw [h2.length]; rfl)⟩
  · cases h
    obtain ⟨v, ws, rfl, ⟨a, vs, rfl, h1, _, h2⟩, e2⟩ := rs
    rw [show ws = [] from e2]
    exact .inl ⟨_, _, rfl, .inl ⟨vs, w.sub.sqL h1, rfl⟩, k _ F H w Stp.refl (by rw [h2.length]; rfl)⟩
  · cases h
    obtain ⟨v, ws, rfl, ⟨a, vs, rfl, h1, _, h2⟩, e2⟩ := rs
    rw [show ws = [] from e2]
    exact .inr ⟨_, _, rfl, w.sub.dK h1, k _ F H w Stp.refl (by rw [h2.length]; rfl)⟩
  · cases h
theorem de_len {p : Pos} (hK : R.K = X.K) (hg : Gl X "len") (hm : X.mg "len" = none) (ha : PA X [e] (tDA R W O fs)) (he : starEach [e] X.env = (false, eval e X.env) :: starEach [] X.env := by rfl) (hpl : (backTo pos (starEach [] X.env)).any (·.1) = false := by rfl) :
    PE X (.Call (.Name "len" p) [e] [] pos) (tD R W O (dAll lenD fs)) := de_callB (call_len.or call_lenR) (by rw [← hK]; exact sat_len) hg hm PySem.boot_len ha (he := he) (hpl := hpl)
def ordD : List D → Option D
  | [.str x] => if x.length = 1 then some (.int ((x.cps.getD 0 0 : Nat) : Int)) else none
  | _ => none
theorem sat_ord : CallSat R (fun xs H Q => ∃ x, xs = [.str x] ∧ x.length = 1 ∧ Q (.int (x.cps.getD 0 0 : Nat)) H) ordD := fun xs ds d' F H s Q w rs h k => by
  unfold ordD at h
  split at h
  · split at h
    · rename_i hl
      cases h
      obtain ⟨v, ws, rfl, ⟨rfl, hz⟩, e2⟩ := rs
      rw [show ws = [] from e2]
      exact ⟨_, rfl, hl, k _ F H w Stp.refl rfl⟩
    · cases h
  · cases h
theorem de_ord {p : Pos} (hg : Gl X "ord") (hm : X.mg "ord" = none) (ha : PA X [e] (tDA R W O fs)) (he : starEach [e] X.env = (false, eval e X.env) :: starEach [] X.env := by rfl) (hpl : (backTo pos (starEach [] X.env)).any (·.1) = false := by rfl) :
    PE X (.Call (.Name "ord" p) [e] [] pos) (tD R W O (dAll ordD fs)) := de_callB call_ord sat_ord hg hm (by decide +kernel) ha (he := he) (hpl := hpl)
def absD : List D → Option D
  | [.int i] => some (.int (if i < 0 then -i else i))
  | _ => none
theorem sat_abs : CallSat R (fun xs H Q => ∃ i, xs = [.int i] ∧ Q (.int (if i < 0 then -i else i)) H) absD := fun xs ds d' F H s Q w rs h k => by
  unfold absD at h
  split at h
  · cases h
    obtain ⟨v, ws, rfl, rv, e2⟩ := rs
    rw [show ws = [] from e2]
    exact ⟨_, by rw [show v = V.int _ from rv], k _ F H w Stp.refl rfl⟩
  · cases h
theorem de_abs {p : Pos} (hg : Gl X "abs") (hm : X.mg "abs" = none) (ha : PA X [e] (tDA R W O fs)) (he : starEach [e] X.env = (false, eval e X.env) :: starEach [] X.env := by rfl) (hpl : (backTo pos (starEach [] X.env)).any (·.1) = false := by rfl) :
    PE X (.Call (.Name "abs" p) [e] [] pos) (tD R W O (dAll absD fs)) := de_callB call_abs sat_abs hg hm (by decide +kernel) ha (he := he) (hpl := hpl)
/-- a row of truths, of numbers, of texts -/
def blsD : List D → Option (List Bool)
  | [] => some []
  | .bl b :: ds => (blsD ds).map fun bs => b :: bs
  | _ => none
def intsD : List D → Option (List Int)
  | [] => some []
  | .int b :: ds => (intsD ds).map fun bs => b :: bs
  | _ => none
def strsD : List D → Option (List Str)
  | [] => some []
  | .str b :: ds => (strsD ds).map fun bs => b :: bs
  | _ => none
theorem blsD_some : ∀ {ds : List D} {bs : List Bool}, blsD ds = some bs → ds = bs.map D.bl
  | [], bs, h => by cases h; rfl
  | d :: ds, bs, h => by
    cases d <;> try cases h
    rename_i b
    have h : (blsD ds).map (fun bs => b :: bs) = some bs := h
    cases e : blsD ds with
    | none => rw [e] at h; cases h
    | some cs => rw [e] at h; cases h; rw [blsD_some e]; rfl
theorem intsD_some : ∀ {ds : List D} {bs : List Int}, intsD ds = some bs → ds = bs.map D.int
  | [], bs, h => by cases h; rfl
  | d :: ds, bs, h => by
    cases d <;> try cases h
    rename_i b
    have h : (intsD ds).map (fun bs => b :: bs) = some bs := h
    cases e : intsD ds with
    | none => rw [e] at h; cases h
    | some cs => rw [e] at h; cases h; rw [intsD_some e]; rfl
theorem strsD_some : ∀ {ds : List D} {bs : List Str}, strsD ds = some bs → ds = bs.map D.str
  | [], bs, h => by cases h; rfl
  | d :: ds, bs, h => by
    cases d <;> try cases h
    rename_i b
    have h : (strsD ds).map (fun bs => b :: bs) = some bs := h
    cases e : strsD ds with
    | none => rw [e] at h; cases h
    | some cs => rw [e] at h; cases h; rw [strsD_some e]; rfl
theorem blsD_map (bs : List Bool) : blsD (bs.map D.bl) = some bs := by
  induction bs with
  | nil => rfl
  | cons b bs ih => rw [List.map_cons]; unfold blsD; rw [ih]; rfl
theorem intsD_map (bs : List Int) : intsD (bs.map D.int) = some bs := by
  induction bs with
  | nil => rfl
  | cons b bs ih => rw [List.map_cons]; unfold intsD; rw [ih]; rfl
theorem strsD_map (bs : List Str) : strsD (bs.map D.str) = some bs := by
  induction bs with
  | nil => rfl
  | cons b bs ih => rw [List.map_cons]; unfold strsD; rw [ih]; rfl
theorem reps_bl {K : PySem.W.Frag} {nm : Nat → Option Addr} {F : Hp} : ∀ {bs : List Bool} {vs : List V}, Reps K nm F (bs.map D.bl) vs → vs = bs.map V.bl
  | [], vs, r => r
  | b :: bs, vs, r => by
    obtain ⟨v, ws, rfl, r1, r2⟩ := r
    rw [show v = V.bl b from r1, reps_bl r2]
    rfl
theorem reps_int {K : PySem.W.Frag} {nm : Nat → Option Addr} {F : Hp} : ∀ {bs : List Int} {vs : List V}, Reps K nm F (bs.map D.int) vs → vs = bs.map V.int
  | [], vs, r => r
  | b :: bs, vs, r => by
    obtain ⟨v, ws, rfl, r1, r2⟩ := r
    rw [show v = V.int b from r1, reps_int r2]
    rfl
theorem reps_str {K : PySem.W.Frag} {nm : Nat → Option Addr} {F : Hp} : ∀ {bs : List Str} {vs : List V}, Reps K nm F (bs.map D.str) vs → vs = bs.map V.str ∧ ∀ b ∈ bs, b.length ≤ sizeLine
  | [], vs, r => ⟨r, fun _ h => by cases h⟩
  | b :: bs, vs, r => by
    obtain ⟨v, ws, rfl, r1, r2⟩ := r
    obtain ⟨h1, h2⟩ := reps_str r2
    refine ⟨by rw [r1.1, h1]; rfl, fun c hc => ?_⟩
    rcases List.mem_cons.mp hc with rfl | hc
    · exact r1.2
    · exact h2 c hc
def allD : List D → Option D
  | [.row ds] => (blsD ds).map fun bs => .bl (bs.all id)
  | _ => none
def anyD : List D → Option D
  | [.row ds] => (blsD ds).map fun bs => .bl (bs.any id)
  | _ => none
def sumD : List D → Option D
  | [.row ds] => (intsD ds).map fun bs => .int bs.sum
  | _ => none
theorem sat_all : CallSat R (rAll R.K) allD := fun xs ds d' F H s Q w rs h k => by
  unfold allD at h
  split at h
  · rename_i ds
    cases e : blsD ds with
    | none => rw [e] at h; cases h
    | some bs =>
      rw [e] at h
      cases h
      rw [blsD_some e] at rs
      obtain ⟨v, ws, rfl, ⟨a, vs, rfl, h1, _, h2⟩, e2⟩ := rs
      rw [show ws = [] from e2]
      exact ⟨a, bs, rfl, by rw [← reps_bl h2]; exact SqL.of (w.sub.lst h1), k _ F H w Stp.refl rfl⟩
  · cases h
theorem sat_any : CallSat R (rAny R.K) anyD := fun xs ds d' F H s Q w rs h k => by
  unfold anyD at h
  split at h
  · rename_i ds
    cases e : blsD ds with
    | none => rw [e] at h; cases h
    | some bs =>
      rw [e] at h
      cases h
      rw [blsD_some e] at rs
      obtain ⟨v, ws, rfl, ⟨a, vs, rfl, h1, _, h2⟩, e2⟩ := rs
      rw [show ws = [] from e2]
      exact ⟨a, bs, rfl, by rw [← reps_bl h2]; exact SqL.of (w.sub.lst h1), k _ F H w Stp.refl rfl⟩
  · cases h
theorem sat_sum : CallSat R (rSum R.K) sumD := fun xs ds d' F H s Q w rs h k => by
  unfold sumD at h
  split at h
  · rename_i ds
    cases e : intsD ds with
    | none => rw [e] at h; cases h
    | some bs =>
      rw [e] at h
      cases h
      rw [intsD_some e] at rs
      obtain ⟨v, ws, rfl, ⟨a, vs, rfl, h1, _, h2⟩, e2⟩ := rs
      rw [show ws = [] from e2]
      exact ⟨a, bs, rfl, by rw [← reps_int h2]; exact SqL.of (w.sub.lst h1), k _ F H w Stp.refl rfl⟩
  · cases h
theorem de_all {n : Nat} {p : Pos} (c : Cxt X R W n) (hg : Gl X "all") (hm : X.mg "all" = none) (ha : PA X [e] (tDA R W O fs)) (he : starEach [e] X.env = (false, eval e X.env) :: starEach [] X.env := by rfl) (hpl : (backTo pos (starEach [] X.env)).any (·.1) = false := by rfl) :
    PE X (.Call (.Name "all" p) [e] [] pos) (tD R W O (dAll allD fs)) := de_callB (cr_all c.calm) (by rw [← c.hK]; exact sat_all) hg hm (by decide +kernel) ha (he := he) (hpl := hpl)
theorem de_any {n : Nat} {p : Pos} (c : Cxt X R W n) (hg : Gl X "any") (hm : X.mg "any" = none) (ha : PA X [e] (tDA R W O fs)) (he : starEach [e] X.env = (false, eval e X.env) :: starEach [] X.env := by rfl) (hpl : (backTo pos (starEach [] X.env)).any (·.1) = false := by rfl) :
    PE X (.Call (.Name "any" p) [e] [] pos) (tD R W O (dAll anyD fs)) := de_callB (cr_any c.calm) (by rw [← c.hK]; exact sat_any) hg hm (by decide +kernel) ha (he := he) (hpl := hpl)
theorem de_sum {n : Nat} {p : Pos} (c : Cxt X R W n) (hg : Gl X "sum") (hm : X.mg "sum" = none) (ha : PA X [e] (tDA R W O fs)) (he : starEach [e] X.env = (false, eval e X.env) :: starEach [] X.env := by rfl) (hpl : (backTo pos (starEach [] X.env)).any (·.1) = false := by rfl) :
    PE X (.Call (.Name "sum" p) [e] [] pos) (tD R W O (dAll sumD fs)) := de_callB (cr_sum c.calm) (by rw [← c.hK]; exact sat_sum) hg hm (by decide +kernel) ha (he := he) (hpl := hpl)
end
end Nw
set_option Elab.async false
set_option linter.all false
set_option maxRecDepth 100000
set_option maxHeartbeats 4000000
/-! Part Q: isinstance, built-in types as calls, methods. -/
namespace Nw
open PySem PySem.Spec L2
/-! ### isinstance -/
def tyN : D → Option String
  | .non => some "NoneType"
  | .bl _ => some "bool"
  | .int _ => some "int"
  | .str _ => some "str"
  | .row _ => some "list"
  | .tup _ => some "tuple"
  | .tab _ => some "dict"
  | _ => none
def isiD (T : String) (d : D) : Option D := (tyN d).bind fun t => (kitB t T).map D.bl
section
variable {X : Cx} {R : Reg} {W : WX} {O : List Nat} {a e : Expr} {es : List Expr} {f : Sl → M R.S D} {fs : Sl → M R.S (List D)} {pos : Pos}
theorem tyX_of {K : PySem.W.Frag} {nm : Nat → Option Addr} {F H : Hp} {d : D} {v : V} {t : String} (sb : Sub F H) (r : Rep K nm F d v) (e : tyN d = some t) : TyX K H v (.type t) := by
  cases d with
  | non => cases e; rw [show v = V.non from r]; exact .base .non
  | bl c => cases e; rw [show v = V.bl c from r]; exact .base (.bl c)
  | int i => cases e; rw [show v = V.int i from r]; exact .base (.int i)
  | str x => cases e; rw [r.1]; exact .base (.str x)
  | row xs => cases e; obtain ⟨a, vs, rfl, h1, _, _⟩ := r; exact .base (.lst (sb.lst h1))
  | tup xs => cases e; obtain ⟨a, vs, rfl, h1, _, _⟩ := r; exact .base (.tup (sb.tup h1))
  | tab xs =>
    cases e
    obtain ⟨a, vs, rfl, h1, _, _⟩ := r
    rcases sb.dK h1 with h | ⟨o, h⟩
    · exact .base (.dK h)
    · exact .fDict h
  | kro _ => cases e
  | exc _ _ => cases e
  | obj _ => cases e
/-- two arguments, the second a class -/
theorem pa_cls {c : Expr} {vc : V} (ha : PE X a (tD R W O f)) (hc : PE X c (tC vc)) (h1 : starEach [a, c] X.env = (false, eval a X.env) :: starEach [c] X.env := by rfl) (h2 : starEach [c] X.env = (false, eval c X.env) :: starEach [] X.env := by rfl) :
    PA X [a, c] (fun σ H Q => tD R W O f σ H fun v H1 => Q [v, vc] H1) := pa_imp (pa_cons ha (pa_cons hc pa_nil h2) h1) fun σ H Q h => h
theorem sat_isa {r : List V → Hp → VK → Prop} {vc : V} {op : D → Option D} (hs : ∀ (v : V) (d d' : D) (F H : Hp) (s : R.S) (Q : VK), Wd R F H s → Rep R.K R.nm F d v → op d = some d' → (∀ v F' H', Wd R F' H' s → Stp R F H F' H' → Rep R.K R.nm F' d' v → Q v H') → r [v, vc] H Q)
    (σ : L2.St) (H : Hp) (Q : VK) (h : tD R W O (dUn op f) σ H Q) : tCB r (fun σ H Q => tD R W O f σ H fun v H1 => Q [v, vc] H1) σ H Q := by
  obtain ⟨F, ρ, s, w, pu, p⟩ := h
  refine ⟨F, ρ, s, w, pu, p.bnd.imp (fun d s1 F1 H1 w1 st1 p1 v rv => ?_) fun _ _ _ _ _ _ z => z⟩
  obtain ⟨d', e', k⟩ := p1.lift
  exact hs v d d' F1 H1 s1 Q w1 rv e' fun v' F' H' w' st' r' => k F' H' w' st' v' r'
theorem de_isi {n : Nat} (T : String) {x : Str} {p q : Pos} (c : Cxt X R W n) (hg : Gl X "isinstance") (hm : X.mg "isinstance" = none) (hgT : Gl X x) (hmT : X.mg x = none) (hvT : bootBuiltins x = some (.type T)) (ha : PE X a (tD R W O f)) (hn : x ≠ "__name__" := by decide) (hd : (x == ("__debug__" : Str)) = false := by decide)
    (h1 : starEach [a, .Name x q] X.env = (false, eval a X.env) :: starEach [.Name x q] X.env := by rfl) (h2 : starEach [.Name x q] X.env = (false, eval (.Name x q) X.env) :: starEach [] X.env := by rfl) (hpl : (backTo pos (starEach [.Name x q] X.env)).any (·.1) = false := by rfl) :
    PE X (.Call (.Name "isinstance" p) [a, .Name x q] [] pos) (tD R W O (dUn (isiD T) f)) :=
  pe_imp (pe_callB call_isi hg hm (by decide +kernel) (pa_cls ha (pe_bltn (v := .ty T) hgT hmT hvT rfl hn hd) h1 h2) (by decide) (by decide) h1 hpl) (sat_isa fun v d d' F H s Q w rv e k => by
    unfold isiD at e
    cases et : tyN d with
    | none => rw [et] at e; cases e
    | some t =>
      rw [et] at e
      have e : (kitB t T).map D.bl = some d' := e
      cases ek : kitB t T with
      | none => rw [ek] at e; cases e
      | some b =>
        rw [ek] at e
        cases e
        exact ⟨v, .ty T, .type t, .type T, b, rfl, .ty T, by rw [← c.hK]; exact tyX_of w.sub rv et, kit_ty ek, k _ F H w Stp.refl rfl⟩)
/-! ### isinstance of an error -/
/-- c is of c' -/
def subC (c c' : Cl) : Bool := c == c' || c' == .NestError
abbrev eA (K : PySem.W.Frag) (c : Cl) : Addr := He.ga K c.name
/-- what the classes say -/
structure XC (K : PySem.W.Frag) (c : Cl) : Prop where
  cl : (PySem.W.clsIn K (eA K c)).isSome = true
  ga : PySem.W.findIn K (.ref (eA K c)) "__getattribute__" = some (some (.builtin "BaseException.__getattribute__"))
  gt : PySem.W.findIn K (.ref (eA K c)) "__getattr__" = some none
  sub : PySem.W.subIn K (.ref (eA K c)) (.type "BaseException") = some true
  ca : PySem.W.findIn K (.ref (eA K c)) "__class__" = some (some (.builtin "object.__class__"))
  sp : PySem.W.specialIn K (.builtin "object.__class__") "__get__" = some (some (.builtin "getset_descriptor.__get__"))
  tk : PySem.W.takesIn K (.builtin "object.__class__") = some true
  mr : PySem.W.mroIn K (eA K c) (.type "object") = some true
  ve : PySem.W.kitOne K (.ref (eA K c)) (.type "ValueError") = some true
  dc : PySem.W.hasDictIn K (eA K c) = true
  ty : PySem.W.typeIn K (.ref (eA K c)) = some (.type "type")
def xcB (K : PySem.W.Frag) (c : Cl) : Bool :=
  (PySem.W.clsIn K (eA K c)).isSome && He.eqO (PySem.W.findIn K (.ref (eA K c)) "__getattribute__") (some (some (.builtin "BaseException.__getattribute__"))) && He.eqO (PySem.W.findIn K (.ref (eA K c)) "__getattr__") (some none)
  && decide (PySem.W.subIn K (.ref (eA K c)) (.type "BaseException") = some true) && He.eqO (PySem.W.findIn K (.ref (eA K c)) "__class__") (some (some (.builtin "object.__class__")))
  && He.eqO (PySem.W.specialIn K (.builtin "object.__class__") "__get__") (some (some (.builtin "getset_descriptor.__get__"))) && decide (PySem.W.takesIn K (.builtin "object.__class__") = some true)
  && decide (PySem.W.mroIn K (eA K c) (.type "object") = some true) && decide (PySem.W.kitOne K (.ref (eA K c)) (.type "ValueError") = some true) && PySem.W.hasDictIn K (eA K c) && decide (PySem.W.typeIn K (.ref (eA K c)) = some (.type "type"))
def xfB (K : PySem.W.Frag) (cs : List Cl) : Bool := cs.all fun c => xcB K c && cs.all fun c' => decide (PySem.W.kitOne K (.ref (eA K c)) (.ref (eA K c')) = some (subC c c')) && decide (PySem.W.exmOne K (.ref (eA K c)) (.ref (eA K c')) = some (subC c c'))
structure XF (K : PySem.W.Frag) (cs : List Cl) : Prop where
  xc : ∀ c ∈ cs, XC K c
  kit : ∀ c ∈ cs, ∀ c' ∈ cs, PySem.W.kitOne K (.ref (eA K c)) (.ref (eA K c')) = some (subC c c')
  exm : ∀ c ∈ cs, ∀ c' ∈ cs, PySem.W.exmOne K (.ref (eA K c)) (.ref (eA K c')) = some (subC c c')
theorem xf_of {K : PySem.W.Frag} {cs : List Cl} (h : xfB K cs = true) : XF K cs := by
  have h1 := List.all_eq_true.mp h
  have h2 : ∀ c ∈ cs, ∀ c' ∈ cs, PySem.W.kitOne K (.ref (eA K c)) (.ref (eA K c')) = some (subC c c') ∧ PySem.W.exmOne K (.ref (eA K c)) (.ref (eA K c')) = some (subC c c') := fun c hc c' hc' => by
    obtain ⟨_, h4⟩ := Bool.and_eq_true_iff.mp (h1 c hc)
    obtain ⟨h5, h6⟩ := Bool.and_eq_true_iff.mp (List.all_eq_true.mp h4 c' hc')
    exact ⟨of_decide_eq_true h5, of_decide_eq_true h6⟩
  refine ⟨fun c hc => ?_, fun c hc c' hc' => (h2 c hc c' hc').1, fun c hc c' hc' => (h2 c hc c' hc').2⟩
  obtain ⟨h3, _⟩ := Bool.and_eq_true_iff.mp (h1 c hc)
  unfold xcB at h3
  obtain ⟨h3, a11⟩ := Bool.and_eq_true_iff.mp h3
  obtain ⟨h3, a10⟩ := Bool.and_eq_true_iff.mp h3
  obtain ⟨h3, a9⟩ := Bool.and_eq_true_iff.mp h3
  obtain ⟨h3, a8⟩ := Bool.and_eq_true_iff.mp h3
  obtain ⟨h3, a7⟩ := Bool.and_eq_true_iff.mp h3
  obtain ⟨h3, a6⟩ := Bool.and_eq_true_iff.mp h3
  obtain ⟨h3, a5⟩ := Bool.and_eq_true_iff.mp h3
  obtain ⟨h3, a4⟩ := Bool.and_eq_true_iff.mp h3
  obtain ⟨h3, a3⟩ := Bool.and_eq_true_iff.mp h3
  obtain ⟨a1, a2⟩ := Bool.and_eq_true_iff.mp h3
  exact ⟨a1, He.eqO_ok a2, He.eqO_ok a3, of_decide_eq_true a4, He.eqO_ok a5, He.eqO_ok a6, of_decide_eq_true a7, of_decide_eq_true a8, of_decide_eq_true a9, a10, of_decide_eq_true a11⟩
/-- isinstance(e, c), e an error that is held -/
def rIsX (K : PySem.W.Frag) : List V → Hp → VK → Prop := fun xs H Q => ∃ (c : Cl) (a : Addr) (dd : Option Addr) (t : V) (tv : Value) (b : Bool), xs = [.ref a, t] ∧ XC K c ∧ H a = some (ExH (.ref (eA K c)) dd a) ∧ (∀ d, dd = some d → ∃ ws, H d = some (.xd ws)) ∧ ClsV t tv ∧ PySem.W.kitOne K (.ref (eA K c)) tv = some b ∧ Q (.bl b) H
theorem call_isX : CallR X (.builtin "isinstance") (rIsX X.K) := by
  intro pins s σ H xs us Q I r h
  obtain ⟨c, a, dd, t, tv, b, rfl, xc, ha, hd, ct, hk, q⟩ := h
  obtain ⟨u1, u2, rfl, r1, r2⟩ := vals2 r
  have e2 := ct.eq r2
  subst e2
  cases (show u1 = Value.ref a from r1)
  obtain ⟨⟨oe, hg, hz, vs, hv⟩, _, _⟩ := (show ObjOk X.prog X.w H s.heap a (ExH (.ref (eA X.K c)) dd a) from I.hok a _ ha)
  have J : ∃ od, PySem.W.InstAt s.heap a oe (eA X.K c) od := by
    obtain ⟨oc, od, oda, osl⟩ := oe
    obtain ⟨h1, h2⟩ := hz
    dsimp only at h1 h2 hv
    subst h1 h2 hv
    cases od with
    | none => exact ⟨none, hg, rfl, rfl, trivial⟩
    | some d =>
      obtain ⟨ws, hw⟩ := hd d rfl
      obtain ⟨mA, ⟨od, _, _, e, _⟩, _⟩ := (show ObjOk X.prog X.w H s.heap d (.xd ws) from I.hok d _ hw)
      exact ⟨some od, hg, rfl, rfl, e⟩
  obtain ⟨od, J⟩ := J
  exact PySem.W.kia_one (PySem.W.kitx_exc xc.cl xc.ga xc.gt xc.sub xc.ca xc.sp xc.tk xc.mr) I.kIn J hk (fun z => nomatch z) fun tk => ⟨.bl b, H, I.tok tk, rfl, q⟩
def isxD (cs : List Cl) (c' : Cl) : D → Option D
  | .exc c _ => if c ∈ cs then some (.bl (subC c c')) else none
  | _ => none
def isvD (cs : List Cl) : D → Option D
  | .exc c _ => if c ∈ cs then some (.bl true) else none
  | _ => none
theorem Sub.exc {F H : Hp} (h : Sub F H) {a : Addr} {φ : Heap → Prop} (e : F a = some (.ext φ)) : H a = some (.ext φ) := by
  rcases h a _ e with z | ⟨_, _, z, _⟩
  · exact z
  · cases z
theorem Sub.xd {F H : Hp} (h : Sub F H) {a : Addr} {ws : List (Str × V)} (e : F a = some (.xd ws)) : H a = some (.xd ws) := by
  rcases h a _ e with z | ⟨_, _, z, _⟩
  · exact z
  · cases z
theorem sat_isx {cs : List Cl} (xf : XF R.K cs) (t : V) (tv : Value) (ct : ClsV t tv) (g : Cl → Bool) (hk : ∀ c ∈ cs, PySem.W.kitOne R.K (.ref (eA R.K c)) tv = some (g c)) (v : V) (d d' : D) (F H : Hp) (s : R.S) (Q : VK) (w : Wd R F H s) (rv : Rep R.K R.nm F d v)
    (e : (match d with | .exc c _ => if c ∈ cs then some (D.bl (g c)) else none | _ => none) = some d') (k : ∀ v F' H', Wd R F' H' s → Stp R F H F' H' → Rep R.K R.nm F' d' v → Q v H') : rIsX R.K [v, t] H Q := by
  cases d with
  | exc c fs =>
    have e : (if c ∈ cs then some (D.bl (g c)) else none) = some d' := e
    by_cases hc : c ∈ cs
    · rw [if_pos hc] at e
      cases e
      obtain ⟨a, dd, rfl, h1, h2⟩ := rv
      refine ⟨c, a, dd, t, tv, g c, rfl, xf.xc c hc, w.sub.exc h1, fun d hd => ?_, ct, hk c hc, k _ F H w Stp.refl rfl⟩
      rcases h2 with ⟨_, h2⟩ | ⟨d2, ws, h2, h3, _⟩
      · rw [h2] at hd; cases hd
      · rw [h2] at hd; cases hd; exact ⟨ws, w.sub.xd h3⟩
    · rw [if_neg hc] at e; cases e
  | _ => cases e
theorem de_isx {n : Nat} {cs : List Cl} (c' : Cl) {p q : Pos} {x : Str} (c : Cxt X R W n) (xf : XF X.K cs) (hc' : c' ∈ cs) (hx : c'.name = x) (hg : Gl X "isinstance") (hm : X.mg "isinstance" = none) (hgT : Gl X x) (hmT : X.mg x = some (.ref (He.ga X.K x))) (ha : PE X a (tD R W O f)) (hd : (x == ("__debug__" : Str)) = false := by decide)
    (h1 : starEach [a, .Name x q] X.env = (false, eval a X.env) :: starEach [.Name x q] X.env := by rfl) (h2 : starEach [.Name x q] X.env = (false, eval (.Name x q) X.env) :: starEach [] X.env := by rfl) (hpl : (backTo pos (starEach [.Name x q] X.env)).any (·.1) = false := by rfl) :
    PE X (.Call (.Name "isinstance" p) [a, .Name x q] [] pos) (tD R W O (dUn (isxD cs c') f)) := by
  subst hx
  have hK := c.hK
  exact pe_imp (pe_callB call_isX hg hm (by decide +kernel) (pa_cls ha (pe_glob (v := .ref (He.ga X.K c'.name)) hgT hmT rfl hd) h1 h2) (by decide) (by decide) h1 hpl) (sat_isa fun v d d' F H s Q w rv e k => by
    rw [← hK] at xf ⊢
    exact sat_isx xf _ _ (.own _) (fun c => subC c c') (fun c hc => xf.kit c hc c' hc') v d d' F H s Q w rv (by cases d <;> exact e) k)
theorem de_isv {n : Nat} {cs : List Cl} {p q : Pos} (c : Cxt X R W n) (xf : XF X.K cs) (hg : Gl X "isinstance") (hm : X.mg "isinstance" = none) (hgT : Gl X "ValueError") (hmT : X.mg "ValueError" = none) (ha : PE X a (tD R W O f))
    (h1 : starEach [a, .Name "ValueError" q] X.env = (false, eval a X.env) :: starEach [.Name "ValueError" q] X.env := by rfl) (h2 : starEach [.Name "ValueError" q] X.env = (false, eval (.Name "ValueError" q) X.env) :: starEach [] X.env := by rfl) (hpl : (backTo pos (starEach [.Name "ValueError" q] X.env)).any (·.1) = false := by rfl) :
    PE X (.Call (.Name "isinstance" p) [a, .Name "ValueError" q] [] pos) (tD R W O (dUn (isvD cs) f)) := by
  have hK := c.hK
  exact pe_imp (pe_callB call_isX hg hm (by decide +kernel) (pa_cls ha (pe_bltn (v := .ty "ValueError") hgT hmT (by decide +kernel) rfl (by decide) (by decide)) h1 h2) (by decide) (by decide) h1 hpl) (sat_isa fun v d d' F H s Q w rv e k => by
    rw [← hK] at xf ⊢
    exact sat_isx xf _ _ (.ty _) (fun c => true) (fun c hc => (xf.xc c hc).ve) v d d' F H s Q w rv (by cases d <;> exact e) k)
/-! ### list(x), tuple(x), int(x), str(x) -/
def listD : List D → Option D
  | [.row ds] => some (.row ds)
  | [.tup ds] => some (.row ds)
  | [.kro ds] => some (.row ds)
  | _ => none
theorem sat_list : CallSat R (fun xs H Q => ∃ p ys, xs = [.ref p] ∧ (SqL R.K H p ys ∨ SqT R.K H p ys) ∧ ∀ l, H l = none → Q (.ref l) (upd H l (.lst ys))) listD := fun xs ds d' F H s Q w rs h k => by
  unfold listD at h
  split at h
  · cases h
    obtain ⟨v, ws, rfl, ⟨a, vs, rfl, h1, hz, h2⟩, e2⟩ := rs
    rw [show ws = [] from e2]
    exact ⟨a, vs, rfl, .inl (SqL.of (w.sub.lst h1)), fun l hl => new_row w hz h2 hl k⟩
  · cases h
    obtain ⟨v, ws, rfl, ⟨a, vs, rfl, h1, hz, h2⟩, e2⟩ := rs
    rw [show ws = [] from e2]
    exact ⟨a, vs, rfl, .inr (SqT.of (w.sub.tup h1)), fun l hl => new_row w hz h2 hl k⟩
  · cases h
    obtain ⟨v, ws, rfl, ⟨a, vs, rfl, h1, hz, h2⟩, e2⟩ := rs
    rw [show ws = [] from e2]
    exact ⟨a, vs, rfl, .inl (w.sub.sqL h1), fun l hl => new_row w hz h2 hl k⟩
  · cases h
theorem de_list {n : Nat} {p : Pos} (c : Cxt X R W n) (hg : Gl X "list") (hm : X.mg "list" = none) (ha : PA X [e] (tDA R W O fs)) (he : starEach [e] X.env = (false, eval e X.env) :: starEach [] X.env := by rfl) (hpl : (backTo pos (starEach [] X.env)).any (·.1) = false := by rfl) :
    PE X (.Call (.Name "list" p) [e] [] pos) (tD R W O (dAll listD fs)) := de_callTy call_list_of (by rw [← c.hK]; exact sat_list) hg hm (by decide +kernel) ha (he := he) (hpl := hpl)
def tupleD : List D → Option D
  | [.row ds] => some (.tup ds)
  | [.tup ds] => some (.tup ds)
  | _ => none
theorem sat_tuple : CallSat R (fun xs H Q => ∃ p ys, xs = [.ref p] ∧ ((SqL R.K H p ys ∧ ∀ l, H l = none → Q (.ref l) (upd H l (.tup ys))) ∨ (SqT R.K H p ys ∧ Q (.ref p) H))) tupleD := fun xs ds d' F H s Q w rs h k => by
  unfold tupleD at h
  split at h
  · cases h
    obtain ⟨v, ws, rfl, ⟨a, vs, rfl, h1, hz, h2⟩, e2⟩ := rs
    rw [show ws = [] from e2]
    exact ⟨a, vs, rfl, .inl ⟨SqL.of (w.sub.lst h1), fun l hl => new_tup w hz h2 hl k⟩⟩
  · cases h
    obtain ⟨v, ws, rfl, rv, e2⟩ := rs
    have rv' := rv
    obtain ⟨a, vs, rfl, h1, hz, h2⟩ := rv
    rw [show ws = [] from e2]
    exact ⟨a, vs, rfl, .inr ⟨SqT.of (w.sub.tup h1), k _ F H w Stp.refl rv'⟩⟩
  · cases h
theorem de_tuple {n : Nat} {p : Pos} (c : Cxt X R W n) (hg : Gl X "tuple") (hm : X.mg "tuple" = none) (ha : PA X [e] (tDA R W O fs)) (he : starEach [e] X.env = (false, eval e X.env) :: starEach [] X.env := by rfl) (hpl : (backTo pos (starEach [] X.env)).any (·.1) = false := by rfl) :
    PE X (.Call (.Name "tuple" p) [e] [] pos) (tD R W O (dAll tupleD fs)) := de_callTy call_tuple_of (by rw [← c.hK]; exact sat_tuple) hg hm (by decide +kernel) ha (he := he) (hpl := hpl)
def toIntD : List D → Option D
  | [.int i] => some (.int i)
  | [.bl k] => some (.int (if k then 1 else 0))
  | [.str a] => if a.length ≤ 640 then (PySem.intText? a).map D.int else none
  | _ => none
theorem sat_int : CallSat R (fun xs H Q => ((∃ i, xs = [.int i] ∧ Q (.int i) H) ∨ ∃ k, xs = [.bl k] ∧ Q (.int (if k then 1 else 0)) H) ∨ ∃ a n, xs = [.str a] ∧ PySem.intText? a = some n ∧ a.length ≤ 640 ∧ Q (.int n) H) toIntD := fun xs ds d' F H s Q w rs h k => by
  unfold toIntD at h
  split at h
  · cases h
    obtain ⟨v, ws, rfl, rfl, e2⟩ := rs
    rw [show ws = [] from e2]
    exact .inl (.inl ⟨_, rfl, k _ F H w Stp.refl rfl⟩)
  · cases h
    obtain ⟨v, ws, rfl, rfl, e2⟩ := rs
    rw [show ws = [] from e2]
    exact .inl (.inr ⟨_, rfl, k _ F H w Stp.refl rfl⟩)
  · rename_i a
    split at h
    · rename_i hz
      cases ei : PySem.intText? a with
      | none => rw [ei] at h; cases h
      | some n =>
        rw [ei] at h
        cases h
        obtain ⟨v, ws, rfl, ⟨rfl, _⟩, e2⟩ := rs
        rw [show ws = [] from e2]
        exact .inr ⟨_, n, rfl, ei, hz, k _ F H w Stp.refl rfl⟩
    · cases h
  · cases h
theorem call_int3 : CallR X (.type "int") (fun xs H Q => ((∃ i, xs = [.int i] ∧ Q (.int i) H) ∨ ∃ k, xs = [.bl k] ∧ Q (.int (if k then 1 else 0)) H) ∨ ∃ a n, xs = [.str a] ∧ PySem.intText? a = some n ∧ a.length ≤ 640 ∧ Q (.int n) H) := fun pins s σ H xs us Q I rs q => q.elim (call_int1 pins s σ H xs us Q I rs) (call_int_str pins s σ H xs us Q I rs)
theorem de_toint {n : Nat} {p : Pos} (c : Cxt X R W n) (hg : Gl X "int") (hm : X.mg "int" = none) (ha : PA X [e] (tDA R W O fs)) (he : starEach [e] X.env = (false, eval e X.env) :: starEach [] X.env := by rfl) (hpl : (backTo pos (starEach [] X.env)).any (·.1) = false := by rfl) :
    PE X (.Call (.Name "int" p) [e] [] pos) (tD R W O (dAll toIntD fs)) := de_callTy call_int3 sat_int hg hm (by decide +kernel) ha (he := he) (hpl := hpl)
def strD : List D → Option D
  | [.int i] => if i.natAbs.log2 < 1920 ∧ (toString i : Str).length ≤ sizeLine then some (.str (toString i)) else none
  | _ => none
theorem sat_str : CallSat R (fun xs H Q => ∃ i, xs = [.int i] ∧ i.natAbs.log2 < 1920 ∧ Q (.str (toString i)) H) strD := fun xs ds d' F H s Q w rs h k => by
  unfold strD at h
  split at h
  · split at h
    · rename_i hz
      cases h
      obtain ⟨v, ws, rfl, rfl, e2⟩ := rs
      rw [show ws = [] from e2]
      exact ⟨_, rfl, hz.1, k _ F H w Stp.refl ⟨rfl, hz.2⟩⟩
    · cases h
  · cases h
theorem de_tostr {n : Nat} {p : Pos} (c : Cxt X R W n) (hg : Gl X "str") (hm : X.mg "str" = none) (ha : PA X [e] (tDA R W O fs)) (he : starEach [e] X.env = (false, eval e X.env) :: starEach [] X.env := by rfl) (hpl : (backTo pos (starEach [] X.env)).any (·.1) = false := by rfl) :
    PE X (.Call (.Name "str" p) [e] [] pos) (tD R W O (dAll strD fs)) := de_callTy call_str_int sat_str hg hm (by decide +kernel) ha (he := he) (hpl := hpl)
/-! ### methods of built-in types -/
def tyIs (T : String) : D → Option Unit
  | .str _ => if T = "str" then some () else none
  | .row _ => if T = "list" then some () else none
  | .kro _ => if T = "list" then some () else none
  | .tab _ => if T = "dict" then some () else none
  | _ => none
def dMt {S : Type} (T : String) (op : D → List D → Option D) (f : Sl → M S D) (fs : Sl → M S (List D)) : Sl → M S D := fun r => bnd (f r) fun x => bnd (lift (tyIs T x)) fun _ => bnd (fs r) fun xs => lift (op x xs)
def TyW (K : PySem.W.Frag) (T : String) (x : V) (H : Hp) : Prop := tyV K T x H ∨ (T = "dict" ∧ ∃ p kvs, x = .ref p ∧ Rd H p (.dK kvs))
theorem tyW_is {pins : List (Addr × Obj)} {σ : L2.St} {H : Hp} {s : Shared} {T : String} {x : V} {v : Value} (I : Inv X pins σ H s) (r : RelV x v) (ty : TyW X.K T x H) :
    s.TypeIs v T ∧ ∀ a, v = .ref a → ∃ ob, s.heap.get? a = some ob ∧ ob.dict = none := by
  rcases ty with ty | ⟨rfl, p, kvs, rfl, hd⟩
  · exact tyV_is I r ty
  · cases r
    have z : ∃ o, s.heap.get? p = some o ∧ o.ExactDict := by
      rcases hd with hk | ⟨ob, hk⟩
      · obtain ⟨_, _, _, _, o, _, _, e, ex, _⟩ := I.hok p _ hk
        exact ⟨o, e, ex⟩
      · obtain ⟨_, _, _, _, _, o, _, _, e, ex, _⟩ := (show ObjOk X.prog X.w H s.heap p (.frz ob (.dK kvs)) from I.hok p _ hk)
        exact ⟨o, e, ex⟩
    obtain ⟨o, e, ex⟩ := z
    refine ⟨⟨o, e, ex.1⟩, fun a e2 => ?_⟩
    cases e2
    exact ⟨o, e, ex.2.1⟩
theorem tyW_of {K : PySem.W.Frag} {nm : Nat → Option Addr} {F H : Hp} {d : D} {v : V} {T : String} {u : Unit} (sb : Sub F H) (r : Rep K nm F d v) (e : tyIs T d = some u) : TyW K T v H := by
  cases d with
  | str x =>
    have e : (if T = "str" then some () else none) = some u := e
    split at e
    · rename_i ht; subst ht; rw [r.1]; exact .inl rfl
    · cases e
  | row xs =>
    have e : (if T = "list" then some () else none) = some u := e
    split at e
    · rename_i ht; subst ht; obtain ⟨a, vs, rfl, h1, _, _⟩ := r; exact .inl (.inl ⟨rfl, vs, SqL.of (sb.lst h1)⟩)
    · cases e
  | tab xs =>
    have e : (if T = "dict" then some () else none) = some u := e
    split at e
    · rename_i ht; subst ht; obtain ⟨a, vs, rfl, h1, _, _⟩ := r; exact .inr ⟨rfl, a, vs, rfl, sb.dK h1⟩
    · cases e
  | kro xs =>
    have e : (if T = "list" then some () else none) = some u := e
    split at e
    · rename_i ht; subst ht; obtain ⟨a, vs, rfl, h1, _, _⟩ := r; exact .inl (.inl ⟨rfl, vs, sb.sqL h1⟩)
    · cases e
  | _ => cases e
def MtSat (R : Reg) (r : V → List V → Hp → VK → Prop) (op : D → List D → Option D) : Prop := ∀ (x : V) (xs : List V) (d : D) (ds : List D) (d' : D) (F H : Hp) (s : R.S) (Q : VK), Wd R F H s → Rep R.K R.nm F d x → Reps R.K R.nm F ds xs → op d ds = some d' →
  (∀ v F' H', Wd R F' H' s → Stp R F H F' H' → Rep R.K R.nm F' d' v → Q v H') → r x xs H Q
variable {o : Expr} {name : Str} {apos cpos : Pos} {T id : String} {r : V → List V → Hp → VK → Prop} {op : D → List D → Option D}
def tBW0 (K : PySem.W.Frag) (T : String) (r : V → List V → Hp → VK → Prop) (to : TE) : TE := fun σ H Q => to σ H fun x H1 => TyW K T x H1 ∧ r x [] H1 Q
def tBW (K : PySem.W.Frag) (T : String) (r : V → List V → Hp → VK → Prop) (to : TE) (t : TA) : TE := fun σ H Q => to σ H fun x H1 => TyW K T x H1 ∧ t σ H1 fun xs H2 => r x xs H2 Q
theorem pe_bw0 {to : TE} (pa : PlainAttrs T) (slot : Slot T name id) (hty : typeOf (.builtin id) = pure (.type "method_descriptor")) (hm : MtR X id r) (ho : PE X o to)
    (hbase : attributeBase o name X.env (eval o X.env) = eval o X.env := by rfl) (hline : (apos.endLine == cpos.line) = true := by rfl) : PE X (.Call (.Attribute o name apos) [] [] cpos) (tBW0 X.K T r to) := by
  refine ⟨fun pins s σ H Q I h => ?_⟩
  refine wpAny_Call_method0_late hbase hline (thn (ho.run pins s σ H _ I h) fun v s1 ⟨x, H1, I1, r1, ty, q1⟩ => ?_)
  obtain ⟨h1, h2⟩ := tyW_is I1 r1 ty
  exact ⟨T, id, pa, slot, hty, h1, h2, Calls.callWith_builtin rfl (PySem.evalArgs_none (hm pins s1 σ H1 x [] v [] Q I1 r1 .nil q1))⟩
theorem pe_bw {to : TE} {t : TA} (pa : PlainAttrs T) (slot : Slot T name id) (hty : typeOf (.builtin id) = pure (.type "method_descriptor")) (hm : MtR X id r) (ho : PE X o to) (ha : PA X (e :: es) t)
    (hbase : attributeBase o name X.env (eval o X.env) = eval o X.env := by rfl)
    (hfew : ((backTo cpos (starEach (e :: es) X.env)).all (fun x => !x.1) && (backToKw cpos (keywordEach [] X.env)).all (fun x => x.1.isSome)
      && decide ((e :: es).length + ([] : List Keyword).length + (if ([] : List Keyword).isEmpty then 0 else 1) < 30)) = true := by rfl)
    (hline : (apos.endLine == cpos.line) = true := by rfl) (hs : starEach (e :: es) X.env = (false, eval e X.env) :: starEach es X.env := by rfl) (hplain : (backTo cpos (starEach es X.env)).any (·.1) = false := by rfl) :
    PE X (.Call (.Attribute o name apos) (e :: es) [] cpos) (tBW X.K T r to t) := by
  refine ⟨fun pins s σ H Q I h => ?_⟩
  refine wpAny_Call_method_late hbase hfew hline rfl (thn (ho.run pins s σ H _ I h) fun v s1 ⟨x, H1, I1, r1, ty, q1⟩ => ?_)
  obtain ⟨h1, h2⟩ := tyW_is I1 r1 ty
  refine ⟨T, id, pa, slot, hty, h1, h2, ?_⟩
  have hA := ha.run cpos pins s1 σ H1 _ I1 q1
  rw [hs] at hA ⊢
  refine Calls.callWith_builtin (by show (false || (backTo cpos (starEach es X.env)).any (·.1)) = false; rw [hplain] <;> rfl) (Calls.evalArgs_plain ?_)
  exact thn hA fun us s2 ⟨vs, H2, I2, r2, q2⟩ => hm pins s2 σ H2 x vs v us Q I2 r1 r2 q2
theorem de_mt0 (pa : PlainAttrs T) (slot : Slot T name id) (hty : typeOf (.builtin id) = pure (.type "method_descriptor")) (hm : MtR X id r) (hK : R.K = X.K) (hs : MtSat R r op) (ho : PE X o (tD R W O f))
    (hbase : attributeBase o name X.env (eval o X.env) = eval o X.env := by rfl) (hline : (apos.endLine == cpos.line) = true := by rfl) : PE X (.Call (.Attribute o name apos) [] [] cpos) (tD R W O (dMt T op f dNil)) :=
  pe_imp (pe_bw0 pa slot hty hm ho hbase hline) fun σ H Q h => by
    obtain ⟨F, ρ, s, w, pu, p⟩ := h
    refine ⟨F, ρ, s, w, pu, p.bnd.imp (fun d s1 F1 H1 w1 st1 p1 v rv => ?_) fun _ _ _ _ _ _ z => z⟩
    obtain ⟨u, eu, p2⟩ := p1.lift0
    obtain ⟨d', e', k⟩ := p2.lift
    exact ⟨by rw [← hK]; exact tyW_of w1.sub rv eu, hs v [] d [] d' F1 H1 s1 Q w1 rv rfl e' fun v' F' H' w' st' r' => k F' H' w' st' v' r'⟩
theorem de_mt (pa : PlainAttrs T) (slot : Slot T name id) (hty : typeOf (.builtin id) = pure (.type "method_descriptor")) (hm : MtR X id r) (hK : R.K = X.K) (hs : MtSat R r op) (ho : PE X o (tD R W O f)) (ha : PA X (e :: es) (tDA R W O fs))
    (hbase : attributeBase o name X.env (eval o X.env) = eval o X.env := by rfl)
    (hfew : ((backTo cpos (starEach (e :: es) X.env)).all (fun x => !x.1) && (backToKw cpos (keywordEach [] X.env)).all (fun x => x.1.isSome)
      && decide ((e :: es).length + ([] : List Keyword).length + (if ([] : List Keyword).isEmpty then 0 else 1) < 30)) = true := by rfl)
    (hline : (apos.endLine == cpos.line) = true := by rfl) (hst : starEach (e :: es) X.env = (false, eval e X.env) :: starEach es X.env := by rfl) (hplain : (backTo cpos (starEach es X.env)).any (·.1) = false := by rfl) :
    PE X (.Call (.Attribute o name apos) (e :: es) [] cpos) (tD R W O (dMt T op f fs)) :=
  pe_imp (pe_bw pa slot hty hm ho ha hbase hfew hline hst hplain) fun σ H Q h => by
    obtain ⟨F, ρ, s, w, pu, p⟩ := h
    refine ⟨F, ρ, s, w, pu, p.bnd.imp (fun d s1 F1 H1 w1 st1 p1 v rv => ?_) fun _ _ _ _ _ _ z => z⟩
    obtain ⟨u, eu, p2⟩ := p1.lift0
    refine ⟨by rw [← hK]; exact tyW_of w1.sub rv eu, F1, ρ, s1, w1, pu.mono st1.fs, p2.bnd.imp (fun ds s2 F2 H2 w2 st2 p3 vs rvs => ?_) fun _ _ _ _ _ _ z => z⟩
    obtain ⟨d', e', k⟩ := p3.lift
    exact hs v vs d ds d' F2 H2 s2 Q w2 (rv.mono st2.fs) rvs e' fun v' F' H' w' st' r' => k F' H' w' st' v' r'
end
end Nw
set_option Elab.async false
set_option linter.all false
set_option maxRecDepth 100000
set_option maxHeartbeats 4000000
/-! Part R: comprehensions, tables walked, views. -/
namespace Nw
open PySem PySem.Spec L2
/-! ### locks that stay -/
section
variable {X : Cx}
theorem ps_lk {st : Stmt} {t : TS} (h : PS X st t) : PS X st (fun D σ H => ∃ d u, H d = some u ∧ Mut (some u) ∧ ∀ od, t D σ (upd H d (.frz od u))) := ⟨fun pins s σ H D I hw => by
  obtain ⟨d, u, hd, mu, hw⟩ := hw
  obtain ⟨od, I1⟩ := I.lock hd mu
  exact h.run pins s σ _ _ I1 (hw od)⟩
theorem pe_lk {e : Expr} {t : TE} (h : PE X e t) : PE X e (fun σ H Q => ∃ d u, H d = some u ∧ Mut (some u) ∧ ∀ od, t σ (upd H d (.frz od u)) Q) := ⟨fun pins s σ H Q I hw => by
  obtain ⟨d, u, hd, mu, hw⟩ := hw
  obtain ⟨od, I1⟩ := I.lock hd mu
  exact h.run pins s σ _ _ I1 (hw od)⟩
end
section
variable {R : Reg} {F H F0 H0 : Hp} {s : R.S} {d : Addr} {ws : List (Key × V)} {od : Obj}
theorem Wd.lock (w : Wd R F H s) (hF : F d = some (.dK ws)) : Wd R F (upd H d (.frz od (.dK ws))) s where
  sub := fun a o q => by
    by_cases e : a = d
    · subst e; rw [hF] at q; cases q; exact .inr ⟨ws, od, rfl, upd_same⟩
    · rw [upd_ne e]; exact w.sub a o q
  mu := w.mu
  si := R.loc s H _ w.si fun a m => upd_ne fun e => by rw [e] at m; rw [w.mu d m] at hF; cases hF
theorem Stp.lock (st : Stp R F0 H0 F H) (hF : F d = some (.dK ws)) (hH : H d = some (.dK ws)) : Stp R F0 H0 F (upd H d (.frz od (.dK ws))) where
  fs := st.fs
  hs := fun a o m q => by
    rcases st.hs a o m q with h | ⟨h1, kvs, ob, h2, h3⟩
    · by_cases e : a = d
      · subst e; rw [hH] at h; cases h; exact .inr ⟨hF, ws, od, rfl, upd_same⟩
      · rw [upd_ne e]; exact .inl h
    · by_cases e : a = d
      · subst e; rw [hH] at h3; cases h3
      · rw [upd_ne e]; exact .inr ⟨h1, kvs, ob, h2, h3⟩
  nw := st.nw
  th := fun a h => by
    by_cases e : a = d
    · rw [e, upd_same] at h; cases h
    · rw [upd_ne e] at h; exact st.th a h
theorem Slots.lock {O : List Nat} {σ : L2.St} {r : Sl} (h : Slots R H0 O F H σ r) (hF : F d = some (.dK ws)) : Slots R H0 O F (upd H d (.frz od (.dK ws))) σ r :=
  ⟨h.pu, (fun i e hi hrt q => by
    obtain ⟨a, h1, h2⟩ := h.ow i e hi hrt q
    exact ⟨a, h1, h2.other fun z => by rw [z] at h2; rw [h2.2.1] at hF; cases hF⟩), h.ns, h.sep⟩
end
/-! ### keys, values -/
def kD : Key → D
  | .inl i => .int i
  | .inr x => .str x
def keysD : D → Option (List D)
  | .tab kvs => some (kvs.map fun kv => kD kv.1)
  | _ => none
def valsD : D → Option (List D)
  | .tab kvs => some (kvs.map fun kv => kv.2)
  | _ => none
def dKeys {S : Type} (f : Sl → M S D) : Sl → M S (List D) := fun r => bnd (f r) fun x => lift (keysD x)
def dVals {S : Type} (f : Sl → M S D) : Sl → M S (List D) := fun r => bnd (f r) fun x => lift (valsD x)
/-- the table in the slot is locked -/
def Lk (i : Nat) (σ : L2.St) (H : Hp) : Prop := ∀ d kvs, σ[i]? = some (some (.ref d)) → H d ≠ some (.dK kvs)
section
variable {X : Cx} {R : Reg} {W : WX} {fr : FrK} {O O' B : List Nat} {tg : Expr} {pos apos cpos npos : Pos} {i : Nat} {x : Str}
theorem rep_key {K : PySem.W.Frag} {nm : Nat → Option Addr} {F : Hp} {k : Key} (h : kOk k) : Rep K nm F (kD k) (kV k) := by
  cases k with
  | inl j => exact rfl
  | inr y => exact ⟨rfl, h⟩
theorem walks_keys {F H : Hp} {a : Addr} {ds : List (Key × D)} {ws : List (Key × V)} {o : Obj} (hF : F a = some (.dK ws)) (hH : H a = some (.frz o (.dK ws))) (hz : ds.length ≤ sizeLine) (r : RepsK R.K R.nm F ds ws) : Walks R (Itk a o ws) F H (ds.map fun kv => kD kv.1) where
  hz := by rw [List.length_map]; exact hz
  go := fun i F2 H2 st h => by rw [List.length_map] at h; exact ⟨st.lk a o ws hF hH, by rw [r.length]; exact h⟩
  yld := fun i F2 H2 x H3 st h y => by
    rw [List.length_map] at h
    obtain ⟨e, k, v, hk, hx⟩ := y
    obtain ⟨v', h1, h2, _⟩ := r.get (i := i) (k := (ds[i]).1) (d := (ds[i]).2) (List.getElem?_eq_getElem h)
    rw [h1] at hk
    cases hk
    exact ⟨e, kD (ds[i]).1, by rw [List.getElem?_map, List.getElem?_eq_getElem h]; rfl, by rw [hx]; exact rep_key h2⟩
  stop := fun F2 H2 st => ⟨st.lk a o ws hF hH, by rw [List.length_map, r.length]; exact Nat.le_refl _⟩
theorem walks_vals {F H : Hp} {a : Addr} {ds : List (Key × D)} {ws : List (Key × V)} {o : Obj} (hF : F a = some (.dK ws)) (hH : H a = some (.frz o (.dK ws))) (hz : ds.length ≤ sizeLine) (r : RepsK R.K R.nm F ds ws) : Walks R (Itd a o ws) F H (ds.map fun kv => kv.2) where
  hz := by rw [List.length_map]; exact hz
  go := fun i F2 H2 st h => by rw [List.length_map] at h; exact ⟨st.lk a o ws hF hH, by rw [r.length]; exact h⟩
  yld := fun i F2 H2 x H3 st h y => by
    rw [List.length_map] at h
    obtain ⟨e, k, hk⟩ := y
    obtain ⟨v', h1, h2, h3⟩ := r.get (i := i) (k := (ds[i]).1) (d := (ds[i]).2) (List.getElem?_eq_getElem h)
    rw [h1] at hk
    cases hk
    exact ⟨e, (ds[i]).2, by rw [List.getElem?_map, List.getElem?_eq_getElem h]; rfl, h3.mono st.fs⟩
  stop := fun F2 H2 st => ⟨st.lk a o ws hF hH, by rw [List.length_map, r.length]; exact Nat.le_refl _⟩
/-- the slot's table, read -/
theorem slot_tab {F H : Hp} {σ : L2.St} {r : Sl} {s : R.S} {g : D → Option (List D)} {k : List D → R.S → Hp → Hp → Prop} {xk : Xn → R.S → Hp → Hp → Prop} (hg : ∀ d l, g d = some l → ∃ kvs, d = .tab kvs) (hO : i ∉ O) (w : Wd R F H s) (pu : Pu R O F σ r) (p : Post R F H (bnd (dVar i r) (fun x => lift (g x)) s) k xk) :
    ∃ kvs l a ws, σ[i]? = some (some (.ref a)) ∧ g (.tab kvs) = some l ∧ F a = some (.dK ws) ∧ kvs.length ≤ sizeLine ∧ RepsK R.K R.nm F kvs ws ∧ ∀ F' H', Wd R F' H' s → Stp R F H F' H' → k l s F' H' := by
  obtain ⟨d, e, p⟩ := Post.lift0 (m := getS r i) p
  obtain ⟨l, el, p2⟩ := p.lift
  obtain ⟨kvs, rfl⟩ := hg d l el
  obtain ⟨v, h1, a, ws, rfl, h2, h3, h4⟩ := pu.at_ i _ hO (getS_some e)
  exact ⟨kvs, l, a, ws, h1, el, h2, h3, h4, p2⟩
theorem keysD_tab (d : D) (l : List D) (h : keysD d = some l) : ∃ kvs, d = .tab kvs := by
  cases d <;> try cases h
  exact ⟨_, rfl⟩
theorem valsD_tab (d : D) (l : List D) (h : valsD d = some l) : ∃ kvs, d = .tab kvs := by
  cases d <;> try cases h
  exact ⟨_, rfl⟩
theorem di_keysL (i : Nat) (hO : i ∉ O) (hN : X.N[i]? = some x) (hv : Vis X.env.scope x) (hd : (x == ("__debug__" : Str)) = false := by decide) (hcd : (x == ("__classdict__" : Str)) = false := by decide) (hbase : attributeBase (.Name x npos) "keys" X.env (eval (.Name x npos) X.env) = eval (.Name x npos) X.env := by rfl) (hline : (apos.endLine == cpos.line) = true := by rfl) :
    PI X tg (.Call (.Attribute (.Name x npos) "keys" apos) [] [] cpos) (fun σ H Q => Lk i σ H ∧ tDI R W O (dKeys (dVar i)) σ H Q) := pi_imp (pi_keysM (pe_var hN hv hd hcd) hbase hline) fun σ H Q h => by
  obtain ⟨lk, F, r, s, w, pu, p⟩ := h
  obtain ⟨kvs, l, a, ws, h1, el, h2, h3, h4, k⟩ := slot_tab keysD_tab hO w pu p
  cases el
  refine ⟨_, h1, ?_⟩
  rcases w.sub.dK h2 with q | ⟨ob, q⟩
  · exact absurd q (lk a ws h1)
  · exact ⟨a, ob, ws, rfl, q, k F H w Stp.refl _ (walks_keys h2 q h3 h4)⟩
theorem di_valsL (i : Nat) (hO : i ∉ O) (hN : X.N[i]? = some x) (hv : Vis X.env.scope x) (hd : (x == ("__debug__" : Str)) = false := by decide) (hcd : (x == ("__classdict__" : Str)) = false := by decide) (hbase : attributeBase (.Name x npos) "values" X.env (eval (.Name x npos) X.env) = eval (.Name x npos) X.env := by rfl) (hline : (apos.endLine == cpos.line) = true := by rfl) :
    PI X tg (.Call (.Attribute (.Name x npos) "values" apos) [] [] cpos) (fun σ H Q => Lk i σ H ∧ tDI R W O (dVals (dVar i)) σ H Q) := pi_imp (pi_values (pe_var hN hv hd hcd) hbase hline) fun σ H Q h => by
  obtain ⟨lk, F, r, s, w, pu, p⟩ := h
  obtain ⟨kvs, l, a, ws, h1, el, h2, h3, h4, k⟩ := slot_tab valsD_tab hO w pu p
  cases el
  refine ⟨_, h1, ?_⟩
  rcases w.sub.dK h2 with q | ⟨ob, q⟩
  · exact absurd q (lk a ws h1)
  · exact ⟨a, ob, ws, rfl, q, k F H w Stp.refl _ (walks_vals h2 q h3 h4)⟩
/-- once it is locked -/
theorem lk_now {H : Hp} {σ : L2.St} {a : Addr} {ws : List (Key × V)} {o : Obj} (h1 : σ[i]? = some (some (.ref a))) (hH : H a = some (.frz o (.dK ws))) : Lk i σ H := fun d kvs e q => by
  rw [h1] at e
  cases e
  rw [hH] at q
  cases q
theorem mut_dK {ws : List (Key × V)} : Mut (some (.dK ws)) := trivial
/-- a for over a table's keys, values -/
theorem ds_forW {g : D → Option (List D)} {iter : Expr} {body : List Stmt} {gt : TG} {vs : List Nat} {tgt : D → Sl → Option Sl} {f : Sl → Mo R.S} (hgt : ∀ d l, g d = some l → ∃ kvs, d = .tab kvs) (hO : i ∉ O) (hp : PassesOwn (model X.prog X.w) X.A X.env X.xe) (hc : X.calm = true)
    (hi : PI X tg iter (fun σ H Q => Lk i σ H ∧ tDI R W O (fun r => bnd (dVar i r) fun x => lift (g x)) σ H Q)) (hg : PG X tg gt) (hgs : TgSat R gt vs tgt) (hb : PSs X body (tDS R W fr O O O f)) (hv : ∀ j ∈ O, j ∉ vs)
    (hs : ∀ x, foldedSetIterable iter X.env x = pure x := by intro _; rfl) : PS X (.For tg iter body [] pos) (tDS R W fr B O O (sFor (fun r => bnd (dVar i r) fun x => lift (g x)) tgt f)) :=
  ps_imp (ps_or2 (ps_for hp hc hi hg hb hs) (ps_lk (ps_for hp hc hi hg hb hs))) fun E σ H h => by
    have h' := h
    obtain ⟨F0, H0, F, r, s, w, st, sl, p⟩ := h
    obtain ⟨kvs, l, a, ws, h1, el, h2, h3, h4, _⟩ := slot_tab hgt hO w sl.pu (postS_x w st sl p)
    rcases w.sub.dK h2 with q | ⟨ob, q⟩
    · refine .inr ⟨a, _, q, mut_dK, fun od => ⟨lk_now h1 upd_same, ?_⟩⟩
      exact sat_for hgs hv E σ _ ⟨F0, H0, F, r, s, w.lock h2, st.lock h2 q, sl.lock h2, p⟩
    · exact .inl ⟨lk_now h1 q, sat_for hgs hv E σ H h'⟩
/-! ### comprehensions -/
theorem tk0 {md : Bool} {X : Cx} : TkM md X W0 := by
  cases md with
  | true => exact fun u s' ⟨a, B, sI, pins, σ, H, cls, d, e, I, nb, up, sky, na, os, ag, w⟩ => w.elim
  | false => exact takes0
theorem Cxt.blk {n : Nat} (c : Cxt X R W n) (s : Shared) (H : Hp) (scope : Scope) (ce : Env) (fp : List Addr) : Cxt (X.blk s H scope ce fp) R W0 n := ⟨c.hK, c.hr, c.nd, c.calm⟩
theorem dts_nil : PTs X [] (tDT R W O dYes) := ⟨fun pins s σ H Q I h => pts_nil.run pins s σ H Q I (by
  obtain ⟨F, r, s, w, pu, p⟩ := h
  exact p F H w Stp.refl)⟩
theorem dts_one {c : Expr} {t : TT} (h : PT X c t) : PTs X [c] t := pts_one h
variable {elt iter : Expr} {ifs : List Expr} {scope : Scope} {own : List (Str × Nat)} {it : Sl → M R.S (List D)} {g : TG} {tgt : D → Sl → Option Sl} {t : Sl → M R.S Bool} {f : Sl → M R.S D} {n : Nat}
theorem de_lc (c : Cxt X R W n) (hi : PI X tg iter (tDI R W O it)) (ok : BlkOk X.N X.env.scope scope own) (hgs : TgSat R g (own.map (·.2)) tgt)
    (hg : ∀ (s : Shared) (H : Hp) (C : Addr) (cl : List (Str × Addr)) (fp : List Addr), PG (X.blk s H scope (compEnvC scope cl C X.env) fp) tg g)
    (ht : ∀ (s : Shared) (H : Hp) (C : Addr) (cl : List (Str × Addr)) (fp : List Addr), Cxt (X.blk s H scope (compEnvC scope cl C X.env) fp) R W0 n → PTs (X.blk s H scope (compEnvC scope cl C X.env) fp) ifs (tDT R W0 O t))
    (he : ∀ (s : Shared) (H : Hp) (C : Addr) (cl : List (Str × Addr)) (fp : List Addr), Cxt (X.blk s H scope (compEnvC scope cl C X.env) fp) R W0 n → PE (X.blk s H scope (compEnvC scope cl C X.env) fp) elt (tD R W0 O f)) (hs : ∀ x, foldedSetIterable iter X.env x = pure x := by intro _; rfl) :
    PE X (.ListComp elt [⟨tg, iter, ifs, 0⟩] scope pos) (tD R W O (dLc it tgt t f)) :=
  pe_imp (pe_lc c.calm c.nd hi ok hg (fun s H C cl fp => ht s H C cl fp (c.blk _ _ _ _ _)) (fun s H C cl fp => he s H C cl fp (c.blk _ _ _ _ _)) hs) (sat_lc hgs)
/-- .. over a table's keys, values -/
theorem de_lcW {gk : D → Option (List D)} (hgt : ∀ d l, gk d = some l → ∃ kvs, d = .tab kvs) (hO : i ∉ O) (c : Cxt X R W n) (hi : PI X tg iter (fun σ H Q => Lk i σ H ∧ tDI R W O (fun r => bnd (dVar i r) fun x => lift (gk x)) σ H Q)) (ok : BlkOk X.N X.env.scope scope own) (hgs : TgSat R g (own.map (·.2)) tgt)
    (hg : ∀ (s : Shared) (H : Hp) (C : Addr) (cl : List (Str × Addr)) (fp : List Addr), PG (X.blk s H scope (compEnvC scope cl C X.env) fp) tg g)
    (ht : ∀ (s : Shared) (H : Hp) (C : Addr) (cl : List (Str × Addr)) (fp : List Addr), Cxt (X.blk s H scope (compEnvC scope cl C X.env) fp) R W0 n → PTs (X.blk s H scope (compEnvC scope cl C X.env) fp) ifs (tDT R W0 O t))
    (he : ∀ (s : Shared) (H : Hp) (C : Addr) (cl : List (Str × Addr)) (fp : List Addr), Cxt (X.blk s H scope (compEnvC scope cl C X.env) fp) R W0 n → PE (X.blk s H scope (compEnvC scope cl C X.env) fp) elt (tD R W0 O f)) (hs : ∀ x, foldedSetIterable iter X.env x = pure x := by intro _; rfl) :
    PE X (.ListComp elt [⟨tg, iter, ifs, 0⟩] scope pos) (tD R W O (dLc (fun r => bnd (dVar i r) fun x => lift (gk x)) tgt t f)) := by
  have base := pe_lc c.calm c.nd hi ok hg (fun s H C cl fp => ht s H C cl fp (c.blk _ _ _ _ _)) (fun s H C cl fp => he s H C cl fp (c.blk _ _ _ _ _)) hs (pos := pos)
  refine pe_imp (pe_or2 base (pe_lk base)) fun σ H Q h => ?_
  have h' := h
  obtain ⟨F, r, s, w, pu, p⟩ := h
  obtain ⟨kvs, l, a, ws, h1, el, h2, h3, h4, _⟩ := slot_tab hgt hO w pu p.bnd
  rcases w.sub.dK h2 with q | ⟨ob, q⟩
  · refine .inr ⟨a, _, q, mut_dK, fun od => ⟨lk_now h1 upd_same, ?_⟩⟩
    exact sat_lc hgs σ _ Q ⟨F, r, s, w.lock h2, pu, p.from (Stp.refl.lock h2 q)⟩
  · exact .inl ⟨lk_now h1 q, sat_lc hgs σ H Q h'⟩
end
end Nw
set_option Elab.async false
set_option linter.all false
set_option maxRecDepth 100000
set_option maxHeartbeats 4000000
/-! Part T: views, sorting, count, index, displays. -/
namespace Nw
open PySem PySem.Spec L2
/-! ### order of texts -/
def leS (a b : Str) : Bool := !ltCps b.cps.toList a.cps.toList
theorem leS_iff {a b : Str} : leS a b = true ↔ a.cps.toList ≤ b.cps.toList := by
  unfold leS
  rw [PyProof.Rows.ltCps_eq, Bool.not_eq_true', decide_eq_false_iff_not]
  exact List.not_lt
theorem leS_refl (a : Str) : leS a a = true := leS_iff.mpr (List.le_refl _)
theorem leS_trans {a b c : Str} (h : leS a b = true) (h' : leS b c = true) : leS a c = true := leS_iff.mpr (List.le_trans (leS_iff.mp h) (leS_iff.mp h'))
theorem leS_total (a b : Str) : leS a b = true ∨ leS b a = true := (List.le_total a.cps.toList b.cps.toList).imp leS_iff.mpr leS_iff.mpr
theorem str_ext {a b : Str} (h : a.cps.toList = b.cps.toList) : a = b := by
  obtain ⟨x⟩ := a
  obtain ⟨y⟩ := b
  exact congrArg Str.mk (Array.toList_inj.mp h)
theorem leS_antisymm {a b : Str} (h : leS a b = true) (h' : leS b a = true) : a = b := str_ext (List.le_antisymm (leS_iff.mp h) (leS_iff.mp h'))
def insS (x : Str) : List Str → List Str
  | [] => [x]
  | y :: r => if leS x y = true then x :: y :: r else y :: insS x r
def sortS : List Str → List Str
  | [] => []
  | x :: r => insS x (sortS r)
theorem insS_perm (x : Str) : ∀ l : List Str, (insS x l).Perm (x :: l)
  | [] => List.Perm.refl _
  | y :: r => by
    unfold insS
    split
    · exact List.Perm.refl _
    · exact ((insS_perm x r).cons y).trans (List.Perm.swap x y r)
theorem sortS_perm : ∀ l : List Str, (sortS l).Perm l
  | [] => List.Perm.refl _
  | x :: r => (insS_perm x (sortS r)).trans ((sortS_perm r).cons x)
theorem insS_pw {x : Str} : ∀ {l : List Str}, l.Pairwise (fun a b => leS a b = true) → (insS x l).Pairwise (fun a b => leS a b = true)
  | [], _ => List.pairwise_singleton _ _
  | y :: r, h => by
    obtain ⟨h1, h2⟩ := List.pairwise_cons.mp h
    unfold insS
    split
    · rename_i hx
      refine List.pairwise_cons.mpr ⟨fun z hz => ?_, h⟩
      rcases List.mem_cons.mp hz with rfl | hz
      · exact hx
      · exact leS_trans hx (h1 z hz)
    · rename_i hx
      refine List.pairwise_cons.mpr ⟨fun z hz => ?_, insS_pw h2⟩
      rcases List.mem_cons.mp ((insS_perm x r).mem_iff.mp hz) with rfl | hz
      · exact (leS_total z y).resolve_left hx
      · exact h1 z hz
theorem sortS_pw : ∀ l : List Str, (sortS l).Pairwise (fun a b => leS a b = true)
  | [] => List.Pairwise.nil
  | x :: r => insS_pw (sortS_pw r)
theorem sortedS_pw : ∀ {l : List Str}, PyProof.Rows.sortedS l = true → l.Pairwise (fun a b => leS a b = true)
  | [], _ => List.Pairwise.nil
  | x :: r, h => by
    have go : ∀ (r : List Str) (x : Str), PyProof.Rows.risingS x r = true → (x :: r).Pairwise (fun a b => leS a b = true) := fun r => by
      induction r with
      | nil => exact fun x _ => List.pairwise_singleton _ _
      | cons y r ih =>
        intro x h
        obtain ⟨h1, h2⟩ := Bool.and_eq_true_iff.mp (show ((!ltCps y.cps.toList x.cps.toList) && PyProof.Rows.risingS y r) = true from h)
        have h3 := ih y h2
        refine List.pairwise_cons.mpr ⟨fun z hz => ?_, h3⟩
        rcases List.mem_cons.mp hz with rfl | hz
        · exact h1
        · exact leS_trans h1 ((List.pairwise_cons.mp h3).1 z hz)
    exact go r x h
theorem pw_eq {l l' : List Str} (h : l.Pairwise (fun a b => leS a b = true)) (h' : l'.Pairwise (fun a b => leS a b = true)) (p : l.Perm l') : l = l' :=
  List.Perm.eq_of_pairwise (fun a b _ _ x y => leS_antisymm x y) h h' p
theorem sortS_uniq {ys ks : List Str} (p : ys.Perm ks) (h : PyProof.Rows.sortedS ys = true) : ys = sortS ks := pw_eq (sortedS_pw h) (sortS_pw ks) (p.trans (sortS_perm ks).symm)
theorem paired_get {α β : Type} {P : α → β → Prop} : ∀ {l : List α} {l' : List β} {j : Nat} {a : α}, Paired P l l' → l[j]? = some a → ∃ b, l'[j]? = some b ∧ P a b
  | _, _, _, _, .nil, e => by simp at e
  | _, _, 0, _, .cons h t, e => by
    have e' := Option.some.inj (show some _ = some _ from e)
    subst e'
    exact ⟨_, rfl, h⟩
  | _, _, j + 1, _, .cons h t, e => by
    obtain ⟨b, h1, h2⟩ := paired_get (j := j) t (by simpa using e)
    exact ⟨b, by simpa using h1, h2⟩
/-! ### views -/
/-- a view of the table at d -/
def VwO (T : String) (d p : Addr) : HO := .ext fun h => h.get? p = some { cls := .type T, data := .fields #[.ref d] }
section
variable {X : Cx}
def rView (T : String) : V → List V → Hp → VK → Prop := fun x xs H Q => ∃ d kvs, x = .ref d ∧ xs = [] ∧ Rd H d (.dK kvs) ∧ ∀ p, H p = none → Q (.ref p) (upd H p (VwO T d p))
theorem view_new {pins : List (Addr × Obj)} {σ : L2.St} {H : Hp} {s : Shared} {T : String} {d : Addr} {Q : VK} (I : Inv X pins σ H s) (q : ∀ p, H p = none → Q (.ref p) (upd H p (VwO T d p))) :
    EP X pins σ Q (.ref s.heap.objs.size) { s with heap := s.heap.push { cls := .type T, data := .fields #[.ref d] } } :=
  ⟨.ref s.heap.objs.size, _, I.laid (t' := s.toks) (fun b o e => Heap.get?_push_of_some _ e) (Nat.le_refl _) (show ObjOk X.prog X.w _ _ _ (VwO T d s.heap.objs.size) from ⟨Heap.get?_push_size _ rfl, ⟨_, Heap.get?_push_size _ rfl⟩, fun h1 h2 e k => k _ e⟩), rfl, q _ (I.hok.fresh (Nat.le_refl _))⟩
theorem mt_keysV : MtR X "dict.keys" (rView "dict_keys") := by
  intro pins s σ H x xs v us Q I rx rxs h
  obtain ⟨d, kvs, rfl, rfl, hd, q⟩ := h
  cases rx
  cases rxs
  obtain ⟨z, hs, vs, rel, dd⟩ := dk_rd I.hok hd
  exact call_meetsIn PySem.F.slot_dict_keys dd.typeIs PySem.F.entry_dict_keys (PySem.F.args_dict_keys_1 _) (PySem.W.kdl_meets_keys (mixKind X.prog X.w) d hs) ⟨⟨vs, dd⟩, view_new I q⟩
theorem mt_valsV : MtR X "dict.values" (rView "dict_values") := by
  intro pins s σ H x xs v us Q I rx rxs h
  obtain ⟨d, kvs, rfl, rfl, hd, q⟩ := h
  cases rx
  cases rxs
  obtain ⟨z, hs, vs, rel, dd⟩ := dk_rd I.hok hd
  exact call_meetsIn PySem.F.slot_dict_values dd.typeIs PySem.F.entry_dict_values (PySem.F.args_dict_values_1 _) (meets_dict_values (mixKind X.prog X.w) d hs) ⟨⟨vs, dd⟩, view_new I q⟩
/-- sorted(d.keys()), all keys texts -/
theorem call_sortedV (hcalm : X.calm = true) : CallR X (.builtin "sorted") (fun xs H Q => ∃ (a d : Addr) (kvs : List (Key × V)) (ks : List Str), xs = [.ref a] ∧ H a = some (VwO "dict_keys" d a) ∧ Rd H d (.dK kvs) ∧ kvs.map (·.1) = ks.map Sum.inr ∧
    ∀ p, H p = none → Q (.ref p) (upd H p (.lst ((sortS ks).map V.str)))) := by
  intro pins s σ H xs us Q I r q
  obtain ⟨v, a, kvs, ks, ex, hv, hd, hks, q⟩ := q
  subst ex
  obtain ⟨u, eu, rx⟩ := vals1 r
  subst eu
  cases rx
  obtain ⟨hview, _, _⟩ := (show ObjOk X.prog X.w H s.heap v (VwO "dict_keys" a v) from I.hok v _ hv)
  obtain ⟨z, lo, vs, rel, dd⟩ := dk_rd I.hok hd
  obtain ⟨ep, hat⟩ := dd.dictAt
  have hkeys : vs.map (·.1) = ks.map Sum.inr := rel.keys.symm.trans hks
  have hl : vs.length = ks.length := by
    have e := congrArg List.length hkeys
    rw [List.length_map, List.length_map] at e
    exact e
  have h16 : vs.length ≤ sizeLine := by rw [← rel.length]; exact z
  refine Calls.call_function_entry PyProof.Rows.kind_sorted PyProof.Rows.plain_sorted PyProof.Rows.entry_sorted (PyProof.Rows.args_sorted1 _) ?_
  unfold Builtin.«sorted»
  refine wpAny_bind (m := checkCount "sorted" 1 1 _) (wpAny_pure ?_)
  refine wpAny_bind (PySem.W.kdu_collect (A := X.A.in1) (PySem.W.kdl_keys (r := v) (d := a) (knd := mixKind X.prog X.w) (kvs := vs) (ep := ep)) (I.ok.hd hcalm) ⟨⟨_, hview, rfl, rfl⟩, hat⟩ h16 fun h' tk acc hk hacc => ?_)
  have hal : acc.toList.length = ks.length := by rw [Array.length_toList, hacc.1, hl]
  have hS : PyProof.Rows.StrsAre acc.toList ks := strs_at hal fun j v e => by
    obtain ⟨k, x, e1, e2⟩ := hacc.2 j v (by rw [← Array.getElem?_toList]; exact e)
    have e3 : (vs.map (·.1))[j]? = some k := by rw [List.getElem?_map, e1]; all_goals rfl
    rw [hkeys, List.getElem?_map] at e3
    cases e4 : ks[j]? with
    | none => rw [e4] at e3; cases e3
    | some y =>
      rw [e4] at e3
      have e5 : Sum.inr y = k := Option.some.inj e3
      subst e5
      obtain ⟨t, ev⟩ := Value.isStrOf_shape (x := y) (v := v) e2
      exact ⟨y, t, rfl, ev⟩
  have I1 : Inv X pins σ H { s with heap := h', toks := tk } := I.kept hk
  refine wpAny_bind (wpAny_newList ?_ (by rw [hal, ← hl]; exact h16))
  have hoL : (h'.push (PyProof.Rows.seqObj "list" acc.toList.toArray 0)).get? h'.objs.size = some (PyProof.Rows.seqObj "list" acc.toList.toArray 0) := Heap.get?_push_size _ rfl
  show wpAny _ _ _ _ _ { s with heap := h'.push (PyProof.Rows.seqObj "list" acc.toList.toArray 0), toks := tk }
  refine wpAny_bind (wpAny_holding (wpAny_call_entry PyProof.Rows.slot_list_sort ⟨_, hoL, rfl⟩ PyProof.Rows.entry_list_sort
    (PyProof.Rows.list_sort_treeKAny PyProof.Rows.strKind_oneLt (s := { s with heap := h'.push (PyProof.Rows.seqObj "list" acc.toList.toArray 0), toks := tk }) hoL hS.keysOf (fun v₁ v₂ rest e => PyProof.Rows.keyKind_strs (by rw [← e]; exact hS)) (by rw [hal, ← hl]; exact h16) fun st' hp hs => ⟨_, rfl, ?_⟩)
    (PyProof.Rows.args_list_sort _)))
  obtain ⟨ys, g1, g2, g3⟩ := PyProof.Rows.sorted_out_str hS hp hs
  obtain ⟨e', he'⟩ := PyProof.Rows.sortedHeap_at (vs := acc.toList) (out := (PyProof.Rows.arrOf st').map (·.2)) hoL
  have hlen : (ys.map V.str).length ≤ sizeLine := by
    rw [List.length_map, g2.length_eq, ← hl]
    exact h16
  have q' := q
  rw [← sortS_uniq g2 g3] at q'
  refine wpAny_pure ⟨_, rfl, .ref h'.objs.size, upd H h'.objs.size (.lst (ys.map V.str)), I1.laid (t' := tk) (fun b u e => ?_) (Nat.le_refl _)
    (show ObjOk X.prog X.w _ _ _ (.lst (ys.map V.str)) from ⟨hlen, ((PyProof.Rows.arrOf st').map (·.2)).toList, e', vals_of_strs g1, by rw [Array.toArray_toList]; exact he'⟩), rfl, q' _ (I1.hok.fresh (Nat.le_refl _))⟩
  have hb : b < h'.objs.size := Heap.lt_size e
  rw [PyProof.Rows.sortedHeap_old (Nat.ne_of_lt hb) (by rw [PyProof.Rows.size_push']; exact Nat.lt_succ_of_lt hb)]
  exact Heap.get?_push_of_some _ e
/-- list(d.keys()), list(d.values()) -/
theorem call_listKV (hc : X.calm = true) : CallR X (.type "list") (fun xs H Q => ∃ (a d : Addr) (kvs : List (Key × V)), xs = [.ref a] ∧ H a = some (VwO "dict_keys" d a) ∧ Rd H d (.dK kvs) ∧ ∀ q, H q = none → Q (.ref q) (upd H q (.lst (kvs.map fun kv => kV kv.1)))) := by
  intro pins s σ H xs us Q I r h
  obtain ⟨v, p, kvs, e, hv, hk, q⟩ := h
  subst e
  obtain ⟨u, eu, rx⟩ := vals1 r
  subst eu
  obtain rfl : u = Value.ref v := rx
  obtain ⟨hview, _, _⟩ := (show ObjOk X.prog X.w H s.heap v (VwO "dict_keys" p v) from I.hok v _ hv)
  obtain ⟨z, lo, vs, rk, hd⟩ := dk_rd I.hok hk
  obtain ⟨ep, hat⟩ := hd.dictAt
  have hl : kvs.length = vs.length := Paired.length rk
  refine PySem.W.kdl_call (PySem.W.kdl_keys (r := v) (d := p) (knd := mixKind X.prog X.w) (kvs := vs) (ep := ep)) (I.ok.hd hc) ⟨⟨_, hview, rfl, rfl⟩, hat⟩ (by rw [← hl]; exact z) fun h' tk acc' c' hkeep hS hacc => ?_
  refine ⟨.ref s.heap.objs.size, upd H s.heap.objs.size (.lst (kvs.map fun kv => kV kv.1)), I.laid hkeep (Nat.le_refl _) (show ObjOk X.prog X.w _ _ _ (.lst (kvs.map fun kv => kV kv.1)) from ⟨?_, acc'.toList, c', ?_, ?_⟩), rfl, q _ (I.hok.fresh (Nat.le_refl _))⟩
  · rw [List.length_map]; exact z
  · have el : acc'.toList.length = acc'.size := by simp
    refine vals_of_at (by rw [List.length_map, el, hacc.1, hl]) fun j x w h1 h2 => ?_
    obtain ⟨k, y, hky, hi⟩ := hacc.2 j w (by rw [← Array.getElem?_toList]; exact h2)
    have e1 : (kvs.map (·.1))[j]? = some k := by
      rw [KV.keys rk, List.getElem?_map, hky] <;> rfl
    have e2 : (kvs.map fun kv => kV kv.1)[j]? = some (kV k) := by
      have e3 : (kvs.map fun kv => kV kv.1) = (kvs.map (·.1)).map kV := by rw [List.map_map] <;> rfl
      rw [e3, List.getElem?_map, e1] <;> rfl
    rw [e2] at h1
    cases h1
    exact keyIs_rel hi
  · rw [Array.toArray_toList]; exact hS
theorem call_listVV (hc : X.calm = true) : CallR X (.type "list") (fun xs H Q => ∃ (a d : Addr) (kvs : List (Key × V)), xs = [.ref a] ∧ H a = some (VwO "dict_values" d a) ∧ Rd H d (.dK kvs) ∧ ∀ q, H q = none → Q (.ref q) (upd H q (.lst (kvs.map fun kv => kv.2)))) := by
  intro pins s σ H xs us Q I r h
  obtain ⟨v, p, kvs, e, hv, hk, q⟩ := h
  subst e
  obtain ⟨u, eu, rx⟩ := vals1 r
  subst eu
  obtain rfl : u = Value.ref v := rx
  obtain ⟨hview, _, _⟩ := (show ObjOk X.prog X.w H s.heap v (VwO "dict_values" p v) from I.hok v _ hv)
  obtain ⟨z, lo, vs, rk, hd⟩ := dk_rd I.hok hk
  obtain ⟨ep, hat⟩ := hd.dictAt
  have hl : kvs.length = vs.length := Paired.length rk
  refine PySem.W.kdl_call (PySem.W.kdl_values (r := v) (d := p) (knd := mixKind X.prog X.w) (kvs := vs) (ep := ep)) (I.ok.hd hc) ⟨⟨_, hview, rfl, rfl⟩, hat⟩ (by rw [← hl]; exact z) fun h' tk acc' c' hkeep hS hacc => ?_
  refine ⟨.ref s.heap.objs.size, upd H s.heap.objs.size (.lst (kvs.map fun kv => kv.2)), I.laid hkeep (Nat.le_refl _) (show ObjOk X.prog X.w _ _ _ (.lst (kvs.map fun kv => kv.2)) from ⟨?_, acc'.toList, c', ?_, ?_⟩), rfl, q _ (I.hok.fresh (Nat.le_refl _))⟩
  · rw [List.length_map]; exact z
  · have el : acc'.toList.length = acc'.size := by simp
    refine vals_of_at (by rw [List.length_map, el, hacc.1, hl]) fun j x w h1 h2 => ?_
    obtain ⟨k, hky⟩ := hacc.2 j w (by rw [← Array.getElem?_toList]; exact h2)
    rw [List.getElem?_map] at h1
    cases e1 : kvs[j]? with
    | none => rw [e1] at h1; cases h1
    | some kv =>
      rw [e1] at h1
      cases h1
      obtain ⟨q, hq1, hq2⟩ := paired_get rk e1
      rw [hky] at hq1
      cases hq1
      exact hq2.2
  · rw [Array.toArray_toList]; exact hS
end
end Nw
set_option Elab.async false
set_option linter.all false
set_option maxRecDepth 100000
set_option maxHeartbeats 4000000
/-! Part U: their readings on plain data. -/
namespace Nw
open PySem PySem.Spec L2
def txtKeys : List (Key × D) → Option (List Str)
  | [] => some []
  | (.inr x, _) :: r => (txtKeys r).map fun l => x :: l
  | _ :: _ => none
theorem txtKeys_some : ∀ {kvs : List (Key × D)} {ks : List Str}, txtKeys kvs = some ks → kvs.map (·.1) = ks.map Sum.inr
  | [], ks, h => by cases h; rfl
  | (.inl i, d) :: r, ks, h => by cases h
  | (.inr x, d) :: r, ks, h => by
    have h : (txtKeys r).map (fun l => x :: l) = some ks := h
    cases e : txtKeys r with
    | none => rw [e] at h; cases h
    | some l => rw [e] at h; cases h; rw [List.map_cons, List.map_cons, txtKeys_some e]
def sortKD : D → Option D
  | .tab kvs => (txtKeys kvs).map fun ks => .row ((sortS ks).map D.str)
  | _ => none
def listKD : D → Option D
  | .tab kvs => some (.row (kvs.map fun kv => kD kv.1))
  | _ => none
def listVD : D → Option D
  | .tab kvs => some (.row (kvs.map fun kv => kv.2))
  | _ => none
section
variable {X : Cx} {R : Reg} {W : WX} {O : List Nat} {a e o : Expr} {es : List Expr} {f g : Sl → M R.S D} {fs : Sl → M R.S (List D)} {pos p apos cpos : Pos} {n : Nat}
theorem reps_strs {K : PySem.W.Frag} {nm : Nat → Option Addr} {F : Hp} (l : List Str) (h : ∀ x ∈ l, x.length ≤ sizeLine) : Reps K nm F (l.map D.str) (l.map V.str) := reps_map l fun x hx => ⟨rfl, h x hx⟩
/-- the table, its view -/
theorem sat_view {r : List V → Hp → VK → Prop} {T : String} {op : D → Option D} (hK : R.K = X.K) (ht : ∀ d d', op d = some d' → ∃ kvs, d = .tab kvs)
    (hs : ∀ (v d : Addr) (kvs : List (Key × D)) (ws : List (Key × V)) (d' : D) (F H : Hp) (s : R.S) (Q : VK), Wd R F H s → H v = some (VwO T d v) → F d = some (.dK ws) → Rd H d (.dK ws) → kvs.length ≤ sizeLine → RepsK R.K R.nm F kvs ws → op (.tab kvs) = some d' → (∀ v F' H', Wd R F' H' s → Stp R F H F' H' → Rep R.K R.nm F' d' v → Q v H') → r [.ref v] H Q)
    (σ : L2.St) (H : Hp) (Q : VK) (h : tD R W O (dUn op f) σ H Q) : tCB r (tCons (tBW0 X.K "dict" (rView T) (tD R W O f)) tNil) σ H Q := by
  obtain ⟨F, ρ, s, w, pu, p⟩ := h
  refine ⟨F, ρ, s, w, pu, p.bnd.imp (fun d s1 F1 H1 w1 st1 p1 v rv => ?_) fun _ _ _ _ _ _ z => z⟩
  obtain ⟨d', e', k⟩ := p1.lift
  obtain ⟨kvs, rfl⟩ := ht d d' e'
  obtain ⟨a, ws, rfl, h1, h2, h3⟩ := rv
  have hr : Rd H1 a (.dK ws) := w1.sub.dK h1
  refine ⟨.inr ⟨rfl, a, ws, rfl, hr⟩, a, ws, rfl, rfl, hr, fun q hq => ?_⟩
  have st2 : Stp R F1 H1 F1 (upd H1 q (VwO T a q)) := Stp.newH _ hq
  have w2 : Wd R F1 (upd H1 q (VwO T a q)) s1 := w1.newH _ hq
  exact hs q a kvs ws d' F1 _ s1 Q w2 upd_same h1 (w2.sub.dK h1) h2 h3 e' fun v' F' H' w' st' r' => k F' H' w' (st2.trans st') v' r'
theorem tab_of {β : Type} {op : D → Option β} (h : ∀ d, (∀ kvs, d ≠ .tab kvs) → op d = none) (d : D) (d' : β) (e : op d = some d') : ∃ kvs, d = .tab kvs := by
  have hh := h d
  cases d
  case tab kvs => exact ⟨kvs, rfl⟩
  all_goals (rw [hh (by intro _ z; cases z)] at e; cases e)
theorem de_sortedK (c : Cxt X R W n) (hg : Gl X "sorted") (hm : X.mg "sorted" = none) (ho : PE X o (tD R W O f)) (hbase : attributeBase o "keys" X.env (eval o X.env) = eval o X.env := by rfl) (hline : (apos.endLine == cpos.line) = true := by rfl)
    (he : starEach [.Call (.Attribute o "keys" apos) [] [] cpos] X.env = (false, eval (.Call (.Attribute o "keys" apos) [] [] cpos) X.env) :: starEach [] X.env := by rfl) (hpl : (backTo pos (starEach [] X.env)).any (·.1) = false := by rfl) :
    PE X (.Call (.Name "sorted" p) [.Call (.Attribute o "keys" apos) [] [] cpos] [] pos) (tD R W O (dUn sortKD f)) :=
  pe_imp (pe_callB (call_sortedV c.calm) hg hm (by decide +kernel) (pa_cons (pe_bw0 PySem.F.plainAttrs_dict PySem.F.slot_dict_keys PySem.F.type_dict_keys mt_keysV ho hbase hline) pa_nil he) (by decide) (by decide) he hpl)
    (sat_view c.hK (tab_of fun d hd => by cases d <;> first | rfl | exact absurd rfl (hd _)) fun v d kvs ws d' F H s Q w hv hF hd hz rk e k => by
      have e : (txtKeys kvs).map (fun ks => D.row ((sortS ks).map D.str)) = some d' := e
      cases ek : txtKeys kvs with
      | none => rw [ek] at e; cases e
      | some ks =>
        rw [ek] at e
        cases e
        have hks := txtKeys_some ek
        have hlen : ks.length = kvs.length := by
          have := congrArg List.length hks
          rw [List.length_map, List.length_map] at this
          exact this.symm
        refine ⟨v, d, ws, ks, rfl, hv, hd, by rw [rk.keys]; exact hks, fun q hq => new_row w ?_ (reps_strs (sortS ks) fun x hx => ?_) hq k⟩
        · rw [List.length_map, (sortS_perm ks).length_eq, hlen]; exact hz
        · have hx2 := (sortS_perm ks).mem_iff.mp hx
          have hx3 : (Sum.inr x : Key) ∈ kvs.map (·.1) := by rw [hks]; exact List.mem_map_of_mem hx2
          obtain ⟨p, hp1, hp2⟩ := List.mem_map.mp hx3
          have hp3 := rk.kok p hp1
          rw [hp2] at hp3
          exact hp3)
theorem reps_kD {K : PySem.W.Frag} {nm : Nat → Option Addr} {F : Hp} : ∀ {kvs : List (Key × D)} {ws : List (Key × V)}, RepsK K nm F kvs ws → Reps K nm F (kvs.map fun kv => kD kv.1) (ws.map fun kv => kV kv.1)
  | [], ws, r => by rw [show ws = [] from r]; rfl
  | (k, d) :: kvs, ws, r => by
    obtain ⟨v, ws', rfl, hk, _, h2⟩ := r
    exact ⟨_, _, rfl, rep_key hk, reps_kD h2⟩
theorem de_listK (c : Cxt X R W n) (hg : Gl X "list") (hm : X.mg "list" = none) (ho : PE X o (tD R W O f)) (hbase : attributeBase o "keys" X.env (eval o X.env) = eval o X.env := by rfl) (hline : (apos.endLine == cpos.line) = true := by rfl)
    (he : starEach [.Call (.Attribute o "keys" apos) [] [] cpos] X.env = (false, eval (.Call (.Attribute o "keys" apos) [] [] cpos) X.env) :: starEach [] X.env := by rfl) (hpl : (backTo pos (starEach [] X.env)).any (·.1) = false := by rfl) :
    PE X (.Call (.Name "list" p) [.Call (.Attribute o "keys" apos) [] [] cpos] [] pos) (tD R W O (dUn listKD f)) :=
  pe_imp (pe_callTy (call_listKV c.calm) hg hm (by decide +kernel) (pa_cons (pe_bw0 PySem.F.plainAttrs_dict PySem.F.slot_dict_keys PySem.F.type_dict_keys mt_keysV ho hbase hline) pa_nil he) (by decide) (by decide) he hpl)
    (sat_view c.hK (tab_of fun d hd => by cases d <;> first | rfl | exact absurd rfl (hd _)) fun v d kvs ws d' F H s Q w hv hF hd hz rk e k => by
      cases e
      exact ⟨v, d, ws, rfl, hv, hd, fun q hq => new_row w (by rw [List.length_map]; exact hz) (reps_kD rk) hq k⟩)
theorem de_listV (c : Cxt X R W n) (hg : Gl X "list") (hm : X.mg "list" = none) (ho : PE X o (tD R W O f)) (hbase : attributeBase o "values" X.env (eval o X.env) = eval o X.env := by rfl) (hline : (apos.endLine == cpos.line) = true := by rfl)
    (he : starEach [.Call (.Attribute o "values" apos) [] [] cpos] X.env = (false, eval (.Call (.Attribute o "values" apos) [] [] cpos) X.env) :: starEach [] X.env := by rfl) (hpl : (backTo pos (starEach [] X.env)).any (·.1) = false := by rfl) :
    PE X (.Call (.Name "list" p) [.Call (.Attribute o "values" apos) [] [] cpos] [] pos) (tD R W O (dUn listVD f)) :=
  pe_imp (pe_callTy (call_listVV c.calm) hg hm (by decide +kernel) (pa_cons (pe_bw0 PySem.F.plainAttrs_dict PySem.F.slot_dict_values PySem.F.type_dict_values mt_valsV ho hbase hline) pa_nil he) (by decide) (by decide) he hpl)
    (sat_view c.hK (tab_of fun d hd => by cases d <;> first | rfl | exact absurd rfl (hd _)) fun v d kvs ws d' F H s Q w hv hF hd hz rk e k => by
      cases e
      exact ⟨v, d, ws, rfl, hv, hd, fun q hq => new_row w (by rw [List.length_map]; exact hz) rk.vals hq k⟩)
/-! ### count, index of flat things -/
/-- a flat thing as a value -/
def flD : D → Option V
  | .non => some .non
  | .bl b => some (.bl b)
  | .int i => some (.int i)
  | .str x => some (.str x)
  | _ => none
theorem flD_flat {d : D} {v : V} (h : flD d = some v) : flatV v = true := by
  cases d <;> cases h <;> rfl
theorem flD_rep {K : PySem.W.Frag} {nm : Nat → Option Addr} {F : Hp} {d : D} {v u : V} (r : Rep K nm F d u) (h : flD d = some v) : u = v := by
  cases d <;> cases h
  · exact r
  · exact r
  · exact r
  · exact r.1
def flsD : List D → Option (List V)
  | [] => some []
  | d :: r => (flD d).bind fun v => (flsD r).map fun l => v :: l
theorem flsD_rep {K : PySem.W.Frag} {nm : Nat → Option Addr} {F : Hp} : ∀ {ds : List D} {vs us : List V}, Reps K nm F ds us → flsD ds = some vs → us = vs ∧ vs.all flatV = true
  | [], vs, us, r, h => by cases h; exact ⟨r, rfl⟩
  | d :: ds, vs, us, r, h => by
    obtain ⟨u, us', rfl, r1, r2⟩ := r
    have h : (flD d).bind (fun v => (flsD ds).map fun l => v :: l) = some vs := h
    cases e1 : flD d with
    | none => rw [e1] at h; cases h
    | some v =>
      rw [e1] at h
      have h : (flsD ds).map (fun l => v :: l) = some vs := h
      cases e2 : flsD ds with
      | none => rw [e2] at h; cases h
      | some l =>
        rw [e2] at h
        cases h
        obtain ⟨h1, h2⟩ := flsD_rep r2 e2
        rw [h1, flD_rep r1 e1]
        exact ⟨rfl, by rw [List.all_cons, flD_flat e1, h2]; rfl⟩
def rCount (K : PySem.W.Frag) : V → List V → Hp → VK → Prop := fun x xs H Q => ∃ (a : Addr) (ys : List V) (y : V), x = V.ref a ∧ xs = [y] ∧ SqL K H a ys ∧ flatV y = true ∧ ys.all flatV = true ∧ Q (.int (ys.countP (eqV · y) : Nat)) H
theorem count_eqU {y : V} : ∀ {ys : List V} {us : List Value}, Vals ys us → ys.all flatV = true → us.countP (eqU y) = ys.countP (eqV · y)
  | _, _, .nil, _ => rfl
  | z :: ys, u :: us, .cons r t, h => by
    obtain ⟨h1, h2⟩ := Bool.and_eq_true_iff.mp (show (flatV z && ys.all flatV) = true from h)
    rw [List.countP_cons, List.countP_cons, count_eqU t h2, eqU_of r h1]
theorem mt_count : MtR X "list.count" (rCount X.K) := by
  intro pins s σ H x xs v us Q I rx rxs h
  obtain ⟨a, ys, y, rfl, rfl, hs, fy, fys, q⟩ := h
  cases rx
  cases rxs with
  | cons ry rt =>
    rename_i uy ut
    cases rt
    obtain ⟨its, rv, ⟨⟨cls, dd, data, sl⟩, n, ho, hc, hdn, hd⟩, hlen⟩ := I.list hs
    simp only at hc hd
    subst hc hd
    refine call_meets PySem.F.slot_list_count ⟨_, ho, rfl⟩ PySem.F.entry_list_count (PySem.F.args_list_count_2 _ _)
      (SeqAt.list_countAt a its.toArray n dd sl uy (eqU y)) ⟨ho, fun u' hu' => mem_eqAt ry fy rv fys u' (by simpa using hu'), ?_⟩
    have ec : its.toArray.toList.countP (eqU y) = ys.countP (eqV · y) := count_eqU rv fys
    refine ⟨.int (ys.countP (eqV · y) : Nat), H, I.tok _, ⟨s.toks, ?_⟩, q⟩
    show Value.int ((its.toArray.toList.countP (eqU y) : Nat) : Int) s.toks = _
    rw [ec]
def countD : D → List D → Option D
  | .row ds, [d] => (flsD ds).bind fun vs => (flD d).map fun v => .int (vs.countP (eqV · v) : Nat)
  | .kro ds, [d] => (flsD ds).bind fun vs => (flD d).map fun v => .int (vs.countP (eqV · v) : Nat)
  | _, _ => none
def indexD : D → List D → Option D
  | .row ds, [d] => (flsD ds).bind fun vs => (flD d).bind fun v => (vs.findIdx? (eqV · v)).map fun i => .int (i : Nat)
  | .kro ds, [d] => (flsD ds).bind fun vs => (flD d).bind fun v => (vs.findIdx? (eqV · v)).map fun i => .int (i : Nat)
  | _, _ => none
theorem bind_some {α β : Type} {o : Option α} {k : α → Option β} {b : β} (h : o.bind k = some b) : ∃ a, o = some a ∧ k a = some b := by
  cases o with
  | none => cases h
  | some a => exact ⟨a, rfl, h⟩
theorem map_some {α β : Type} {o : Option α} {k : α → β} {b : β} (h : o.map k = some b) : ∃ a, o = some a ∧ k a = b := by
  cases o with
  | none => cases h
  | some a => exact ⟨a, rfl, Option.some.inj h⟩
theorem sat_seqF {op : D → List D → Option D} {r : V → List V → Hp → VK → Prop} (g : List V → V → Option D)
    (hop : ∀ d ds d', op d ds = some d' → ∃ es x vs v, (d = .row es ∨ d = .kro es) ∧ ds = [x] ∧ flsD es = some vs ∧ flD x = some v ∧ g vs v = some d')
    (hr : ∀ (a : Addr) (ys : List V) (y : V) (d' : D) (F H : Hp) (s : R.S) (Q : VK), Wd R F H s → SqL R.K H a ys → flatV y = true → ys.all flatV = true → g ys y = some d' → (∀ v F' H', Wd R F' H' s → Stp R F H F' H' → Rep R.K R.nm F' d' v → Q v H') → r (.ref a) [y] H Q) : MtSat R r op := fun x xs d ds d' F H s Q w rx rs e k => by
  obtain ⟨es, x', vs, v, hd, rfl, h1, h2, h3⟩ := hop d ds d' e
  obtain ⟨y, ws, rfl, ry, e2⟩ := rs
  rw [show ws = [] from e2]
  have ey := flD_rep ry h2
  subst ey
  rcases hd with rfl | rfl
  · obtain ⟨a, us, rfl, hF, _, ru⟩ := rx
    obtain ⟨rfl, hf⟩ := flsD_rep ru h1
    exact hr a us y d' F H s Q w (SqL.of (w.sub.lst hF)) (flD_flat h2) hf h3 k
  · obtain ⟨a, us, rfl, hF, _, ru⟩ := rx
    obtain ⟨rfl, hf⟩ := flsD_rep ru h1
    exact hr a us y d' F H s Q w (w.sub.sqL hF) (flD_flat h2) hf h3 k
theorem sat_count : MtSat R (rCount R.K) countD := sat_seqF (fun vs v => some (.int (vs.countP (eqV · v) : Nat))) (fun d ds d' e => by
    unfold countD at e
    split at e
    · obtain ⟨vs, h1, e⟩ := bind_some e
      obtain ⟨v, h2, e⟩ := map_some e
      exact ⟨_, _, vs, v, .inl rfl, rfl, h1, h2, congrArg some e⟩
    · obtain ⟨vs, h1, e⟩ := bind_some e
      obtain ⟨v, h2, e⟩ := map_some e
      exact ⟨_, _, vs, v, .inr rfl, rfl, h1, h2, congrArg some e⟩
    · cases e)
  fun a ys y d' F H s Q w hs f1 f2 e k => by
    cases e
    exact ⟨a, ys, y, rfl, rfl, hs, f1, f2, k _ F H w Stp.refl rfl⟩
theorem sat_index : MtSat R (rIndex R.K) indexD := sat_seqF (fun vs v => (vs.findIdx? (eqV · v)).map fun i => .int (i : Nat)) (fun d ds d' e => by
    unfold indexD at e
    split at e
    · obtain ⟨vs, h1, e⟩ := bind_some e
      obtain ⟨v, h2, e⟩ := bind_some e
      exact ⟨_, _, vs, v, .inl rfl, rfl, h1, h2, e⟩
    · obtain ⟨vs, h1, e⟩ := bind_some e
      obtain ⟨v, h2, e⟩ := bind_some e
      exact ⟨_, _, vs, v, .inr rfl, rfl, h1, h2, e⟩
    · cases e)
  fun a ys y d' F H s Q w hs f1 f2 e k => by
    obtain ⟨i, e1, rfl⟩ := map_some e
    obtain ⟨hi, h2, h3⟩ := List.findIdx?_eq_some_iff_getElem.mp e1
    refine ⟨a, ys, y, i, ys[i], rfl, rfl, hs, f1, f2, List.getElem?_eq_getElem hi, h2, fun m z' hm hz => ?_, k _ F H w Stp.refl rfl⟩
    have hm2 : m < ys.length := by omega
    rw [List.getElem?_eq_getElem hm2] at hz
    cases hz
    have := h3 m hm
    simpa using this
theorem de_count (c : Cxt X R W n) (ho : PE X o (tD R W O f)) (ha : PA X [e] (tDA R W O fs))
    (hbase : attributeBase o "count" X.env (eval o X.env) = eval o X.env := by rfl)
    (hfew : ((backTo cpos (starEach [e] X.env)).all (fun x => !x.1) && (backToKw cpos (keywordEach [] X.env)).all (fun x => x.1.isSome)
      && decide (([e] : List Expr).length + ([] : List Keyword).length + (if ([] : List Keyword).isEmpty then 0 else 1) < 30)) = true := by rfl)
    (hline : (apos.endLine == cpos.line) = true := by rfl) (hst : starEach [e] X.env = (false, eval e X.env) :: starEach [] X.env := by rfl) (hplain : (backTo cpos (starEach [] X.env)).any (·.1) = false := by rfl) :
    PE X (.Call (.Attribute o "count" apos) [e] [] cpos) (tD R W O (dMt "list" countD f fs)) := de_mt PySem.F.plainAttrs_list PySem.F.slot_list_count PySem.F.type_list_count mt_count c.hK (by rw [← c.hK]; exact sat_count) ho ha hbase hfew hline hst hplain
theorem de_index (c : Cxt X R W n) (ho : PE X o (tD R W O f)) (ha : PA X [e] (tDA R W O fs))
    (hbase : attributeBase o "index" X.env (eval o X.env) = eval o X.env := by rfl)
    (hfew : ((backTo cpos (starEach [e] X.env)).all (fun x => !x.1) && (backToKw cpos (keywordEach [] X.env)).all (fun x => x.1.isSome)
      && decide (([e] : List Expr).length + ([] : List Keyword).length + (if ([] : List Keyword).isEmpty then 0 else 1) < 30)) = true := by rfl)
    (hline : (apos.endLine == cpos.line) = true := by rfl) (hst : starEach [e] X.env = (false, eval e X.env) :: starEach [] X.env := by rfl) (hplain : (backTo cpos (starEach [] X.env)).any (·.1) = false := by rfl) :
    PE X (.Call (.Attribute o "index" apos) [e] [] cpos) (tD R W O (dMt "list" indexD f fs)) := de_mt PySem.F.plainAttrs_list PySem.F.slot_list_index PySem.F.type_list_index mt_index c.hK (by rw [← c.hK]; exact sat_index) ho ha hbase hfew hline hst hplain
end
end Nw
set_option Elab.async false
set_option linter.all false
set_option maxRecDepth 100000
set_option maxHeartbeats 4000000
/-! Part V: new things, a def's own things. -/
namespace Nw
open PySem PySem.Spec L2
def tDF (R : Reg) (W : WX) (O : List Nat) (f : Sl → M R.S D) : TE := fun σ H Q => ∃ F r s, Wd R F H s ∧ Pu R O F σ r ∧ Post R F H (f r s) (fun d _ F' H' => ∀ v, Fre R H F' H' d v → Q v H') (fun x _ F' H' => ∀ cls dd, RepX R.K R.nm F' x cls dd → W cls dd σ H')
def scalD : D → Option D
  | .non => some .non
  | .bl b => some (.bl b)
  | .int i => some (.int i)
  | .str x => some (.str x)
  | .tup xs => some (.tup xs)
  | _ => none
def putD (kvs : List (Key × D)) (k : Key) (d : D) : List (Key × D) := if (kvs.any fun kv => decide (kv.1 = k)) = true then kvs.map (fun kv => if kv.1 = k then (kv.1, d) else kv) else kvs ++ [(k, d)]
def mergeD (kvs more : List (Key × D)) : List (Key × D) := more.foldl (fun acc kv => putD acc kv.1 kv.2) kvs
def pairsD : List D → Option (List (Key × D))
  | [] => some []
  | k :: v :: r => (keyD k).bind fun k => (pairsD r).map fun l => (k, v) :: l
  | _ => none
def dispD (ds : List D) : Option D := (pairsD ds).map fun kvs => .tab (mergeD [] kvs)
section
variable {K : PySem.W.Frag} {nm : Nat → Option Addr} {F : Hp}
theorem repsK_any (k : Key) : ∀ {kvs : List (Key × D)} {ws : List (Key × V)}, RepsK K nm F kvs ws → (kvs.any fun kv => decide (kv.1 = k)) = (ws.any fun kv => decide (kv.1 = k))
  | [], ws, r => by rw [show ws = [] from r]; rfl
  | (j, d) :: kvs, ws, r => by
    obtain ⟨v, ws', rfl, _, _, h2⟩ := r
    rw [List.any_cons, List.any_cons, repsK_any k h2]
theorem repsK_map (k : Key) {d : D} {v : V} (rd : Rep K nm F d v) : ∀ {kvs : List (Key × D)} {ws : List (Key × V)}, RepsK K nm F kvs ws → RepsK K nm F (kvs.map fun kv => if kv.1 = k then (kv.1, d) else kv) (ws.map fun kv => if kv.1 = k then (kv.1, v) else kv)
  | [], ws, r => by rw [show ws = [] from r]; rfl
  | (j, e) :: kvs, ws, r => by
    obtain ⟨u, ws', rfl, h0, h1, h2⟩ := r
    rw [List.map_cons, List.map_cons]
    by_cases h : j = k
    · rw [if_pos h, if_pos h]; exact ⟨v, _, rfl, h0, rd, repsK_map k rd h2⟩
    · rw [if_neg h, if_neg h]; exact ⟨u, _, rfl, h0, h1, repsK_map k rd h2⟩
theorem RepsK.append : ∀ {kvs more : List (Key × D)} {ws vs : List (Key × V)}, RepsK K nm F kvs ws → RepsK K nm F more vs → RepsK K nm F (kvs ++ more) (ws ++ vs)
  | [], more, ws, vs, r, q => by rw [show ws = [] from r]; exact q
  | (k, d) :: kvs, more, ws, vs, r, q => by
    obtain ⟨u, ws', rfl, h0, h1, h2⟩ := r
    exact ⟨u, _, rfl, h0, h1, h2.append q⟩
theorem RepsK.put {kvs : List (Key × D)} {ws : List (Key × V)} (r : RepsK K nm F kvs ws) {k : Key} (hk : kOk k) {d : D} {v : V} (rd : Rep K nm F d v) : RepsK K nm F (putD kvs k d) (putK ws k v) := by
  unfold putD putK
  rw [repsK_any k r]
  split
  · exact repsK_map k rd r
  · exact r.append ⟨v, [], rfl, hk, rd, rfl⟩
theorem RepsK.merge : ∀ {more kvs : List (Key × D)} {vs ws : List (Key × V)}, RepsK K nm F kvs ws → RepsK K nm F more vs → RepsK K nm F (mergeD kvs more) (mergeK ws vs)
  | [], kvs, vs, ws, r, q => by rw [show vs = [] from q]; exact r
  | (k, d) :: more, kvs, vs, ws, r, q => by
    obtain ⟨u, vs', rfl, h0, h1, h2⟩ := q
    show RepsK K nm F (mergeD (putD kvs k d) more) (mergeK (putK ws k u) vs')
    exact RepsK.merge (r.put h0 h1) h2
theorem putD_length (kvs : List (Key × D)) (k : Key) (d : D) : (putD kvs k d).length ≤ kvs.length + 1 := by
  unfold putD
  split
  · rw [List.length_map]; omega
  · rw [List.length_append]; exact Nat.le_refl _
theorem mergeD_length : ∀ (more kvs : List (Key × D)), (mergeD kvs more).length ≤ kvs.length + more.length
  | [], kvs => by show kvs.length ≤ kvs.length + 0; omega
  | p :: r, kvs => by
    have h1 := mergeD_length r (putD kvs p.1 p.2)
    have h2 := putD_length kvs p.1 p.2
    show (mergeD (putD kvs p.1 p.2) r).length ≤ _
    rw [List.length_cons]; omega
theorem keyD_ok {d : D} {v : V} {k : Key} (r : Rep K nm F d v) (h : keyD d = some k) : v = kV k ∧ kOk k := by
  cases d <;> try cases h
  · exact ⟨r, trivial⟩
  · exact ⟨r.1, r.2⟩
end
section
variable {R : Reg} {F H F0 H0 : Hp} {s : R.S}
theorem fre_row {ds : List D} {vs : List V} {p : Addr} (w : Wd R F H s) (st : Stp R F0 H0 F H) (hp : H p = none) (hz : ds.length ≤ sizeLine) (r : Reps R.K R.nm F ds vs) : Wd R F (upd H p (.lst vs)) s ∧ Stp R F0 H0 F (upd H p (.lst vs)) ∧ Fre R H0 F (upd H p (.lst vs)) (.row ds) (.ref p) :=
  ⟨w.newH _ hp, st.trans (Stp.newH _ hp), p, rfl, st.th p hp, w.free hp, w.notMu hp, vs, upd_same, hz, r⟩
theorem fre_tab {ds : List (Key × D)} {vs : List (Key × V)} {p : Addr} (w : Wd R F H s) (st : Stp R F0 H0 F H) (hp : H p = none) (hz : ds.length ≤ sizeLine) (r : RepsK R.K R.nm F ds vs) : Wd R F (upd H p (.dK vs)) s ∧ Stp R F0 H0 F (upd H p (.dK vs)) ∧ Fre R H0 F (upd H p (.dK vs)) (.tab ds) (.ref p) :=
  ⟨w.newH _ hp, st.trans (Stp.newH _ hp), p, rfl, st.th p hp, w.free hp, w.notMu hp, vs, upd_same, hz, r⟩
end
section
variable {X : Cx} {R : Reg} {W : WX} {fr : FrK} {O O' B : List Nat} {a b e o tg iter : Expr} {es : List Expr} {f g : Sl → M R.S D} {c : Sl → M R.S Bool} {fs : Sl → M R.S (List D)} {pos p apos cpos : Pos} {n : Nat}
/-- a new thing, given out -/
theorem de_give (h : PE X e (tDF R W O f)) : PE X e (tD R W O f) := pe_imp h fun σ H Q h => by
  obtain ⟨F, r, s, w, pu, p⟩ := h
  refine ⟨F, r, s, w, pu, ?_⟩
  cases ef : f r s with
  | ok d s' =>
    rw [ef] at p
    intro F' H' w' st' v fv
    obtain ⟨G, wG, stG, rG⟩ := fv.give w' st'
    exact p G H' wG stG v rG
  | exc x s' => rw [ef] at p; exact p
  | bot => rw [ef] at p; exact p
theorem df_scal (h : PE X e (tD R W O f)) : PE X e (tDF R W O (dUn scalD f)) := pe_imp h fun σ H Q h => by
  obtain ⟨F, r, s, w, pu, p⟩ := h
  refine ⟨F, r, s, w, pu, p.bnd.imp (fun d s1 F1 H1 w1 st1 p1 v rv => ?_) fun _ _ _ _ _ _ z => z⟩
  obtain ⟨d', e', k⟩ := p1.lift
  cases d <;> cases e' <;> exact k F1 H1 w1 Stp.refl v rv
theorem df_lst (h : PA X es (tDA R W O fs)) : PE X (.List es pos) (tDF R W O (dAll rowD fs)) := pe_imp (pe_lst h) fun σ H Q h => by
  obtain ⟨F, ρ, s, w, pu, p⟩ := h
  refine ⟨F, ρ, s, w, pu, p.bnd.imp (fun ds s1 F1 H1 w1 st1 p1 vs rvs => ?_) fun _ _ _ _ _ _ z => z⟩
  obtain ⟨d, ed, k⟩ := p1.lift
  obtain ⟨hz, rfl⟩ := rowD_some ed
  refine ⟨by rw [rvs.length]; exact hz, fun q hq => ?_⟩
  obtain ⟨h1, h2, h3⟩ := fre_row w1 st1 hq hz rvs
  exact k F1 _ h1 (Stp.newH _ hq) _ h3
theorem df_dict0 : PE X (.Dict [] [] pos) (tDF R W O (dC (.tab []))) := pe_imp pe_dnewK fun σ H Q h => by
  obtain ⟨F, ρ, s, w, pu, p⟩ := h
  intro q hq
  obtain ⟨h1, h2, h3⟩ := fre_tab (ds := []) (vs := []) w Stp.refl hq (Nat.zero_le _) rfl
  exact p F _ h1 h2 _ h3
theorem df_if {t : Expr} (hc : PT X t (tDT R W O c)) (ha : PE X a (tDF R W O f)) (hb : PE X b (tDF R W O g)) : PE X (.IfExp t a b pos) (tDF R W O (dIf c f g)) := pe_imp (pe_ifExp hc ha hb) fun σ H Q h => by
  obtain ⟨F, ρ, s, w, pu, p⟩ := h
  refine ⟨F, ρ, s, w, pu, p.bnd.imp (fun k s1 F1 H1 w1 st1 p1 => ?_) fun _ _ _ _ _ _ z => z⟩
  have go : ∀ m : M R.S D, Post R F1 H1 (m s1) (fun d x F' H' => ∀ v, Fre R H F' H' d v → Q v H') (fun x _ F' H' => ∀ cls dd, RepX R.K R.nm F' x cls dd → W cls dd σ H') → Post R F1 H1 (m s1) (fun d x F' H' => ∀ v, Fre R H1 F' H' d v → Q v H') (fun x _ F' H' => ∀ cls dd, RepX R.K R.nm F' x cls dd → W cls dd σ H') :=
    fun m q => q.imp (fun d s2 F2 H2 w2 st2 q v fv => q v (fv.base st1.th)) fun _ _ _ _ _ _ z => z
  cases k with
  | true => rw [if_pos rfl] at p1; exact iteT ⟨F1, ρ, s1, w1, pu.mono st1.fs, go _ p1⟩
  | false => rw [if_neg Bool.false_ne_true] at p1; exact iteF ⟨F1, ρ, s1, w1, pu.mono st1.fs, go _ p1⟩
/-! displays -/
def flatP : List (V × V) → List V
  | [] => []
  | p :: r => p.1 :: p.2 :: flatP r
def DPs (X : Cx) (R : Reg) (W : WX) (O : List Nat) (pos : Pos) (keys : List (Option Expr)) (values : List Expr) (fs : Sl → M R.S (List D)) : Prop :=
  ∃ trs, PPs X pos keys values trs ∧ ∀ σ H Q, tDA R W O fs σ H (fun vs H' => ∀ ps, flatP ps = vs → Q ps H') → tPairs trs σ H Q
theorem dps_nil : DPs X R W O pos [] [] dNil := ⟨[], pps_nil, fun σ H Q h => by
  obtain ⟨F, ρ, s, w, pu, p⟩ := h
  exact p F H w Stp.refl [] rfl [] rfl⟩
theorem dps_cons {ks : List (Option Expr)} {vs : List Expr} (ha : PE X a (tD R W O f)) (hb : PE X b (tD R W O g)) (hr : DPs X R W O pos ks vs fs) : DPs X R W O pos (some a :: ks) (b :: vs) (dCons f (dCons g fs)) := by
  obtain ⟨trs, h1, h2⟩ := hr
  refine ⟨_, pps_cons ha hb h1, fun σ H Q h => ?_⟩
  obtain ⟨F, ρ, s, w, pu, p⟩ := h
  refine ⟨F, ρ, s, w, pu, p.bnd.imp (fun d s1 F1 H1 w1 st1 p1 v rv => ?_) fun _ _ _ _ _ _ z => z⟩
  have p2 := p1.bnd.bnd
  refine ⟨F1, ρ, s1, w1, pu.mono st1.fs, p2.imp (fun e s2 F2 H2 w2 st2 p3 u ru => ?_) fun _ _ _ _ _ _ z => z⟩
  refine h2 σ H2 _ ⟨F2, ρ, s2, w2, (pu.mono st1.fs).mono st2.fs, p3.bnd.imp (fun ds s3 F3 H3 w3 st3 p4 ws rws ps ep => ?_) fun _ _ _ _ _ _ z => z⟩
  have p5 := p4 F3 H3 w3 Stp.refl
  have p6 := p5 F3 H3 w3 Stp.refl
  exact p6 (v :: u :: ws) ⟨v, u :: ws, rfl, (rv.mono st2.fs).mono st3.fs, u, ws, rfl, ru.mono st3.fs, rws⟩ ((v, u) :: ps) (by show v :: u :: flatP ps = _; rw [ep])
theorem pairs_rep : ∀ {ds : List D} {ps : List (V × V)} {kvs : List (Key × D)} {F : Hp}, Reps R.K R.nm F ds (flatP ps) → pairsD ds = some kvs → ∃ ws : List (Key × V), ps = ws.map (fun kv => (kV kv.1, kv.2)) ∧ RepsK R.K R.nm F kvs ws
  | [], ps, kvs, F, r, e => by
    cases e
    cases ps with
    | nil => exact ⟨[], rfl, rfl⟩
    | cons p ps => cases (show flatP (p :: ps) = [] from r)
  | [d], ps, kvs, F, r, e => by cases e
  | k :: v :: ds, ps, kvs, F, r, e => by
    obtain ⟨kk, e1, e⟩ := bind_some (show (keyD k).bind (fun k => (pairsD ds).map fun l => (k, v) :: l) = some kvs from e)
    obtain ⟨l, e2, rfl⟩ := map_some e
    cases ps with
    | nil => obtain ⟨_, _, z, _⟩ := r; cases z
    | cons p ps =>
      obtain ⟨x, xs, z, rx, y, ys, z2, ry, r2⟩ := r
      cases z
      cases z2
      obtain ⟨h1, h2⟩ := keyD_ok rx e1
      obtain ⟨ws, h3, h4⟩ := pairs_rep r2 e2
      refine ⟨(kk, p.2) :: ws, ?_, p.2, ws, rfl, h2, ry, h4⟩
      rw [List.map_cons, ← h3, ← h1]
theorem df_disp {keys : List (Option Expr)} {values : List Expr} (h : DPs X R W O pos keys values fs) (hall : keys.all (·.isSome) = true) (hl : keys.length = values.length) (h0 : keys ≠ []) (h15 : keys.length ≤ 15) (hds : ∀ r s ds s', fs r s = .ok ds s' → ds.length ≤ 30) :
    PE X (.Dict keys values pos) (tDF R W O (dAll dispD fs)) := by
  obtain ⟨trs, h1, h2⟩ := h
  refine pe_imp (pe_disp h1 hall hl h0 h15) fun σ H Q h => ?_
  obtain ⟨F, ρ, s, w, pu, p⟩ := h
  intro q hq
  have st0 : Stp R F H F (upd H q (.dK [])) := Stp.newH _ hq
  have w0 : Wd R F (upd H q (.dK [])) s := w.newH _ hq
  have nm := w.notMu hq
  have fq := w.free hq
  have key : Post R F (upd H q (.dK [])) (fs ρ s) (fun vs s1 F' H' => ∀ us, Reps R.K R.nm F' vs us → ∀ ps, flatP ps = us → H' q = some (.dK []) ∧ ∃ kvs : List (Key × V), ps = kvs.map (fun kv => (kV kv.1, kv.2)) ∧ kvs.length ≤ 15 ∧ Q (.ref q) (upd H' q (.dK (mergeK [] kvs)))) (fun x _ F' H' => ∀ cls dd, RepX R.K R.nm F' x cls dd → W cls dd σ H') := by
    have p1 := p.bnd0
    cases ef : fs ρ s with
    | bot => rw [ef] at p1; exact p1.elim
    | exc x s1 => rw [ef] at p1; exact fun F' H' w' st' => p1 F' H' w' (st0.trans st')
    | ok ds s1 =>
      rw [ef] at p1
      intro F' H' w' st' us rus ps eps
      subst eps
      obtain ⟨d', ed, k⟩ := (p1 F' H' w' (st0.trans st')).lift
      obtain ⟨kvs, ek, rfl⟩ := map_some ed
      obtain ⟨ws, ew, rk⟩ := pairs_rep rus ek
      have hq' : H' q = some (.dK []) := st'.own nm fq upd_same
      have fq' : F' q = none := st'.freeF fq (by rw [upd_same]; exact fun z => nomatch z)
      have hlen : ds.length ≤ 30 := hds ρ s ds s1 ef
      have hkl : 2 * kvs.length = ds.length := by
        have go : ∀ {ds : List D} {kvs : List (Key × D)}, pairsD ds = some kvs → 2 * kvs.length = ds.length := by
          intro ds
          induction ds using pairsD.induct with
          | case1 => intro kvs e; cases e; rfl
          | case2 k v r ih =>
            intro kvs e
            obtain ⟨kk, e1, e⟩ := bind_some (show (keyD k).bind (fun k => (pairsD r).map fun l => (k, v) :: l) = some kvs from e)
            obtain ⟨l, e2, rfl⟩ := map_some e
            have := ih e2
            rw [List.length_cons, List.length_cons, List.length_cons]; omega
          | case3 t h1 h2 =>
            intro kvs e
            unfold pairsD at e
            split at e
            · exact absurd rfl h1
            · exact absurd rfl (h2 _ _ _)
            · cases e
        exact go ek
      have hws : ws.length = kvs.length := rk.length
      refine ⟨hq', ws, ew, by omega, ?_⟩
      refine k F' _ (w'.ownW fq' nm _) ((st0.trans st').ownW hq _) _ ⟨q, rfl, hq, fq', nm, _, upd_same, ?_, RepsK.merge (ws := []) (kvs := []) rfl rk⟩
      have := mergeD_length kvs []
      rw [List.length_nil] at this
      rw [sizeLine_eq]; omega
  exact h2 σ _ _ ⟨F, ρ, s, w0, pu, key⟩
end
end Nw
set_option Elab.async false
set_option linter.all false
set_option maxRecDepth 100000
set_option maxHeartbeats 4000000
/-! Part W: statements over a def's own things. -/
namespace Nw
open PySem PySem.Spec L2
section
variable {X : Cx} {R : Reg} {W : WX} {O : List Nat}
theorem sat_lcF {it : Sl → M R.S (List D)} {g : TG} {vs : List Nat} {tgt : D → Sl → Option Sl} {t : Sl → M R.S Bool} {f : Sl → M R.S D} (hg : TgSat R g vs tgt) (σ : L2.St) (H : Hp) (Q : VK) (h : tDF R W O (dLc it tgt t f) σ H Q) :
    tLc (tDI R W O it) g (tDT R W0 O t) (tD R W0 O f) vs σ H Q := by
  obtain ⟨F, ρ, s, w, pu, p⟩ := h
  refine ⟨F, ρ, s, w, pu, p.bnd.imp (fun ds s1 F1 H1 w1 st1 p1 J wk Dn hD => ?_) fun _ _ _ _ _ _ z => z⟩
  have pu1 := pu.mono st1.fs
  have nMu : ¬ R.Mu Dn := w1.notMu hD
  have fD : F1 Dn = none := w1.free hD
  refine ⟨fun i m Hc => m = ds.length - i ∧ i ≤ ds.length ∧ ∃ Fc sc acc ws, Wd R Fc Hc sc ∧ Stp R F1 H1 Fc Hc ∧ Hc Dn = some (.lst ws) ∧ Fc Dn = none ∧ Reps R.K R.nm Fc acc ws ∧ acc.length ≤ i ∧
    Post R F1 H1 (lcA tgt t f ρ acc (ds.drop i) sc) (fun d _ F' H' => ∀ v, Fre R H F' H' d v → Q v H') (fun x _ F' H' => ∀ cls dd, RepX R.K R.nm F' x cls dd → W cls dd σ H'),
    ⟨_, rfl, Nat.zero_le _, F1, s1, [], [], w1.newH _ hD, Stp.newH _ hD, upd_same, fD, rfl, Nat.le_refl _, p1⟩, ?_⟩
  rintro i m Hc ⟨rfl, hi, Fc, sc, acc, ws, wc, stc, hDc, fDc, rc, hacc, pc⟩
  by_cases hlt : i < ds.length
  · refine .inr ⟨wk.go i Fc Hc (stc.kp wc.sub w1) hlt, fun Hn => (ds.length - (i + 1)) = ds.length - (i + 1) ∧ i + 1 ≤ ds.length ∧ ∃ Fc sc acc ws, Wd R Fc Hn sc ∧ Stp R F1 H1 Fc Hn ∧ Hn Dn = some (.lst ws) ∧ Fc Dn = none ∧ Reps R.K R.nm Fc acc ws ∧ acc.length ≤ i + 1 ∧
      Post R F1 H1 (lcA tgt t f ρ acc (ds.drop (i + 1)) sc) (fun d _ F' H' => ∀ v, Fre R H F' H' d v → Q v H') (fun x _ F' H' => ∀ cls dd, RepX R.K R.nm F' x cls dd → W cls dd σ H'),
      fun H' q => ⟨_, by omega, q⟩, fun x H' y => ?_⟩
    obtain ⟨rfl, d, hd, rd⟩ := wk.yld i Fc Hc x H' (stc.kp wc.sub w1) hlt y
    have ed : ds.drop i = d :: ds.drop (i + 1) := by
      rw [List.drop_eq_getElem_cons hlt]
      rw [List.getElem?_eq_getElem hlt] at hd
      cases hd
      rfl
    rw [ed] at pc
    obtain ⟨r', er, pc⟩ := pc.lift0
    refine hg x d (wipe σ vs) ρ r' Fc H' _ wc.sub rd (by rw [wipe_length]; exact pu.len) er fun σ2 sa => ⟨wipe_eq (by rw [sa.len, wipe_length]) fun j hj => (sa.off j hj).1, ?_⟩
    have pu2 : Pu R O Fc σ2 r' := ⟨by rw [sa.lenr, sa.len, wipe_length]; exact pu.len, fun j d' hj e => by
      by_cases hv : j ∈ vs
      · exact sa.on j d' hv e
      · obtain ⟨e1, e2⟩ := sa.off j hv
        rw [e2] at e
        obtain ⟨v, h1, h2⟩ := (pu1.mono stc.fs).at_ j d' hj e
        exact ⟨v, by rw [e1, wipe_out hv]; exact h1, h2⟩⟩
    refine ⟨Fc, r', sc, wc, pu2, ((post_nox pc.bnd0).from stc).imp (fun b s3 F3 H3 w3 st3 p3 => ?_) fun _ _ _ _ _ _ z => z⟩
    have hD3 : H3 Dn = some (.lst ws) := st3.own nMu fDc hDc
    have fD3 : F3 Dn = none := st3.freeF fDc (by rw [hDc]; exact fun z => nomatch z)
    cases b with
    | false =>
      rw [if_neg Bool.false_ne_true] at p3
      refine iteF ?_
      exact ⟨rfl, hlt, F3, s3, acc, ws, w3, stc.trans st3, hD3, fD3, rc.mono st3.fs, by omega, p3⟩
    | true =>
      rw [if_pos rfl] at p3
      refine iteT ?_
      refine ⟨F3, r', s3, w3, pu2.mono st3.fs, ((post_nox p3.bnd0).from (stc.trans st3)).imp (fun y' s4 F4 H4 w4 st4 p4 u ru => ?_) fun _ _ _ _ _ _ z => z⟩
      have hD4 : H4 Dn = some (.lst ws) := st4.own nMu fD3 hD3
      have fD4 : F4 Dn = none := st4.freeF fD3 (by rw [hD3]; exact fun z => nomatch z)
      have hz := wk.hz
      refine ⟨ws, hD4, by rw [rc.length]; omega, rfl, hlt, F4, s4, acc ++ [y'], ws ++ [u], w4.ownW fD4 nMu _, ((stc.trans st3).trans st4).ownW hD _, upd_same, fD4, ((rc.mono st3.fs).mono st4.fs).append ⟨u, [], rfl, ru, rfl⟩, by rw [List.length_append, List.length_singleton]; omega, p4⟩
  · have ei : i = ds.length := by omega
    subst ei
    refine .inl ⟨wk.stop Fc Hc (stc.kp wc.sub w1), ?_⟩
    rw [List.drop_length] at pc
    have hz := wk.hz
    exact pc Fc Hc wc stc (.ref Dn) ⟨Dn, rfl, st1.th Dn hD, fDc, nMu, ws, hDc, by omega, rc⟩
end
section
variable {S : Type}
/-- a new thing into a slot -/
def sAsgO (i : Nat) (f : Sl → M S D) : Sl → Mo S := fun r => liftX (f r) r fun d s => if isRT d = true then some (.next (r.set i (some d)), s) else none
/-- x.append(v), ..; x[k] = v -/
def putK2 (i : Nat) (r : Sl) (o : Option D) : Mo S := fun s => match o with
  | some x' => some (.next (r.set i (some x')), s)
  | none => none
def ownIs (T : String) : D → Option Unit
  | .row _ => if T = "list" then some () else none
  | .tab _ => if T = "dict" then some () else none
  | _ => none
def sOwn1 (T : String) (i : Nat) (op : D → D → Option D) (f : Sl → M S D) : Sl → Mo S := fun r => optK ((getS r i).bind fun x => (ownIs T x).map fun _ => x) fun x => liftX (f r) r fun d => putK2 i r (op x d)
def sOwn2 (i : Nat) (op : D → D → D → Option D) (fk fv : Sl → M S D) : Sl → Mo S := fun r => liftX (fv r) r fun v => optK (getS r i) fun x => liftX (fk r) r fun k => putK2 i r (op x k v)
def sRetO (i : Nat) : Sl → Mo S := fun r s => match getS r i with
  | some d => some (.rt d, s)
  | none => none
def DLen (fs : Sl → M S (List D)) (n : Nat) : Prop := ∀ r s ds s', fs r s = .ok ds s' → ds.length = n
theorem dlen_nil : DLen (dNil : Sl → M S (List D)) 0 := fun r s ds s' e => by cases e; rfl
theorem dlen_cons {f : Sl → M S D} {fs : Sl → M S (List D)} {n : Nat} (h : DLen fs n) : DLen (dCons f fs) (n + 1) := fun r s ds s' e => by
  have e : bnd (f r) (fun x => bnd (fs r) fun xs => ret (x :: xs)) s = Res.ok ds s' := e
  cases e1 : f r s with
  | bot => rw [bnd_bot e1] at e; cases e
  | exc x s1 => rw [bnd_exc e1] at e; cases e
  | ok a s1 =>
    rw [bnd_ok e1] at e
    cases e2 : fs r s1 with
    | bot => rw [bnd_bot e2] at e; cases e
    | exc x s2 => rw [bnd_exc e2] at e; cases e
    | ok b s2 =>
      rw [bnd_ok e2] at e
      have e3 : Res.ok (a :: b) s2 = Res.ok ds s' := e
      injection e3 with e4 e5
      rw [← e4, List.length_cons, h r s1 b s2 e2]
end
def appD : D → D → Option D
  | .row xs, d => if xs.length < sizeLine then some (.row (xs ++ [d])) else none
  | _, _ => none
def extD : D → D → Option D
  | .row xs, .row ys => if xs.length + ys.length ≤ sizeLine then some (.row (xs ++ ys)) else none
  | _, _ => none
def setD : D → D → D → Option D
  | .tab kvs, k, v => (keyD k).bind fun k => if kvs.length < sizeLine then some (.tab (putD kvs k v)) else none
  | .row xs, .int k, v => (ixN xs.length k).map fun j => .row (xs.set j v)
  | _, _, _ => none
section
variable {X : Cx} {R : Reg} {W : WX} {fr : FrK} {O O' B : List Nat} {a b e o tg iter : Expr} {es : List Expr} {f g fk fv : Sl → M R.S D} {c : Sl → M R.S Bool} {fs : Sl → M R.S (List D)} {pos p apos cpos npos : Pos} {n i : Nat} {x : Str}
  {F0 H0 F H F' H' : Hp} {σ : L2.St} {r : Sl} {s : R.S} {E : Ends}
theorem Slots.setO {d : D} {q : Addr} (h : Slots R H0 O F H σ r) (hi : i ∈ O') (h1 : ∀ j ∈ O', j = i ∨ j ∈ O) (h2 : ∀ j ∈ O, j ≠ i → j ∈ O') (hq : OwnAt R H0 F H q d) (sep : ∀ j d' a, j ∈ O → j ≠ i → isRT d' = true → r[j]? = some (some d') → σ[j]? = some (some (.ref a)) → a ≠ q) : Slots R H0 O' F H (σ.set i (some (.ref q))) (r.set i (some d)) where
  pu := ⟨by rw [List.length_set, List.length_set]; exact h.pu.len, fun j d' hj e => by
    have ne : i ≠ j := fun z => hj (by rw [← z]; exact hi)
    rw [List.getElem?_set_ne ne] at e ⊢
    exact h.pu.at_ j d' (fun z => hj (h2 j z (fun w => ne w.symm))) e⟩
  ow := fun j d' hj hrt e => by
    by_cases ej : i = j
    · subst ej
      by_cases hl : i < r.length
      · rw [List.getElem?_set_self hl] at e
        cases e
        exact ⟨q, List.getElem?_set_self (by rw [← h.pu.len]; exact hl), hq⟩
      · rw [List.getElem?_eq_none (by rw [List.length_set]; omega)] at e; cases e
    · rw [List.getElem?_set_ne ej] at e ⊢
      exact h.ow j d' ((h1 j hj).resolve_left fun z => ej z.symm) hrt e
  ns := fun j d' hj hrt e => by
    by_cases ej : i = j
    · subst ej
      by_cases hl : i < r.length
      · rw [List.getElem?_set_self hl] at e
        cases e
        rw [hq.rt] at hrt; cases hrt
      · rw [List.getElem?_eq_none (by rw [List.length_set]; omega)] at e; cases e
    · rw [List.getElem?_set_ne ej] at e ⊢
      exact h.ns j d' ((h1 j hj).resolve_left fun z => ej z.symm) hrt e
  sep := fun j k ad d1 d2 hj hk hr1 hr2 e1 e2 e3 e4 => by
    by_cases ej : i = j
    · by_cases ek : i = k
      · exact ej.symm.trans ek
      · subst ej
        rw [List.getElem?_set_ne ek] at e2 e4
        have hkO := (h1 k hk).resolve_left fun z => ek z.symm
        have hil : i < σ.length := by
          by_cases hl : i < σ.length
          · exact hl
          · rw [List.getElem?_eq_none (by rw [List.length_set]; omega)] at e3; cases e3
        rw [List.getElem?_set_self hil] at e3
        cases e3
        exact absurd rfl (sep k d2 _ hkO (fun z => ek z.symm) hr2 e2 e4)
    · by_cases ek : i = k
      · subst ek
        rw [List.getElem?_set_ne ej] at e1 e3
        have hjO := (h1 j hj).resolve_left fun z => ej z.symm
        have hil : i < σ.length := by
          by_cases hl : i < σ.length
          · exact hl
          · rw [List.getElem?_eq_none (by rw [List.length_set]; omega)] at e4; cases e4
        rw [List.getElem?_set_self hil] at e4
        cases e4
        exact absurd rfl (sep j d1 _ hjO (fun z => ej z.symm) hr1 e1 e3)
      · rw [List.getElem?_set_ne ej] at e1 e3
        rw [List.getElem?_set_ne ek] at e2 e4
        exact h.sep j k ad d1 d2 ((h1 j hj).resolve_left fun z => ej z.symm) ((h1 k hk).resolve_left fun z => ek z.symm) hr1 hr2 e1 e2 e3 e4
theorem Slots.fre {d : D} (sl : Slots R H0 O F H σ r) (hO : i ∈ O) (e : r[i]? = some (some d)) : ∃ v, σ[i]? = some (some v) ∧ Fre R H0 F H d v := by
  cases hrt : isRT d with
  | true =>
    obtain ⟨ad, h1, h2⟩ := sl.ow i d hO hrt e
    refine ⟨_, h1, ?_⟩
    cases d with
    | row ds => exact ⟨ad, rfl, h2⟩
    | tab ds => exact ⟨ad, rfl, h2⟩
    | _ => exact h2.2.2.2.elim
  | false =>
    obtain ⟨v, h1, h2⟩ := sl.ns i d hO hrt e
    refine ⟨v, h1, ?_⟩
    cases d with
    | row ds => cases hrt
    | tab ds => cases hrt
    | _ => exact h2
theorem Fre.step {d : D} {v : V} (h : Fre R H0 F H d v) (st : Stp R F H F' H') : Fre R H0 F' H' d v := by
  cases d with
  | row ds => obtain ⟨a, e, h⟩ := h; exact ⟨a, e, h.step st⟩
  | tab ds => obtain ⟨a, e, h⟩ := h; exact ⟨a, e, h.step st⟩
  | _ => exact Rep.mono st.fs h
theorem Fre.own {d : D} {v : V} (h : Fre R H0 F H d v) (hr : isRT d = true) : ∃ q, v = .ref q ∧ OwnAt R H0 F H q d := by
  cases d with
  | row ds => exact h
  | tab ds => exact h
  | _ => cases hr
/-- name = a new thing -/
theorem ds_setO (i : Nat) {pos' : Pos} (hN : X.N.Nodup) (hi : X.N[i]? = some x) (hx : Loc X.env.scope x) (he : PE X e (tDF R W O f)) (hO : i ∈ O') (h1 : ∀ j ∈ O', j = i ∨ j ∈ O) (h2 : ∀ j ∈ O, j ≠ i → j ∈ O') (hs : swapsWith e (some (.Name x pos')) pos.line X.env = pure false := by rfl) (hf : X.fn x = true ∨ X.env.scope.names.lookup x = some .local := by first | exact .inl rfl | exact .inr rfl | assumption) :
    PS X (.Assign [.Name x pos'] e pos) (tDS R W fr B O O' (sAsgO i f)) := ps_imp (ps_set hN hi hx he hs hf) fun E σ H h => by
  obtain ⟨F0, H0, F, r, s, w, st, sl, p⟩ := h
  refine ⟨F, r, s, w, sl.pu, (postS_x w st sl p).imp (fun d s1 F1 H1 w1 st1 q v fv => ?_) fun _ _ _ _ _ _ z => z⟩
  obtain ⟨w2, st2, sl2, p2⟩ := q
  cases er : isRT d with
  | false => rw [er, if_neg Bool.false_ne_true] at p2; exact p2.elim
  | true =>
    rw [er, if_pos rfl] at p2
    obtain ⟨q, rfl, hq⟩ := fv.own er
    have hqq : OwnAt R H0 F1 H1 q d := ⟨st.th q hq.1, hq.2⟩
    refine p2 _ F1 H1 w2 st2 (sl2.setO hO h1 h2 hqq fun j d' ad hj ne hrt e1 e2 ea => ?_)
    subst ea
    obtain ⟨ad', e3, h4⟩ := sl.ow j d' hj hrt e1
    rw [e2] at e3
    cases e3
    obtain ⟨o, ho⟩ := h4.there
    rw [hq.1] at ho
    cases ho
/-- return of a new thing -/
theorem ds_retF (he : PE X e (tDF R W O f)) : PS X (.Return (some e) pos) (tDS R W .t B O O' (sRet f)) := ps_imp (ps_ret he) fun E σ H h => by
  obtain ⟨F0, H0, F, r, s, w, st, sl, p⟩ := h
  exact ⟨F, r, s, w, sl.pu, (postS_x w st sl p).imp (fun d s1 F1 H1 w1 st1 q v fv => q.2.2.2 v F1 H1 q.1 q.2.1 (show Fre R H0 F1 H1 d v from fv.base st.th)) fun _ _ _ _ _ _ z => z⟩
/-- return of an own thing -/
theorem ds_retO (i : Nat) (hO : i ∈ O) (hN : X.N[i]? = some x) (hv : Vis X.env.scope x) (hd : (x == ("__debug__" : Str)) = false := by decide) (hcd : (x == ("__classdict__" : Str)) = false := by decide) : PS X (.Return (some (.Name x npos)) pos) (tDS R W .t B O O' (sRetO i)) := ps_imp (ps_ret (pe_var hN hv hd hcd)) fun E σ H h => by
  obtain ⟨F0, H0, F, r, s, w, st, sl, p⟩ := h
  unfold sRetO at p
  cases eg : getS r i with
  | none => rw [eg] at p; exact p.elim
  | some d =>
    rw [eg] at p
    obtain ⟨v, h1, h2⟩ := sl.fre hO (getS_some eg)
    exact ⟨_, h1, p _ F H w st h2⟩
/-- an own thing changed -/
theorem own_write {d d' : D} {ad : Addr} {o : HO} (w : Wd R F H s) (st : Stp R F0 H0 F H) (sl : Slots R H0 O F H σ r) (hO : i ∈ O) (er : r[i]? = some (some d)) (es : σ[i]? = some (some (.ref ad))) (ow : OwnAt R H0 F H ad d)
    (hn : match d' with | .row ds => ∃ vs, o = .lst vs ∧ ds.length ≤ sizeLine ∧ Reps R.K R.nm F ds vs | .tab kvs => ∃ ws, o = .dK ws ∧ kvs.length ≤ sizeLine ∧ RepsK R.K R.nm F kvs ws | _ => False) :
    Wd R F (upd H ad o) s ∧ Stp R F0 H0 F (upd H ad o) ∧ Slots R H0 O F (upd H ad o) σ (r.set i (some d')) := by
  have ow' : OwnAt R H0 F (upd H ad o) ad d' := ⟨ow.1, ow.2.1, ow.2.2.1, by
    cases d' with
    | row ds => obtain ⟨vs, rfl, h1, h2⟩ := hn; exact ⟨vs, upd_same, h1, h2⟩
    | tab ds => obtain ⟨vs, rfl, h1, h2⟩ := hn; exact ⟨vs, upd_same, h1, h2⟩
    | _ => exact hn.elim⟩
  refine ⟨w.ownW ow.2.1 ow.2.2.1 _, st.ownW ow.1 _, ⟨⟨by rw [List.length_set]; exact sl.pu.len, fun j e hj q => ?_⟩, fun j e hj hrt q => ?_, fun j e hj hrt q => ?_, fun j k a d1 d2 hj hk hr1 hr2 e1 e2 e3 e4 => ?_⟩⟩
  · have ne : i ≠ j := fun z => hj (by rw [← z]; exact hO)
    rw [List.getElem?_set_ne ne] at q
    exact sl.pu.at_ j e hj q
  · by_cases ej : i = j
    · subst ej
      rw [List.getElem?_set_self (List.getElem?_eq_some_iff.mp er).1] at q
      cases q
      exact ⟨ad, es, ow'⟩
    · rw [List.getElem?_set_ne ej] at q
      obtain ⟨a', h1, h2⟩ := sl.ow j e hj hrt q
      exact ⟨a', h1, h2.other fun z => ej (sl.sep i j ad d e hO hj ow.rt hrt er q es (by rw [← z]; exact h1))⟩
  · by_cases ej : i = j
    · subst ej
      rw [List.getElem?_set_self (List.getElem?_eq_some_iff.mp er).1] at q
      cases q
      rw [ow'.rt] at hrt; cases hrt
    · rw [List.getElem?_set_ne ej] at q
      exact sl.ns j e hj hrt q
  · have hh : ∀ m dm, isRT dm = true → (r.set i (some d'))[m]? = some (some dm) → ∃ dm', isRT dm' = true ∧ r[m]? = some (some dm') := fun m dm hm q => by
      by_cases em : i = m
      · subst em; exact ⟨d, ow.rt, er⟩
      · rw [List.getElem?_set_ne em] at q; exact ⟨dm, hm, q⟩
    obtain ⟨x1, z1, y1⟩ := hh j d1 hr1 e1
    obtain ⟨x2, z2, y2⟩ := hh k d2 hr2 e2
    exact sl.sep j k a x1 x2 hj hk z1 z2 y1 y2 e3 e4
/-- the slot that is there -/
theorem opt_post {α : Type} {o : Option α} {k : α → Mo R.S} (p : PostS R fr F0 H0 (optK o k s) E W B O') : ∃ a, o = some a ∧ PostS R fr F0 H0 (k a s) E W B O' := by
  cases o with
  | none => exact p.elim
  | some a => exact ⟨a, rfl, p⟩
theorem put_post {o : Option D} (p : PostS R fr F0 H0 (putK2 i r o s) E W B O') : ∃ d, o = some d ∧ PostS R fr F0 H0 (some (.next (r.set i (some d)), s)) E W B O' := by
  cases o with
  | none => exact p.elim
  | some a => exact ⟨a, rfl, p⟩
def setTD (x k v : D) : Option D := match x with
  | .tab kvs => (keyD k).bind fun k => if kvs.length < sizeLine then some (.tab (putD kvs k v)) else none
  | _ => none
def setLD (x k v : D) : Option D := match x, k with
  | .row xs, .int k => (ixN xs.length k).map fun j => .row (xs.set j v)
  | _, _ => none
/-- x[k] = v, x an own table -/
theorem ds_setT (i : Nat) {pos' : Pos} (cx : Cxt X R W n) (hO : i ∈ O) (hN : X.N[i]? = some x) (hv : Vis X.env.scope x) (hk : PE X b (tD R W O fk)) (he : PE X e (tD R W O fv)) (hs : swapsWith e (some (.Subscript (.Name x npos) b pos')) pos.line X.env = pure false := by rfl) (hd : (x == ("__debug__" : Str)) = false := by decide) (hcd : (x == ("__classdict__" : Str)) = false := by decide) :
    PS X (.Assign [.Subscript (.Name x npos) b pos'] e pos) (tDS R W fr B O O (sOwn2 i setTD fk fv)) := ps_imp (ps_dput (by have := cx.hr.units; omega) (pe_var hN hv hd hcd) hk he hs) fun E σ H h => by
  obtain ⟨F0, H0, F, r, s, w, st, sl, p⟩ := h
  refine ⟨F, r, s, w, sl.pu, (postS_x w st sl p).imp (fun v s1 F1 H1 w1 st1 q vv rv => ?_) fun _ _ _ _ _ _ z => z⟩
  obtain ⟨w2, st2, sl2, p2⟩ := q
  obtain ⟨d, eg, p2⟩ := opt_post p2
  obtain ⟨cv, h1, hfre⟩ := sl2.fre hO (getS_some eg)
  refine ⟨_, h1, F1, r, s1, w2, sl2.pu, (postS_x w2 st2 sl2 p2).imp (fun k s3 F3 H3 w3 st3 q kv rk => ?_) fun _ _ _ _ _ _ z => z⟩
  obtain ⟨w4, st4, sl4, p4⟩ := q
  obtain ⟨d', ed, p4⟩ := put_post p4
  cases d with
  | tab kvs =>
    obtain ⟨ad, rfl, h2⟩ := hfre
    have h3 := h2.step st3
    obtain ⟨kk, ek, ed⟩ := bind_some (show (keyD k).bind (fun k => if kvs.length < sizeLine then some (D.tab (putD kvs k v)) else none) = some d' from ed)
    by_cases hz : kvs.length < sizeLine
    · rw [if_pos hz] at ed
      cases ed
      obtain ⟨ws, e1, e2, e3⟩ := h3.2.2.2
      obtain ⟨k1, k2⟩ := keyD_ok rk ek
      refine ⟨ad, upd H3 ad (.dK (putK ws kk vv)), rfl, ?_, ?_⟩
      · rw [k1]; exact DPut.k e1 (by rw [e3.length]; exact hz)
      · obtain ⟨a1, a2, a3⟩ := own_write (o := .dK (putK ws kk vv)) w4 st4 sl4 hO (getS_some eg) h1 h3 (d' := .tab (putD kvs kk v)) ⟨_, rfl, by have := putD_length kvs kk v; omega, e3.put k2 (rv.mono st3.fs)⟩
        exact p4 σ F3 _ a1 a2 a3
    · rw [if_neg hz] at ed; cases ed
  | _ => cases ed
/-- x[k] = v, x an own list -/
theorem ds_setL (i : Nat) {pos' : Pos} (cx : Cxt X R W n) (hO : i ∈ O) (hN : X.N[i]? = some x) (hv : Vis X.env.scope x) (hk : PE X b (tD R W O fk)) (he : PE X e (tD R W O fv)) (hd : (x == ("__debug__" : Str)) = false := by decide) (hcd : (x == ("__classdict__" : Str)) = false := by decide)
    (hset : PG X (.Subscript (.Name x npos) b pos') (gSub (tVar i) (tD R W O fk) rSetL)) (hs : swapsWithSole [.Subscript (.Name x npos) b pos'] e pos.line X.env = pure false := by rfl) (hw : swappedStores [.Subscript (.Name x npos) b pos'] e X.env = pure none := by rfl) :
    PS X (.Assign [.Subscript (.Name x npos) b pos'] e pos) (tDS R W fr B O O (sOwn2 i setLD fk fv)) := ps_imp (ps_asg he hset hs hw) fun E σ H h => by
  obtain ⟨F0, H0, F, r, s, w, st, sl, p⟩ := h
  refine ⟨F, r, s, w, sl.pu, (postS_x w st sl p).imp (fun v s1 F1 H1 w1 st1 q vv rv => ?_) fun _ _ _ _ _ _ z => z⟩
  obtain ⟨w2, st2, sl2, p2⟩ := q
  obtain ⟨d, eg, p2⟩ := opt_post p2
  obtain ⟨cv, h1, hfre⟩ := sl2.fre hO (getS_some eg)
  refine ⟨_, h1, F1, r, s1, w2, sl2.pu, (postS_x w2 st2 sl2 p2).imp (fun k s3 F3 H3 w3 st3 q kv rk => ?_) fun _ _ _ _ _ _ z => z⟩
  obtain ⟨w4, st4, sl4, p4⟩ := q
  obtain ⟨d', ed, p4⟩ := put_post p4
  cases d with
  | row xs =>
    obtain ⟨ad, rfl, h2⟩ := hfre
    have h3 := h2.step st3
    cases k with
    | int k =>
      obtain ⟨j, ej, rfl⟩ := map_some (show (ixN xs.length k).map (fun j => D.row (xs.set j v)) = some d' from ed)
      obtain ⟨ws, e1, e2, e3⟩ := h3.2.2.2
      refine ⟨ad, ws, k, j, rfl, rk, e1, by rw [e3.length]; exact ej, ?_⟩
      have rset : ∀ (j : Nat) {xs : List D} {ws : List V}, Reps R.K R.nm F3 xs ws → Reps R.K R.nm F3 (xs.set j v) (ws.set j vv) := by
        intro j
        induction j with
        | zero =>
          intro xs ws r
          cases xs with
          | nil => rw [show ws = [] from r]; rfl
          | cons y ys => obtain ⟨u, us, rfl, h1, h2⟩ := r; exact ⟨vv, us, rfl, rv.mono st3.fs, h2⟩
        | succ j ih =>
          intro xs ws r
          cases xs with
          | nil => rw [show ws = [] from r]; rfl
          | cons y ys => obtain ⟨u, us, rfl, h1, h2⟩ := r; exact ⟨u, us.set j vv, rfl, h1, ih h2⟩
      obtain ⟨a1, a2, a3⟩ := own_write (o := .lst (ws.set j vv)) w4 st4 sl4 hO (getS_some eg) h1 h3 (d' := .row (xs.set j v)) ⟨_, rfl, by rw [List.length_set]; exact e2, rset j e3⟩
      exact p4 σ F3 _ a1 a2 a3
    | _ => cases ed
  | _ => cases ed
/-- x.append(e), x an own list -/
theorem ds_app (i : Nat) (hO : i ∈ O) (hN : X.N[i]? = some x) (hv : Vis X.env.scope x) (he : PE X e (tD R W O f)) (hd : (x == ("__debug__" : Str)) = false := by decide) (hcd : (x == ("__classdict__" : Str)) = false := by decide)
    (hbase : attributeBase (.Name x npos) "append" X.env (eval (.Name x npos) X.env) = eval (.Name x npos) X.env := by rfl)
    (hfew : ((backTo cpos (starEach [e] X.env)).all (fun x => !x.1) && (backToKw cpos (keywordEach [] X.env)).all (fun x => x.1.isSome)
      && decide (([e] : List Expr).length + ([] : List Keyword).length + (if ([] : List Keyword).isEmpty then 0 else 1) < 30)) = true := by rfl)
    (hline : (apos.endLine == cpos.line) = true := by rfl) (hst : starEach [e] X.env = (false, eval e X.env) :: starEach [] X.env := by rfl) (hplain : (backTo cpos (starEach [] X.env)).any (·.1) = false := by rfl) (hs : swapsWith (.Call (.Attribute (.Name x npos) "append" apos) [e] [] cpos) none pos.line X.env = pure false := by rfl) :
    PS X (.Expr (.Call (.Attribute (.Name x npos) "append" apos) [e] [] cpos) pos) (tDS R W fr B O O (sOwn1 "list" i appD f)) :=
  ps_imp (ps_expr (pe_bm F.plainAttrs_list F.slot_list_append F.type_list_append mt_append (pe_var hN hv hd hcd) (pa_cons he pa_nil hst) hbase hfew hline hst hplain) hs) fun E σ H h => by
  obtain ⟨F0, H0, F, r, s, w, st, sl, p⟩ := h
  obtain ⟨d, eg, p⟩ := opt_post p
  obtain ⟨d0, eg0, e2⟩ := bind_some eg
  obtain ⟨u, eu, e3⟩ := map_some e2
  have e3 : d0 = d := e3
  subst e3
  clear eg e2
  have eg := eg0
  cases d0 with
  | row xs =>
    obtain ⟨ad, h1, h2⟩ := sl.ow i _ hO rfl (getS_some eg)
    obtain ⟨ws0, e10, e20, e30⟩ := h2.2.2.2
    refine ⟨_, h1, .inl ⟨rfl, ws0, SqL.of e10⟩, F, r, s, w, sl.pu, (postS_x w st sl p).imp (fun v s1 F1 H1 w1 st1 q vv rv => ?_) fun _ _ _ _ _ _ z => z⟩
    obtain ⟨w2, st2, sl2, p2⟩ := q
    obtain ⟨d', ed, p4⟩ := put_post p2
    have h3 := h2.step st1
    obtain ⟨ws, e1, e2, e3⟩ := h3.2.2.2
    have ed : (if xs.length < sizeLine then some (D.row (xs ++ [v])) else none) = some d' := ed
    by_cases hz : xs.length < sizeLine
    · rw [if_pos hz] at ed
      cases ed
      refine ⟨ad, ws, vv, rfl, rfl, e1, by rw [e3.length]; exact hz, ?_⟩
      obtain ⟨a1, a2, a3⟩ := own_write (o := .lst (ws ++ [vv])) w2 st2 sl2 hO (getS_some eg) h1 h3 (d' := .row (xs ++ [v])) ⟨_, rfl, by rw [List.length_append, List.length_singleton]; omega, e3.append ⟨vv, [], rfl, rv, rfl⟩⟩
      exact p4 σ F1 _ a1 a2 a3
    · rw [if_neg hz] at ed; cases ed
  | _ => cases eu
end
end Nw
set_option Elab.async false
set_option linter.all false
set_option maxRecDepth 100000
set_option maxHeartbeats 4000000
/-! Part X: errors. -/
namespace Nw
open PySem PySem.Spec L2
section
variable {X : Cx} {pins : List (Addr × Obj)} {σ : L2.St} {H : Hp} {s : Shared}
/-- an error that was held is a thing from now on -/
theorem inv_track {a : Addr} {oe : Obj} {vs : Array Value} {cls : Value} {d : Option Addr} (I : Inv X pins σ H s) (e : s.heap.get? a = some oe) (hz : Zc cls d oe) (hd : oe.data = .fields vs) (na : H a = none) (nL : a ≠ X.env.locals) (n0 : X.s_0.heap.get? a = none) (np : ∀ p ∈ X.pn ++ pins, p.1 ≠ a) :
    Inv X pins σ (upd H a (ExH cls d a)) s := by
  have ne : ∀ b o, H b = some o → b ≠ a := fun b o q z => by rw [z, na] at q; cases q
  refine ⟨I.ok, I.os, I.bare, ⟨I.base.keep, I.base.slot, fun b o q1 q2 q3 => ?_, I.base.there, fun b xs q => ?_, fun b o u q => ?_, fun b ps q => ?_⟩, I.loc, I.cell, ?_, fun x c q => ?_, fun p hp => ?_, fun b o q => ?_, I.len⟩
  · rw [upd_ne fun z => by rw [z, n0] at q1; cases q1]; exact I.base.free b o q1 q2 q3
  · have q' := I.base.tups b xs q
    rw [upd_ne (ne _ _ q')]; exact q'
  · have q' := I.base.frzs b o u q
    rw [upd_ne (ne _ _ q')]; exact q'
  · obtain ⟨m, q'⟩ := I.base.tbls b ps q
    exact ⟨m, by rw [upd_ne (ne _ _ q')]; exact q'⟩
  · rw [upd_ne fun z => nL z.symm]; exact I.free
  · refine (upd_ne fun z => ?_).trans (I.freeC x c q)
    obtain ⟨v, oc, hc, hc2⟩ := I.cell x c q
    rw [z, e] at hc
    cases hc
    simp [hd] at hc2
  · obtain ⟨p1, p2, p3⟩ := I.pin p hp
    exact ⟨p1, by rw [upd_ne (np p hp)]; exact p2, p3⟩
  · by_cases hb : b = a
    · rw [hb, upd_same] at q
      cases q
      rw [hb]
      exact ⟨⟨oe, e, hz, vs, hd⟩, ⟨oe, e⟩, fun h1 h2 ⟨oe', e1, e2, e3⟩ k => ⟨oe', k _ e1, e2, e3⟩⟩
    · rw [upd_ne hb] at q
      exact (I.hok b o q).stay (fun c v _ q => q) (fun c q => by rw [upd_ne (ne _ _ q)]; exact q) fun c xs q => by rw [upd_ne (ne _ _ q)]; exact q
end
def wAsT (K : PySem.W.Frag) (c : Value) (i : Nat) (ts : Addr → Value → Option Addr → TS) (Wout : WX) (D : Ends) : WX := fun cls d σ H =>
  ∃ b, PySem.W.exmOne K cls c = some b ∧ (b = true → ∀ a, H a = none → ts a cls d { nx := fun σ' H' => D.nx (σ'.set i none) (upd H' a (ExH cls d a)), rt := fun v H' => D.rt v (upd H' a (ExH cls d a)), bk := fun σ' H' => D.bk (σ'.set i none) (upd H' a (ExH cls d a)), ct := fun σ' H' => D.ct (σ'.set i none) (upd H' a (ExH cls d a)) } (σ.set i (some (.ref a))) H) ∧
    (b = false → Wout cls d σ H)
section
open PyProof.Rows
abbrev St := L2.St
variable {X : Cx} {x n : Str} {c : Value} {i : Nat} {body suite : List Stmt} {b₀ : Stmt} {np pos pos' : Pos} {tb : WX → TS} {ts : Addr → Value → Option Addr → TS} {Wout : WX}
theorem ps_try_asT (hex : X.ex = []) (hs : X.stack = X.env :: X.outer) (hf : X.env.frame = some X.env.locals) (hN : X.N.Nodup) (hi : X.N[i]? = some n) (hln : X.env.kindOf n = some .local) (hc : Names X x c) (tk : Takes X Wout)
    (hb : ∀ (W : WX) (pn : List (Addr × Obj)) (xe : Value → Shared → Prop), Takes (X.tr pn xe) W → PassesOwn (model X.prog X.w) X.A X.env xe → PSs (X.tr pn xe) body (tb W))
    (hsu : ∀ (a : Addr) (oe : Obj) (cls : Value) (d : Option Addr) (pn : List (Addr × Obj)), Zc cls d oe → (∃ vs, oe.data = .fields vs) → PSs (X.suite a ((a, oe) :: pn)) (b₀ :: suite) (ts a cls d)) :
    PS X (.Try body [.ExceptHandler (some (.Name x np)) (some n) (b₀ :: suite) pos'] [] [] pos) (fun D σ H => tb (wAsT X.K c i ts Wout D) D σ H) := by
  refine ⟨fun pins s σ H D I h => ?_⟩
  have ok := I.ok
  have hfr : X.A.frames = some (X.env :: X.outer) := by rw [ok.frames, hs]
  have hloc : Loc X.env.scope n := .inl hln
  refine wpAny_Try_except ?_
  refine wpAny_mono ((hb (wAsT X.K c i ts Wout D) (X.pn ++ pins) (fun e s₁ => wpAny (model X.prog X.w) X.A (noteFrame e X.env) (fun _ s₂ => wpAny (model X.prog X.w) X.A (setFlight e none) (fun _ s₃ =>
    wpAny (model X.prog X.w) X.A (handleBy e X.env [.ExceptHandler (some (.Name x np)) (some n) (b₀ :: suite) pos']) (SP X pins D) X.xe s₃) X.xe s₂) X.xe s₁) (fun u s' xx => ?_) PassesOwn.looking).run [] s σ H D (I.toTry _) h) (fun f s1 hsp => ?_) (fun e s1 he => he)
  · -- the catch
    obtain ⟨a, B, sI, pins', σ', H', cls, d, rfl, J', nb, up, sky, na, os, ag, b, hb1, hyes, hno⟩ := xx
    have J : Inv X pins σ' H' sI := J'.ofTry ok
    have sky' : Sky B (X.env :: X.outer) a (Zc cls d) X.env.locals s'.heap := by rw [← hs]; exact sky
    show wpAny (model X.prog X.w) X.A (noteFrame (.ref a) X.env) _ _ _
    refine Sky.land Zc.steady hfr hf sky' fun h3 fl3 up3 => ?_
    have J3 : Inv X pins σ' H' { s' with heap := h3 } := J.landed nb fl3.1 (up.trans up3) os ag
    obtain ⟨oe3, vs3, he3, hz3, hd3⟩ := fl3.there
    have notFr : ∀ {h : Heap} {o : Obj} {vs : Array Value}, h.FunFrames B (X.env :: X.outer) → h.get? a = some o → o.data = .fields vs → a ∉ frs (X.env :: X.outer) := fun {h o vs} ff e dd hm => by
      obtain ⟨_, o', e', hnf⟩ := ff.mem hm
      rw [e] at e'; cases e'
      exact hnf _ dd
    have nfr := notFr fl3.2.2.1 he3 hd3
    have nL : a ≠ X.env.locals := fun z => nfr (List.mem_filterMap.mpr ⟨X.env, List.mem_cons_self, by rw [hf, z]⟩)
    have nF : a ∉ X.fs := fun hm => by
      obtain ⟨e, he, q⟩ := List.mem_filterMap.mp hm
      exact nfr (List.mem_filterMap.mpr ⟨e, List.mem_cons_of_mem _ he, q⟩)
    have S3 := J3.suite he3 hd3 na nL nF
    refine wpAny_handleBy_cons (codeAny_handlers_test ?_) (by intro q; cases q)
    have LT : PySem.W.Looks (model X.prog X.w) h3 (typeOf (.ref a)) cls := fun A Q E s k q => wpAny_typeOf_ref (k _ _ he3) (by rw [hz3.1]; exact q)
    have LM := PySem.W.exm_one (M := model X.prog X.w) (J3.kIn) LT hb1
    have test : ∀ {Q : Value → Shared → Prop} {E : Value → Shared → Prop}, Q c { s' with heap := h3 } → wpAny (model X.prog X.w) (X.A.mark (some (.ref a))) (eval (.Name x np) X.env) Q E { s' with heap := h3 } := fun {Q E} q => by
      obtain ⟨hg, hdbg, hm | ⟨hm, hv, hnn⟩⟩ := hc
      · exact ld_glob (X := X.suite a ((a, oe3) :: (X.pn ++ pins))) S3 hg hm q hdbg
      · exact ld_blt (X := X.suite a ((a, oe3) :: (X.pn ++ pins))) S3 hg hm hv q hnn hdbg
    refine test (LM.here ?_)
    cases b with
    | true =>
      refine codeAny_handlers_suite_as ?_
      refine HandSPX.lands_againZ fl3 fun h4 fl4 up4 => ?_
      have J4 : Inv X pins σ' H' { s' with heap := h4 } := J.landed nb fl4.1 ((up.trans up3).trans up4) os ag
      obtain ⟨oe4, vs4, he4, hz4, hd4⟩ := fl4.there
      have S4 := J4.suite he4 hd4 na nL nF
      refine store_ok (X := X.suite a ((a, oe4) :: (X.pn ++ pins))) (v := .ref a) S4 hN hi hloc rfl (fun s5 S5 => ?_) (.inr hln)
      refine wpAny_mono ((hsu a oe4 cls d (X.pn ++ pins) hz4 ⟨_, hd4⟩).run [] s5 _ H' _ S5 (hyes rfl a na)) (fun f s6 hsp => ?_) (fun _ _ z => False.elim z)
      have n0 : X.s_0.heap.get? a = none := by
        cases q : X.s_0.heap.get? a with
        | none => rfl
        | some o =>
          obtain ⟨o', e'⟩ := J.base.there a o q (by rw [hex]; simp)
          have z := nb a o' e' (by rw [hs]; exact nfr)
          rw [fl4.2.1] at z
          cases z
      have npn : ∀ p ∈ X.pn ++ pins, p.1 ≠ a := fun p hp z => by
        obtain ⟨e', _, _, _, _⟩ := J.pin p hp
        rw [z] at e'
        have z2 := nb a _ e' (by rw [hs]; exact nfr)
        rw [fl4.2.1] at z2
        cases z2
      have end_ : ∀ {σ6 : St} {H6 : Hp} {Q : Shared → Prop}, Inv (X.suite a ((a, oe4) :: (X.pn ++ pins))) [] σ6 H6 s6 → (∀ s7, Inv X pins (σ6.set i none) (upd H6 a (ExH cls d a)) s7 → Q s7) →
          wpAny (model X.prog X.w) X.A (do bindName X.env n .none; unbindBehindTheSuite X.env n pos') (fun _ s7 => Q s7) X.xe s6 := fun {σ6 H6 Q} S6 hq => by
        obtain ⟨p1, p2, p3, p4, p5⟩ := S6.pin (a, oe4) (List.mem_append_left _ List.mem_cons_self)
        have T6 : Inv X pins σ6 (upd H6 a (ExH cls d a)) s6 := inv_track (S6.unsuite ok) p1 hz4 hd4 p2 p3 n0 npn
        exact gone_ok T6 hN hi hln hq
      cases f with
      | next =>
        obtain ⟨σ6, H6, S6, q6⟩ := hsp
        exact end_ S6 fun s7 J7 => ⟨_, _, J7, q6⟩
      | brk =>
        obtain ⟨σ6, H6, S6, q6⟩ := hsp
        exact end_ S6 fun s7 J7 => ⟨_, _, J7, q6⟩
      | cont =>
        obtain ⟨σ6, H6, S6, q6⟩ := hsp
        exact end_ S6 fun s7 J7 => ⟨_, _, J7, q6⟩
      | ret u =>
        obtain ⟨v6, σ6, H6, S6, r6, q6⟩ := hsp
        exact end_ S6 fun s7 J7 => ⟨_, _, _, J7, r6, q6⟩
    | false =>
      show wpAny _ X.A (handleBy (.ref a) X.env []) _ _ _
      refine wpAny_handleBy_nil ?_
      obtain ⟨k1, k2, k3, oe, vs, T, oT, ts', he, hz, hd, h1, hr⟩ := id fl3
      unfold PySem.passOn
      refine wpAny_bind (wpAny_field he hd h1 ?_)
      rw [if_neg (show ¬ ((Value.ref T == Value.none) = true) from by simp)]
      have fin : wpAny (model X.prog X.w) X.A (setFlight (.ref a) X.env.frame) (fun _ s4 => wpAny (model X.prog X.w) X.A (throw (.ref a) : Sem Flow) (SP X pins D) X.xe s4) X.xe { s' with heap := h3 } := by
        rw [hf]
        refine HandSPX.setFlight_upZ fl3 fun h4 hh4 up4 => wpAny_throw (tk _ _ ?_)
        exact ⟨a, B, sI, pins, σ', H', cls, d, rfl, J, nb, (up.trans up3).trans up4, .inr (.inr (by rw [hs]; exact hh4)), na, os, ag, hno rfl⟩
      first
        | exact wpAny_bind (wpAny_pure (wpAny_bind fin))
        | exact wpAny_bind fin
  · cases f with
    | next =>
      obtain ⟨σ', H', J', q⟩ := hsp
      exact wpAny_execs_nil ⟨σ', H', J'.ofTry ok, q⟩
    | brk =>
      obtain ⟨σ', H', J', q⟩ := hsp
      exact ⟨σ', H', J'.ofTry ok, q⟩
    | cont =>
      obtain ⟨σ', H', J', q⟩ := hsp
      exact ⟨σ', H', J'.ofTry ok, q⟩
    | ret u =>
      obtain ⟨v, σ', H', J', r, q⟩ := hsp
      exact ⟨v, σ', H', J'.ofTry ok, r, q⟩
end
end Nw
set_option Elab.async false
set_option linter.all false
set_option maxRecDepth 100000
set_option maxHeartbeats 4000000
/-! Part Y: raise, try, draws, calls with new results. -/
namespace Nw
open PySem PySem.Spec L2
section
variable {S : Type}
def sRaise (c : Cl) : Sl → Mo S := fun r s => some (.thr ⟨c, []⟩ r, s)
/-- try: body / except c' as (slot i): (slot j) = (slot i) -/
def tryK (cs : List Cl) (c' : Cl) (i j : Nat) : Option (Flw × S) → Option (Flw × S)
  | some (.thr x r, s) => if x.c ∈ cs ∧ i < r.length then (if subC x.c c' = true then some (.next (((r.set i none).set j (some (.exc x.c x.fs))).set i none), s) else some (.thr x r, s)) else none
  | some (.next r, s) => some (.next r, s)
  | some (.rt d, s) => some (.rt d, s)
  | some (.brk r, s) => some (.brk r, s)
  | some (.cnt r, s) => some (.cnt r, s)
  | none => none
def sTryH (cs : List Cl) (c' : Cl) (i j : Nat) (f : Sl → Mo S) : Sl → Mo S := fun r s => tryK cs c' i j (f r s)
end
section
variable {X : Cx} {R : Reg} {W : WX} {fr : FrK} {O O' B : List Nat} {a b e o tg iter : Expr} {es : List Expr} {f g : Sl → M R.S D} {fb : Sl → Mo R.S} {fs : Sl → M R.S (List D)} {pos p apos cpos npos np pos' : Pos} {n i j : Nat} {x y z : Str} {body : List Stmt}
theorem ds_raise {m : Str} {jj : Nat} {p2 : Pos} {md : Bool} (cx : Cxt X R W n) (tk : TkM md X W) {c : Cl} (hx : c.name = x) (q : PySem.W.excIn X.K (eA X.K c) He.veBase "ValueError.__new__" = true) (gC : X.mg x = some (.ref (eA X.K c))) (kC : PySem.W.keepIn X.K (.ref (eA X.K c)) = true) (xc : XC X.K c) (hg : Gl X x) (hdb : (x == ("__debug__" : Str)) = false := by decide) :
    PS X (.Raise (some (.Call (.Name x p) [.Constant (.str m) jj p2] [] pos)) none pos') (tDS R W fr B O O' (sRaise c)) :=
  by
  cases md with
  | false =>
    exact ps_imp (ps_raise cx.calm tk (pmk_own PySem.F.excBase_ValueError q gC kC (raises_own xc.sub xc.ty) hg hdb)) fun E σ H h => by
      obtain ⟨F0, H0, F, r, s, w, st, sl, p⟩ := h
      obtain ⟨G, wG, stG, slG, sm, _⟩ := sl.all w st
      exact p σ G H _ _ wG stG slG ⟨by rw [cx.hK], .inl ⟨rfl, rfl⟩⟩
  | true =>
    exact ps_imp (L2N.ps_raise cx.calm tk (L2N.pmk_own PySem.F.excBase_ValueError q gC kC (raises_own xc.sub xc.ty) hg hdb)) fun E σ H h => by
      obtain ⟨F0, H0, F, r, s, w, st, sl, p⟩ := h
      obtain ⟨G, wG, stG, slG, sm, _⟩ := sl.all w st
      exact p σ G H _ _ wG stG slG ⟨by rw [cx.hK], .inl ⟨rfl, rfl⟩⟩
theorem Cxt.tr (cx : Cxt X R W n) {pn : List (Addr × Obj)} {xe : Value → Shared → Prop} (W' : WX) : Cxt (X.tr pn xe) R W' n := ⟨cx.hK, cx.hr, cx.nd, cx.calm⟩
theorem set_none_pu {F : Hp} {σ : L2.St} {r : Sl} (h : Pu R O F σ r) (v : Option V) : Pu R O F (σ.set i v) (r.set i none) := ⟨by rw [List.length_set, List.length_set]; exact h.len, fun k d hk e => by
  by_cases ek : i = k
  · subst ek
    by_cases hl : i < r.length
    · rw [List.getElem?_set_self hl] at e; cases e
    · rw [List.getElem?_eq_none (by rw [List.length_set]; omega)] at e; cases e
  · rw [List.getElem?_set_ne ek] at e ⊢
    exact h.at_ k d hk e⟩
theorem set_some_pu {F : Hp} {σ : L2.St} {r : Sl} (h : Pu R O F σ r) {d : D} {v : V} (rv : Rep R.K R.nm F d v) : Pu R O F (σ.set i (some v)) (r.set i (some d)) := ⟨by rw [List.length_set, List.length_set]; exact h.len, fun k d' hk e => by
  by_cases ek : i = k
  · subst ek
    by_cases hl : i < r.length
    · rw [List.getElem?_set_self hl] at e
      cases e
      exact ⟨v, List.getElem?_set_self (by rw [← h.len]; exact hl), rv⟩
    · rw [List.getElem?_eq_none (by rw [List.length_set]; omega)] at e; cases e
  · rw [List.getElem?_set_ne ek] at e ⊢
    exact h.at_ k d' hk e⟩
theorem slots_nil {H0 F H : Hp} {σ : L2.St} {r : Sl} (h : Pu R [] F σ r) : Slots R H0 [] F H σ r := ⟨h, (fun _ _ z => absurd z (by simp)), (fun _ _ z => absurd z (by simp)), fun _ _ _ _ _ z => absurd z (by simp)⟩
/-- try: .. except c' as y: z = y -/
theorem ds_tryH {cs : List Cl} {c' : Cl} {q1 q2 q3 : Pos} (cx : Cxt X R W n) (tk : TkM false X W) (xf : XF X.K cs) (hc' : c' ∈ cs) (hx : c'.name = x) (hex : X.ex = []) (hs : X.stack = X.env :: X.outer) (hf : X.env.frame = some X.env.locals) (hi : X.N[i]? = some y) (hln : X.env.kindOf y = some .local) (hj : X.N[j]? = some z) (hlz : X.env.scope.names.lookup z = some .local)
    (hg : Gl X x) (hm : X.mg x = some (.ref (eA X.K c'))) (hdy : (y == ("__debug__" : Str)) = false) (hcy : (y == ("__classdict__" : Str)) = false) (hsw : swapsWith (.Name y q2) (some (.Name z q1)) q3.line X.env = pure false) (hvy : Vis X.env.scope y)
    (hb : ∀ (W' : WX) (pn : List (Addr × Obj)) (xe : Value → Shared → Prop), Cxt (X.tr pn xe) R W' n → TkM false (X.tr pn xe) W' → PassesOwn (model X.prog X.w) X.A X.env xe → PSs (X.tr pn xe) body (tDS R W' fr B [] [] fb)) (hdb : (x == ("__debug__" : Str)) = false := by decide) :
    PS X (.Try body [.ExceptHandler (some (.Name x np)) (some y) [.Assign [.Name z q1] (.Name y q2) q3] pos'] [] [] pos) (tDS R W fr B [] [] (sTryH cs c' i j fb)) := by
  have suite : ∀ (a : Addr) (oe : Obj) (cls : Value) (d : Option Addr) (pn : List (Addr × Obj)), Zc cls d oe → (∃ vs, oe.data = .fields vs) → PSs (X.suite a ((a, oe) :: pn)) [.Assign [.Name z q1] (.Name y q2) q3] (tAsg (tVar i) (gName j)) := fun a oe cls d pn _ _ =>
    pss_one (ps_set (X := X.suite a ((a, oe) :: pn)) cx.nd hj (.inl hlz) (pe_var hi hvy hdy hcy) hsw (.inr hlz))
  refine ps_imp (ps_try_asT hex hs hf cx.nd hi hln ⟨hg, hdb, .inl hm⟩ tk (tb := fun W' => tDS R W' fr B [] [] fb) (fun W' pn xe tk po => hb W' pn xe (cx.tr W') tk po) suite) fun E σ H h => ?_
  obtain ⟨F0, H0, F, r, s, w, st, sl, p⟩ := h
  refine ⟨F0, H0, F, r, s, w, st, sl, ?_⟩
  unfold sTryH at p
  cases ef : fb r s with
  | none => rw [ef] at p; exact p
  | some q =>
    obtain ⟨fl, s'⟩ := q
    rw [ef] at p
    cases fl with
    | next r' => exact p
    | rt d => exact p
    | brk r' => exact p
    | cnt r' => exact p
    | thr xx r' =>
      have p : PostS R fr F0 H0 (if xx.c ∈ cs ∧ i < r'.length then (if subC xx.c c' = true then some (.next (((r'.set i none).set j (some (.exc xx.c xx.fs))).set i none), s') else some (.thr xx r', s')) else none) E W B [] := p
      by_cases hcs : xx.c ∈ cs ∧ i < r'.length
      · rw [if_pos hcs] at p
        obtain ⟨hcs, hir⟩ := hcs
        intro σ' F' H' cls dd w' st' sl' rx
        have hcls : cls = .ref (eA X.K xx.c) := by rw [rx.1, cx.hK]
        refine ⟨subC xx.c c', by rw [hcls]; exact xf.exm _ hcs _ hc', fun hb2 ad had => ?_, fun hb2 => ?_⟩
        · rw [if_pos hb2] at p
          have st2 : Stp R F' H' (upd F' ad (ExH cls dd ad)) (upd H' ad (ExH cls dd ad)) := Stp.new _ had (w'.free had)
          have w2 : Wd R (upd F' ad (ExH cls dd ad)) (upd H' ad (ExH cls dd ad)) s' := w'.new _ had
          have pu2 := sl'.pu.mono st2.fs
          have rv : Rep R.K R.nm (upd F' ad (ExH cls dd ad)) (.exc xx.c xx.fs) (.ref ad) := by
            obtain ⟨h1, h2⟩ := rx.mono st2.fs
            refine ⟨ad, dd, rfl, by rw [upd_same, h1], ?_⟩
            rcases h2 with ⟨h3, h4⟩ | h2
            · exact .inl ⟨h3, h4⟩
            · exact .inr h2
          have hil : i < σ'.length := by rw [← sl'.pu.len]; exact hir
          refine ⟨.ref ad, List.getElem?_set_self hil, ?_⟩
          exact p _ _ _ w2 (st'.trans st2) (slots_nil (set_none_pu (set_some_pu (set_none_pu pu2 _) rv) _))
        · rw [if_neg (by rw [hb2]; exact Bool.false_ne_true)] at p
          exact p σ' F' H' cls dd w' st' sl' rx
      · rw [if_neg hcs] at p; exact p.elim
/-! ### new results -/
theorem df_lc {elt : Expr} {ifs : List Expr} {scope : Scope} {own : List (Str × Nat)} {it : Sl → M R.S (List D)} {gt : TG} {tgt : D → Sl → Option Sl} {t : Sl → M R.S Bool} (c : Cxt X R W n) (hi : PI X tg iter (tDI R W O it)) (ok : BlkOk X.N X.env.scope scope own) (hgs : TgSat R gt (own.map (·.2)) tgt)
    (hg : ∀ (s : Shared) (H : Hp) (C : Addr) (cl : List (Str × Addr)) (fp : List Addr), PG (X.blk s H scope (compEnvC scope cl C X.env) fp) tg gt)
    (ht : ∀ (s : Shared) (H : Hp) (C : Addr) (cl : List (Str × Addr)) (fp : List Addr), Cxt (X.blk s H scope (compEnvC scope cl C X.env) fp) R W0 n → PTs (X.blk s H scope (compEnvC scope cl C X.env) fp) ifs (tDT R W0 O t))
    (he : ∀ (s : Shared) (H : Hp) (C : Addr) (cl : List (Str × Addr)) (fp : List Addr), Cxt (X.blk s H scope (compEnvC scope cl C X.env) fp) R W0 n → PE (X.blk s H scope (compEnvC scope cl C X.env) fp) elt (tD R W0 O f)) (hs : ∀ x, foldedSetIterable iter X.env x = pure x := by intro _; rfl) :
    PE X (.ListComp elt [⟨tg, iter, ifs, 0⟩] scope pos) (tDF R W O (dLc it tgt t f)) :=
  pe_imp (pe_lc c.calm c.nd hi ok hg (fun s H C cl fp => ht s H C cl fp (c.blk _ _ _ _ _)) (fun s H C cl fp => he s H C cl fp (c.blk _ _ _ _ _)) hs) (sat_lcF hgs)
/-- a def whose result is new -/
def spF (R : Reg) (n : Nat) (g : List D → M R.S D) : Sp := fun vs H Q E => vs.length = n ∧ ∃ F s ds, Wd R F H s ∧ Reps R.K R.nm F ds vs ∧
  Post R F H (g ds s) (fun d _ F' H' => ∀ v, Fre R H F' H' d v → Q v H') (fun x _ F' H' => ∀ cls dd, RepX R.K R.nm F' x cls dd → E cls dd H')
def spPF (K : PySem.W.Frag) (n : Nat) (g : List D → M Unit D) : Sp := fun vs H Q E => ∃ nm, spF (R0 K nm) n g vs H Q E
def spTF (K : PySem.W.Frag) (n : Nat) (g : List D → M Nat D) : Sp := fun vs H Q E => ∃ T, spF (RT K T) n g vs H Q E
theorem spF_of {n : Nat} {g : List D → M R.S D} {vs : List V} {H : Hp} {Q : VK} {E : XK} (h : spD R n g vs H Q E) : spF R n g vs H Q E := by
  obtain ⟨hn, F, s, ds, w, rs, p⟩ := h
  refine ⟨hn, F, s, ds, w, rs, ?_⟩
  cases eg : g ds s with
  | ok d s' =>
    rw [eg] at p
    intro F' H' w' st' v fv
    obtain ⟨G, wG, stG, rG⟩ := fv.give w' st'
    exact p G H' wG stG v rG
  | exc x s' => rw [eg] at p; exact p
  | bot => rw [eg] at p; exact p
theorem fre_0 {nm : Nat → Option Addr} {K : PySem.W.Frag} (hK : R.K = K) (hnm : R.nm = nm) {F H F' H' : Hp} {s : R.S} {d : D} {v : V} (w : Wd R F H s) (h : Fre R H F' H' d v) : Fre (R0 K nm) H F' H' d v := by
  subst hK hnm
  cases d with
  | row ds => obtain ⟨a, e, h1, h2, h3, h4⟩ := h; exact ⟨a, e, h1, h2, fun z => z, h4⟩
  | tab ds => obtain ⟨a, e, h1, h2, h3, h4⟩ := h; exact ⟨a, e, h1, h2, fun z => z, h4⟩
  | _ => exact h
theorem fre_of_0 {F H F' H' : Hp} {s : R.S} {d : D} {v : V} (w : Wd R F H s) (h : Fre (R0 R.K R.nm) H F' H' d v) : Fre R H F' H' d v := by
  cases d with
  | row ds => obtain ⟨a, e, h1, h2, h3, h4⟩ := h; exact ⟨a, e, h1, h2, w.notMu h1, h4⟩
  | tab ds => obtain ⟨a, e, h1, h2, h3, h4⟩ := h; exact ⟨a, e, h1, h2, w.notMu h1, h4⟩
  | _ => exact h
theorem df_callP {md : Bool} {k n : Nat} {g : List D → M Unit D} (c : Cxt X R W k) (tk : TkM md X W) (h : Has md X.prog X.w X.K X.mg X.base k x (spPF X.K n g)) (hg : Gl X x) (ha : PA X (e :: es) (tDA R W O fs)) (hdb : (x == ("__debug__" : Str)) = false := by decide)
    (he : starEach (e :: es) X.env = (false, eval e X.env) :: starEach es X.env := by rfl) (hpl : (backTo pos (starEach es X.env)).any (·.1) = false := by rfl) : PE X (.Call (.Name x p) (e :: es) [] pos) (tDF R W O (dCall n (fun ds => up (g ds)) fs)) := by
  obtain ⟨f, fd, ps, F, hm, hk, hb⟩ := h
  refine pe_imp (pe_callS F c.hr hg hm hk hb (fun σ => passM tk σ) ha hdb he hpl) fun σ H Q h => ?_
  obtain ⟨F, ρ, s, w, pu, p⟩ := h
  refine ⟨F, ρ, s, w, pu, p.bnd.imp (fun ds s1 F1 H1 w1 st1 p1 vs rvs => ?_) fun _ _ _ _ _ _ z => z⟩
  by_cases hn : ds.length = n
  · rw [if_pos hn] at p1
    refine ⟨R.nm, by rw [rvs.length]; exact hn, F1, (), ds, ?_, ?_, ?_⟩
    · rw [← c.hK]; exact wd_0 w1
    · rw [← c.hK]; exact rvs
    · rw [← c.hK]
      have p2 := post_up (k := fun d F' H' => ∀ v, Fre R H F' H' d v → Q v H') (x := fun x F' H' => ∀ cls dd, RepX R.K R.nm F' x cls dd → W cls dd σ H') w1 p1
      exact p2.imp (fun d _ F' H' w' st' q v fv => q v ((fre_of_0 w1 fv).base st1.th)) fun _ _ _ _ _ _ z => z
  · rw [if_neg hn] at p1
    exact False.elim p1
end
/-! ### the law's draws -/
section
variable {X : Cx} {K : PySem.W.Frag} {T : Addr} {W : WX} {fr : FrK} {B O : List Nat} {pos apos cpos npos q1 : Pos} {i jj : Nat} {x : Str} {n : Nat} {p : Pos}
def isTown (r : Sl) (i : Nat) : Bool := match getS r i with
  | some (.obj 0) => true
  | _ => false
def sTown (i : Nat) : Sl → Mo Nat := fun r s => if isTown r i = true ∧ s < sizeLine then some (.next r, s + 1) else none
def dTown (i : Nat) : Sl → M Nat D := fun r s => if isTown r i = true then .ok (.int (s : Nat)) s else .bot
theorem town_at {O : List Nat} {F : Hp} {σ : L2.St} {r : Sl} (hO : i ∉ O) (pu : Pu (RT K T) O F σ r) (h : isTown r i = true) : σ[i]? = some (some (.ref T)) := by
  unfold isTown at h
  split at h
  · rename_i e
    obtain ⟨v, h1, a, h2, h3⟩ := pu.at_ i _ hO (getS_some e)
    have h2 : some T = some a := h2
    cases h2
    rw [h1, h3]
  · cases h
theorem ds_town (i : Nat) (hO : i ∉ O) (hN : X.N[i]? = some x) (hv : Vis X.env.scope x) (hd : (x == ("__debug__" : Str)) = false := by decide) (hcd : (x == ("__classdict__" : Str)) = false := by decide)
    (hbase : attributeBase (.Name x npos) "append" X.env (eval (.Name x npos) X.env) = eval (.Name x npos) X.env := by rfl)
    (hfew : ((backTo cpos (starEach [.Constant (.int 0) jj q1] X.env)).all (fun x => !x.1) && (backToKw cpos (keywordEach [] X.env)).all (fun x => x.1.isSome)
      && decide (([Expr.Constant (.int 0) jj q1] : List Expr).length + ([] : List Keyword).length + (if ([] : List Keyword).isEmpty then 0 else 1) < 30)) = true := by rfl)
    (hline : (apos.endLine == cpos.line) = true := by rfl) (hst : starEach [.Constant (.int 0) jj q1] X.env = (false, eval (.Constant (.int 0) jj q1) X.env) :: starEach [] X.env := by rfl) (hplain : (backTo cpos (starEach [] X.env)).any (·.1) = false := by rfl) (hs : swapsWith (.Call (.Attribute (.Name x npos) "append" apos) [.Constant (.int 0) jj q1] [] cpos) none pos.line X.env = pure false := by rfl) :
    PS X (.Expr (.Call (.Attribute (.Name x npos) "append" apos) [.Constant (.int 0) jj q1] [] cpos) pos) (tDS (RT K T) W fr B O O (sTown i)) :=
  ps_imp (ps_expr (pe_bm F.plainAttrs_list F.slot_list_append F.type_list_append mt_append (pe_var hN hv hd hcd) (pa_cons pe_int pa_nil hst) hbase hfew hline hst hplain) hs) fun E σ H h => by
  obtain ⟨F0, H0, F, r, s, w, st, sl, p⟩ := h
  have p : PostS (RT K T) fr F0 H0 (if isTown r i = true ∧ s < sizeLine then some (.next r, s + 1) else none) E W B O := p
  by_cases hh : isTown r i = true ∧ s < sizeLine
  · rw [if_pos hh] at p
    have h1 := town_at hO sl.pu hh.1
    obtain ⟨hT, hz⟩ := w.si
    refine ⟨_, h1, .inl ⟨rfl, _, SqL.of hT⟩, T, _, .int 0, rfl, rfl, hT, by rw [List.length_replicate]; exact hh.2, ?_⟩
    have nT : ∀ a, ¬ (RT K T).Mu a → a ≠ T := fun a h z => h z
    have fT : F T = none := w.mu T rfl
    refine p σ F _ ⟨fun a o q => ?_, w.mu, ⟨?_, ?_⟩⟩ ⟨st.fs, fun a o m q => ?_, st.nw, fun a q => ?_⟩ ⟨sl.pu, fun k d hk hrt e => ?_, sl.ns, sl.sep⟩
    · rw [upd_ne fun z => by rw [z, fT] at q; cases q]; exact w.sub a o q
    · show upd H T _ T = _
      rw [upd_same, List.replicate_succ']
    · show s + 1 ≤ sizeLine
      exact hh.2
    · rw [upd_ne (nT a m)]; exact st.hs a o m q
    · by_cases e : a = T
      · rw [e, upd_same] at q; cases q
      · rw [upd_ne e] at q; exact st.th a q
    · obtain ⟨a, e1, e2⟩ := sl.ow k d hk hrt e
      exact ⟨a, e1, e2.other (nT a e2.2.2.1)⟩
  · rw [if_neg hh] at p; exact p.elim
theorem de_lenT (i : Nat) (hO : i ∉ O) (hN : X.N[i]? = some x) (hv : Vis X.env.scope x) (hg : Gl X "len") (hm : X.mg "len" = none) (hd : (x == ("__debug__" : Str)) = false := by decide) (hcd : (x == ("__classdict__" : Str)) = false := by decide)
    (he : starEach [.Name x npos] X.env = (false, eval (.Name x npos) X.env) :: starEach [] X.env := by rfl) (hpl : (backTo pos (starEach [] X.env)).any (·.1) = false := by rfl) : PE X (.Call (.Name "len" p) [.Name x npos] [] pos) (tD (RT K T) W O (dTown i)) :=
  pe_imp (pe_callB call_len_seq hg hm (by decide +kernel) (pa_cons (pe_var hN hv hd hcd) pa_nil he) (by decide) (by decide) he hpl) fun σ H Q h => by
  obtain ⟨F, r, s, w, pu, p⟩ := h
  unfold dTown at p
  by_cases hh : isTown r i = true
  · rw [if_pos hh] at p
    obtain ⟨hT, hz⟩ := w.si
    refine ⟨_, town_at hO pu hh, T, _, rfl, .inl (SqL.of hT), ?_⟩
    rw [List.length_replicate]
    exact p F H w Stp.refl _ rfl
  · rw [if_neg hh] at p; exact p.elim
end
end Nw
set_option Elab.async false
set_option linter.all false
set_option maxRecDepth 100000
set_option maxHeartbeats 4000000
/-! Part Z: defs. -/
namespace Nw
open PySem PySem.Spec L2
section
variable {S : Type}
def startD (m : Nat) (ds : List D) : Sl := ds.map some ++ List.replicate (m - ds.length) none
def endK : Option (Flw × S) → Res S D
  | some (.rt d, s) => .ok d s
  | some (.next _, s) => .ok .non s
  | some (.thr x _, s) => .exc x s
  | _ => .bot
/-- what a def with m slots computes -/
def fnD (m : Nat) (g : Sl → Mo S) : List D → M S D := fun ds s => endK (g (startD m ds) s)
end
section
variable {R : Reg} {F H : Hp}
theorem start_pu {N : List Str} {ds : List D} {vs : List V} (rs : Reps R.K R.nm F ds vs) : Pu R [] F (start N vs) (startD N.length ds) := by
  have hl := rs.length
  refine ⟨?_, fun i d _ e => ?_⟩
  · unfold L2.start startD
    rw [List.length_append, List.length_append, List.length_map, List.length_map, List.length_replicate, List.length_replicate, hl]
  · unfold startD at e
    unfold L2.start
    by_cases hi : i < ds.length
    · rw [List.getElem?_append_left (by rw [List.length_map]; exact hi), List.getElem?_map] at e
      rw [List.getElem?_append_left (by rw [List.length_map, hl]; exact hi), List.getElem?_map]
      have e2 : ds[i]? = some d := by
        rw [List.getElem?_eq_getElem hi] at e ⊢
        simpa using e
      obtain ⟨v, h1, h2⟩ := rs.get e2
      exact ⟨v, by rw [h1]; rfl, h2⟩
    · rw [List.getElem?_append_right (by rw [List.length_map]; omega), List.length_map, List.getElem?_replicate] at e
      split at e <;> simp at e
end
section
variable {P : Program} {w : World} {K : PySem.W.Frag} {mg : Str → Option Value} {base : Heap} {x qual : Str} {params : Arguments} {body : List Stmt} {scope : Scope} {kws : List (Str × V)} {f : Addr} {fd : FuncData} {N ps : List Str} {k : Nat} {md : Bool}
abbrev XO (md : Bool) (P : Program) (w : World) (K : PySem.W.Frag) (mg : Str → Option Value) (base : Heap) (N : List Str) (qual : Str) (scope : Scope) (f : Addr) (cdv : Value) (A : Around) (outer : List Env) (s : Shared) (H : Hp) (E : XK) : Cx := cxOf (CXm md P w) P w K mg base N qual scope f cdv A outer s H E
abbrev WO (E : XK) : WX := fun cls d _ H => E cls d H
/-- the body of a def, wherever it is called from -/
def BodyOk (md : Bool) (P : Program) (w : World) (K : PySem.W.Frag) (mg : Str → Option Value) (base : Heap) (N : List Str) (qual : Str) (scope : Scope) (body : List Stmt) (k : Nat) (R : Reg) (fr : FrK) (O' : List Nat) (g : Sl → Mo R.S) : Prop :=
  ∀ (f : Addr) (cdv : Value) (A : Around) (outer : List Env) (s : Shared) (H : Hp) (E : XK), Cxt (XO md P w K mg base N qual scope f cdv A outer s H E) R (WO E) k → TkM md (XO md P w K mg base N qual scope f cdv A outer s H E) (WO E) → PassesOwn (model P w) (XO md P w K mg base N qual scope f cdv A outer s H E).A (XO md P w K mg base N qual scope f cdv A outer s H E).env (XO md P w K mg base N qual scope f cdv A outer s H E).xe →
    PSs (XO md P w K mg base N qual scope f cdv A outer s H E) body (tDS R (WO E) fr [] [] O' g)
theorem body_run {R : Reg} {fr : FrK} {O' : List Nat} {g : Sl → Mo R.S} {vs : List V} {H F : Hp} {s' : R.S} {Q : VK} {E : XK} {ds : List D} (hw : Wd R F H s') (rs : Reps R.K R.nm F ds vs)
    (p : Post R F H (fnD N.length g ds s') (fun d _ F' H' => ∀ v, RetOk fr R H F' H' d v → Q v H') (fun x _ F' H' => ∀ cls dd, RepX R.K R.nm F' x cls dd → E cls dd H')) : tDS R (WO E) fr [] [] O' g { nx := fun _ H' => Q .non H', rt := Q } (start N vs) H := by
  refine ⟨F, H, F, startD N.length ds, s', hw, Stp.refl, slots_nil (start_pu rs), ?_⟩
  unfold fnD at p
  cases e : g (startD N.length ds) s' with
  | none => rw [e] at p; exact p
  | some q =>
    obtain ⟨fl, s2⟩ := q
    rw [e] at p
    cases fl with
    | next r => exact fun σ F' H' w' st' _ => p F' H' w' st' .non (by cases fr <;> first | exact rfl | exact ⟨rfl, trivial⟩)
    | rt d => exact fun v F' H' w' st' rv => p F' H' w' st' v rv
    | brk r => exact p.elim
    | cnt r => exact p.elim
    | thr xx r => exact fun σ F' H' cls dd w' st' _ rx => p F' H' w' st' cls dd rx
theorem takesM {f : Addr} {cdv : Value} {A : Around} {outer : List Env} {s : Shared} {H : Hp} (E : XK) : TkM md (XO md P w K mg base N qual scope f cdv A outer s H E) (WO E) := by
  cases md with
  | true => exact L2N.takes_of rfl rfl rfl rfl
  | false => exact L2.takes_of rfl rfl rfl rfl
theorem fn_run (F : FunD K x qual params body scope [] kws f fd) (S : FnScope N ps scope) {sp : Sp} (len : ∀ vs H Q E, sp vs H Q E → vs.length = ps.length)
    (hb : ∀ vs H Q E, sp vs H Q E → ∃ (R : Reg) (fr : FrK) (O' : List Nat) (g : Sl → Mo R.S), R.K = K ∧ BodyOk md P w K mg base N qual scope body k R fr O' g ∧ tDS R (WO E) fr [] [] O' g { nx := fun _ H' => Q .non H', rt := Q } (start N vs) H) : FnOk P w K mg base (CXm md P w) (k + 1) f fd ps sp := by
  refine F.ok S len fun cdv A outer s H vs Q E hr hsp => ?_
  obtain ⟨R, fr, O', g, hK, hB, ht⟩ := hb vs H Q E hsp
  exact ⟨_, hB f cdv A outer s H E ⟨hK, hr, S.nd, rfl⟩ (takesM E) (passes_of rfl), ht⟩
theorem fn_P (F : FunD K x qual params body scope [] kws f fd) (S : FnScope N ps scope) {O' : List Nat} {g : Sl → Mo Unit} (hb : ∀ nm, BodyOk md P w K mg base N qual scope body k (R0 K nm) .f O' g) : FnOk P w K mg base (CXm md P w) (k + 1) f fd ps (spP K ps.length (fnD N.length g)) :=
  fn_run F S (fun vs H Q E h => by obtain ⟨nm, hn, _⟩ := h; exact hn) fun vs H Q E h => by
    obtain ⟨nm, hn, G, s', ds, hw, rs, p⟩ := h
    exact ⟨R0 K nm, .f, O', g, rfl, hb nm, body_run hw rs p⟩
theorem fn_PF (F : FunD K x qual params body scope [] kws f fd) (S : FnScope N ps scope) {O' : List Nat} {g : Sl → Mo Unit} (hb : ∀ nm, BodyOk md P w K mg base N qual scope body k (R0 K nm) .t O' g) : FnOk P w K mg base (CXm md P w) (k + 1) f fd ps (spPF K ps.length (fnD N.length g)) :=
  fn_run F S (fun vs H Q E h => by obtain ⟨nm, hn, _⟩ := h; exact hn) fun vs H Q E h => by
    obtain ⟨nm, hn, G, s', ds, hw, rs, p⟩ := h
    exact ⟨R0 K nm, .t, O', g, rfl, hb nm, body_run hw rs p⟩
theorem fn_T (F : FunD K x qual params body scope [] kws f fd) (S : FnScope N ps scope) {O' : List Nat} {g : Sl → Mo Nat} (hb : ∀ T, BodyOk md P w K mg base N qual scope body k (RT K T) .f O' g) : FnOk P w K mg base (CXm md P w) (k + 1) f fd ps (spT K ps.length (fnD N.length g)) :=
  fn_run F S (fun vs H Q E h => by obtain ⟨nm, hn, _⟩ := h; exact hn) fun vs H Q E h => by
    obtain ⟨T, hn, G, s', ds, hw, rs, p⟩ := h
    exact ⟨RT K T, .f, O', g, rfl, hb T, body_run hw rs p⟩
theorem fn_TF (F : FunD K x qual params body scope [] kws f fd) (S : FnScope N ps scope) {O' : List Nat} {g : Sl → Mo Nat} (hb : ∀ T, BodyOk md P w K mg base N qual scope body k (RT K T) .t O' g) : FnOk P w K mg base (CXm md P w) (k + 1) f fd ps (spTF K ps.length (fnD N.length g)) :=
  fn_run F S (fun vs H Q E h => by obtain ⟨nm, hn, _⟩ := h; exact hn) fun vs H Q E h => by
    obtain ⟨T, hn, G, s', ds, hw, rs, p⟩ := h
    exact ⟨RT K T, .t, O', g, rfl, hb T, body_run hw rs p⟩
/-- a promise of nothing -/
theorem fn_none {sp : Sp} (h : ∀ vs H Q E, ¬ sp vs H Q E) : FnOk P w K mg base (CXm md P w) k f fd ps sp := ⟨fun vs H Q E z => (h vs H Q E z).elim, fun _ _ _ _ _ _ vs Q E _ _ _ _ z => (h _ _ _ _ z).elim⟩
def gBot {S : Type} : List D → M S D := fun _ => bot
theorem not_P {n : Nat} (vs : List V) (H : Hp) (Q : VK) (E : XK) : ¬ spP K n gBot vs H Q E := fun ⟨_, _, _, _, _, _, _, p⟩ => p
theorem not_PF {n : Nat} (vs : List V) (H : Hp) (Q : VK) (E : XK) : ¬ spPF K n gBot vs H Q E := fun ⟨_, _, _, _, _, _, _, p⟩ => p
theorem not_T {n : Nat} (vs : List V) (H : Hp) (Q : VK) (E : XK) : ¬ spT K n gBot vs H Q E := fun ⟨_, _, _, _, _, _, _, p⟩ => p
theorem not_TF {n : Nat} (vs : List V) (H : Hp) (Q : VK) (E : XK) : ¬ spTF K n gBot vs H Q E := fun ⟨_, _, _, _, _, _, _, p⟩ => p
theorem Has.imp {sp sp' : Sp} (h : Has md P w K mg base k x sp) (i : ∀ vs H Q E, sp' vs H Q E → sp vs H Q E) : Has md P w K mg base k x sp' := by
  obtain ⟨f, fd, ps, F, hm, hk, hb⟩ := h
  exact ⟨f, fd, ps, F.imp i, hm, hk, hb⟩
theorem Has.wk {sp : Sp} (h : Has true P w K mg base k x sp) : Has false P w K mg base k x sp := by
  obtain ⟨f, fd, ps, F, hm, hk, hb⟩ := h
  refine ⟨f, fd, ps, ⟨F.len, fun A outer s H args us vs Q E hr e0 b r hsp => codeAny_mono (F.run A outer s H args us vs Q E hr e0 b r hsp) fun rr s' hh => ?_⟩, hm, hk, hb⟩
  cases rr with
  | ok fl => cases fl <;> exact hh
  | error e =>
    obtain ⟨a, B, H', cls, d, e1, fl, r⟩ := (show L2N.CX P w outer H s E e s' from hh)
    exact (show L2.CX P w outer H s E e s' from ⟨a, B, H', cls, d, e1, L2H.flyingZ_imp (fun o z => z.zc) fl, r⟩)
theorem Has.ofPF {n : Nat} {g : List D → M Unit D} (h : Has md P w K mg base k x (spPF K n g)) : Has md P w K mg base k x (spP K n g) := h.imp fun vs H Q E ⟨nm, h⟩ => ⟨nm, spF_of h⟩
theorem Has.ofTF {n : Nat} {g : List D → M Nat D} (h : Has md P w K mg base k x (spTF K n g)) : Has md P w K mg base k x (spT K n g) := h.imp fun vs H Q E ⟨nm, h⟩ => ⟨nm, spF_of h⟩
end
section
variable {X : Cx} {K : PySem.W.Frag} {T : Addr} {W : WX} {O : List Nat} {e : Expr} {es : List Expr} {fs : Sl → M Nat (List D)} {pos : Pos} {x : Str} {p : Pos}
theorem df_callT {md : Bool} {k n : Nat} {g : List D → M Nat D} (c : Cxt X (RT K T) W k) (tk : TkM md X W) (h : Has md X.prog X.w X.K X.mg X.base k x (spTF X.K n g)) (hg : Gl X x) (ha : PA X (e :: es) (tDA (RT K T) W O fs)) (hdb : (x == ("__debug__" : Str)) = false := by decide)
    (he : starEach (e :: es) X.env = (false, eval e X.env) :: starEach es X.env := by rfl) (hpl : (backTo pos (starEach es X.env)).any (·.1) = false := by rfl) : PE X (.Call (.Name x p) (e :: es) [] pos) (tDF (RT K T) W O (dCall n g fs)) := by
  obtain ⟨f, fd, ps, F, hm, hk, hb⟩ := h
  have hK : K = X.K := c.hK
  subst hK
  refine pe_imp (pe_callS F c.hr hg hm hk hb (fun σ => passM tk σ) ha hdb he hpl) fun σ H Q h => ?_
  obtain ⟨F, ρ, s, w, pu, p⟩ := h
  refine ⟨F, ρ, s, w, pu, p.bnd.imp (fun ds s1 F1 H1 w1 st1 p1 vs rvs => ?_) fun _ _ _ _ _ _ z => z⟩
  by_cases hn : ds.length = n
  · rw [if_pos hn] at p1
    exact ⟨T, by rw [rvs.length]; exact hn, F1, s1, ds, w1, rvs, p1.imp (fun d s2 F' H' w' st' q v fv => q v (fv.base st1.th)) fun _ _ _ _ _ _ z => z⟩
  · rw [if_neg hn] at p1
    exact False.elim p1
end
end Nw
set_option Elab.async false
set_option linter.all false
set_option maxRecDepth 100000
set_option maxHeartbeats 4000000
/-! Part AA: a table beside the empty one. -/
namespace Nw
open PySem PySem.Spec L2
def eqTD (neg : Bool) : D → D → Option D
  | .tab a, .tab [] => some (.bl (if neg then !a.isEmpty else a.isEmpty))
  | _, _ => none
def rEqT0 (neg : Bool) : R2 := fun x y H Q => ∃ p q kvs, x = .ref p ∧ y = .ref q ∧ Rd H p (.dK kvs) ∧ Rd H q (.dK []) ∧ Q (.bl (if neg then !kvs.isEmpty else kvs.isEmpty)) H
section
variable {X : Cx} {R : Reg} {W : WX}
theorem op_eqT (hu : X.A.units + 64 < cLine) (neg : Bool) : OpR X (compareOp (if neg then .NotEq else .Eq)) (rEqT0 neg) := by
  intro pins s σ H x y v u Q I rx ry h
  obtain ⟨p, q, kvs, rfl, rfl, h1, h2, k⟩ := h
  cases rx
  cases ry
  obtain ⟨_, lo1, vs1, rel1, d1⟩ := dk_rd I.hok h1
  obtain ⟨_, lo2, vs2, rel2, d2⟩ := dk_rd I.hok h2
  cases rel2
  have hl : kvs.length = vs1.length := rel1.length
  have hits : vs1.length = ([] : List (Key × Value)).length → PySem.W.KeqHits X.A.in1 s ([] : List (Key × Value)) vs1 true := fun e => by
    cases vs1 with
    | nil => exact .nil
    | cons a b => cases e
  have ee : (vs1.length == ([] : List (Key × Value)).length && true) = kvs.isEmpty := by
    rw [Bool.and_true]
    cases kvs with
    | nil => cases vs1 with
      | nil => rfl
      | cons a b => cases hl
    | cons a b => cases vs1 with
      | nil => cases hl
      | cons a b => rfl
  cases neg with
  | false => exact PySem.W.keq_eq lo1 lo2 d1 d2 (by omega) hits ⟨.bl kvs.isEmpty, H, I, by rw [ee]; rfl, k⟩
  | true => exact PySem.W.keq_ne lo1 lo2 d1 d2 (by omega) hits ⟨.bl (!kvs.isEmpty), H, I, by rw [ee]; rfl, k⟩
theorem sat_eqT (neg : Bool) : OpSat R (rEqT0 neg) (eqTD neg) := fun x y d e d' F H s Q w rx ry h k => by
  unfold eqTD at h
  split at h
  · rename_i kvs
    cases h
    obtain ⟨a, ws, rfl, h1, _, h3⟩ := rx
    obtain ⟨b, us, rfl, h4, _, h6⟩ := ry
    rw [show us = [] from h6] at h4
    refine ⟨a, b, ws, rfl, rfl, w.sub.dK h1, w.sub.dK h4, ?_⟩
    have e : ws.isEmpty = kvs.isEmpty := by
      have := h3.length
      cases ws <;> cases kvs <;> first | rfl | cases this
    rw [e]
    exact k _ F H w Stp.refl rfl
  · cases h
theorem ck_eqT {n : Nat} (c : Cxt X R W n) : CmpOk X R .Eq (eqTD false) := ⟨_, op_eqT c.hr.units false, sat_eqT false⟩
theorem ck_neT {n : Nat} (c : Cxt X R W n) : CmpOk X R .NotEq (eqTD true) := ⟨_, op_eqT c.hr.units true, sat_eqT true⟩
end
end Nw
set_option Elab.async false
set_option linter.all false
set_option maxRecDepth 100000
set_option maxHeartbeats 4000000
/-! Part BB: the law itself. -/
namespace Nw
open PySem PySem.Spec L2
section
variable {P : Program} {w : World} {K : PySem.W.Frag} {mg : Str → Option Value} {base : Heap} {k : Nat} {f : Addr} {fd : FuncData} {ps : List Str}
theorem fn_cx0 {sp : Sp} (F : FnOk P w K mg base (CXm false P w) k f fd ps sp) (h : ∀ vs H Q E, sp vs H Q E → sp vs H Q E0) : FnOk P w K mg base CX0 k f fd ps sp :=
  ⟨F.len, fun A outer s H args us vs Q E hr e0 b r hsp => codeAny_mono (F.run A outer s H args us vs Q E0 hr e0 b r (h _ _ _ _ hsp)) fun rr s' hh => by
    cases rr with
    | ok fl => cases fl <;> exact hh
    | error e =>
      obtain ⟨_, _, _, _, _, _, _, _, _, _, _, _, z⟩ := (show L2.CX P w outer H s E0 e s' from hh)
      exact z.elim⟩
/-- the script, as the law gets it -/
def scriptD (ns : List Int) : D := .kro (ns.map D.int)
def spLaw (K : PySem.W.Frag) (m : Nat) : Sp := fun vs H Q _ => ∃ (a : Addr) (ns : List Int), vs = [.ref a] ∧ ns.length ≤ m ∧ SqL K H a (ns.map V.int) ∧ ∀ H', Q (.bl true) H'
/-- the law's slots behind town = [] -/
def lawSl (n : Nat) (ns : List Int) : Sl := (startD n [scriptD ns]).set 1 (some (.obj 0))
theorem fn_law {qual x : Str} {params : Arguments} {body rest : List Stmt} {scope : Scope} {kws : List (Str × V)} {N : List Str} {m : Nat} {q1 q2 q3 : Pos} {g : Sl → Mo Nat} (F : FunD K x qual params body scope [] kws f fd) (S : FnScope N ["script"] scope) (hb : body = .Assign [.Name "town" q1] (.List [] q2) q3 :: rest) (hN : N[1]? = some ("town" : Str))
    (hx : L2.Loc scope "town") (hr : ∀ T, BodyOk false P w K mg base N qual scope rest k (RT K T) .f [] g) (hm : m ≤ sizeLine)
    (hsw : ∀ f cdv A outer s H E, swapsWith (.List [] q2) (some (.Name "town" q1)) q3.line (XO false P w K mg base N qual scope f cdv A outer s H E).env = pure false)
    (hg : ∀ ns : List Int, ns.length ≤ m → ∃ s', g (lawSl N.length ns) 0 = some (.rt (.bl true), s')) : FnOk P w K mg base CX0 (k + 1) f fd ["script"] (spLaw K m) := by
  refine fn_cx0 (F.ok S (fun vs H Q E h => ?_) fun cdv A outer s H vs Q E hrm hsp => ?_) fun vs H Q E h => h
  · obtain ⟨a, ns, rfl, _⟩ := h
    rfl
  · obtain ⟨a, ns, rfl, hl, hs, hQ⟩ := hsp
    have cx : ∀ T, Cxt (XO false P w K mg base N qual scope f cdv A outer s H E) (RT K T) (WO E) k := fun T => ⟨rfl, hrm, S.nd, rfl⟩
    refine ⟨tSeq (tAsg (tLst tNil) (gName 1)) (fun D σ H1 => ∃ T, tDS (RT K T) (WO E) .f [] [] [] g D σ H1), ?_, ?_⟩
    · rw [hb]
      exact pss_cons (ps_set (X := XO false P w K mg base N qual scope f cdv A outer s H E) S.nd hN hx (pe_lst pa_nil) (hsw _ _ _ _ _ _ _) (.inl rfl)) ⟨fun pins s1 σ H1 D I ⟨T, h⟩ => (hr T f cdv A outer s H E (cx T) (takesM E) (passes_of rfl)).run pins s1 σ H1 D I h⟩
    · obtain ⟨s', hs'⟩ := hg ns hl
      refine ⟨Nat.zero_le _, fun p hp => ⟨p, H, upd H p (.lst []), H, lawSl N.length ns, 0, ?_, Stp.refl, ?_, ?_⟩⟩
      · exact ⟨fun b o q => .inl (by rw [upd_ne (ne_of_none q hp)]; exact q), fun b m => by rw [show b = p from m]; exact hp, upd_same, Nat.zero_le _⟩
      · refine slots_nil (set_some_pu (start_pu (ds := [scriptD ns]) ⟨.ref a, [], rfl, ⟨a, _, rfl, hs, by rw [List.length_map]; exact Nat.le_trans hl hm, reps_ints ns⟩, rfl⟩) ⟨p, rfl, rfl⟩)
      · rw [hs']
        intro v F' H' w' st' rv
        rw [show v = .bl true from rv]
        exact hQ H'
end
end Nw
set_option Elab.async false
set_option linter.all false
set_option maxRecDepth 100000
set_option maxHeartbeats 4000000
/-! Part CC: more statements and methods. -/
namespace Nw
open PySem PySem.Spec L2
section
variable {X : Cx} {R : Reg} {W : WX} {fr : FrK} {O O' B : List Nat} {a b e o tg iter : Expr} {es : List Expr} {f g fk fv : Sl → M R.S D} {c : Sl → M R.S Bool} {fs : Sl → M R.S (List D)} {pos p apos cpos npos : Pos} {n i : Nat} {x : Str}
/-- x.extend(e), x an own list, e a list -/
theorem ds_ext (i : Nat) (hO : i ∈ O) (hN : X.N[i]? = some x) (hv : Vis X.env.scope x) (he : PE X e (tD R W O f)) (hd : (x == ("__debug__" : Str)) = false := by decide) (hcd : (x == ("__classdict__" : Str)) = false := by decide)
    (hbase : attributeBase (.Name x npos) "extend" X.env (eval (.Name x npos) X.env) = eval (.Name x npos) X.env := by rfl)
    (hfew : ((backTo cpos (starEach [e] X.env)).all (fun x => !x.1) && (backToKw cpos (keywordEach [] X.env)).all (fun x => x.1.isSome)
      && decide (([e] : List Expr).length + ([] : List Keyword).length + (if ([] : List Keyword).isEmpty then 0 else 1) < 30)) = true := by rfl)
    (hline : (apos.endLine == cpos.line) = true := by rfl) (hst : starEach [e] X.env = (false, eval e X.env) :: starEach [] X.env := by rfl) (hplain : (backTo cpos (starEach [] X.env)).any (·.1) = false := by rfl) (hs : swapsWith (.Call (.Attribute (.Name x npos) "extend" apos) [e] [] cpos) none pos.line X.env = pure false := by rfl) :
    PS X (.Expr (.Call (.Attribute (.Name x npos) "extend" apos) [e] [] cpos) pos) (tDS R W fr B O O (sOwn1 "list" i extD f)) :=
  ps_imp (ps_expr (pe_bm F.plainAttrs_list F.slot_list_extend F.type_list_extend mt_extend (pe_var hN hv hd hcd) (pa_cons he pa_nil hst) hbase hfew hline hst hplain) hs) fun E σ H h => by
  obtain ⟨F0, H0, F, r, s, w, st, sl, p⟩ := h
  obtain ⟨d, eg, p⟩ := opt_post p
  obtain ⟨d0, eg0, e2⟩ := bind_some eg
  obtain ⟨u, eu, e3⟩ := map_some e2
  have e3 : d0 = d := e3
  subst e3
  clear eg e2
  have eg := eg0
  cases d0 with
  | row xs =>
    obtain ⟨ad, h1, h2⟩ := sl.ow i _ hO rfl (getS_some eg)
    obtain ⟨ws0, e10, e20, e30⟩ := h2.2.2.2
    refine ⟨_, h1, .inl ⟨rfl, ws0, SqL.of e10⟩, F, r, s, w, sl.pu, (postS_x w st sl p).imp (fun v s1 F1 H1 w1 st1 q vv rv => ?_) fun _ _ _ _ _ _ z => z⟩
    obtain ⟨w2, st2, sl2, p2⟩ := q
    obtain ⟨d', ed, p4⟩ := put_post p2
    have h3 := h2.step st1
    obtain ⟨ws, e1, e2, e3⟩ := h3.2.2.2
    cases v with
    | row ys =>
      have ed : (if xs.length + ys.length ≤ sizeLine then some (D.row (xs ++ ys)) else none) = some d' := ed
      obtain ⟨bd, us, rfl, f1, f2, f3⟩ := rv
      by_cases hz : xs.length + ys.length ≤ sizeLine
      · rw [if_pos hz] at ed
        cases ed
        refine ⟨ad, bd, ws, us, rfl, rfl, e1, w2.sub.lst f1, by rw [e3.length, f3.length]; exact hz, ?_⟩
        obtain ⟨a1, a2, a3⟩ := own_write (o := .lst (ws ++ us)) w2 st2 sl2 hO (getS_some eg) h1 h3 (d' := .row (xs ++ ys)) ⟨_, rfl, by rw [List.length_append]; exact hz, e3.append f3⟩
        exact p4 σ F1 _ a1 a2 a3
      · rw [if_neg hz] at ed; cases ed
    | _ => cases ed
  | _ => cases eu
/-! ### d.get(k), d.get(k, x) -/
def get1D : D → List D → Option D
  | .tab kvs, [k] => (keyD k).map fun k => (valD kvs k).getD .non
  | _, _ => none
def get2D : D → List D → Option D
  | .tab kvs, [k, x] => (keyD k).map fun k => (valD kvs k).getD x
  | _, _ => none
theorem mt_get1 (hu : X.A.units + 1 < cLine) : MtR X "dict.get" (fun x xs H Q => ∃ a y ov, x = .ref a ∧ xs = [y] ∧ DGet H a y ov ∧ Q (ov.getD .non) H) := by
  intro pins s σ H x xs v us Q I rx rxs h
  obtain ⟨a, y, ov, rfl, rfl, g, q⟩ := h
  cases rx
  obtain ⟨u, rfl, ru⟩ := rxs.one
  exact d_get1 hu I g ru fun w' s' I' rw' => ⟨_, H, I', rw', q⟩
theorem mt_get2 (hu : X.A.units + 1 < cLine) : MtR X "dict.get" (fun x xs H Q => ∃ a y z ov, x = .ref a ∧ xs = [y, z] ∧ DGet H a y ov ∧ Q (ov.getD z) H) := by
  intro pins s σ H x xs v us Q I rx rxs h
  obtain ⟨a, y, z, ov, rfl, rfl, g, q⟩ := h
  cases rx
  obtain ⟨u, u2, rfl, ru, ru2⟩ := rxs.two
  exact d_get2 hu I g ru ru2 fun w' s' I' rw' => ⟨_, H, I', rw', q⟩
theorem get_rep {F H : Hp} {kvs : List (Key × D)} {ws : List (Key × V)} {k : Key} {dz : D} {z : V} (rk : RepsK R.K R.nm F kvs ws) (rz : Rep R.K R.nm F dz z) : Rep R.K R.nm F ((valD kvs k).getD dz) ((valV ws k).getD z) := by
  rcases repsK_val k rk with ⟨h1, h2⟩ | ⟨d, v, h1, h2, h3⟩
  · rw [h1, h2]; exact rz
  · rw [h1, h2]; exact h3
theorem sat_get1 : MtSat R (fun x xs H Q => ∃ a y ov, x = .ref a ∧ xs = [y] ∧ DGet H a y ov ∧ Q (ov.getD .non) H) get1D := fun x xs d ds d' F H s Q w rx rs h k => by
  unfold get1D at h
  split at h
  · rename_i kvs kk
    obtain ⟨key, ek, rfl⟩ := map_some h
    obtain ⟨a, ws, rfl, h1, _, h3⟩ := rx
    obtain ⟨y, ys, rfl, ry, e2⟩ := rs
    rw [show ys = [] from e2]
    obtain ⟨q1, q2⟩ := keyD_ok ry ek
    exact ⟨a, y, valV ws key, rfl, rfl, .inl ⟨ws, key, w.sub.dK h1, q1, rfl⟩, k _ F H w Stp.refl (get_rep (H := H) h3 rfl)⟩
  · cases h
theorem sat_get2 : MtSat R (fun x xs H Q => ∃ a y z ov, x = .ref a ∧ xs = [y, z] ∧ DGet H a y ov ∧ Q (ov.getD z) H) get2D := fun x xs d ds d' F H s Q w rx rs h k => by
  unfold get2D at h
  split at h
  · rename_i kvs kk dz
    obtain ⟨key, ek, rfl⟩ := map_some h
    obtain ⟨a, ws, rfl, h1, _, h3⟩ := rx
    obtain ⟨y, ys, rfl, ry, z, zs, rfl, rz, e2⟩ := rs
    rw [show zs = [] from e2]
    obtain ⟨q1, q2⟩ := keyD_ok ry ek
    exact ⟨a, y, z, valV ws key, rfl, rfl, .inl ⟨ws, key, w.sub.dK h1, q1, rfl⟩, k _ F H w Stp.refl (get_rep (H := H) h3 rz)⟩
  · cases h
end
end Nw
set_option Elab.async false
set_option linter.all false
set_option maxRecDepth 100000
set_option maxHeartbeats 4000000
/-! Part DD: several names at once. -/
namespace Nw
open PySem PySem.Spec L2
def setAll : Sl → List Nat → List D → Sl
  | r, i :: is, d :: ds => setAll (r.set i (some d)) is ds
  | r, _, _ => r
def tgT (is : List Nat) : D → Sl → Option Sl := fun d r => match d with
  | .tup ds => if ds.length = is.length then some (setAll r is ds) else none
  | _ => none
def gNms : List Nat → TGs
  | [] => gNil
  | i :: is => gCons (gName i) (gNms is)
section
variable {R : Reg} {F H : Hp}
theorem setAt_refl {σ : L2.St} {r : Sl} : SetAt R F [] σ σ r r := ⟨rfl, rfl, fun _ _ => ⟨rfl, rfl⟩, fun j d h => absurd h (by simp)⟩
theorem SetAt.trans {i : Nat} {is : List Nat} {σ σ1 σ2 : L2.St} {r r1 r2 : Sl} (a : SetAt R F [i] σ σ1 r r1) (b : SetAt R F is σ1 σ2 r1 r2) : SetAt R F (i :: is) σ σ2 r r2 where
  len := b.len.trans a.len
  lenr := b.lenr.trans a.lenr
  off := fun j hj => by
    obtain ⟨h1, h2⟩ := b.off j fun z => hj (List.mem_cons_of_mem _ z)
    obtain ⟨h3, h4⟩ := a.off j fun z => hj (by rw [List.mem_singleton.mp z]; exact List.mem_cons_self)
    exact ⟨h1.trans h3, h2.trans h4⟩
  on := fun j d hj e => by
    by_cases hb : j ∈ is
    · exact b.on j d hb e
    · obtain ⟨h1, h2⟩ := b.off j hb
      rw [h2] at e
      rw [h1]
      rcases List.mem_cons.mp hj with hj | hj
      · exact a.on j d (by rw [hj]; exact List.mem_singleton.mpr rfl) e
      · exact absurd hj hb
theorem tgs_names : ∀ (is : List Nat) (ds : List D) (vs : List V) (σ : L2.St) (r : Sl) (Q : L2.St → Hp → Prop), Reps R.K R.nm F ds vs → r.length = σ.length → ds.length = is.length → (∀ σ', SetAt R F is σ σ' r (setAll r is ds) → Q σ' H) → gNms is vs σ H Q
  | [], [], vs, σ, r, Q, rs, hl, _, k => ⟨rs, k σ setAt_refl⟩
  | i :: is, d :: ds, vs, σ, r, Q, rs, hl, hn, k => by
    obtain ⟨v, ws, rfl, rv, rws⟩ := rs
    have s1 : SetAt R F [i] σ (σ.set i (some v)) r (r.set i (some d)) := setAt_one hl rv
    exact ⟨v, ws, rfl, tgs_names is ds ws (σ.set i (some v)) (r.set i (some d)) Q rws (by rw [List.length_set, List.length_set]; exact hl) (by simpa using hn) fun σ' s2 => k σ' (s1.trans s2)⟩
  | [], _ :: _, _, _, _, _, _, _, hn, _ => by simp at hn
  | _ :: _, [], _, _, _, _, _, _, hn, _ => by simp at hn
theorem tg_names {K : PySem.W.Frag} (is : List Nat) : TgSat R (gTup K is.length (gNms is)) is (tgT is) := fun v d σ r r' F H Q sb rv hl e k => by
  cases d with
  | tup ds =>
    have e : (if ds.length = is.length then some (setAll r is ds) else none) = some r' := e
    by_cases hn : ds.length = is.length
    · rw [if_pos hn] at e
      cases e
      obtain ⟨a, vs, rfl, h1, _, h3⟩ := rv
      exact ⟨a, vs, rfl, SqT.of (sb.tup h1), by rw [h3.length, hn], tgs_names is ds vs σ r Q h3 hl hn k⟩
    · rw [if_neg hn] at e; cases e
  | _ => cases e
end
section
variable {X : Cx} {R : Reg} {W : WX} {fr : FrK} {O O' B : List Nat} {e tg o : Expr} {f fe : Sl → M R.S D} {fs : Sl → M R.S (List D)} {pos apos cpos : Pos} {n : Nat} {es : List Expr}
/-- a, b = e -/
theorem ds_asg {gt : TG} {vs : List Nat} {tgt : D → Sl → Option Sl} (hg : PG X tg gt) (hgs : TgSat R gt vs tgt) (he : PE X e (tD R W O fe)) (h1 : ∀ j ∈ O', j ∈ O ∧ j ∉ vs) (h2 : ∀ j ∈ O, j ∉ vs → j ∈ O') (hs : swapsWithSole [tg] e pos.line X.env = pure false := by rfl) (hw : swappedStores [tg] e X.env = pure none := by rfl) (ha : (assignEach [tg] X.env).map (·.2) = [assign tg X.env] := by rfl) :
    PS X (.Assign [tg] e pos) (tDS R W fr B O O' (sAsg tgt fe)) := ps_imp (ps_asg he hg hs hw ha) (sat_asg hgs h1 h2)
/-- d.get(k), d.get(k, x) -/
theorem de_get1 (c : Cxt X R W n) (ho : PE X o (tD R W O f)) (ha : PA X [e] (tDA R W O fs))
    (hbase : attributeBase o "get" X.env (eval o X.env) = eval o X.env := by rfl)
    (hfew : ((backTo cpos (starEach [e] X.env)).all (fun x => !x.1) && (backToKw cpos (keywordEach [] X.env)).all (fun x => x.1.isSome)
      && decide (([e] : List Expr).length + ([] : List Keyword).length + (if ([] : List Keyword).isEmpty then 0 else 1) < 30)) = true := by rfl)
    (hline : (apos.endLine == cpos.line) = true := by rfl) (hst : starEach [e] X.env = (false, eval e X.env) :: starEach [] X.env := by rfl) (hplain : (backTo cpos (starEach [] X.env)).any (·.1) = false := by rfl) :
    PE X (.Call (.Attribute o "get" apos) [e] [] cpos) (tD R W O (dMt "dict" get1D f fs)) := de_mt PySem.F.plainAttrs_dict PySem.F.slot_dict_get PySem.F.type_dict_get (mt_get1 (by have := c.hr.units; omega)) c.hK sat_get1 ho ha hbase hfew hline hst hplain
theorem de_get2 {e2 : Expr} (c : Cxt X R W n) (ho : PE X o (tD R W O f)) (ha : PA X [e, e2] (tDA R W O fs))
    (hbase : attributeBase o "get" X.env (eval o X.env) = eval o X.env := by rfl)
    (hfew : ((backTo cpos (starEach [e, e2] X.env)).all (fun x => !x.1) && (backToKw cpos (keywordEach [] X.env)).all (fun x => x.1.isSome)
      && decide (([e, e2] : List Expr).length + ([] : List Keyword).length + (if ([] : List Keyword).isEmpty then 0 else 1) < 30)) = true := by rfl)
    (hline : (apos.endLine == cpos.line) = true := by rfl) (hst : starEach [e, e2] X.env = (false, eval e X.env) :: starEach [e2] X.env := by rfl) (hplain : (backTo cpos (starEach [e2] X.env)).any (·.1) = false := by rfl) :
    PE X (.Call (.Attribute o "get" apos) [e, e2] [] cpos) (tD R W O (dMt "dict" get2D f fs)) := de_mt PySem.F.plainAttrs_dict PySem.F.slot_dict_get PySem.F.type_dict_get (mt_get2 (by have := c.hr.units; omega)) c.hK sat_get2 ho ha hbase hfew hline hst hplain
end
end Nw
set_option Elab.async false
set_option linter.all false
set_option maxRecDepth 100000
set_option maxHeartbeats 4000000
/-! Part EE: copies of tables. -/
namespace Nw
open PySem PySem.Spec L2
section
variable {X : Cx} {R : Reg} {W : WX} {O : List Nat} {o : Expr} {f : Sl → M R.S D} {apos cpos : Pos} {n : Nat}
theorem mt_copyD : MtR X "dict.copy" (fun x xs H Q => ∃ a kvs, x = .ref a ∧ xs = [] ∧ Rd H a (.dK kvs) ∧ ∀ p, H p = none → Q (.ref p) (upd H p (.dK kvs))) := by
  intro pins s σ H x xs v us Q I rx rxs h
  obtain ⟨a, kvs, rfl, rfl, hd, q⟩ := h
  cases rx
  cases rxs
  obtain ⟨z, lo, vs, rel, dd⟩ := dk_rd I.hok hd
  have hm : (s.heap.objs.size == sysModules) = false := beq_eq_false_iff_ne.mpr (Nat.ne_of_gt I.big)
  refine call_meetsIn PySem.F.slot_dict_copy dd.typeIs PySem.F.entry_dict_copy (PySem.F.args_dict_copy_1 _) (meets_dict_copy (mixKind X.prog X.w) a lo) ⟨vs, dd, by rw [← rel.length]; exact z, fun h' d' _ hs => ?_⟩
  exact ⟨.ref s.heap.objs.size, upd H s.heap.objs.size (.dK kvs), I.laid (t' := s.toks) hs (Nat.le_refl _)
    (show ObjOk X.prog X.w _ _ _ (.dK kvs) from ⟨z, hm, vs, rel, d'⟩), rfl, q _ (I.hok.fresh (Nat.le_refl _))⟩
def copyTD : D → Option D
  | .tab kvs => some (.tab kvs)
  | _ => none
theorem df_copy (c : Cxt X R W n) (ho : PE X o (tD R W O f)) (hbase : attributeBase o "copy" X.env (eval o X.env) = eval o X.env := by rfl) (hline : (apos.endLine == cpos.line) = true := by rfl) :
    PE X (.Call (.Attribute o "copy" apos) [] [] cpos) (tDF R W O (dUn copyTD f)) :=
  pe_imp (pe_bw0 PySem.F.plainAttrs_dict PySem.F.slot_dict_copy PySem.F.type_dict_copy mt_copyD ho hbase hline) fun σ H Q h => by
    obtain ⟨F, ρ, s, w, pu, p⟩ := h
    refine ⟨F, ρ, s, w, pu, p.bnd.imp (fun d s1 F1 H1 w1 st1 p1 v rv => ?_) fun _ _ _ _ _ _ z => z⟩
    obtain ⟨d', e', k⟩ := p1.lift
    cases d with
    | tab kvs =>
      cases e'
      obtain ⟨a, ws, rfl, h1, h2, h3⟩ := rv
      have hr := w1.sub.dK h1
      refine ⟨.inr ⟨rfl, a, ws, rfl, hr⟩, a, ws, rfl, rfl, hr, fun q hq => ?_⟩
      obtain ⟨g1, g2, g3⟩ := fre_tab w1 st1 hq h2 h3
      exact k F1 _ g1 (Stp.newH _ hq) _ g3
    | _ => cases e'
end
end Nw
set_option Elab.async false
set_option linter.all false
set_option maxRecDepth 100000
set_option maxHeartbeats 4000000
/-! Part FF: max, min. -/
namespace Nw
open PySem PySem.Spec L2
def maxL : Int → List Int → Int
  | m, [] => m
  | m, x :: r => maxL (if x > m then x else m) r
def minL : Int → List Int → Int
  | m, [] => m
  | m, x :: r => minL (if x < m then x else m) r
theorem maxL_spec : ∀ (r : List Int) (m : Int), (maxL m r = m ∨ maxL m r ∈ r) ∧ m ≤ maxL m r ∧ ∀ y ∈ r, y ≤ maxL m r
  | [], m => ⟨.inl rfl, Int.le_refl _, fun y hy => by cases hy⟩
  | x :: r, m => by
    obtain ⟨h1, h2, h3⟩ := maxL_spec r (if x > m then x else m)
    have e : maxL m (x :: r) = maxL (if x > m then x else m) r := rfl
    rw [e]
    by_cases hx : x > m
    · rw [if_pos hx] at h1 h2 h3 ⊢
      refine ⟨?_, by omega, fun y hy => ?_⟩
      · rcases h1 with h1 | h1
        · rw [h1]; exact .inr List.mem_cons_self
        · exact .inr (List.mem_cons_of_mem _ h1)
      · rcases List.mem_cons.mp hy with rfl | hy
        · exact h2
        · exact h3 y hy
    · rw [if_neg hx] at h1 h2 h3 ⊢
      refine ⟨h1.imp id (List.mem_cons_of_mem _), h2, fun y hy => ?_⟩
      rcases List.mem_cons.mp hy with rfl | hy
      · omega
      · exact h3 y hy
theorem minL_spec : ∀ (r : List Int) (m : Int), (minL m r = m ∨ minL m r ∈ r) ∧ minL m r ≤ m ∧ ∀ y ∈ r, minL m r ≤ y
  | [], m => ⟨.inl rfl, Int.le_refl _, fun y hy => by cases hy⟩
  | x :: r, m => by
    obtain ⟨h1, h2, h3⟩ := minL_spec r (if x < m then x else m)
    have e : minL m (x :: r) = minL (if x < m then x else m) r := rfl
    rw [e]
    by_cases hx : x < m
    · rw [if_pos hx] at h1 h2 h3 ⊢
      refine ⟨?_, by omega, fun y hy => ?_⟩
      · rcases h1 with h1 | h1
        · rw [h1]; exact .inr List.mem_cons_self
        · exact .inr (List.mem_cons_of_mem _ h1)
      · rcases List.mem_cons.mp hy with rfl | hy
        · exact h2
        · exact h3 y hy
    · rw [if_neg hx] at h1 h2 h3 ⊢
      refine ⟨h1.imp id (List.mem_cons_of_mem _), h2, fun y hy => ?_⟩
      rcases List.mem_cons.mp hy with rfl | hy
      · omega
      · exact h3 y hy
def maxD : List D → Option D
  | [.row ds] => (intsD ds).bind fun ns => match ns with | [] => none | n :: r => some (.int (maxL n r))
  | [.int i, .int j] => some (.int (if j > i then j else i))
  | _ => none
def minD : List D → Option D
  | [.row ds] => (intsD ds).bind fun ns => match ns with | [] => none | n :: r => some (.int (minL n r))
  | [.int i, .int j] => some (.int (if j < i then j else i))
  | _ => none
section
variable {X : Cx} {R : Reg} {W : WX} {O : List Nat} {e : Expr} {es : List Expr} {fs : Sl → M R.S (List D)} {pos : Pos} {n : Nat}
theorem call_maxA (hc : X.calm = true) : CallR X (.builtin "max") (fun xs H Q => rMax X.K xs H Q ∨ ∃ i j, xs = [.int i, .int j] ∧ Q (.int (if j > i then j else i)) H) := fun pins s σ H xs us Q I rs q => q.elim (cr_max hc pins s σ H xs us Q I rs) (call_max2 hc pins s σ H xs us Q I rs)
theorem call_minA (hc : X.calm = true) : CallR X (.builtin "min") (fun xs H Q => rMin X.K xs H Q ∨ ∃ i j, xs = [.int i, .int j] ∧ Q (.int (if j < i then j else i)) H) := fun pins s σ H xs us Q I rs q => q.elim (cr_min hc pins s σ H xs us Q I rs) (call_min2 hc pins s σ H xs us Q I rs)
theorem sat_max : CallSat R (fun xs H Q => rMax R.K xs H Q ∨ ∃ i j, xs = [.int i, .int j] ∧ Q (.int (if j > i then j else i)) H) maxD := fun xs ds d' F H s Q w rs h k => by
  unfold maxD at h
  split at h
  · rename_i ds
    obtain ⟨ns, e1, h⟩ := bind_some h
    cases ns with
    | nil => cases h
    | cons a r =>
      cases h
      rw [intsD_some e1] at rs
      obtain ⟨v, ws, rfl, ⟨p, vs, rfl, h1, _, h2⟩, e2⟩ := rs
      rw [show ws = [] from e2]
      refine .inl ⟨p, a :: r, rfl, by rw [← reps_int h2]; exact SqL.of (w.sub.lst h1), Nat.succ_pos _, fun m hm hall => ?_⟩
      obtain ⟨s1, s2, s3⟩ := maxL_spec r a
      have e3 : m = maxL a r := by
        have g1 : maxL a r ≤ m := by
          rcases s1 with s1 | s1
          · rw [s1]; exact hall a List.mem_cons_self
          · exact hall _ (List.mem_cons_of_mem _ s1)
        have g2 : m ≤ maxL a r := by
          rcases List.mem_cons.mp hm with rfl | hm
          · exact s2
          · exact s3 m hm
        omega
      exact k _ F H w Stp.refl (by rw [e3]; rfl)
  · cases h
    obtain ⟨v, ws, rfl, rfl, u, us, rfl, rfl, e2⟩ := rs
    rw [show us = [] from e2]
    exact .inr ⟨_, _, rfl, k _ F H w Stp.refl rfl⟩
  · cases h
theorem sat_min : CallSat R (fun xs H Q => rMin R.K xs H Q ∨ ∃ i j, xs = [.int i, .int j] ∧ Q (.int (if j < i then j else i)) H) minD := fun xs ds d' F H s Q w rs h k => by
  unfold minD at h
  split at h
  · rename_i ds
    obtain ⟨ns, e1, h⟩ := bind_some h
    cases ns with
    | nil => cases h
    | cons a r =>
      cases h
      rw [intsD_some e1] at rs
      obtain ⟨v, ws, rfl, ⟨p, vs, rfl, h1, _, h2⟩, e2⟩ := rs
      rw [show ws = [] from e2]
      refine .inl ⟨p, a :: r, rfl, by rw [← reps_int h2]; exact SqL.of (w.sub.lst h1), Nat.succ_pos _, fun m hm hall => ?_⟩
      obtain ⟨s1, s2, s3⟩ := minL_spec r a
      have e3 : m = minL a r := by
        have g1 : m ≤ minL a r := by
          rcases s1 with s1 | s1
          · rw [s1]; exact hall a List.mem_cons_self
          · exact hall _ (List.mem_cons_of_mem _ s1)
        have g2 : minL a r ≤ m := by
          rcases List.mem_cons.mp hm with rfl | hm
          · exact s2
          · exact s3 m hm
        omega
      exact k _ F H w Stp.refl (by rw [e3]; rfl)
  · cases h
    obtain ⟨v, ws, rfl, rfl, u, us, rfl, rfl, e2⟩ := rs
    rw [show us = [] from e2]
    exact .inr ⟨_, _, rfl, k _ F H w Stp.refl rfl⟩
  · cases h
theorem de_max {p : Pos} (c : Cxt X R W n) (hg : Gl X "max") (hm : X.mg "max" = none) (ha : PA X (e :: es) (tDA R W O fs)) (he : starEach (e :: es) X.env = (false, eval e X.env) :: starEach es X.env := by rfl) (hpl : (backTo pos (starEach es X.env)).any (·.1) = false := by rfl) :
    PE X (.Call (.Name "max" p) (e :: es) [] pos) (tD R W O (dAll maxD fs)) := de_callB (call_maxA c.calm) (by rw [← c.hK]; exact sat_max) hg hm (by decide +kernel) ha (he := he) (hpl := hpl)
theorem de_min {p : Pos} (c : Cxt X R W n) (hg : Gl X "min") (hm : X.mg "min" = none) (ha : PA X (e :: es) (tDA R W O fs)) (he : starEach (e :: es) X.env = (false, eval e X.env) :: starEach es X.env := by rfl) (hpl : (backTo pos (starEach es X.env)).any (·.1) = false := by rfl) :
    PE X (.Call (.Name "min" p) (e :: es) [] pos) (tD R W O (dAll minD fs)) := de_callB (call_minA c.calm) (by rw [← c.hK]; exact sat_min) hg hm (by decide +kernel) ha (he := he) (hpl := hpl)
end
end Nw
set_option Elab.async false
set_option linter.all false
set_option maxRecDepth 100000
set_option maxHeartbeats 4000000
/-! Part GG: try without a name. -/
namespace Nw
open PySem PySem.Spec L2
section
variable {S : Type}
def tryO (cs : List Cl) (c' : Cl) (g : Sl → Mo S) : Option (Flw × S) → Option (Flw × S)
  | some (.thr x r, s) => if x.c ∈ cs then (if subC x.c c' = true then g r s else some (.thr x r, s)) else none
  | some (.next r, s) => some (.next r, s)
  | some (.rt d, s) => some (.rt d, s)
  | some (.brk r, s) => some (.brk r, s)
  | some (.cnt r, s) => some (.cnt r, s)
  | none => none
def sTryO (cs : List Cl) (c' : Cl) (f g : Sl → Mo S) : Sl → Mo S := fun r s => tryO cs c' g (f r s)
end
section
variable {X : Cx} {R : Reg} {W : WX} {fr : FrK} {B : List Nat} {fb fg : Sl → Mo R.S} {pos np pos' : Pos} {n : Nat} {x : Str} {body suite : List Stmt} {b₀ : Stmt}
theorem ds_tryO {cs : List Cl} {c' : Cl} (cx : Cxt X R W n) (tk : TkM false X W) (xf : XF X.K cs) (hc' : c' ∈ cs) (hx : c'.name = x) (hs : X.stack = X.env :: X.outer) (hf : X.env.frame = some X.env.locals)
    (hg : Gl X x) (hm : X.mg x = some (.ref (eA X.K c')))
    (hb : ∀ (W' : WX) (pn : List (Addr × Obj)) (xe : Value → Shared → Prop), Cxt (X.tr pn xe) R W' n → TkM false (X.tr pn xe) W' → PassesOwn (model X.prog X.w) X.A X.env xe → PSs (X.tr pn xe) body (tDS R W' fr B [] [] fb))
    (hsu : ∀ (a : Addr) (oe : Obj) (pn : List (Addr × Obj)), PSs (X.suite a ((a, oe) :: pn)) (b₀ :: suite) (tDS R W fr B [] [] fg)) (hdb : (x == ("__debug__" : Str)) = false := by decide) :
    PS X (.Try body [.ExceptHandler (some (.Name x np)) none (b₀ :: suite) pos'] [] [] pos) (tDS R W fr B [] [] (sTryO cs c' fb fg)) := by
  refine ps_imp (ps_try_only hs hf ⟨hg, hdb, .inl hm⟩ tk (tb := fun W' => tDS R W' fr B [] [] fb) (fun W' pn xe tk po => hb W' pn xe (cx.tr W') tk po) (fun a oe cls d pn _ _ => hsu a oe pn)) fun E σ H h => ?_
  obtain ⟨F0, H0, F, r, s, w, st, sl, p⟩ := h
  refine ⟨F0, H0, F, r, s, w, st, sl, ?_⟩
  unfold sTryO at p
  cases ef : fb r s with
  | none => rw [ef] at p; exact p
  | some q =>
    obtain ⟨fl, s'⟩ := q
    rw [ef] at p
    cases fl with
    | next r' => exact p
    | rt d => exact p
    | brk r' => exact p
    | cnt r' => exact p
    | thr xx r' =>
      have p : PostS R fr F0 H0 (if xx.c ∈ cs then (if subC xx.c c' = true then fg r' s' else some (.thr xx r', s')) else none) E W B [] := p
      by_cases hcs : xx.c ∈ cs
      · rw [if_pos hcs] at p
        intro σ' F' H' cls dd w' st' sl' rx
        have hcls : cls = .ref (eA X.K xx.c) := by rw [rx.1, cx.hK]
        refine ⟨subC xx.c c', by rw [hcls]; exact xf.exm _ hcs _ hc', fun hb2 ad had => ?_, fun hb2 => ?_⟩
        · rw [if_pos hb2] at p
          exact ⟨F0, H0, F', r', s', w', st', sl', p⟩
        · rw [if_neg (by rw [hb2]; exact Bool.false_ne_true)] at p
          exact p σ' F' H' cls dd w' st' sl' rx
      · rw [if_neg hcs] at p; exact p.elim
end
end Nw
set_option Elab.async false
set_option linter.all false
set_option maxRecDepth 100000
set_option maxHeartbeats 4000000
/-! Part HH: a comprehension into a local name. -/
namespace Nw
open PySem PySem.Spec L2
section
variable {X : Cx} {R : Reg} {W : WX} {fr : FrK} {O O' B : List Nat} {elt iter tg : Expr} {ifs : List Expr} {scope : Scope} {own : List (Str × Nat)} {it : Sl → M R.S (List D)} {g : TG} {tgt : D → Sl → Option Sl} {t : Sl → M R.S Bool} {f : Sl → M R.S D} {n i : Nat} {y : Str} {py pos spos : Pos}
theorem ds_setLc (c : Cxt X R W n) (i : Nat) (hy : X.N[i]? = some y) (hyl : X.env.scope.names.lookup y = some .local) (hi : PI X tg iter (tDI R W O it)) (ok : BlkOk X.N X.env.scope scope own) (hgs : TgSat R g (own.map (·.2)) tgt)
    (hg : ∀ (s : Shared) (H : Hp) (C : Addr) (cl : List (Str × Addr)) (fp : List Addr), PG (X.blk s H scope (compEnvC scope cl C X.env) fp) tg g)
    (ht : ∀ (s : Shared) (H : Hp) (C : Addr) (cl : List (Str × Addr)) (fp : List Addr), Cxt (X.blk s H scope (compEnvC scope cl C X.env) fp) R W0 n → PTs (X.blk s H scope (compEnvC scope cl C X.env) fp) ifs (tDT R W0 O t))
    (he : ∀ (s : Shared) (H : Hp) (C : Addr) (cl : List (Str × Addr)) (fp : List Addr), Cxt (X.blk s H scope (compEnvC scope cl C X.env) fp) R W0 n → PE (X.blk s H scope (compEnvC scope cl C X.env) fp) elt (tD R W0 O f))
    (h1 : ∀ j ∈ O', j ∈ O ∧ j ∉ [i]) (h2 : ∀ j ∈ O, j ∉ [i] → j ∈ O') (hsw : swapsWith (.ListComp elt [⟨tg, iter, ifs, 0⟩] scope pos) (some (.Name y py)) spos.line X.env = pure true := by rfl) (hs : ∀ x, foldedSetIterable iter X.env x = pure x := by intro _; rfl) :
    PS X (.Assign [.Name y py] (.ListComp elt [⟨tg, iter, ifs, 0⟩] scope pos) spos) (tDS R W fr B O O' (sAsg (tgN i) (dLc it tgt t f))) :=
  ps_imp (ps_setLc c.calm c.nd hy hyl hsw hi ok hg (fun s H C cl fp => ht s H C cl fp (c.blk _ _ _ _ _)) (fun s H C cl fp => he s H C cl fp (c.blk _ _ _ _ _)) hs) fun E σ H h => sat_lc hgs σ H _ (sat_asg tg_name h1 h2 E σ H h)
end
end Nw
set_option Elab.async false
set_option linter.all false
set_option maxRecDepth 100000
set_option maxHeartbeats 4000000
/-! Part II: a result that may be new. -/
namespace Nw
open PySem PySem.Spec L2
section
variable {X : Cx} {R : Reg} {W : WX} {fr : FrK} {O O1 O' B : List Nat} {e : Expr} {rest : List Stmt} {f : Sl → M R.S D} {g : Sl → Mo R.S} {pos pos' : Pos} {i : Nat} {x : Str}
theorem pss_or2 {st : List Stmt} {t t' : TS} (h : PSs X st t) (h' : PSs X st t') : PSs X st (fun D σ H => t D σ H ∨ t' D σ H) := ⟨fun pins s σ H D I q => q.elim (h.run pins s σ H D I) (h'.run pins s σ H D I)⟩
theorem dss_setM (i : Nat) (hN : X.N.Nodup) (hi : X.N[i]? = some x) (hx : Loc X.env.scope x) (he : PE X e (tDF R W O f)) (hiO : i ∉ O) (hO : i ∈ O1) (h1 : ∀ j ∈ O1, j = i ∨ j ∈ O) (h2 : ∀ j ∈ O, j ≠ i → j ∈ O1)
    (ha : PSs X rest (tDS R W fr B O1 O' g)) (hb : PSs X rest (tDS R W fr B O O' g)) (hs : swapsWith e (some (.Name x pos')) pos.line X.env = pure false := by rfl) (hf : X.fn x = true ∨ X.env.scope.names.lookup x = some .local := by first | exact .inl rfl | exact .inr rfl | assumption) :
    PSs X (.Assign [.Name x pos'] e pos :: rest) (tDS R W fr B O O' (sSeq (sAsg (tgN i) f) g)) := pss_imp (pss_cons (ps_set hN hi hx he hs hf) (pss_or2 ha hb)) fun E σ H h => by
  obtain ⟨F0, H0, F, r, s, w, st, sl, p⟩ := h
  have ep : sSeq (sAsg (tgN i) f) g r s = liftX (f r) r (fun d s => g (r.set i (some d)) s) s := by
    unfold sSeq sAsg liftX
    cases f r s <;> rfl
  rw [ep] at p
  refine ⟨F, r, s, w, sl.pu, (postS_x w st sl p).imp (fun d s1 F1 H1 w1 st1 q v fv => ?_) fun _ _ _ _ _ _ z => z⟩
  obtain ⟨w2, st2, sl2, p2⟩ := q
  cases er : isRT d with
  | true =>
    obtain ⟨q, rfl, hq⟩ := fv.own er
    have hqq : OwnAt R H0 F1 H1 q d := ⟨st.th q hq.1, hq.2⟩
    refine .inl ⟨F0, H0, F1, _, s1, w2, st2, sl2.setO hO h1 h2 hqq fun j d' ad hj ne hrt e1 e2 ea => ?_, p2⟩
    subst ea
    obtain ⟨ad', e3, h4⟩ := sl.ow j d' hj hrt e1
    rw [e2] at e3
    cases e3
    obtain ⟨o, ho⟩ := h4.there
    rw [hq.1] at ho
    cases ho
  | false =>
    have rv : Rep R.K R.nm F1 d v := by
      cases d with
      | row ds => cases er
      | tab ds => cases er
      | _ => exact fv
    exact .inr ⟨F0, H0, F1, _, s1, w2, st2, sl2.setAt (setAt_one sl2.pu.len rv) (fun j hj => ⟨hj, fun z => hiO (by rw [← List.mem_singleton.mp z]; exact hj)⟩) fun j hj _ => hj, p2⟩
end
end Nw
set_option Elab.async false
set_option linter.all false
set_option maxRecDepth 100000
set_option maxHeartbeats 4000000
/-! Part JJ: sorted(set(list)), keys that are texts or ints. -/
namespace Nw
open PySem PySem.Spec L2 PyProof.Rows
/-! ### a set of keys that can be walked -/
def kyM (e : Int × Value) : Key := match e.2 with | .int k _ => .inl k | .str x _ => .inr x | _ => .inl 0
def GdM (w : World) (e : Int × Value) : Prop := keyIs (kyM e) e.2 = true ∧ e.1 = keyH w (kyM e)
def SetM (w : World) (h : Heap) (a : Addr) (L : List Key) : Prop :=
  ∃ o es ep t, h.get? a = some o ∧ o.ExactSet ∧ o.data = .set es ep t ∧ (∀ e ∈ es.toList, GdM w e) ∧ (es.toList.map kyM).Nodup ∧ (∀ k, k ∈ L ↔ k ∈ es.toList.map kyM) ∧
    es.size < scanBound ∧ t.fits es.size = true ∧ es.size ≤ L.length ∧ Ris t.place.toList ∧ (w.params.followText "set-order" = true ∨ t.led = true)
section
variable {P : Program} {w : World} {h h' : Heap} {a : Addr} {L : List Key}
theorem SetM.at (R : SetM w h a L) (k : ∀ o, h.get? a = some o → h'.get? a = some o) : SetM w h' a L := by
  obtain ⟨o, es, ep, t, ho, r⟩ := R; exact ⟨o, es, ep, t, k o ho, r⟩
theorem kyM_of {k : Key} {v : Value} {i : Int} (h : keyIs k v = true) : kyM (i, v) = k := by
  rcases keyIs_shape h with ⟨j, t, rfl, rfl⟩ | ⟨x, t, rfl, rfl⟩ <;> rfl
theorem gdM_el {l : List (Int × Value)} (g : ∀ e ∈ l, GdM w e) : ElemsOf (mixKind P w) l := fun e he => by
  obtain ⟨h1, h2⟩ := g e he
  refine ⟨⟨kyM e, h1, h2⟩, ?_⟩
  rcases keyIs_shape h1 with ⟨j, t, _, e2⟩ | ⟨x, t, _, e2⟩ <;> rw [e2] <;> rfl
theorem gdM_is {e : Int × Value} (g : GdM w e) (k : Key) : (mixKind P w).is k e.2 = true ↔ kyM e = k := by
  constructor
  · intro q
    obtain ⟨i, v⟩ := e
    exact kyM_of q
  · intro q
    rw [← q]; exact g.1
theorem gdM_mem {l : List (Int × Value)} (g : ∀ e ∈ l, GdM w e) (k : Key) : k ∈ l.map kyM ↔ ∃ e ∈ l, (mixKind P w).is k e.2 = true := by
  rw [List.mem_map]
  exact ⟨fun ⟨e, he, q⟩ => ⟨e, he, (gdM_is (g e he) k).2 q⟩, fun ⟨e, he, q⟩ => ⟨e, he, (gdM_is (g e he) k).1 q⟩⟩
end
section
variable {P : Program} {w : World} {A : Around} {E : Value → Shared → Prop} {s : Shared} {a : Addr} {L : List Key}
theorem setM_tail {g : Bool → Sem Unit} (hg : ∀ (b : Bool) (s₁ : Shared) (Q' : Unit → Shared → Prop), Q' () s₁ → wpAny (model P w) A (g b) Q' E s₁)
    {o : Obj} {es : Array (Int × Value)} {ep : Nat} {t : SetTable} (ho : s.heap.get? a = some o) (hex : o.ExactSet) (hd : o.data = .set es ep t)
    {es1 : Array (Int × Value)} {t2 : SetTable} {L' : List Key} (g1 : ∀ e ∈ es1.toList, GdM w e) (nd1 : (es1.toList.map kyM).Nodup) (m1 : ∀ k, k ∈ L' ↔ k ∈ es1.toList.map kyM) (hz1 : es1.size ≤ L'.length)
    (hb1 : es1.size < scanBound) (hf2 : t2.fits es1.size = true) (hr : Ris t2.place.toList) (hl : w.params.followText "set-order" = true ∨ t2.led = true) {wasDummy : Bool} {R : Option Bool → Shared → Prop}
    (hR : ∀ h', Heap.SameBut a s.heap h' → SetM w h' a L' → R (some true) { s with heap := h' }) :
    wpAny (model P w) A (do
        storeSet a es1 t2
        if (!wasDummy && t2.tooFull) = true then do
            g (relayAll t2 es1 (SetTable.grown es1.size)).2.2
            storeSet a (relayAll t2 es1 (SetTable.grown es1.size)).1 (relayAll t2 es1 (SetTable.grown es1.size)).2.1
            pure (some true)
          else pure (some true)) R E s := by
  refine wpAny_bind (wpAny_storeSet_of ho hd ?_ (fits_of_scanBound hb1))
  have ho1 := store_at (es' := es1) (t' := t2) ho hd
  have sb1 := Heap.SameBut.update s.heap a (Obj.putSet es1 t2)
  split
  · have pm := relayAll_perm t2 es1 (SetTable.grown es1.size)
    have hf3 := relayAll_fits t2 es1 (SetTable.grown es1.size)
    have hr3 := relayAll_ris t2 es1 (SetTable.grown es1.size)
    have hl3 := relayAll_led t2 es1 (SetTable.grown es1.size)
    generalize relayAll t2 es1 (SetTable.grown es1.size) = Z at pm hf3 hr3 hl3 ⊢
    obtain ⟨es2, t3, gave⟩ := Z
    dsimp only at pm hf3 hr3 hl3 ⊢
    have hsz : es2.size = es1.size := by rw [← Array.length_toList, pm.length_eq, Array.length_toList]
    have hb2 : es2.size < scanBound := by rw [hsz]; exact hb1
    refine wpAny_bind (hg _ _ _ ?_)
    refine wpAny_bind (wpAny_storeSet_of ho1 rfl ?_ (fits_of_scanBound hb2))
    have ho2 := store_at (es' := es2) (t' := t3) ho1 rfl
    refine wpAny_pure (hR _ (sb1.trans (Heap.SameBut.update _ a _)) ?_)
    exact ⟨_, es2, _, t3, ho2, hex, rfl, fun e he => g1 e (pm.mem_iff.mp he), (pm.map kyM).nodup_iff.mpr nd1, fun k => (m1 k).trans (pm.map kyM).mem_iff.symm, hb2, hf3, by rw [hsz]; exact hz1, hr3,
      hl.imp id fun z => by rw [hl3]; exact z⟩
  · exact wpAny_pure (hR _ sb1 ⟨_, es1, _, t2, ho1, hex, rfl, g1, nd1, m1, hb1, hf2, hz1, hr, hl⟩)
theorem setM_add {k : Key} {v : Value} {Q : Bool → Shared → Prop} (R : SetM w s.heap a L) (hkey : keyIs k v = true) (room : L.length + 1 < scanBound)
    (hQ : ∀ h' b, Heap.SameBut a s.heap h' → SetM w h' a (L ++ [k]) → Q b { s with heap := h' }) :
    wpAny (model P w) A (setAddHashed a v ((mixKind P w).hash k)) Q E s := by
  obtain ⟨o, es, ep, t, ho, hex, hd, g, nd, hm, hb, hf, hn, hr, hl⟩ := R
  have hsc : v.scannable = true := by rcases keyIs_shape hkey with ⟨j, t, _, e2⟩ | ⟨x, t, _, e2⟩ <;> rw [e2] <;> rfl
  have hel : ElemsOf (mixKind P w) es.toList := gdM_el g
  unfold setAddHashed setAddHashedIn
  refine wpAny_holding (wpAny_bind (wpAny_setState_of ho hd hf ?_))
  dsimp only
  rw [byScan_of hsc hb hel]
  simp only [↓reduceIte]
  unfold setAddByScan
  refine wpAny_bind (wpAny_bind (wpAny_rule ?_))
  refine wpAny_bind (wpAny_setScan_of (knd := mixKind P w) hkey ho hd hf hel ?_)
  cases hfi : List.findIdx? (fun e => (mixKind P w).is k e.2) es.toList with
  | some j =>
    dsimp only
    obtain ⟨hj, pj, _⟩ := List.findIdx?_eq_some_iff_getElem.mp hfi
    have hkL : k ∈ L := (hm k).2 ((gdM_mem (P := P) g k).2 ⟨es.toList[j], List.getElem_mem hj, pj⟩)
    refine wpAny_pure (wpAny_pure ?_)
    exact hQ s.heap _ (Heap.SameBut.refl a s.heap) ⟨o, es, ep, t, ho, hex, hd, g, nd, fun i => by
      rw [← hm i, List.mem_append, List.mem_singleton]
      exact ⟨fun z => z.elim id (fun e => e ▸ hkL), .inl⟩, hb, hf, by rw [List.length_append]; exact Nat.le_trans hn (Nat.le_add_right _ _), hr, hl⟩
  | none =>
    dsimp only
    have hnk : k ∉ es.toList.map kyM := fun z => by
      obtain ⟨e, he, q⟩ := (gdM_mem (P := P) g k).1 z
      have c := List.findIdx?_eq_none_iff.mp hfi e he
      rw [q] at c; cases c
    have hgw : ∀ (b : Bool) {s₁ : Shared} {Q' : Unit → Shared → Prop}, Q' () s₁ → wpAny (model P w) A (match b with | true => rule "set.scan.the-table-gave-way" | false => pure ()) Q' E s₁ :=
      fun b s₁ Q' q => by cases b <;> first | exact wpAny_pure q | exact wpAny_rule q
    have pm := layNew_perm t es ((mixKind P w).hash k) v
    have hf1 := layNew_fits t es ((mixKind P w).hash k) v
    have hr1 := layNew_ris t es ((mixKind P w).hash k) v hr
    have hl1 := layNew_led t es ((mixKind P w).hash k) v
    generalize layNew t es ((mixKind P w).hash k) v = Z at pm hf1 hr1 hl1 ⊢
    obtain ⟨es1, t1, wasDummy, gave⟩ := Z
    dsimp only at pm hf1 hr1 hl1 ⊢
    rw [Array.toList_push] at pm
    have pc : es1.toList.Perm (((mixKind P w).hash k, v) :: es.toList) := pm.trans (List.perm_append_singleton _ _)
    have pk : (es1.toList.map kyM).Perm (k :: es.toList.map kyM) := by
      have q := pc.map kyM
      rw [List.map_cons, kyM_of hkey] at q
      exact q
    have g1 : ∀ e ∈ es1.toList, GdM w e := fun e he => by
      rcases List.mem_cons.mp (pc.mem_iff.mp he) with z | z
      · rw [z]
        refine ⟨?_, ?_⟩
        · rw [kyM_of hkey]; exact hkey
        · rw [kyM_of hkey]; rfl
      · exact g e z
    have nd1 : (es1.toList.map kyM).Nodup := pk.nodup_iff.mpr (List.nodup_cons.mpr ⟨hnk, nd⟩)
    have m1 : ∀ i, i ∈ L ++ [k] ↔ i ∈ es1.toList.map kyM := fun i => by
      rw [List.mem_append, List.mem_singleton, hm i, pk.mem_iff, List.mem_cons]
      exact Or.comm
    have hsz : es1.size = es.size + 1 := by rw [← Array.length_toList, pc.length_eq, List.length_cons, Array.length_toList]
    have hz1 : es1.size ≤ (L ++ [k]).length := by rw [hsz, List.length_append]; exact Nat.succ_le_succ hn
    have hb1 : es1.size < scanBound := by rw [hsz]; omega
    have hled : w.params.followText "set-order" = true ∨ t1.led = true := hl.imp id fun z => by rw [hl1]; exact z
    refine wpAny_bind (hgw _ ?_)
    split
    · refine wpAny_bind ?_
      rw [hashByValue_scannable 8 hsc]
      refine wpAny_pure ?_
      refine setM_tail ?_ ho hex hd g1 nd1 m1 hz1 hb1 ?_ ?_ ?_ ?_
      · intro b s₁ Q' q; cases b <;> first | exact wpAny_pure q | exact wpAny_rule q
      · first | (split <;> first | exact hf1 | exact SetTable.fits_plain_off hf1) | exact hf1
      · first | (split <;> exact hr1) | exact hr1
      · first | (split <;> exact hled) | exact hled
      · intro h' sb r; dsimp only; exact wpAny_pure (hQ h' _ sb r)
    · refine wpAny_bind (wpAny_pure ?_)
      simp only [↓reduceIte]
      refine setM_tail ?_ ho hex hd g1 nd1 m1 hz1 hb1 hf1 hr1 hled ?_
      · intro b s₁ Q' q; cases b <;> first | exact wpAny_pure q | exact wpAny_rule q
      · intro h' sb r; dsimp only; exact wpAny_pure (hQ h' _ sb r)
theorem setM_fresh {h : Heap} {a : Addr} (w : World) (ho : h.get? a = some { cls := .type "set", dict := none, data := .set #[] 0 (.fresh 0 0 (!w.params.followText "set-order")) }) : SetM w h a [] :=
  ⟨_, #[], 0, _, ho, ⟨rfl, rfl, rfl⟩, rfl, (fun e he => by simp at he), (by simp), (fun k => by simp), (by decide), (by rfl), Nat.le_refl _, List.Pairwise.nil, by
    show _ ∨ (!w.params.followText "set-order") = true
    cases w.params.followText "set-order"
    · exact .inr rfl
    · exact .inl rfl⟩
theorem setM_loop {I : Addr} {fp wr : List Addr} {G : Array GenState → Array GenState → Prop} {n : Nat} {Pv : Nat → Value → Prop} {St : Nat → Shared → Prop} {R : Result → Shared → Prop}
    (W : WalksS P w A.in1 I fp wr G n Pv St) (S : Addr) (hSf : S ∉ fp) (ks : List Key) (hn : n = ks.length) (hb : ks.length + 1 < scanBound) (hval : ∀ i v, Pv i v → ∃ k, ks[i]? = some k ∧ keyIs k v = true) :
    ∀ (k i : Nat) (s : Shared), n - i = k → i ≤ n → St i s → SetM w s.heap S (ks.take i) → (∀ s', Moved (S :: wr) G s s' → SetM w s'.heap S ks → R (.ok (.ret .none)) s') →
      codeAny (model P w) A (.builtin "set.update.loop" ⟨[.ref S, .ref I], []⟩) R s := by
  have hSw : S ∉ wr := fun h => hSf (W.sub _ h)
  have hsub : ∀ b ∈ wr, b ∈ S :: wr := fun b hb => List.mem_cons_of_mem _ hb
  intro k
  induction k with
  | zero =>
    intro i s hk' hi hst hS hR
    have hin : i = n := by omega
    subst hin
    refine codeAny_builtin F.entry_set_update_loop ?_
    rw [Around.under_plainId F.plain_set_update_loop _]
    show wpAny _ A.in1 (pyNext (.ref I) >>= _) _ _ s
    refine wpAny_bind (W.done s _ _ hst fun s' hm => ?_)
    show wpAny _ A.in1 (PySem.ret Value.none) _ _ s'
    rw [hn, List.take_length] at hS
    exact wpAny_pure (hR s' (hm.mono hsub) (hS.at fun o e => hm.heap S o hSw e))
  | succ k ih =>
    intro i s hk' hi hst hS hR
    have hlt : i < n := by omega
    refine codeAny_builtin F.entry_set_update_loop ?_
    rw [Around.under_plainId F.plain_set_update_loop _]
    show wpAny _ A.in1 (pyNext (.ref I) >>= _) _ _ s
    refine wpAny_bind (W.item i s _ _ hlt hst fun v s' hP hst' hm => ?_)
    obtain ⟨p, hp, hkv⟩ := hval i v hP
    have hS' : SetM w s'.heap S (ks.take i) := hS.at fun o e => hm.heap S o hSw e
    show wpAny _ A.in1 (holding [v] (setAdd S v) >>= _) _ _ s'
    refine wpAny_bind (wpAny_holding ?_)
    unfold setAdd
    refine wpAny_holding ?_
    refine wpAny_bind ((mixKind P w).pyHash (k := p) hkv ?_)
    refine setM_add (s := { s' with toks := s'.toks + 1 }) hS' hkv (by rw [List.length_take]; omega) fun h' b hsb hS2 => ?_
    rw [show ks.take i ++ [p] = ks.take (i + 1) by rw [List.take_succ, hp]; rfl] at hS2
    refine wpAny_pure ⟨plainId_quiet F.plain_set_update_loop _, ih (i + 1) _ (by omega) hlt (W.frame _ s' _ _ hst' (Nat.le_add_right _ _) fun b hb o e => ?_) hS2 fun s'' hm'' hS'' => ?_⟩
    · rw [hsb.2 b (fun h : b = S => hSf (by rw [← h]; exact hb))]; exact e
    · refine hR s'' (Moved.trans W.gtrans ((hm.mono hsub).then_heap (Nat.le_add_right _ _) fun b o hb e => ?_) hm'') hS''
      rw [hsb.2 b (fun h : b = S => hb (by rw [h]; exact List.mem_cons_self))]; exact e
theorem call_setM {l : Addr} {items : Array Value} (ks : List Key) {Q : Value → Shared → Prop} (hh : A.handled = none) (hl : s.heap.IsList l items) (hit : ∀ (i : Nat) (v : Value), items[i]? = some v → ∃ k, ks[i]? = some k ∧ keyIs k v = true) (hisz : items.size = ks.length)
    (hb : ks.length + 1 < scanBound)
    (h : ∀ (h' : Heap) (tk : Nat), SetM w h' s.heap.objs.size ks → (∀ b o, s.heap.get? b = some o → h'.get? b = some o) → Q (.ref s.heap.objs.size) { s with heap := h', toks := tk }) :
    wpAny (model P w) A (call (.type "set") [.ref l]) Q E s := by
  obtain ⟨c, tl, hmro⟩ := F.called_set.mro
  have hmade := F.called_set.made
  have hsub := F.called_set.sub
  refine wpAny_call (codeAny_of_tree ?_)
  show wpAny _ _ (callAny (.type "set") _) _ _ _
  refine wpAny_pure ⟨Code.quiet_builtin _ (by decide +kernel), codeAny_builtin F.entry_type_call ?_⟩
  rw [Around.under_plain (weight_type_call_type "set" [.ref l] []) rfl]
  have h1 := F.called_set.notType
  have h2 := F.called_set.canCreate
  have hct := F.typeCall_set_1 (.ref l)
  repeat (any_goals (first | assumption | wp_step))
  refine codeAny_mono (code_set_led1 (.ref l) (E := E) (Q₁ := fun obj s₁ => obj = .ref s.heap.objs.size ∧ s₁ = { s with heap := s.heap.push { cls := .type "set", dict := none, data := .set #[] 0 (.fresh 0 0 (!w.params.followText "set-order")) } }) ⟨rfl, rfl⟩) fun r s₁ hr => ?_
  cases r with
  | error e => exact hr
  | ok fl =>
    cases fl with
    | ret obj =>
      obtain ⟨rfl, rfl⟩ := hr
      have hS : (s.heap.push { cls := .type "set", dict := none, data := .set #[] 0 (.fresh 0 0 (!w.params.followText "set-order")) }).get? s.heap.objs.size = some { cls := .type "set", dict := none, data := .set #[] 0 (.fresh 0 0 (!w.params.followText "set-order")) } := Heap.get?_push_size _ rfl
      have hT : Shared.TypeIs { s with heap := s.heap.push { cls := .type "set", dict := none, data := .set #[] 0 (.fresh 0 0 (!w.params.followText "set-order")) } } (.ref s.heap.objs.size) "set" := ⟨_, hS, rfl⟩
      have hli := F.called_set.init.lookup
      have hbi := F.called_set.init.bind (.ref s.heap.objs.size)
      repeat (any_goals (first | assumption | wp_step))
      refine codeAny_mono (codeAny_call_builtin (R := wants (fun r s₂ => r = .none ∧ ∃ h' tk, s₂ = { s with heap := h', toks := tk } ∧ SetM w h' s.heap.objs.size ks ∧ (∀ b o, s.heap.get? b = some o → h'.get? b = some o)) E) F.called_set.init.plain F.entry_set_init (check_set_init_1 hT ?_)) fun r₂ s₂ hr₂ => ?_
      · obtain ⟨ol, hol, hcl, nl, hdl⟩ := hl
        obtain ⟨ocls, odict, odata, oslots⟩ := ol
        simp only at hcl hdl
        subst hcl; subst hdl
        have hol' : (s.heap.push { cls := .type "set", dict := none, data := .set #[] 0 (.fresh 0 0 (!w.params.followText "set-order")) }).get? l = some { cls := .type "list", dict := odict, data := .seq items nl, slots := oslots } := Heap.get?_push_of_some _ hol
        have hsls := F.sub_list_set
        have hslf := F.sub_list_frozenset
        have hne : (Value.type "list" == Value.type "dict") = false := by decide
        have hl1 : (s.heap.push { cls := .type "set", dict := none, data := .set #[] 0 (.fresh 0 0 (!w.params.followText "set-order")) }).IsList l items := ⟨_, hol', rfl, nl, rfl⟩
        unfold Builtin.«set.__init__» noKeywords Builtin.Frozenset.updateFrom
        generalize hPI : pyIter = PI
        wp_walk
        subst hPI
        refine wpAny_pyIter_list hl1 ?_
        refine wpAny_bind (wpAny_runValue ?_)
        have hlS : l < s.heap.objs.size := Heap.lt_size hol
        have hh3 : A.in1.in1.in1.handled = none := by simp [hh]
        have hneI : l ≠ (s.heap.push { cls := .type "set", dict := none, data := .set #[] 0 (.fresh 0 0 (!w.params.followText "set-order")) }).objs.size := by
          rw [Heap.size_push]; exact Nat.ne_of_lt (Nat.lt_succ_of_lt hlS)
        have hSf : s.heap.objs.size ∉ [(s.heap.push { cls := .type "set", dict := none, data := .set #[] 0 (.fresh 0 0 (!w.params.followText "set-order")) }).objs.size, l] := by
          rw [Heap.size_push]; simp only [List.mem_cons, List.mem_singleton, List.not_mem_nil, or_false, not_or]
          exact ⟨Nat.ne_of_lt (Nat.lt_succ_self _), Nat.ne_of_gt hlS⟩
        refine setM_loop ((Walks.list hh3 _ l hneI items).toS) s.heap.objs.size hSf ks hisz hb hit (items.size - 0) 0 _ (by omega) (Nat.zero_le _)
          ⟨⟨_, Heap.get?_push_size _ rfl, rfl, rfl⟩, (hl1.push _)⟩ ?hS0 ?hR
        case hS0 => exact setM_fresh w (Heap.get?_push_of_some _ hS)
        case hR =>
          intro s' hm hS'
          have hkp : ∀ b o, s.heap.get? b = some o → s'.heap.get? b = some o := fun b o e => by
            have hb : b < s.heap.objs.size := Heap.lt_size e
            refine hm.heap b o ?_ (Heap.get?_push_of_some _ (Heap.get?_push_of_some _ e))
            intro z
            rcases List.mem_cons.mp z with z | z
            · exact absurd hb (by rw [z]; exact Nat.lt_irrefl _)
            · have hz := List.mem_singleton.mp z
              rw [hz, Heap.size_push] at hb
              exact absurd hb (Nat.not_lt_of_le (Nat.le_succ _))
          obtain ⟨h', g2, d', tk', os'⟩ := s'
          have eg : g2 = s.gens := hm.gens
          have ed : d' = s.drawn := hm.drawn
          have eo : os' = s.os := hm.os
          subst eg; subst ed; subst eo
          show wpAny _ _ _ _ _ _
          refine wpAny_pure ?_
          show wpAny _ _ (PySem.ret Value.none) _ _ _
          exact wpAny_pure ⟨rfl, h', tk', rfl, hS', hkp⟩
      · cases r₂ with
        | error e => exact hr₂
        | ok fl₂ =>
          cases fl₂ with
          | ret r =>
            obtain ⟨rfl, h', tk, rfl, hS', hk'⟩ := hr₂
            repeat (any_goals (first | assumption | wp_step))
            exact h _ _ hS' hk'
          | _ => exact hr₂.elim
    | _ => exact hr.elim
/-- sorted: all texts -/
theorem sortedM_txt {xs : List Str} {Q : Value → Shared → Prop} (R : SetM w s.heap a (xs.map Sum.inr)) (hh : A.handled = none) (hz : xs.length ≤ sizeLine)
    (hQ : ∀ s' p (out : Array Value) (c : Nat) (ys : List Str), (∀ b o, s.heap.get? b = some o → s'.heap.get? b = some o) → s'.gens = s.gens → s'.os = s.os → s.heap.objs.size ≤ p →
      s'.heap.get? p = some (seqObj "list" out c) → StrsAre out.toList ys → ys.Nodup → (∀ x, x ∈ ys ↔ x ∈ xs) → sortedS ys = true → ys.length ≤ xs.length → Q (.ref p) s') :
    wpAny (model P w) A (call (.builtin "sorted") [.ref a]) Q E s := by
  obtain ⟨o, es, ep, t, ho, hex, hd, g, nd, hm, hb, hf, hn, hr, hl⟩ := R
  rw [List.length_map] at hn
  refine Calls.call_function_entry kind_sorted plain_sorted entry_sorted (args_sorted1 _) ?_
  unfold Builtin.«sorted»
  refine wpAny_bind (m := checkCount "sorted" 1 1 _) (wpAny_pure ?_)
  refine wpAny_bind (collect_set (A := A.in1) hh ⟨o, ho, hex.1, hd⟩ hf hb hr hl fun s1 vs k1 hz1 g1 o1 pm => ?_)
  have hvl : vs.length ≤ xs.length := by rw [pm.length_eq, List.length_map, Array.length_toList]; exact hn
  have hes : ∀ e ∈ es.toList, ∃ x tk, kyM e = Sum.inr x ∧ e.2 = Value.str x tk := fun e he => by
    have h1 := (hm (kyM e)).2 (List.mem_map_of_mem he)
    obtain ⟨x, _, hx⟩ := List.mem_map.mp h1
    have h2 := (g e he).1
    rw [← hx] at h2
    rcases keyIs_shape h2 with ⟨j, t, e1, e2⟩ | ⟨y, t, e1, e2⟩
    · cases e1
    · cases e1; exact ⟨x, t, hx.symm, e2⟩
  have hS : ∀ l : List (Int × Value), (∀ e ∈ l, ∃ x tk, kyM e = Sum.inr x ∧ e.2 = Value.str x tk) → ∃ ys, StrsAre (l.map (·.2)) ys ∧ l.map kyM = ys.map Sum.inr := by
    intro l
    induction l with
    | nil => intro _; exact ⟨[], .nil, rfl⟩
    | cons e l ih =>
      intro hl2
      obtain ⟨ys, h1, h2⟩ := ih fun e he => hl2 e (List.mem_cons_of_mem _ he)
      obtain ⟨x, tk, h3, h4⟩ := hl2 e List.mem_cons_self
      refine ⟨x :: ys, ?_, ?_⟩
      · rw [List.map_cons, h4]; exact .cons x tk h1
      · rw [List.map_cons, List.map_cons, h2, h3]
  obtain ⟨ys0, hy1, hy2⟩ := hS es.toList hes
  have hv : ∃ zs, StrsAre vs zs ∧ zs.Perm ys0 := by
    have q : ∀ (a b : List Value) (zs : List Str), a.Perm b → StrsAre b zs → ∃ ws, StrsAre a ws ∧ ws.Perm zs := by
      intro a b zs p
      have p' := p.symm
      clear p
      induction p' generalizing zs with
      | nil => intro h; cases h; exact ⟨[], .nil, .nil⟩
      | @cons x l1 l2 p ih =>
        intro h
        cases h with
        | cons x tk hr => obtain ⟨ws, h1, h2⟩ := ih _ hr; exact ⟨x :: ws, .cons x tk h1, h2.cons x⟩
      | @swap x y l =>
        intro h
        cases h with
        | cons x1 t1 hr =>
          cases hr with
          | cons x2 t2 hr2 => exact ⟨x2 :: x1 :: _, .cons x2 t2 (.cons x1 t1 hr2), .swap _ _ _⟩
      | trans p1 p2 ih1 ih2 =>
        intro h
        obtain ⟨ws, h1, h2⟩ := ih1 _ h
        obtain ⟨us, h3, h4⟩ := ih2 _ h1
        exact ⟨us, h3, h4.trans h2⟩
    exact q _ _ _ pm hy1
  obtain ⟨zs, hzs, hzp⟩ := hv
  refine wpAny_bind (wpAny_newList ?_ (Nat.le_trans hvl hz))
  have hoL : (s1.heap.push (seqObj "list" vs.toArray 0)).get? s1.heap.objs.size = some (seqObj "list" vs.toArray 0) := Heap.get?_push_size _ rfl
  refine wpAny_bind (wpAny_holding (wpAny_call_entry slot_list_sort ⟨_, hoL, rfl⟩ entry_list_sort (list_sort_treeKAny strKind_oneLt hoL hzs.keysOf (fun v₁ v₂ rest e => keyKind_strs (by rw [← e]; exact hzs)) (Nat.le_trans hvl hz) fun st' hp hs => ⟨_, rfl, ?_⟩) (args_list_sort _)))
  obtain ⟨ys, g1', g2', g3'⟩ := sorted_out_str hzs hp hs
  obtain ⟨c, hc⟩ := sortedHeap_at (vs := vs) (out := (arrOf st').map (·.2)) hoL
  have pn : ys.Perm ys0 := g2'.trans hzp
  have ndy : ys0.Nodup := by rw [hy2] at nd; exact List.Pairwise.of_map Sum.inr (fun _ _ hne e => hne (congrArg Sum.inr e)) nd
  refine wpAny_pure ⟨_, rfl, hQ _ s1.heap.objs.size _ c ys (fun b u e => ?_) g1 o1 hz1 hc g1' (pn.nodup_iff.mpr ndy) (fun x => ?_) g3' ?_⟩
  · have q := k1 b u e
    have hlt := Heap.lt_size q
    show (sortedHeap (s1.heap.push (seqObj "list" vs.toArray 0)) s1.heap.objs.size vs _).get? b = some u
    rw [sortedHeap_old (Nat.ne_of_lt hlt) (by rw [size_push']; exact Nat.lt_succ_of_lt hlt)]
    exact Heap.get?_push_of_some _ q
  · rw [pn.mem_iff]
    have h1 := hm (Sum.inr x)
    rw [hy2] at h1
    constructor
    · intro h2
      obtain ⟨y, hy, e⟩ := List.mem_map.mp (h1.2 (List.mem_map_of_mem h2))
      cases e; exact hy
    · intro h2
      obtain ⟨y, hy, e⟩ := List.mem_map.mp (h1.1 (List.mem_map_of_mem h2))
      cases e; exact hy
  · have h1 := congrArg List.length hy2
    rw [List.length_map, List.length_map, Array.length_toList] at h1
    rw [pn.length_eq, ← h1]; exact hn
end
end Nw
set_option Elab.async false
set_option linter.all false
set_option maxRecDepth 100000
set_option maxHeartbeats 4000000
/-! Part KK: sorted(set(e)) on plain data; a module's tables and lists. -/
namespace Nw
open PySem PySem.Spec L2
def ddS : List Str → List Str
  | [] => []
  | x :: r => if x ∈ r then ddS r else x :: ddS r
theorem ddS_mem : ∀ (l : List Str) (x : Str), x ∈ ddS l ↔ x ∈ l
  | [], x => Iff.rfl
  | y :: r, x => by
    unfold ddS
    split
    · rename_i h
      rw [ddS_mem r x, List.mem_cons]
      exact ⟨.inr, fun z => z.elim (fun e => e ▸ h) id⟩
    · rw [List.mem_cons, List.mem_cons, ddS_mem r x]
theorem ddS_nodup : ∀ (l : List Str), (ddS l).Nodup
  | [] => List.nodup_nil
  | y :: r => by
    unfold ddS
    split
    · exact ddS_nodup r
    · rename_i h
      exact List.nodup_cons.mpr ⟨fun z => h ((ddS_mem r y).mp z), ddS_nodup r⟩
theorem ddS_len : ∀ (l : List Str), (ddS l).length ≤ l.length
  | [] => Nat.le_refl _
  | y :: r => by
    unfold ddS
    split
    · exact Nat.le_succ_of_le (ddS_len r)
    · exact Nat.succ_le_succ (ddS_len r)
theorem perm_of_mem {l m : List Str} (h1 : l.Nodup) (h2 : m.Nodup) (h : ∀ x, x ∈ l ↔ x ∈ m) : l.Perm m := (List.perm_ext_iff_of_nodup h1 h2).mpr h
/-- sorted(set(e)) -/
def sortSetD : D → Option D
  | .row ds => (strsD ds).bind fun xs => if xs.length + 1 < PySem.scanBound then some (.row ((sortS (ddS xs)).map D.str)) else none
  | _ => none
def SetMO (w : World) (a : Addr) (L : List Key) : HO := .ext fun h => SetM w h a L
section
variable {X : Cx}
theorem setMO_new {w : World} {P : Program} {H : Hp} {h : Heap} {a : Addr} {L : List Key} (R : SetM w h a L) : ObjOk P w H h a (SetMO w a L) := by
  have ⟨o, _, _, _, ho, _⟩ := R
  exact ⟨R, ⟨o, ho⟩, fun h1 h2 p k => SetM.at p k⟩
theorem setMO_get {pins : List (Addr × Obj)} {σ : L2.St} {H : Hp} {s : Shared} {a : Addr} {L : List Key} (I : Inv X pins σ H s) (ha : H a = some (SetMO X.w a L)) : SetM X.w s.heap a L := (I.hok a _ ha).1
def rSetM (K : PySem.W.Frag) (w : World) : List V → Hp → VK → Prop := fun vs H Q => ∃ (l : Addr) (xs : List Str), vs = [V.ref l] ∧ SqL K H l (xs.map V.str) ∧ xs.length + 1 < PySem.scanBound ∧ ∀ p, H p = none → Q (.ref p) (upd H p (SetMO w p (xs.map Sum.inr)))
theorem cr_setM (hc : X.calm = true) : CallR X (.type "set") (rSetM X.K X.w) := by
  intro pins s σ H vs us Q I r h
  obtain ⟨l, xs, rfl, hl, hb, q⟩ := h
  rw [Vals.ref1 r]
  obtain ⟨its, r1, ⟨ob, m, ho1, ho2, ho3, ho4⟩, hz⟩ := I.list hl
  have hlen := r1.length
  rw [List.length_map] at hlen
  refine call_setM (P := X.prog) (xs.map Sum.inr) (I.ok.hd hc) ⟨ob, ho1, ho2, m, ho4⟩ (fun i v hv => ?_) (by rw [List.length_map, List.size_toArray, hlen]) (by rw [List.length_map]; exact hb) fun h' tk hS hk => ?_
  · have hv' : its[i]? = some v := by rw [← hv, List.getElem?_toArray]
    have hi : i < xs.length := by
      have := (List.getElem?_eq_some_iff.mp hv').1
      omega
    have e1 : (xs.map V.str)[i]? = some (V.str xs[i]) := by rw [List.getElem?_map, List.getElem?_eq_getElem hi]; rfl
    obtain ⟨u, hu1, hu2⟩ := r1.get e1
    rw [hv'] at hu1
    cases hu1
    obtain ⟨t, rfl⟩ := hu2
    exact ⟨Sum.inr xs[i], by rw [List.getElem?_map, List.getElem?_eq_getElem hi]; rfl, keyIs_str _ _⟩
  · exact ⟨.ref s.heap.objs.size, upd H s.heap.objs.size (SetMO X.w s.heap.objs.size (xs.map Sum.inr)), I.laid (t' := tk) hk (Nat.le_refl _) (setMO_new hS), rfl, q _ (I.hok.fresh (Nat.le_refl _))⟩
def rSortM (w : World) : List V → Hp → VK → Prop := fun vs H Q => ∃ (a : Addr) (xs : List Str), vs = [V.ref a] ∧ H a = some (SetMO w a (xs.map Sum.inr)) ∧ xs.length ≤ sizeLine ∧ ∀ p, H p = none → Q (.ref p) (upd H p (.lst ((sortS (ddS xs)).map V.str)))
theorem cr_sortM (hc : X.calm = true) : CallR X (.builtin "sorted") (rSortM X.w) := by
  intro pins s σ H vs us Q I r h
  obtain ⟨a, xs, rfl, ha, hz, q⟩ := h
  rw [Vals.ref1 r]
  refine sortedM_txt (P := X.prog) (setMO_get I ha) (I.ok.hd hc) hz fun s' p out c ys k g o hp hg hi hnd hmem hs hl => ?_
  have hlen : (ys.map V.str).length ≤ sizeLine := by rw [List.length_map]; exact Nat.le_trans hl hz
  have hn : H p = none := I.hok.fresh hp
  have J : Inv X pins σ (upd H p (.lst (ys.map V.str))) { s with heap := s'.heap, gens := s'.gens, drawn := s'.drawn, toks := s'.toks } :=
    I.call (ch := []) (Un.laid k hp hn) (I.hok.laid k hp ⟨hlen, out.toList, c, vals_of_strs hi, hg⟩) (by rw [g]; exact I.bare) (fun _ z => nomatch z)
  have e : s' = { s with heap := s'.heap, gens := s'.gens, drawn := s'.drawn, toks := s'.toks } := by
    cases s'
    cases s
    cases o
    rfl
  rw [e]
  have hu : ys = sortS (ddS xs) := sortS_uniq (perm_of_mem hnd (ddS_nodup xs) fun x => (hmem x).trans (ddS_mem xs x).symm) hs
  rw [hu] at J
  exact ⟨.ref p, _, J, rfl, q p hn⟩
end
section
variable {X : Cx} {R : Reg} {W : WX} {O : List Nat} {a e o : Expr} {f g : Sl → M R.S D} {pos p p2 pos2 apos cpos : Pos} {n : Nat}
theorem de_sortSet (c : Cxt X R W n) (hg : Gl X "sorted") (hm : X.mg "sorted" = none) (hg2 : Gl X "set") (hm2 : X.mg "set" = none) (he : PE X e (tD R W O f))
    (h1 : starEach [e] X.env = (false, eval e X.env) :: starEach [] X.env := by rfl) (h2 : starEach [.Call (.Name "set" p2) [e] [] pos2] X.env = (false, eval (.Call (.Name "set" p2) [e] [] pos2) X.env) :: starEach [] X.env := by rfl)
    (hpl : (backTo pos (starEach [] X.env)).any (·.1) = false := by rfl) (hpl2 : (backTo pos2 (starEach [] X.env)).any (·.1) = false := by rfl) :
    PE X (.Call (.Name "sorted" p) [.Call (.Name "set" p2) [e] [] pos2] [] pos) (tD R W O (dUn sortSetD f)) :=
  pe_imp (pe_callB (cr_sortM c.calm) hg hm (by decide +kernel) (pa_cons (pe_callTy (cr_setM c.calm) hg2 hm2 (by decide +kernel) (pa_cons he pa_nil h1) (by decide) (by decide) h1 hpl2) pa_nil h2) (by decide) (by decide) h2 hpl) fun σ H Q h => by
    obtain ⟨F, ρ, s, w, pu, p⟩ := h
    refine ⟨F, ρ, s, w, pu, p.bnd.imp (fun d s1 F1 H1 w1 st1 p1 v rv => ?_) fun _ _ _ _ _ _ z => z⟩
    obtain ⟨d', e0, k⟩ := p1.lift
    clear p1
    cases d with
    | row ds =>
      have e' : ((strsD ds).bind fun xs => if xs.length + 1 < PySem.scanBound then some (D.row ((sortS (ddS xs)).map D.str)) else none) = some d' := e0
      clear e0
      cases ex : strsD ds with
      | none => rw [ex] at e'; cases e'
      | some xs =>
        rw [ex] at e'
        have e3 : (if xs.length + 1 < PySem.scanBound then some (D.row ((sortS (ddS xs)).map D.str)) else none) = some d' := e'
        have hds := strsD_some ex
        clear e' ex
        subst hds
        by_cases hb : xs.length + 1 < PySem.scanBound
        · rw [if_pos hb] at e3
          cases e3
          obtain ⟨a, vs, rfl, q1, q2, q3⟩ := rv
          rw [List.length_map] at q2
          have hxs : ∀ x ∈ xs, x.length ≤ sizeLine := by
            have gen : ∀ (l : List Str) (us : List V), Reps R.K R.nm F1 (l.map D.str) us → ∀ x ∈ l, x.length ≤ sizeLine := by
              intro l
              induction l with
              | nil => intro us _ x hx; cases hx
              | cons y l ih =>
                intro us r x hx
                obtain ⟨v, ws, _, hv, hw⟩ := r
                rcases List.mem_cons.mp hx with rfl | hx
                · exact hv.2
                · exact ih ws hw x hx
            exact gen xs vs q3
          have hvs : vs = xs.map V.str := by
            have gen : ∀ (l : List Str) (us : List V), Reps R.K R.nm F1 (l.map D.str) us → us = l.map V.str := by
              intro l
              induction l with
              | nil => intro us r; exact r
              | cons y l ih =>
                intro us r
                obtain ⟨v, ws, rfl, hv, hw⟩ := r
                rw [ih ws hw, hv.1]; rfl
            exact gen xs vs q3
          subst hvs
          have hsl : SqL X.K H1 a (xs.map V.str) := SqL.of (w1.sub.lst q1)
          refine ⟨a, xs, rfl, hsl, hb, fun q hq => ?_⟩
          have st2 : Stp R F1 H1 F1 (upd H1 q (SetMO X.w q (xs.map Sum.inr))) := Stp.newH _ hq
          have w2 : Wd R F1 (upd H1 q (SetMO X.w q (xs.map Sum.inr))) s1 := w1.newH _ hq
          refine ⟨q, xs, rfl, upd_same, q2, fun q' hq' => ?_⟩
          refine new_row w2 ?_ (reps_strs _ fun x hx => hxs x ?_) hq' fun v F' H' w' st' r' => k F' H' w' (st2.trans st') v r'
          · rw [List.length_map, (sortS_perm _).length_eq]
            exact Nat.le_trans (ddS_len xs) q2
          · exact (ddS_mem xs x).mp ((sortS_perm _).mem_iff.mp hx)
        · rw [if_neg hb] at e3; cases e3
    | _ => cases e0
end
/-! ### a module's table of numbers, by texts -/
def entI (e : DictEntry) : Option (Str × Int) := match e.key, e.val with
  | .str x _, .int i _ => some (x, i)
  | _, _ => none
def tabB (K : PySem.W.Frag) (a : Addr) (kvs : List (Str × Int)) : Bool := match K.lookup a with
  | some ⟨_, _, .dict es _, _⟩ => decide (es.toList.map entI = kvs.map some)
  | _ => false
def assI : List (Str × Int) → Str → Option Int
  | [], _ => none
  | (k, i) :: r, x => if k = x then some i else assI r x
def KTab (K : PySem.W.Frag) (w : World) (a : Addr) (kvs : List (Str × Int)) : Prop := ∃ es n, KDict K w a es n ∧ ∀ x, match assI kvs x with
  | none => findBy Value.isStrOf es x = none
  | some i => ∃ t, findBy Value.isStrOf es x = some (.int i t)
theorem find_entI : ∀ (l : List DictEntry) (kvs : List (Str × Int)), l.map entI = kvs.map some → ∀ x, match assI kvs x with
    | none => (l.find? fun e => Value.isStrOf x e.key).map (·.val) = none
    | some i => ∃ t, (l.find? fun e => Value.isStrOf x e.key).map (·.val) = some (.int i t)
  | [], [], _, x => rfl
  | [], _ :: _, h, x => by cases h
  | _ :: _, [], h, x => by cases h
  | e :: l, (k, i) :: kvs, h, x => by
    have h1 : entI e :: l.map entI = some (k, i) :: kvs.map some := h
    injection h1 with h2 h3
    have ih := find_entI l kvs h3 x
    obtain ⟨hh, ek, ev⟩ := e
    cases ek with
    | str y t =>
      cases ev with
      | int j t2 =>
        cases h2
        show match (if k = x then some i else assI kvs x) with
          | none => (List.find? (fun e => Value.isStrOf x e.key) (⟨hh, .str k t, .int i t2⟩ :: l)).map (·.val) = none
          | some j => ∃ t', (List.find? (fun e => Value.isStrOf x e.key) (⟨hh, .str k t, .int i t2⟩ :: l)).map (·.val) = some (.int j t')
        by_cases hx : k = x
        · subst hx
          rw [if_pos rfl]
          refine ⟨t2, ?_⟩
          rw [List.find?_cons_of_pos (by simp [Value.isStrOf])]
          rfl
        · rw [if_neg hx, List.find?_cons_of_neg (by simp [Value.isStrOf, hx])]
          exact ih
      | _ => cases h2
    | _ => cases ev <;> cases h2
theorem ktab_of {K : PySem.W.Frag} {w : World} {a : Addr} {kvs : List (Str × Int)} (h : ∃ es n, KDict K w a es n) (hb : tabB K a kvs = true) : KTab K w a kvs := by
  obtain ⟨es, n, kd⟩ := h
  refine ⟨es, n, kd, fun x => ?_⟩
  unfold tabB at hb
  rw [kd.at_] at hb
  have h2 := find_entI es.toList kvs (of_decide_eq_true hb) x
  unfold findBy
  rw [← Array.find?_toList]
  exact h2
def kgetD (kvs : List (Str × Int)) : List D → Option D
  | [.str x, d] => some (match assI kvs x with | some i => .int i | none => d)
  | _ => none
section
variable {X : Cx} {R : Reg} {W : WX} {O : List Nat} {e1 e2 : Expr} {fs : Sl → M R.S (List D)} {pos np apos cpos : Pos} {n : Nat}
theorem kd_tyis {pins : List (Addr × Obj)} {σ : L2.St} {H : Hp} {s : Shared} {d : Addr} {es : Array DictEntry} {n : Nat} (D : KDict X.K X.w d es n) (I : Inv X pins σ H s) :
    s.TypeIs (.ref d) "dict" ∧ ∀ a, Value.ref d = .ref a → ∃ ob, s.heap.get? a = some ob ∧ ob.dict = none := by
  refine ⟨kd_type D I, fun a e => ?_⟩
  cases e
  exact ⟨_, I.kIn _ _ D.at_, rfl⟩
theorem de_kget {x : Str} {a : Addr} {kvs : List (Str × Int)} (c : Cxt X R W n) (hk : KTab X.K X.w a kvs) (hg : Gl X x) (hm : X.mg x = some (.ref a)) (ha : PA X [e1, e2] (tDA R W O fs)) (hd : (x == ("__debug__" : Str)) = false := by decide)
    (hbase : attributeBase (.Name x np) "get" X.env (eval (.Name x np) X.env) = eval (.Name x np) X.env := by rfl)
    (hfew : ((backTo cpos (starEach [e1, e2] X.env)).all (fun x => !x.1) && (backToKw cpos (keywordEach [] X.env)).all (fun x => x.1.isSome)
      && decide (([e1, e2] : List Expr).length + ([] : List Keyword).length + (if ([] : List Keyword).isEmpty then 0 else 1) < 30)) = true := by rfl)
    (hline : (apos.endLine == cpos.line) = true := by rfl) (hs : starEach [e1, e2] X.env = (false, eval e1 X.env) :: starEach [e2] X.env := by rfl) (hplain : (backTo cpos (starEach [e2] X.env)).any (·.1) = false := by rfl) :
    PE X (.Call (.Attribute (.Name x np) "get" apos) [e1, e2] [] cpos) (tD R W O (dAll (kgetD kvs) fs)) := by
  obtain ⟨es, m, D, hf⟩ := hk
  have ho : PE X (.Name x np) (tC (.ref a)) := pe_glob hg hm rfl hd
  refine ⟨fun pins s σ H Q I h => ?_⟩
  obtain ⟨F, ρ, st, w, pu, p⟩ := h
  refine wpAny_Call_method_late hbase hfew hline rfl (thn (ho.run pins s σ H (fun v H1 => v = .ref a ∧ H1 = H) I ⟨rfl, rfl⟩) fun v s1 ⟨x1, H1, I1, r1, e1, e2⟩ => ?_)
  subst e1 e2
  cases r1
  obtain ⟨h1, h2⟩ := kd_tyis D I1
  refine ⟨"dict", "dict.get", PySem.F.plainAttrs_dict, PySem.F.slot_dict_get, PySem.F.type_dict_get, h1, h2, ?_⟩
  have hA := ha.run cpos pins s1 σ H1 (fun vs H2 => ∃ z y v', vs = [V.str z, y] ∧ (match assI kvs z with | none => v' = y | some i => v' = .int i) ∧ Q v' H2) I1 ⟨F, ρ, st, w, pu, p.bnd.imp (fun ds s2 F2 H2 w2 st2 p2 vs rv => by
    obtain ⟨d', e', k⟩ := p2.lift
    unfold kgetD at e'
    split at e'
    · rename_i z dd
      cases e'
      obtain ⟨u1, us, rfl, ru1, u2, us2, rfl, ru2, e3⟩ := rv
      rw [show us2 = [] from e3, ru1.1]
      cases q : assI kvs z with
      | none =>
        rw [q] at k
        exact ⟨z, u2, u2, rfl, by rw [q], k F2 H2 w2 Stp.refl _ ru2⟩
      | some i =>
        rw [q] at k
        exact ⟨z, u2, .int i, rfl, by rw [q], k F2 H2 w2 Stp.refl _ rfl⟩
    · cases e') fun _ _ _ _ _ _ z => z⟩
  rw [hs] at hA ⊢
  refine Calls.callWith_builtin (by show (false || (backTo cpos (starEach [e2] X.env)).any (·.1)) = false; rw [hplain] <;> rfl) (Calls.evalArgs_plain ?_)
  refine thn hA fun us s2 ⟨vs, H2, I2, r2, z, y, v', ev, hv, q2⟩ => ?_
  subst ev
  obtain ⟨uz, uy, rfl, ruz, ruy⟩ := r2.two
  obtain ⟨t, rfl⟩ := ruz
  refine call_meetsIn PySem.F.slot_dict_get (kd_tyis D I2).1 PySem.F.entry_dict_get (PySem.F.args_dict_get_3 _ _ _) (meets_dict_get_default (strKind X.prog X.w) a (strKind_is X.prog X.w z t) D.low uy) ⟨_, PySem.W.mapOf_K (prog := X.prog) I2.kIn D.at_ D.lit, ?_⟩
  have hz := hf z
  cases q : assI kvs z with
  | none =>
    rw [q] at hz hv
    rw [hz]
    cases hv
    exact ⟨y, H2, I2.tok _, ruy, q2⟩
  | some i =>
    rw [q] at hz hv
    obtain ⟨t2, hz⟩ := hz
    rw [hz]
    cases hv
    exact ⟨.int i, H2, I2.tok _, ⟨t2, rfl⟩, q2⟩
end
/-! ### a module's list of texts -/
def lstB (K : PySem.W.Frag) (a : Addr) (xs : List Str) : Bool := match K.lookup a with
  | some ⟨.type c, none, .seq its _, _⟩ => decide (c = "list") && decide (its.toList.map (fun v => match v with | .str x _ => some x | _ => none) = xs.map some)
  | _ => false
def KLst (K : PySem.W.Frag) (a : Addr) (xs : List Str) : Prop := ∃ (o : Obj) (its : Array Value) (n : Nat), K.lookup a = some o ∧ o.cls = .type "list" ∧ o.dict = none ∧ o.data = .seq its n ∧ its.size = xs.length ∧ Vals (xs.map V.str) its.toList
theorem klst_of {K : PySem.W.Frag} {a : Addr} {xs : List Str} (h : lstB K a xs = true) : KLst K a xs := by
  unfold lstB at h
  split at h
  · rename_i c its m sl q
    have h1 := (Bool.and_eq_true _ _).mp h
    have h2 := of_decide_eq_true h1.1
    have h3 := of_decide_eq_true h1.2
    subst h2
    have gen : ∀ (l : List Value) (ys : List Str), l.map (fun v => match v with | .str x _ => some x | _ => none) = ys.map some → Vals (ys.map V.str) l := by
      intro l
      induction l with
      | nil => intro ys h; cases ys with
        | nil => exact .nil
        | cons _ _ => cases h
      | cons v l ih =>
        intro ys h
        cases ys with
        | nil => cases h
        | cons y ys =>
          rw [List.map_cons, List.map_cons] at h
          injection h with h4 h5
          cases v with
          | str x t =>
            cases h4
            exact .cons ⟨t, rfl⟩ (ih ys h5)
          | _ => cases h4
    have hl := congrArg List.length h3
    rw [List.length_map, List.length_map, Array.length_toList] at hl
    exact ⟨_, its, m, q, rfl, rfl, rfl, hl, gen _ _ h3⟩
  · cases h
theorem de_klst {X : Cx} {R : Reg} {W : WX} {O : List Nat} {x : Str} {a : Addr} {xs : List Str} {pos : Pos} (hK : R.K = X.K) (hk : KLst X.K a xs) (hz : xs.length ≤ sizeLine) (hx : ∀ y ∈ xs, y.length ≤ sizeLine) (hg : Gl X x) (hm : X.mg x = some (.ref a)) (hd : (x == ("__debug__" : Str)) = false := by decide) :
    PE X (.Name x pos) (tD R W O (dC (.kro (xs.map D.str)))) := by
  refine de_c _ (pe_glob (v := .ref a) hg hm rfl hd) fun F => ?_
  obtain ⟨o, its, n, h1, h2, h3, h4, h5, h6⟩ := hk
  exact ⟨a, xs.map V.str, rfl, .inr ⟨o, its, n, by rw [hK]; exact h1, h2, h3, h4, by rw [h5]; exact hz, h6⟩, by rw [List.length_map]; exact hz, reps_strs xs hx⟩
end Nw
set_option Elab.async false
set_option linter.all false
set_option maxRecDepth 100000
set_option maxHeartbeats 4000000
/-! Part LL: a chain of three comparisons; a comprehension over a table's keys into a local name. -/
namespace Nw
open PySem PySem.Spec L2 PyProof.Rows
section
variable {X : Cx} {R : Reg} {W : WX} {O : List Nat} {a b c d : Expr} {f g h i : Sl → M R.S D} {ta tb tc td : TE} {pos : Pos}
def tChain3 (r r' r'' : R2) (ta tb tc td : TE) : TE := fun σ H Q => ta σ H fun x H1 => tb σ H1 fun y H2 => r x y H2 fun z H3 => ∃ k, z = .bl k ∧
  (if k = true then (tc σ H3 fun u H4 => r' y u H4 fun z2 H5 => ∃ k2, z2 = .bl k2 ∧ (if k2 = true then td σ H5 fun w' H6 => r'' u w' H6 Q else Q (.bl false) H5)) else Q (.bl false) H3)
theorem pe_chain3 {o o' o'' : CmpOp} {r r' r'' : R2} (ho : OpR X (compareOp o) r) (ho' : OpR X (compareOp o') r') (ho'' : OpR X (compareOp o'') r'') (ha : PE X a ta) (hb : PE X b tb) (hc : PE X c tc) (hd : PE X d td)
    (hm : lastMarks [o, o', o''] [b, c, d] = false := by with_unfolding_all rfl) : PE X (.Compare a [o, o', o''] [b, c, d] pos) (tChain3 r r' r'' ta tb tc td) := by
  refine ⟨fun pins s σ H Q I h => ?_⟩
  refine Compare_chain (thn (ha.run pins s σ H _ I h) fun v s1 ⟨x, H1, I1, r1, q1⟩ => chain_link (thn (hb.run pins s1 σ H1 _ I1 q1) fun u s2 ⟨y, H2, I2, r2, q2⟩ =>
    thn (ho pins s2 σ H2 x y v u _ I2 r1 r2 q2) fun e s3 ⟨z, H3, I3, r3, k, ez, q3⟩ => ?_)) hm
  subst ez
  cases r3
  refine wpAny_truthy_bool ?_
  cases k with
  | false => exact ite_ff ⟨.bl false, H3, I3, rfl, q3⟩
  | true =>
    refine ite_tt (chain_link (thn (hc.run pins s3 σ H3 _ I3 q3) fun w' s4 ⟨z', H4, I4, r4, q4⟩ => thn (ho' pins s4 σ H4 y z' u w' _ I4 r2 r4 q4) fun e5 s5 ⟨z5, H5, I5, r5, k5, e6, q5⟩ => ?_))
    subst e6
    cases r5
    refine wpAny_truthy_bool ?_
    cases k5 with
    | false => exact ite_ff ⟨.bl false, H5, I5, rfl, q5⟩
    | true => exact ite_tt (chain_last (thn (hd.run pins s5 σ H5 _ I5 q5) fun w6 s6 ⟨z6, H6, I6, r6, q6⟩ => ho'' pins s6 σ H6 z' z6 w' w6 Q I6 r4 r6 q6))
def dChain3 {S : Type} (op op' op'' : D → D → Option D) (f g h i : Sl → M S D) : Sl → M S D := fun r => bnd (f r) fun x => bnd (g r) fun y => bnd (lift ((op x y).bind isBl)) fun b => if b = true then (bnd (h r) fun z => bnd (lift ((op' y z).bind isBl)) fun b' => if b' = true then bnd (i r) fun u => lift (op'' z u) else ret (.bl false)) else ret (.bl false)
theorem sat_chain3 {r r' r'' : R2} {op op' op'' : D → D → Option D} (hs : OpSat R r op) (hs' : OpSat R r' op') (hs'' : OpSat R r'' op'') (σ : L2.St) (H : Hp) (Q : VK) (p : tD R W O (dChain3 op op' op'' f g h i) σ H Q) : tChain3 r r' r'' (tD R W O f) (tD R W O g) (tD R W O h) (tD R W O i) σ H Q := by
  obtain ⟨F, ρ, s, w, pu, p⟩ := p
  refine ⟨F, ρ, s, w, pu, p.bnd.imp (fun d s1 F1 H1 w1 st1 p1 v rv => ?_) fun _ _ _ _ _ _ z => z⟩
  refine ⟨F1, ρ, s1, w1, pu.mono st1.fs, p1.bnd.imp (fun e s2 F2 H2 w2 st2 p2 u ru => ?_) fun _ _ _ _ _ _ z => z⟩
  obtain ⟨b, eb, p3⟩ := p2.bnd.lift
  cases eo : op d e with
  | none => rw [eo] at eb; cases eb
  | some z =>
    rw [eo] at eb
    cases z <;> try cases eb
    refine hs v u d e _ F2 H2 s2 _ w2 (rv.mono st2.fs) ru eo fun v' F3 H3 w3 st3 r3 => ?_
    refine ⟨b, r3, ?_⟩
    have p4 := p3 F3 H3 w3 st3
    cases b with
    | false => rw [if_neg Bool.false_ne_true] at p4 ⊢; exact p4 F3 H3 w3 Stp.refl _ rfl
    | true =>
      rw [if_pos rfl] at p4 ⊢
      have pu3 := (pu.mono (st1.fs.trans st2.fs)).mono st3.fs
      refine ⟨F3, ρ, s2, w3, pu3, p4.bnd.imp (fun e' s5 F5 H5 w5 st5 p5 u' ru' => ?_) fun _ _ _ _ _ _ z => z⟩
      obtain ⟨b, eb, p6⟩ := p5.bnd.lift
      cases eo : op' e e' with
      | none => rw [eo] at eb; cases eb
      | some z =>
        rw [eo] at eb
        cases z <;> try cases eb
        refine hs' u u' e e' _ F5 H5 s5 _ w5 ((ru.mono st3.fs).mono st5.fs) ru' eo fun v' F6 H6 w6 st6 r6 => ?_
        refine ⟨b, r6, ?_⟩
        have p7 := p6 F6 H6 w6 st6
        cases b with
        | false => rw [if_neg Bool.false_ne_true] at p7 ⊢; exact p7 F6 H6 w6 Stp.refl _ rfl
        | true =>
          rw [if_pos rfl] at p7 ⊢
          refine ⟨F6, ρ, s5, w6, (pu3.mono st5.fs).mono st6.fs, p7.bnd.imp (fun e8 s8 F8 H8 w8 st8 p8 u8 ru8 => ?_) fun _ _ _ _ _ _ z => z⟩
          obtain ⟨d9, e9, k⟩ := p8.lift
          exact hs'' u' u8 e' e8 d9 F8 H8 s8 Q w8 ((ru'.mono st6.fs).mono st8.fs) ru8 e9 fun v' F' H' w' st' r' => k F' H' w' st' v' r'
theorem de_chain3 {o o' o'' : CmpOp} {op op' op'' : D → D → Option D} (k : CmpOk X R o op) (k' : CmpOk X R o' op') (k'' : CmpOk X R o'' op'') (ha : PE X a (tD R W O f)) (hb : PE X b (tD R W O g)) (hc : PE X c (tD R W O h)) (hd : PE X d (tD R W O i)) (hm : lastMarks [o, o', o''] [b, c, d] = false := by with_unfolding_all rfl) :
    PE X (.Compare a [o, o', o''] [b, c, d] pos) (tD R W O (dChain3 op op' op'' f g h i)) := let ⟨_, h1, h2⟩ := k.ok; let ⟨_, h3, h4⟩ := k'.ok; let ⟨_, h5, h6⟩ := k''.ok; pe_imp (pe_chain3 h1 h3 h5 ha hb hc hd hm) (sat_chain3 h2 h4 h6)
end
section
variable {X : Cx} {R : Reg} {W : WX} {fr : FrK} {O O' B : List Nat} {elt iter tg : Expr} {ifs : List Expr} {scope : Scope} {own : List (Str × Nat)} {g : TG} {tgt : D → Sl → Option Sl} {t : Sl → M R.S Bool} {f : Sl → M R.S D} {n i : Nat} {y : Str} {py pos spos : Pos}
theorem ds_setLcW {gk : D → Option (List D)} (hgt : ∀ d l, gk d = some l → ∃ kvs, d = .tab kvs) (hO : i ∉ O) (c : Cxt X R W n) (i2 : Nat) (hy : X.N[i2]? = some y) (hyl : X.env.scope.names.lookup y = some .local) (hi : PI X tg iter (fun σ H Q => Lk i σ H ∧ tDI R W O (fun r => bnd (dVar i r) fun x => lift (gk x)) σ H Q)) (ok : BlkOk X.N X.env.scope scope own) (hgs : TgSat R g (own.map (·.2)) tgt)
    (hg : ∀ (s : Shared) (H : Hp) (C : Addr) (cl : List (Str × Addr)) (fp : List Addr), PG (X.blk s H scope (compEnvC scope cl C X.env) fp) tg g)
    (ht : ∀ (s : Shared) (H : Hp) (C : Addr) (cl : List (Str × Addr)) (fp : List Addr), Cxt (X.blk s H scope (compEnvC scope cl C X.env) fp) R W0 n → PTs (X.blk s H scope (compEnvC scope cl C X.env) fp) ifs (tDT R W0 O t))
    (he : ∀ (s : Shared) (H : Hp) (C : Addr) (cl : List (Str × Addr)) (fp : List Addr), Cxt (X.blk s H scope (compEnvC scope cl C X.env) fp) R W0 n → PE (X.blk s H scope (compEnvC scope cl C X.env) fp) elt (tD R W0 O f))
    (h1 : ∀ j ∈ O', j ∈ O ∧ j ∉ [i2]) (h2 : ∀ j ∈ O, j ∉ [i2] → j ∈ O') (hsw : swapsWith (.ListComp elt [⟨tg, iter, ifs, 0⟩] scope pos) (some (.Name y py)) spos.line X.env = pure true := by rfl) (hs : ∀ x, foldedSetIterable iter X.env x = pure x := by intro _; rfl) :
    PS X (.Assign [.Name y py] (.ListComp elt [⟨tg, iter, ifs, 0⟩] scope pos) spos) (tDS R W fr B O O' (sAsg (tgN i2) (dLc (fun r => bnd (dVar i r) fun x => lift (gk x)) tgt t f))) := by
  have base := ps_setLc (pos := pos) (py := py) (spos := spos) c.calm c.nd hy hyl hsw hi ok hg (fun s H C cl fp => ht s H C cl fp (c.blk _ _ _ _ _)) (fun s H C cl fp => he s H C cl fp (c.blk _ _ _ _ _)) hs
  refine ps_imp (ps_or2 base (ps_lk base)) fun E σ H h => ?_
  have h' := sat_asg (W := W) (tg_name (i := i2)) h1 h2 E σ H h
  have h'' := h'
  obtain ⟨F, r, s, w, pu, p⟩ := h''
  obtain ⟨kvs, l, a, ws, e1, el, e2, e3, e4, _⟩ := slot_tab hgt hO w pu p.bnd
  rcases w.sub.dK e2 with q | ⟨ob, q⟩
  · refine .inr ⟨a, _, q, mut_dK, fun od => ⟨lk_now e1 upd_same, ?_⟩⟩
    exact sat_lc hgs σ _ _ ⟨F, r, s, w.lock e2, pu, p.from (Stp.refl.lock e2 q)⟩
  · exact .inl ⟨lk_now e1 q, sat_lc hgs σ H _ h'⟩
end
end Nw
set_option Elab.async false
set_option linter.all false
set_option maxRecDepth 100000
set_option maxHeartbeats 4000000
/-! Part MM: an own table that is read while it grows. -/
namespace Nw
open PySem PySem.Spec L2
/-- an expression that may read the own thing in slot i -/
def tDw (R : Reg) (W : WX) (O : List Nat) (i : Nat) (f : Sl → M R.S D) : TE := fun σ H Q => ∃ F r s, Wd R F H s ∧ Pu R O F σ r ∧ (∀ d, isRT d = true → r[i]? = some (some d) → ∃ ad H0, σ[i]? = some (some (.ref ad)) ∧ OwnAt R H0 F H ad d) ∧ Post R F H (f r s) (fun d _ F' H' => ∀ v, Rep R.K R.nm F' d v → Q v H') (fun x _ F' H' => ∀ cls dd, RepX R.K R.nm F' x cls dd → W cls dd σ H')
section
variable {X : Cx} {R : Reg} {W : WX} {fr : FrK} {O B : List Nat} {a b e e1 e2 : Expr} {f g fk fv : Sl → M R.S D} {fs : Sl → M R.S (List D)} {pos npos apos cpos : Pos} {n i : Nat} {x : Str}
theorem de_wk (h : PE X e (tD R W O f)) : PE X e (tDw R W O i f) := pe_imp h fun σ H Q ⟨F, r, s, w, pu, _, p⟩ => ⟨F, r, s, w, pu, p⟩
theorem de_getO (i : Nat) (c : Cxt X R W n) (hN : X.N[i]? = some x) (hv : Vis X.env.scope x) (ha : PA X [e1, e2] (tDA R W O fs)) (hd : (x == ("__debug__" : Str)) = false := by decide) (hcd : (x == ("__classdict__" : Str)) = false := by decide)
    (hbase : attributeBase (.Name x npos) "get" X.env (eval (.Name x npos) X.env) = eval (.Name x npos) X.env := by rfl)
    (hfew : ((backTo cpos (starEach [e1, e2] X.env)).all (fun x => !x.1) && (backToKw cpos (keywordEach [] X.env)).all (fun x => x.1.isSome)
      && decide (([e1, e2] : List Expr).length + ([] : List Keyword).length + (if ([] : List Keyword).isEmpty then 0 else 1) < 30)) = true := by rfl)
    (hline : (apos.endLine == cpos.line) = true := by rfl) (hst : starEach [e1, e2] X.env = (false, eval e1 X.env) :: starEach [e2] X.env := by rfl) (hplain : (backTo cpos (starEach [e2] X.env)).any (·.1) = false := by rfl) :
    PE X (.Call (.Attribute (.Name x npos) "get" apos) [e1, e2] [] cpos) (tDw R W O i (dMt "dict" get2D (dVar i) fs)) :=
  pe_imp (pe_bw PySem.F.plainAttrs_dict PySem.F.slot_dict_get PySem.F.type_dict_get (mt_get2 (by have := c.hr.units; omega)) (pe_var hN hv hd hcd) ha hbase hfew hline hst hplain) fun σ H Q h => by
    obtain ⟨F, r, s, w, pu, ow, p⟩ := h
    obtain ⟨d, e, p1⟩ := Post.lift0 (m := getS r i) p
    obtain ⟨u, eu, p2⟩ := p1.lift0
    cases d with
    | tab kvs =>
      obtain ⟨ad, H0, h1, h2⟩ := ow _ rfl (getS_some e)
      obtain ⟨ws, q1, q2, q3⟩ := h2.2.2.2
      refine ⟨_, h1, .inr ⟨rfl, ad, ws, rfl, .inl q1⟩, F, r, s, w, pu, p2.bnd.imp (fun ds s1 F1 H1 w1 st1 p3 vs rvs => ?_) fun _ _ _ _ _ _ z => z⟩
      obtain ⟨d', e', k⟩ := p3.lift
      obtain ⟨ws2, q4, q5, q6⟩ := (h2.step st1).2.2.2
      unfold get2D at e'
      split at e'
      · rename_i kvs' kk dz heq
        cases heq
        obtain ⟨key, ek, rfl⟩ := map_some e'
        obtain ⟨y, ys, rfl, ry, z, zs, rfl, rz, e2⟩ := rvs
        rw [show zs = [] from e2]
        obtain ⟨k1, k2⟩ := keyD_ok ry ek
        exact ⟨ad, y, z, valV ws2 key, rfl, rfl, .inl ⟨ws2, key, .inl q4, k1, rfl⟩, k F1 H1 w1 Stp.refl _ (get_rep (H := H1) q6 rz)⟩
      · cases e'
    | _ => cases eu
theorem sat_opW {r : R2} {op : D → D → Option D} (hs : OpSat R r op) (σ : L2.St) (H : Hp) (Q : VK) (h : tDw R W O i (dOp op f g) σ H Q) : tOp r (tDw R W O i f) (tD R W O g) σ H Q := by
  obtain ⟨F, ρ, s, w, pu, ow, p⟩ := h
  refine ⟨F, ρ, s, w, pu, ow, p.bnd.imp (fun d s1 F1 H1 w1 st1 p1 v rv => ?_) fun _ _ _ _ _ _ z => z⟩
  refine ⟨F1, ρ, s1, w1, pu.mono st1.fs, p1.bnd.imp (fun e s2 F2 H2 w2 st2 p2 u ru => ?_) fun _ _ _ _ _ _ z => z⟩
  obtain ⟨d', e', k⟩ := p2.lift
  exact hs v u d e d' F2 H2 s2 Q w2 (rv.mono st2.fs) ru e' fun v' F' H' w' st' r' => k F' H' w' st' v' r'
theorem de_addW (hK : R.K = X.K) (ha : PE X a (tDw R W O i f)) (hb : PE X b (tD R W O g)) : PE X (.BinOp a .Add b pos) (tDw R W O i (dOp addD f g)) := pe_imp (pe_op op_addA ha hb) (sat_opW (sat_add X.K))
theorem ds_setTw (i : Nat) {pos' : Pos} (cx : Cxt X R W n) (hO : i ∈ O) (hN : X.N[i]? = some x) (hv : Vis X.env.scope x) (hk : PE X b (tD R W O fk)) (he : PE X e (tDw R W O i fv)) (hs : swapsWith e (some (.Subscript (.Name x npos) b pos')) pos.line X.env = pure false := by rfl) (hd : (x == ("__debug__" : Str)) = false := by decide) (hcd : (x == ("__classdict__" : Str)) = false := by decide) :
    PS X (.Assign [.Subscript (.Name x npos) b pos'] e pos) (tDS R W fr B O O (sOwn2 i setTD fk fv)) := ps_imp (ps_dput (by have := cx.hr.units; omega) (pe_var hN hv hd hcd) hk he hs) fun E σ H h => by
  obtain ⟨F0, H0, F, r, s, w, st, sl, p⟩ := h
  refine ⟨F, r, s, w, sl.pu, (fun d hrt hd => by obtain ⟨ad, h1, h2⟩ := sl.ow i d hO hrt hd; exact ⟨ad, _, h1, h2⟩), (postS_x w st sl p).imp (fun v s1 F1 H1 w1 st1 q vv rv => ?_) fun _ _ _ _ _ _ z => z⟩
  obtain ⟨w2, st2, sl2, p2⟩ := q
  obtain ⟨d, eg, p2⟩ := opt_post p2
  obtain ⟨cv, h1, hfre⟩ := sl2.fre hO (getS_some eg)
  refine ⟨_, h1, F1, r, s1, w2, sl2.pu, (postS_x w2 st2 sl2 p2).imp (fun k s3 F3 H3 w3 st3 q kv rk => ?_) fun _ _ _ _ _ _ z => z⟩
  obtain ⟨w4, st4, sl4, p4⟩ := q
  obtain ⟨d', ed, p4⟩ := put_post p4
  cases d with
  | tab kvs =>
    obtain ⟨ad, rfl, h2⟩ := hfre
    have h3 := h2.step st3
    obtain ⟨kk, ek, ed⟩ := bind_some (show (keyD k).bind (fun k => if kvs.length < sizeLine then some (D.tab (putD kvs k v)) else none) = some d' from ed)
    by_cases hz : kvs.length < sizeLine
    · rw [if_pos hz] at ed
      cases ed
      obtain ⟨ws, e1, e2, e3⟩ := h3.2.2.2
      obtain ⟨k1, k2⟩ := keyD_ok rk ek
      refine ⟨ad, upd H3 ad (.dK (putK ws kk vv)), rfl, ?_, ?_⟩
      · rw [k1]; exact DPut.k e1 (by rw [e3.length]; exact hz)
      · obtain ⟨a1, a2, a3⟩ := own_write (o := .dK (putK ws kk vv)) w4 st4 sl4 hO (getS_some eg) h1 h3 (d' := .tab (putD kvs kk v)) ⟨_, rfl, by have := putD_length kvs kk v; omega, e3.put k2 (rv.mono st3.fs)⟩
        exact p4 σ F3 _ a1 a2 a3
    · rw [if_neg hz] at ed; cases ed
  | _ => exact absurd ed (by simp [setTD])
end
end Nw
set_option Elab.async false
set_option linter.all false
set_option maxRecDepth 100000
set_option maxHeartbeats 4000000
/-! Part NN: a new list of two. -/
namespace Nw
open PySem PySem.Spec L2
def addRD : D → D → Option D
  | .row xs, .row ys => if xs.length + ys.length ≤ sizeLine then some (.row (xs ++ ys)) else none
  | _, _ => none
section
variable {X : Cx} {R : Reg} {W : WX} {O : List Nat} {a b : Expr} {f g : Sl → M R.S D} {pos : Pos}
theorem df_add (ha : PE X a (tD R W O f)) (hb : PE X b (tD R W O g)) : PE X (.BinOp a .Add b pos) (tDF R W O (dOp addRD f g)) := pe_imp (pe_op op_cat ha hb) fun σ H Q h => by
  obtain ⟨F, ρ, s, w, pu, p⟩ := h
  refine ⟨F, ρ, s, w, pu, p.bnd.imp (fun d s1 F1 H1 w1 st1 p1 v rv => ?_) fun _ _ _ _ _ _ z => z⟩
  refine ⟨F1, ρ, s1, w1, pu.mono st1.fs, p1.bnd.imp (fun e s2 F2 H2 w2 st2 p2 u ru => ?_) fun _ _ _ _ _ _ z => z⟩
  obtain ⟨d', e', k⟩ := p2.lift
  unfold addRD at e'
  split at e'
  · rename_i xs ys
    split at e'
    · rename_i hz
      cases e'
      obtain ⟨p, vs, rfl, h1, _, h3⟩ := rv.mono st2.fs
      obtain ⟨q, us, rfl, h4, _, h6⟩ := ru
      refine ⟨p, q, vs, us, rfl, rfl, w2.sub.lst h1, w2.sub.lst h4, by rw [h3.length, h6.length]; exact hz, fun z hz' => ?_⟩
      obtain ⟨c1, c2, c3⟩ := fre_row w2 (st1.trans st2) hz' (by rw [List.length_append]; exact hz) (h3.append h6)
      exact k F2 _ c1 (Stp.newH _ hz') _ c3
    · cases e'
  · cases e'
end
end Nw
set_option Elab.async false
set_option linter.all false
set_option maxRecDepth 100000
set_option maxHeartbeats 4000000
/-! Part OO: sorted(set(list)) of numbers too. -/
namespace Nw
open PySem PySem.Spec L2 PyProof.Rows
section
variable {P : Program} {w : World} {A : Around} {E : Value → Shared → Prop} {s : Shared} {a : Addr}
theorem intsPerm : ∀ (a b : List Value) (zs : List Int), a.Perm b → IntsAre b zs → ∃ ws, IntsAre a ws ∧ ws.Perm zs := by
  intro a b zs p
  have p' := p.symm
  clear p
  induction p' generalizing zs with
  | nil => intro h; cases h; exact ⟨[], .nil, .nil⟩
  | @cons x l1 l2 p ih =>
    intro h
    cases h with
    | cons x tk hr => obtain ⟨ws, h1, h2⟩ := ih _ hr; exact ⟨x :: ws, .cons x tk h1, h2.cons x⟩
  | @swap x y l =>
    intro h
    cases h with
    | cons x1 t1 hr =>
      cases hr with
      | cons x2 t2 hr2 => exact ⟨x2 :: x1 :: _, .cons x2 t2 (.cons x1 t1 hr2), .swap _ _ _⟩
  | trans p1 p2 ih1 ih2 =>
    intro h
    obtain ⟨ws, h1, h2⟩ := ih1 _ h
    obtain ⟨us, h3, h4⟩ := ih2 _ h1
    exact ⟨us, h3, h4.trans h2⟩
theorem sortedM_int {xs : List Int} {Q : Value → Shared → Prop} (R : SetM w s.heap a (xs.map Sum.inl)) (hh : A.handled = none) (hz : xs.length < 64)
    (hQ : ∀ s' p (out : Array Value) (c : Nat) (ys : List Int), (∀ b o, s.heap.get? b = some o → s'.heap.get? b = some o) → s'.gens = s.gens → s'.os = s.os → s.heap.objs.size ≤ p →
      s'.heap.get? p = some (seqObj "list" out c) → IntsAre out.toList ys → ys.Nodup → (∀ x, x ∈ ys ↔ x ∈ xs) → ys.Pairwise (· ≤ ·) → ys.length ≤ xs.length → Q (.ref p) s') :
    wpAny (model P w) A (call (.builtin "sorted") [.ref a]) Q E s := by
  obtain ⟨o, es, ep, t, ho, hex, hd, g, nd, hm, hb, hf, hn, hr, hl⟩ := R
  rw [List.length_map] at hn
  refine Calls.call_function_entry kind_sorted plain_sorted entry_sorted (args_sorted1 _) ?_
  unfold Builtin.«sorted»
  refine wpAny_bind (m := checkCount "sorted" 1 1 _) (wpAny_pure ?_)
  refine wpAny_bind (collect_set (A := A.in1) hh ⟨o, ho, hex.1, hd⟩ hf hb hr hl fun s1 vs k1 hz1 g1 o1 pm => ?_)
  have hvl : vs.length ≤ xs.length := by rw [pm.length_eq, List.length_map, Array.length_toList]; exact hn
  have hes : ∀ e ∈ es.toList, ∃ x tk, kyM e = Sum.inl x ∧ e.2 = Value.int x tk := fun e he => by
    have h1 := (hm (kyM e)).2 (List.mem_map_of_mem he)
    obtain ⟨x, _, hx⟩ := List.mem_map.mp h1
    have h2 := (g e he).1
    rw [← hx] at h2
    rcases keyIs_shape h2 with ⟨j, t, e1, e2⟩ | ⟨y, t, e1, e2⟩
    · cases e1; exact ⟨x, t, hx.symm, e2⟩
    · cases e1
  have hS : ∀ l : List (Int × Value), (∀ e ∈ l, ∃ x tk, kyM e = Sum.inl x ∧ e.2 = Value.int x tk) → ∃ ys, IntsAre (l.map (·.2)) ys ∧ l.map kyM = ys.map Sum.inl := by
    intro l
    induction l with
    | nil => intro _; exact ⟨[], .nil, rfl⟩
    | cons e l ih =>
      intro hl2
      obtain ⟨ys, h1, h2⟩ := ih fun e he => hl2 e (List.mem_cons_of_mem _ he)
      obtain ⟨x, tk, h3, h4⟩ := hl2 e List.mem_cons_self
      refine ⟨x :: ys, ?_, ?_⟩
      · rw [List.map_cons, h4]; exact .cons x tk h1
      · rw [List.map_cons, List.map_cons, h2, h3]
  obtain ⟨ys0, hy1, hy2⟩ := hS es.toList hes
  obtain ⟨zs, hzs, hzp⟩ := intsPerm _ _ _ pm hy1
  refine wpAny_bind (wpAny_newList ?_ (by rw [sizeLine_eq]; omega))
  have hoL : (s1.heap.push (seqObj "list" vs.toArray 0)).get? s1.heap.objs.size = some (seqObj "list" vs.toArray 0) := Heap.get?_push_size _ rfl
  refine wpAny_bind (wpAny_holding (wpAny_call_entry slot_list_sort ⟨_, hoL, rfl⟩ entry_list_sort (list_sort_tree hoL hzs (by omega) fun out ys a1 a2 a3 => ⟨_, rfl, ?_⟩) (args_list_sort _)))
  obtain ⟨c, hc⟩ := sortedHeap_at (vs := vs) (out := out) hoL
  have pn : ys.Perm ys0 := a2.trans hzp
  have ndy : ys0.Nodup := by rw [hy2] at nd; exact List.Pairwise.of_map Sum.inl (fun _ _ hne e => hne (congrArg Sum.inl e)) nd
  refine wpAny_pure ⟨_, rfl, hQ _ s1.heap.objs.size _ c ys (fun b u e => ?_) g1 o1 hz1 hc a1 (pn.nodup_iff.mpr ndy) (fun x => ?_) a3 ?_⟩
  · have q := k1 b u e
    have hlt := Heap.lt_size q
    show (sortedHeap (s1.heap.push (seqObj "list" vs.toArray 0)) s1.heap.objs.size vs _).get? b = some u
    rw [sortedHeap_old (Nat.ne_of_lt hlt) (by rw [size_push']; exact Nat.lt_succ_of_lt hlt)]
    exact Heap.get?_push_of_some _ q
  · rw [pn.mem_iff]
    have h1 := hm (Sum.inl x)
    rw [hy2] at h1
    constructor
    · intro h2
      obtain ⟨y, hy, e⟩ := List.mem_map.mp (h1.2 (List.mem_map_of_mem h2))
      cases e; exact hy
    · intro h2
      obtain ⟨y, hy, e⟩ := List.mem_map.mp (h1.1 (List.mem_map_of_mem h2))
      cases e; exact hy
  · have h1 := congrArg List.length hy2
    rw [List.length_map, List.length_map, Array.length_toList] at h1
    rw [pn.length_eq, ← h1]; exact hn
end
/-! ### numbers in order, each once -/
def insI (x : Int) : List Int → List Int
  | [] => [x]
  | y :: r => if x < y then x :: y :: r else if x = y then y :: r else y :: insI x r
def sortI : List Int → List Int
  | [] => []
  | x :: r => insI x (sortI r)
theorem insI_mem (x z : Int) : ∀ l : List Int, z ∈ insI x l ↔ z = x ∨ z ∈ l
  | [] => by simp [insI]
  | y :: r => by
    unfold insI
    split
    · simp
    · split
      · rename_i h; subst h; simp
      · rw [List.mem_cons, insI_mem x z r, List.mem_cons]
        constructor
        · rintro (h | h | h)
          · exact .inr (.inl h)
          · exact .inl h
          · exact .inr (.inr h)
        · rintro (h | h | h)
          · exact .inr (.inl h)
          · exact .inl h
          · exact .inr (.inr h)
theorem insI_lt (x : Int) : ∀ l : List Int, l.Pairwise (· < ·) → (insI x l).Pairwise (· < ·)
  | [], _ => by simp [insI]
  | y :: r, h => by
    obtain ⟨h1, h2⟩ := List.pairwise_cons.mp h
    unfold insI
    split
    · rename_i hx
      refine List.pairwise_cons.mpr ⟨fun z hz => ?_, h⟩
      rcases List.mem_cons.mp hz with rfl | hz
      · exact hx
      · have := h1 z hz; omega
    · split
      · exact h
      · refine List.pairwise_cons.mpr ⟨fun z hz => ?_, insI_lt x r h2⟩
        rcases (insI_mem x z r).mp hz with rfl | hz
        · omega
        · exact h1 z hz
theorem sortI_mem (z : Int) : ∀ l : List Int, z ∈ sortI l ↔ z ∈ l
  | [] => Iff.rfl
  | x :: r => by unfold sortI; rw [insI_mem, sortI_mem z r, List.mem_cons]
theorem sortI_lt : ∀ l : List Int, (sortI l).Pairwise (· < ·)
  | [] => List.Pairwise.nil
  | x :: r => insI_lt x _ (sortI_lt r)
theorem lt_uniq : ∀ {l m : List Int}, l.Pairwise (· < ·) → m.Pairwise (· < ·) → (∀ x, x ∈ l ↔ x ∈ m) → l = m
  | [], [], _, _, _ => rfl
  | [], b :: m, _, _, h => absurd ((h b).mpr List.mem_cons_self) (by simp)
  | a :: l, [], _, _, h => absurd ((h a).mp List.mem_cons_self) (by simp)
  | a :: l, b :: m, h1, h2, h => by
    obtain ⟨p1, p2⟩ := List.pairwise_cons.mp h1
    obtain ⟨q1, q2⟩ := List.pairwise_cons.mp h2
    have hab : a = b := by
      rcases List.mem_cons.mp ((h a).mp List.mem_cons_self) with e | e
      · exact e
      · rcases List.mem_cons.mp ((h b).mpr List.mem_cons_self) with e2 | e2
        · exact e2.symm
        · have := q1 a e; have := p1 b e2; omega
    subst hab
    rw [lt_uniq p2 q2 fun x => ?_]
    constructor
    · intro hx
      rcases List.mem_cons.mp ((h x).mp (List.mem_cons_of_mem _ hx)) with e | e
      · have := p1 x hx; omega
      · exact e
    · intro hx
      rcases List.mem_cons.mp ((h x).mpr (List.mem_cons_of_mem _ hx)) with e | e
      · have := q1 x hx; omega
      · exact e
/-- sorted(set(e)) -/
def sortSetD2 : D → Option D
  | .row ds => (match strsD ds with
    | some _ => sortSetD (.row ds)
    | none => (intsD ds).bind fun ns => if ns.length < 64 then some (.row ((sortI ns).map D.int)) else none)
  | _ => none
section
variable {X : Cx}
def rSetM2 (K : PySem.W.Frag) (w : World) : List V → Hp → VK → Prop := fun vs H Q => rSetM K w vs H Q ∨ ∃ (l : Addr) (xs : List Int), vs = [V.ref l] ∧ SqL K H l (xs.map V.int) ∧ xs.length < 64 ∧ ∀ p, H p = none → Q (.ref p) (upd H p (SetMO w p (xs.map Sum.inl)))
theorem cr_setM2 (hc : X.calm = true) : CallR X (.type "set") (rSetM2 X.K X.w) := by
  intro pins s σ H vs us Q I r h
  rcases h with h | h
  · exact cr_setM hc pins s σ H vs us Q I r h
  · obtain ⟨l, xs, rfl, hl, hb, q⟩ := h
    rw [Vals.ref1 r]
    obtain ⟨its, r1, ⟨ob, m, ho1, ho2, ho3, ho4⟩, hz⟩ := I.list hl
    have hlen := r1.length
    rw [List.length_map] at hlen
    refine call_setM (P := X.prog) (xs.map Sum.inl) (I.ok.hd hc) ⟨ob, ho1, ho2, m, ho4⟩ (fun i v hv => ?_) (by rw [List.length_map, List.size_toArray, hlen]) (by rw [List.length_map]; show xs.length + 1 < 4096; omega) fun h' tk hS hk => ?_
    · have hv' : its[i]? = some v := by rw [← hv, List.getElem?_toArray]
      have hi : i < xs.length := by
        have := (List.getElem?_eq_some_iff.mp hv').1
        omega
      have e1 : (xs.map V.int)[i]? = some (V.int xs[i]) := by rw [List.getElem?_map, List.getElem?_eq_getElem hi]; rfl
      obtain ⟨u, hu1, hu2⟩ := r1.get e1
      rw [hv'] at hu1
      cases hu1
      obtain ⟨t, rfl⟩ := hu2
      exact ⟨Sum.inl xs[i], by rw [List.getElem?_map, List.getElem?_eq_getElem hi]; rfl, keyIs_int _ _⟩
    · exact ⟨.ref s.heap.objs.size, upd H s.heap.objs.size (SetMO X.w s.heap.objs.size (xs.map Sum.inl)), I.laid (t' := tk) hk (Nat.le_refl _) (setMO_new hS), rfl, q _ (I.hok.fresh (Nat.le_refl _))⟩
def rSortM2 (w : World) : List V → Hp → VK → Prop := fun vs H Q => rSortM w vs H Q ∨ ∃ (a : Addr) (xs : List Int), vs = [V.ref a] ∧ H a = some (SetMO w a (xs.map Sum.inl)) ∧ xs.length < 64 ∧ ∀ p, H p = none → Q (.ref p) (upd H p (.lst ((sortI xs).map V.int)))
theorem cr_sortM2 (hc : X.calm = true) : CallR X (.builtin "sorted") (rSortM2 X.w) := by
  intro pins s σ H vs us Q I r h
  rcases h with h | h
  · exact cr_sortM hc pins s σ H vs us Q I r h
  · obtain ⟨a, xs, rfl, ha, hz, q⟩ := h
    rw [Vals.ref1 r]
    refine sortedM_int (P := X.prog) (setMO_get I ha) (I.ok.hd hc) hz fun s' p out c ys k g o hp hg hi hnd hmem hs hl => ?_
    have hlen : (ys.map V.int).length ≤ sizeLine := by rw [List.length_map, sizeLine_eq]; omega
    have hn : H p = none := I.hok.fresh hp
    have J : Inv X pins σ (upd H p (.lst (ys.map V.int))) { s with heap := s'.heap, gens := s'.gens, drawn := s'.drawn, toks := s'.toks } :=
      I.call (ch := []) (Un.laid k hp hn) (I.hok.laid k hp ⟨hlen, out.toList, c, vals_of_ints hi, hg⟩) (by rw [g]; exact I.bare) (fun _ z => nomatch z)
    have e : s' = { s with heap := s'.heap, gens := s'.gens, drawn := s'.drawn, toks := s'.toks } := by
      cases s'
      cases s
      cases o
      rfl
    rw [e]
    have hu : ys = sortI xs := lt_uniq (lt_of_le_nodup ys hs hnd) (sortI_lt xs) fun x => (hmem x).trans (sortI_mem x xs).symm
    rw [hu] at J
    exact ⟨.ref p, _, J, rfl, q p hn⟩
end
theorem sortI_len (l : List Int) : (sortI l).length ≤ l.length := by
  induction l with
  | nil => exact Nat.le_refl _
  | cons x r ih =>
    have gen : ∀ l : List Int, (insI x l).length ≤ l.length + 1 := by
      intro l
      induction l with
      | nil => exact Nat.le_refl _
      | cons y r ih2 =>
        unfold insI
        split
        · exact Nat.le_refl _
        · split
          · exact Nat.le_succ _
          · exact Nat.succ_le_succ ih2
    have h := gen (sortI r)
    show (insI x (sortI r)).length ≤ r.length + 1
    omega
section
variable {X : Cx} {R : Reg} {W : WX} {O : List Nat} {e : Expr} {f : Sl → M R.S D} {pos p p2 pos2 : Pos} {n : Nat}
theorem de_sortSet2 (c : Cxt X R W n) (hg : Gl X "sorted") (hm : X.mg "sorted" = none) (hg2 : Gl X "set") (hm2 : X.mg "set" = none) (he : PE X e (tD R W O f))
    (h1 : starEach [e] X.env = (false, eval e X.env) :: starEach [] X.env := by rfl) (h2 : starEach [.Call (.Name "set" p2) [e] [] pos2] X.env = (false, eval (.Call (.Name "set" p2) [e] [] pos2) X.env) :: starEach [] X.env := by rfl)
    (hpl : (backTo pos (starEach [] X.env)).any (·.1) = false := by rfl) (hpl2 : (backTo pos2 (starEach [] X.env)).any (·.1) = false := by rfl) :
    PE X (.Call (.Name "sorted" p) [.Call (.Name "set" p2) [e] [] pos2] [] pos) (tD R W O (dUn sortSetD2 f)) :=
  pe_imp (pe_or2 (de_sortSet c hg hm hg2 hm2 he h1 h2 hpl hpl2) (pe_callB (cr_sortM2 c.calm) hg hm (by decide +kernel) (pa_cons (pe_callTy (cr_setM2 c.calm) hg2 hm2 (by decide +kernel) (pa_cons he pa_nil h1) (by decide) (by decide) h1 hpl2) pa_nil h2) (by decide) (by decide) h2 hpl)) fun σ H Q h => by
    have key : ∀ (d : D) (ds : List D), d = .row ds → strsD ds = none → ∀ d', sortSetD2 d = some d' → ∃ ns, intsD ds = some ns ∧ ns.length < 64 ∧ d' = .row ((sortI ns).map D.int) := fun d ds e hs d' h => by
      subst e
      have h : (match strsD ds with | some _ => sortSetD (.row ds) | none => (intsD ds).bind fun ns => if ns.length < 64 then some (D.row ((sortI ns).map D.int)) else none) = some d' := h
      rw [hs] at h
      obtain ⟨ns, q1, q2⟩ := bind_some h
      by_cases hz : ns.length < 64
      · rw [if_pos hz] at q2; exact ⟨ns, q1, hz, (Option.some.inj q2).symm⟩
      · rw [if_neg hz] at q2; cases q2
    right
    obtain ⟨F, ρ, s, w, pu, p⟩ := h
    refine ⟨F, ρ, s, w, pu, p.bnd.imp (fun d s1 F1 H1 w1 st1 p1 v rv => ?_) fun _ _ _ _ _ _ z => z⟩
    obtain ⟨d', e0, k⟩ := p1.lift
    clear p1
    cases d with
    | row ds =>
      cases ex : strsD ds with
      | some xs =>
        have e1 : sortSetD (.row ds) = some d' := by
          have h : (match strsD ds with | some _ => sortSetD (.row ds) | none => _) = some d' := e0
          rw [ex] at h; exact h
        have e1 : ((strsD ds).bind fun xs => if xs.length + 1 < PySem.scanBound then some (D.row ((sortS (ddS xs)).map D.str)) else none) = some d' := e1
        rw [ex] at e1
        have e3 : (if xs.length + 1 < PySem.scanBound then some (D.row ((sortS (ddS xs)).map D.str)) else none) = some d' := e1
        have hds := strsD_some ex
        clear e1 e0 ex
        subst hds
        by_cases hb : xs.length + 1 < PySem.scanBound
        · rw [if_pos hb] at e3
          cases e3
          obtain ⟨a, vs, rfl, q1, q2, q3⟩ := rv
          rw [List.length_map] at q2
          have hxs : ∀ (l : List Str) (us : List V), Reps R.K R.nm F1 (l.map D.str) us → (∀ x ∈ l, x.length ≤ sizeLine) ∧ us = l.map V.str := by
            intro l
            induction l with
            | nil => intro us r; exact ⟨(fun x hx => nomatch hx), r⟩
            | cons y l ih =>
              intro us r
              obtain ⟨v, ws, rfl, hv, hw⟩ := r
              obtain ⟨i1, i2⟩ := ih ws hw
              refine ⟨fun x hx => ?_, by rw [i2, hv.1]; rfl⟩
              rcases List.mem_cons.mp hx with rfl | hx
              · exact hv.2
              · exact i1 x hx
          obtain ⟨hx1, hx2⟩ := hxs xs vs q3
          subst hx2
          refine .inl ⟨a, xs, rfl, SqL.of (w1.sub.lst q1), hb, fun q hq => ?_⟩
          have st2 : Stp R F1 H1 F1 (upd H1 q (SetMO X.w q (xs.map Sum.inr))) := Stp.newH _ hq
          have w2 : Wd R F1 (upd H1 q (SetMO X.w q (xs.map Sum.inr))) s1 := w1.newH _ hq
          refine .inl ⟨q, xs, rfl, upd_same, q2, fun q' hq' => ?_⟩
          refine new_row w2 ?_ (reps_strs _ fun x hx => hx1 x ?_) hq' fun v F' H' w' st' r' => k F' H' w' (st2.trans st') v r'
          · rw [List.length_map, (sortS_perm _).length_eq]
            exact Nat.le_trans (ddS_len xs) q2
          · exact (ddS_mem xs x).mp ((sortS_perm _).mem_iff.mp hx)
        · rw [if_neg hb] at e3; cases e3
      | none =>
        obtain ⟨ns, hns, hz, rfl⟩ := key _ ds rfl ex d' e0
        have hds := intsD_some hns
        clear e0 ex
        subst hds
        obtain ⟨a, vs, rfl, q1, q2, q3⟩ := rv
        have hxs : ∀ (l : List Int) (us : List V), Reps R.K R.nm F1 (l.map D.int) us → us = l.map V.int := by
          intro l
          induction l with
          | nil => intro us r; exact r
          | cons y l ih =>
            intro us r
            obtain ⟨v, ws, rfl, hv, hw⟩ := r
            rw [ih ws hw, show v = V.int y from hv]; rfl
        have hx2 := hxs ns vs q3
        subst hx2
        refine .inr ⟨a, ns, rfl, SqL.of (w1.sub.lst q1), hz, fun q hq => ?_⟩
        have st2 : Stp R F1 H1 F1 (upd H1 q (SetMO X.w q (ns.map Sum.inl))) := Stp.newH _ hq
        have w2 : Wd R F1 (upd H1 q (SetMO X.w q (ns.map Sum.inl))) s1 := w1.newH _ hq
        refine .inr ⟨q, ns, rfl, upd_same, hz, fun q' hq' => ?_⟩
        exact new_row w2 (by rw [List.length_map, sizeLine_eq]; have := sortI_len ns; omega) (reps_ints _) hq' fun v F' H' w' st' r' => k F' H' w' (st2.trans st') v r'
    | _ => cases e0
end
end Nw
set_option Elab.async false
set_option linter.all false
set_option maxRecDepth 100000
set_option maxHeartbeats 4000000
/-! Part PP: own things that are read by a test, and stay own. -/
namespace Nw
open PySem PySem.Spec L2
def unl (As : List Addr) (H H1 : Hp) : Hp := fun a => if a ∈ As then H a else H1 a
theorem unl_in {As : List Addr} {H H1 : Hp} {a : Addr} (h : a ∈ As) : unl As H H1 a = H a := by unfold unl; rw [if_pos h]
theorem unl_out {As : List Addr} {H H1 : Hp} {a : Addr} (h : a ∉ As) : unl As H H1 a = H1 a := by unfold unl; rw [if_neg h]
def Lkd (H H1 : Hp) (a : Addr) : Prop := H1 a = H a ∨ ∃ ob ws, H a = some (.dK ws) ∧ H1 a = some (.frz ob (.dK ws))
theorem inv_unl {X : Cx} {pins : List (Addr × Obj)} {σ : L2.St} {s : Shared} {H : Hp} : ∀ (As : List Addr) {H1 : Hp}, Inv X pins σ H1 s → (∀ a ∈ As, Lkd H H1 a) → (∀ a ∈ As, ∀ o' u', X.H_0 a ≠ some (.frz o' u')) → Inv X pins σ (unl As H H1) s
  | [], H1, I, _, _ => by
    have e : unl [] H H1 = H1 := funext fun a => unl_out (by simp)
    rw [e]; exact I
  | a :: As, H1, I, h, hn => by
    have key : ∃ H2, Inv X pins σ H2 s ∧ H2 a = H a ∧ ∀ b, b ≠ a → H2 b = H1 b := by
      rcases h a List.mem_cons_self with e | ⟨ob, ws, e1, e2⟩
      · exact ⟨H1, I, e, fun _ _ => rfl⟩
      · exact ⟨upd H1 a (.dK ws), I.unlock e2 (hn a List.mem_cons_self), by rw [upd_same, e1], fun b hb => upd_ne hb⟩
    obtain ⟨H2, I2, ea, eb⟩ := key
    have J := inv_unl As (H1 := H2) I2 (fun b hb => by
      by_cases hba : b = a
      · subst hba; exact .inl ea
      · have := h b (List.mem_cons_of_mem _ hb)
        unfold Lkd at this ⊢
        rw [eb b hba]; exact this) fun b hb => hn b (List.mem_cons_of_mem _ hb)
    have e : unl As H H2 = unl (a :: As) H H1 := funext fun b => by
      by_cases hb : b ∈ As
      · rw [unl_in hb, unl_in (List.mem_cons_of_mem _ hb)]
      · rw [unl_out hb]
        by_cases hba : b = a
        · subst hba; rw [ea, unl_in List.mem_cons_self]
        · rw [eb b hba, unl_out fun z => (List.mem_cons.mp z).elim hba hb]
    rw [← e]; exact J
/-- the own things' places -/
def ownAs (O : List Nat) (σ : L2.St) (r : Sl) : List Addr := O.filterMap fun i => match σ[i]?, r[i]? with
  | some (some (V.ref a)), some (some d) => if isRT d = true then some a else none
  | _, _ => none
section
variable {R : Reg} {H0 F H : Hp} {O : List Nat} {σ : L2.St} {r : Sl} {s : R.S}
theorem ownAs_in {a : Addr} (sl : Slots R H0 O F H σ r) (h : a ∈ ownAs O σ r) : ∃ i d, i ∈ O ∧ r[i]? = some (some d) ∧ σ[i]? = some (some (.ref a)) ∧ OwnAt R H0 F H a d := by
  obtain ⟨i, hi, e⟩ := List.mem_filterMap.mp h
  split at e
  · rename_i b d e1 e2
    by_cases hrt : isRT d = true
    · rw [if_pos hrt] at e
      cases e
      obtain ⟨a', h1, h2⟩ := sl.ow i d hi hrt e2
      rw [e1] at h1
      cases h1
      exact ⟨i, d, hi, e2, e1, h2⟩
    · rw [if_neg hrt] at e; cases e
  · cases e
theorem ownAs_of {a : Addr} {i : Nat} {d : D} (hi : i ∈ O) (hrt : isRT d = true) (e1 : r[i]? = some (some d)) (e2 : σ[i]? = some (some (.ref a))) : a ∈ ownAs O σ r := by
  refine List.mem_filterMap.mpr ⟨i, hi, ?_⟩
  rw [e2, e1]
  show (if isRT d = true then some a else none) = some a
  rw [if_pos hrt]
theorem OwnAt.obj {a : Addr} {d : D} (h : OwnAt R H0 F H a d) : ∃ o, H a = some o ∧ ∀ o' u', o ≠ .frz o' u' := by
  obtain ⟨_, _, _, h⟩ := h
  cases d with
  | row ds => obtain ⟨vs, e, _⟩ := h; exact ⟨_, e, fun _ _ z => nomatch z⟩
  | tab ds => obtain ⟨vs, e, _⟩ := h; exact ⟨_, e, fun _ _ z => nomatch z⟩
  | _ => exact h.elim
/-- what is plain, with the own things for a while -/
def lend (O : List Nat) (σ : L2.St) (r : Sl) (F H : Hp) : Hp := unl (ownAs O σ r) H F
theorem lend_same (sl : Slots R H0 O F H σ r) : Same F (lend O σ r F H) := fun a o e => by
  unfold lend
  rw [unl_out fun z => by
    obtain ⟨_, _, _, _, _, h⟩ := ownAs_in sl z
    rw [h.2.1] at e; cases e]
  exact e
theorem lend_wd (sl : Slots R H0 O F H σ r) (w : Wd R F H s) : Wd R (lend O σ r F H) H s where
  sub := fun a o e => by
    unfold lend at e
    by_cases h : a ∈ ownAs O σ r
    · rw [unl_in h] at e; exact .inl e
    · rw [unl_out h] at e; exact w.sub a o e
  mu := fun a m => by
    unfold lend
    rw [unl_out fun z => by
      obtain ⟨_, _, _, _, _, h⟩ := ownAs_in sl z
      exact h.2.2.1 m]
    exact w.mu a m
  si := w.si
theorem lend_pu (sl : Slots R H0 O F H σ r) : Pu R [] (lend O σ r F H) σ r := ⟨sl.pu.len, fun i d _ e => by
  by_cases hi : i ∈ O
  · cases hrt : isRT d with
    | false =>
      obtain ⟨v, h1, h2⟩ := sl.ns i d hi hrt e
      exact ⟨v, h1, h2.mono (lend_same sl)⟩
    | true =>
      obtain ⟨a, h1, h2⟩ := sl.ow i d hi hrt e
      refine ⟨.ref a, h1, ?_⟩
      have hF : lend O σ r F H a = H a := unl_in (ownAs_of hi hrt e h1)
      have sm := lend_same sl
      obtain ⟨_, _, _, h2⟩ := h2
      cases d with
      | row ds => obtain ⟨vs, q1, q2, q3⟩ := h2; exact ⟨a, vs, rfl, hF.trans q1, q2, q3.mono sm⟩
      | tab ds => obtain ⟨vs, q1, q2, q3⟩ := h2; exact ⟨a, vs, rfl, hF.trans q1, q2, q3.mono sm⟩
      | _ => exact h2.elim
  · obtain ⟨v, h1, h2⟩ := sl.pu.at_ i d hi e
    exact ⟨v, h1, h2.mono (lend_same sl)⟩⟩
/-- .. taken back -/
theorem lend_back (sl : Slots R H0 O F H σ r) {F1 H1 : Hp} {s1 : R.S} (w1 : Wd R F1 H1 s1) (st : Stp R (lend O σ r F H) H F1 H1) :
    ∃ F2, Wd R F2 (unl (ownAs O σ r) H H1) s1 ∧ Stp R F H F2 (unl (ownAs O σ r) H H1) ∧ ∀ a ∈ ownAs O σ r, Lkd H H1 a := by
  have hM : ∀ a, R.Mu a → a ∉ ownAs O σ r := fun a m z => by
    obtain ⟨_, _, _, _, _, h⟩ := ownAs_in sl z
    exact h.2.2.1 m
  refine ⟨fun a => if a ∈ ownAs O σ r then none else F1 a, ⟨fun a o e => ?_, fun a m => ?_, ?_⟩, ⟨fun a o e => ?_, fun a o m e => ?_, fun a e => ?_, fun a e => ?_⟩, fun a ha => ?_⟩
  · by_cases h : a ∈ ownAs O σ r
    · rw [if_pos h] at e; cases e
    · rw [if_neg h] at e
      rw [unl_out h]; exact w1.sub a o e
  · rw [if_neg (hM a m)]; exact w1.mu a m
  · exact R.loc s1 H1 _ w1.si fun a m => unl_out (hM a m)
  · have h : a ∉ ownAs O σ r := fun z => by
      obtain ⟨_, _, _, _, _, h⟩ := ownAs_in sl z
      rw [h.2.1] at e; cases e
    rw [if_neg h]; exact st.fs a o (lend_same sl a o e)
  · by_cases h : a ∈ ownAs O σ r
    · rw [unl_in h]; exact .inl e
    · rw [unl_out h, if_neg h]; exact st.hs a o m e
  · by_cases h : a ∈ ownAs O σ r
    · rw [if_pos h] at e; exact absurd rfl e
    · rw [if_neg h] at e
      rcases st.nw a e with z | z
      · unfold lend at z; rw [unl_out h] at z; exact .inl z
      · exact .inr z
  · by_cases h : a ∈ ownAs O σ r
    · rw [unl_in h] at e; exact e
    · rw [unl_out h] at e; exact st.th a e
  · obtain ⟨_, _, _, _, _, h⟩ := ownAs_in sl ha
    obtain ⟨o, ho, _⟩ := h.obj
    rcases st.hs a o h.2.2.1 ho with z | ⟨_, kvs, ob, e1, e2⟩
    · exact .inl (by rw [z, ho])
    · subst e1; exact .inr ⟨ob, kvs, ho, e2⟩
end
def tDTB (R : Reg) (W : WX) (O : List Nat) (f : Sl → M R.S Bool) : TT := fun σ H Q => ∃ F H0 r s, Wd R F H s ∧ Slots R H0 O F H σ r ∧ Post R F H (nox (f r) s) (fun b _ _ H' => Q b H') (fun x _ F' H' => ∀ cls dd, RepX R.K R.nm F' x cls dd → W cls dd σ H')
section
variable {X : Cx} {R : Reg} {W : WX} {fr : FrK} {O O' B : List Nat} {e : Expr} {c : Sl → M R.S Bool} {f g : Sl → Mo R.S} {pos : Pos}
theorem dt_borrow (h : PT X e (tDT R W [] c)) : PT X e (tDTB R W O c) := ⟨fun pins s σ H Q I hq => by
  obtain ⟨F, H0, r, st, w, sl, p⟩ := hq
  have hrun := h.run pins s σ H (fun b H1 => Q b (unl (ownAs O σ r) H H1) ∧ ∀ a ∈ ownAs O σ r, Lkd H H1 a) I ⟨lend O σ r F H, r, st, lend_wd sl w, lend_pu sl, by
    cases ec : c r st with
    | ok b s1 =>
      have p : ∀ F' H', Wd R F' H' s1 → Stp R F H F' H' → Q b H' := by
        have e2 : nox (c r) st = .ok b s1 := by unfold nox; rw [ec]
        rw [e2] at p; exact p
      intro F1 H1 w1 st1
      obtain ⟨F2, q1, q2, q3⟩ := lend_back sl w1 st1
      exact ⟨p F2 _ q1 q2, q3⟩
    | exc x s1 =>
      have e2 : nox (c r) st = .bot := by unfold nox; rw [ec]
      rw [e2] at p; exact p.elim
    | bot =>
      have e2 : nox (c r) st = .bot := by unfold nox; rw [ec]
      rw [e2] at p; exact p.elim⟩
  refine thn hrun fun b s' hb => ?_
  obtain ⟨H1, I1, q1, q2⟩ := hb
  refine ⟨_, inv_unl _ I1 q2 fun a ha o' u' z => ?_, q1⟩
  obtain ⟨_, _, _, _, _, ho⟩ := ownAs_in sl ha
  obtain ⟨o, e1, e2⟩ := ho.obj
  have e3 := I.base.frzs a o' u' z
  rw [e1] at e3
  exact e2 _ _ (Option.some.inj e3)⟩
/-- if, its test reads own things -/
theorem ds_ifB {t : Expr} {a b : List Stmt} (hc : PT X t (tDT R W [] c)) (ha : PSs X a (tDS R W fr B O O' f)) (hb : PSs X b (tDS R W fr B O O' g)) : PS X (.If t a b pos) (tDS R W fr B O O' (sIf (fun r => nox (c r)) f g)) := ps_imp (ps_if (dt_borrow (O := O) hc) ha hb) fun E σ H h => by
  obtain ⟨F0, H0, F, r, s, w, st, sl, p⟩ := h
  refine ⟨F, H0, r, s, w, sl, (postS_x w st sl p).imp (fun k s1 F1 H1 w1 st1 q => ?_) fun _ _ _ _ _ _ z => z⟩
  obtain ⟨w2, st2, sl2, p2⟩ := q
  cases k with
  | true => rw [if_pos rfl] at p2 ⊢; exact ⟨F0, H0, F1, r, s1, w2, st2, sl2, p2⟩
  | false => rw [if_neg Bool.false_ne_true] at p2 ⊢; exact ⟨F0, H0, F1, r, s1, w2, st2, sl2, p2⟩
end
end Nw
set_option Elab.async false
set_option linter.all false
set_option maxRecDepth 100000
set_option maxHeartbeats 4000000
/-! Part QQ: sorted(d.keys()), all keys numbers. -/
namespace Nw
open PySem PySem.Spec L2 PyProof.Rows
theorem ints_at2 : ∀ {us : List Value} {ns : List Int}, us.length = ns.length → (∀ (j : Nat) (v : Value), us[j]? = some v → ∃ i t, ns[j]? = some i ∧ v = .int i t) → IntsAre us ns
  | [], [], _, _ => .nil
  | [], _ :: _, h, _ => by simp at h
  | _ :: _, [], h, _ => by simp at h
  | u :: us, n :: ns, h, f => by
    obtain ⟨i, t, e1, rfl⟩ := f 0 u rfl
    have e1 : n = i := by simpa using e1
    subst e1
    exact .cons n t (ints_at2 (by simpa using h) fun j v e => by
      obtain ⟨i, t, h1, h2⟩ := f (j + 1) v (by simpa using e)
      exact ⟨i, t, by simpa using h1, h2⟩)
section
variable {X : Cx}
theorem call_sortedVI (hcalm : X.calm = true) : CallR X (.builtin "sorted") (fun xs H Q => ∃ (a d : Addr) (kvs : List (Key × V)) (ks : List Int), xs = [.ref a] ∧ H a = some (VwO "dict_keys" d a) ∧ Rd H d (.dK kvs) ∧ kvs.map (·.1) = ks.map Sum.inl ∧ ks.length < 64 ∧ ks.Nodup ∧
    ∀ p, H p = none → Q (.ref p) (upd H p (.lst ((sortI ks).map V.int)))) := by
  intro pins s σ H xs us Q I r q
  obtain ⟨v, a, kvs, ks, ex, hv, hd, hks, h64, hnd, q⟩ := q
  subst ex
  obtain ⟨u, eu, rx⟩ := vals1 r
  subst eu
  cases rx
  obtain ⟨hview, _, _⟩ := (show ObjOk X.prog X.w H s.heap v (VwO "dict_keys" a v) from I.hok v _ hv)
  obtain ⟨z, lo, vs, rel, dd⟩ := dk_rd I.hok hd
  obtain ⟨ep, hat⟩ := dd.dictAt
  have hkeys : vs.map (·.1) = ks.map Sum.inl := rel.keys.symm.trans hks
  have hl : vs.length = ks.length := by
    have e := congrArg List.length hkeys
    rw [List.length_map, List.length_map] at e
    exact e
  have h16 : vs.length ≤ sizeLine := by rw [← rel.length]; exact z
  refine Calls.call_function_entry PyProof.Rows.kind_sorted PyProof.Rows.plain_sorted PyProof.Rows.entry_sorted (PyProof.Rows.args_sorted1 _) ?_
  unfold Builtin.«sorted»
  refine wpAny_bind (m := checkCount "sorted" 1 1 _) (wpAny_pure ?_)
  refine wpAny_bind (PySem.W.kdu_collect (A := X.A.in1) (PySem.W.kdl_keys (r := v) (d := a) (knd := mixKind X.prog X.w) (kvs := vs) (ep := ep)) (I.ok.hd hcalm) ⟨⟨_, hview, rfl, rfl⟩, hat⟩ h16 fun h' tk acc hk hacc => ?_)
  have hal : acc.toList.length = ks.length := by rw [Array.length_toList, hacc.1, hl]
  have hS : IntsAre acc.toList ks := ints_at2 hal fun j v e => by
    obtain ⟨k, x, e1, e2⟩ := hacc.2 j v (by rw [← Array.getElem?_toList]; exact e)
    have e3 : (vs.map (·.1))[j]? = some k := by rw [List.getElem?_map, e1]; all_goals rfl
    rw [hkeys, List.getElem?_map] at e3
    cases e4 : ks[j]? with
    | none => rw [e4] at e3; cases e3
    | some y =>
      rw [e4] at e3
      have e5 : Sum.inl y = k := Option.some.inj e3
      subst e5
      obtain ⟨t, ev⟩ := Value.isInt_shape (k := y) (v := v) e2
      exact ⟨y, t, rfl, ev⟩
  have I1 : Inv X pins σ H { s with heap := h', toks := tk } := I.kept hk
  refine wpAny_bind (wpAny_newList ?_ (by rw [hal, ← hl]; exact h16))
  have hoL : (h'.push (seqObj "list" acc.toList.toArray 0)).get? h'.objs.size = some (seqObj "list" acc.toList.toArray 0) := Heap.get?_push_size _ rfl
  show wpAny _ _ _ _ _ { s with heap := h'.push (seqObj "list" acc.toList.toArray 0), toks := tk }
  refine wpAny_bind (wpAny_holding (wpAny_call_entry slot_list_sort ⟨_, hoL, rfl⟩ entry_list_sort
    (list_sort_tree (s := { s with heap := h'.push (seqObj "list" acc.toList.toArray 0), toks := tk }) hoL hS (by rw [hal]; exact h64) fun out ys a1 a2 a3 => ⟨_, rfl, ?_⟩) (args_list_sort _)))
  obtain ⟨e', he'⟩ := sortedHeap_at (vs := acc.toList) (out := out) hoL
  have hu : ys = sortI ks := lt_uniq (lt_of_le_nodup ys a3 (a2.nodup_iff.mpr hnd)) (sortI_lt ks) fun x => (a2.mem_iff).trans (sortI_mem x ks).symm
  have hlen : (ys.map V.int).length ≤ sizeLine := by
    rw [List.length_map, a2.length_eq, ← hl]
    exact h16
  have q' := q
  rw [← hu] at q'
  refine wpAny_pure ⟨_, rfl, .ref h'.objs.size, upd H h'.objs.size (.lst (ys.map V.int)), I1.laid (t' := tk) (fun b u e => ?_) (Nat.le_refl _)
    (show ObjOk X.prog X.w _ _ _ (.lst (ys.map V.int)) from ⟨hlen, out.toList, e', vals_of_ints a1, by rw [Array.toArray_toList]; exact he'⟩), rfl, q' _ (I1.hok.fresh (Nat.le_refl _))⟩
  have hb : b < h'.objs.size := Heap.lt_size e
  rw [sortedHeap_old (Nat.ne_of_lt hb) (by rw [size_push']; exact Nat.lt_succ_of_lt hb)]
  exact Heap.get?_push_of_some _ e
end
def intKeys : List (Key × D) → Option (List Int)
  | [] => some []
  | (.inl x, _) :: r => (intKeys r).map fun l => x :: l
  | _ :: _ => none
theorem intKeys_some : ∀ {kvs : List (Key × D)} {ks : List Int}, intKeys kvs = some ks → kvs.map (·.1) = ks.map Sum.inl
  | [], ks, h => by cases h; rfl
  | (.inr i, d) :: r, ks, h => by cases h
  | (.inl x, d) :: r, ks, h => by
    have h : (intKeys r).map (fun l => x :: l) = some ks := h
    cases e : intKeys r with
    | none => rw [e] at h; cases h
    | some l => rw [e] at h; cases h; rw [List.map_cons, List.map_cons, intKeys_some e]
def sortKD2 : D → Option D
  | .tab kvs => (intKeys kvs).bind fun ks => if ks.length < 64 ∧ ks.Nodup then some (.row ((sortI ks).map D.int)) else none
  | _ => none
section
variable {X : Cx} {R : Reg} {W : WX} {O : List Nat} {o : Expr} {f : Sl → M R.S D} {pos p apos cpos : Pos} {n : Nat}
theorem de_sortedK2 (c : Cxt X R W n) (hg : Gl X "sorted") (hm : X.mg "sorted" = none) (ho : PE X o (tD R W O f)) (hbase : attributeBase o "keys" X.env (eval o X.env) = eval o X.env := by rfl) (hline : (apos.endLine == cpos.line) = true := by rfl)
    (he : starEach [.Call (.Attribute o "keys" apos) [] [] cpos] X.env = (false, eval (.Call (.Attribute o "keys" apos) [] [] cpos) X.env) :: starEach [] X.env := by rfl) (hpl : (backTo pos (starEach [] X.env)).any (·.1) = false := by rfl) :
    PE X (.Call (.Name "sorted" p) [.Call (.Attribute o "keys" apos) [] [] cpos] [] pos) (tD R W O (dUn sortKD2 f)) :=
  pe_imp (pe_callB (call_sortedVI c.calm) hg hm (by decide +kernel) (pa_cons (pe_bw0 PySem.F.plainAttrs_dict PySem.F.slot_dict_keys PySem.F.type_dict_keys mt_keysV ho hbase hline) pa_nil he) (by decide) (by decide) he hpl)
    (sat_view c.hK (tab_of fun d hd => by cases d <;> first | rfl | exact absurd rfl (hd _)) fun v d kvs ws d' F H s Q w hv hF hd hz rk e k => by
      obtain ⟨ks, ek, e⟩ := bind_some (show (intKeys kvs).bind (fun ks => if ks.length < 64 ∧ ks.Nodup then some (D.row ((sortI ks).map D.int)) else none) = some d' from e)
      by_cases hh : ks.length < 64 ∧ ks.Nodup
      · rw [if_pos hh] at e
        cases e
        exact ⟨v, d, ws, ks, rfl, hv, hd, by rw [rk.keys]; exact intKeys_some ek, hh.1, hh.2, fun q hq => new_row w (by rw [List.length_map, sizeLine_eq]; have := sortI_len ks; omega) (reps_ints _) hq k⟩
      · rw [if_neg hh] at e; cases e)
end
end Nw
set_option Elab.async false
set_option linter.all false
set_option maxRecDepth 100000
set_option maxHeartbeats 4000000
/-! Part RR: own slots that hold anything: set, kept through a try, told. -/
namespace Nw
open PySem PySem.Spec L2
/-- a value that is neither a list nor a dict -/
def plD (d : D) : Option D := if isRT d = true then none else some d
def plainAt (O : List Nat) (r : Sl) : Bool := O.all fun i => match r[i]? with
  | some (some d) => !isRT d
  | _ => true
theorem plainAt_at {O : List Nat} {r : Sl} (h : plainAt O r = true) {i : Nat} {d : D} (hi : i ∈ O) (e : r[i]? = some (some d)) : isRT d = false := by
  have h1 := List.all_eq_true.mp h i hi
  rw [e] at h1
  have h1 : (!isRT d) = true := h1
  cases hd : isRT d with
  | false => rfl
  | true => rw [hd] at h1; cases h1
section
variable {R : Reg} {H0 F H F0 : Hp} {O O' : List Nat} {σ : L2.St} {r : Sl} {s : R.S}
theorem slots_plain (h : Pu R [] F σ r) (hp : plainAt O r = true) : Slots R H0 O F H σ r where
  pu := ⟨h.len, fun i d _ e => h.at_ i d (by simp) e⟩
  ow := fun i d hi hrt e => by rw [plainAt_at hp hi e] at hrt; cases hrt
  ns := fun i d hi _ e => h.at_ i d (by simp) e
  sep := fun i j a d e hi hj hr _ e1 => by rw [plainAt_at hp hi e1] at hr; cases hr
theorem Fre.rep {d : D} {v : V} (h : Fre R H0 F H d v) (hr : isRT d = false) : Rep R.K R.nm F d v := by
  cases d with
  | row ds => cases hr
  | tab ds => cases hr
  | _ => exact h
theorem fre_rep {d : D} {v : V} (h : Rep R.K R.nm F d v) (hr : isRT d = false) : Fre R H0 F H d v := by
  cases d with
  | row ds => cases hr
  | tab ds => cases hr
  | _ => exact h
/-- a slot set to something plain, own all the same -/
theorem Slots.setP {d : D} {v : V} {i : Nat} (h : Slots R H0 O F H σ r) (h1 : ∀ j ∈ O', j = i ∨ j ∈ O) (h2 : ∀ j ∈ O, j ≠ i → j ∈ O') (hr : isRT d = false) (rv : Rep R.K R.nm F d v) : Slots R H0 O' F H (σ.set i (some v)) (r.set i (some d)) where
  pu := ⟨by rw [List.length_set, List.length_set]; exact h.pu.len, fun j d' hj e => by
    by_cases ej : i = j
    · subst ej
      by_cases hl : i < r.length
      · rw [List.getElem?_set_self hl] at e
        cases e
        exact ⟨v, List.getElem?_set_self (by rw [← h.pu.len]; exact hl), rv⟩
      · rw [List.getElem?_eq_none (by rw [List.length_set]; omega)] at e; cases e
    · rw [List.getElem?_set_ne ej] at e ⊢
      exact h.pu.at_ j d' (fun z => hj (h2 j z (fun w => ej w.symm))) e⟩
  ow := fun j d' hj hrt e => by
    by_cases ej : i = j
    · subst ej
      by_cases hl : i < r.length
      · rw [List.getElem?_set_self hl] at e
        cases e
        rw [hr] at hrt; cases hrt
      · rw [List.getElem?_eq_none (by rw [List.length_set]; omega)] at e; cases e
    · rw [List.getElem?_set_ne ej] at e ⊢
      exact h.ow j d' ((h1 j hj).resolve_left fun z => ej z.symm) hrt e
  ns := fun j d' hj hrt e => by
    by_cases ej : i = j
    · subst ej
      by_cases hl : i < r.length
      · rw [List.getElem?_set_self hl] at e
        cases e
        exact ⟨v, List.getElem?_set_self (by rw [← h.pu.len]; exact hl), rv⟩
      · rw [List.getElem?_eq_none (by rw [List.length_set]; omega)] at e; cases e
    · rw [List.getElem?_set_ne ej] at e ⊢
      exact h.ns j d' ((h1 j hj).resolve_left fun z => ej z.symm) hrt e
  sep := fun j k ad d1 d2 hj hk hr1 hr2 e1 e2 e3 e4 => by
    have ne : ∀ m dm, isRT dm = true → (r.set i (some d))[m]? = some (some dm) → i ≠ m := fun m dm hm e z => by
      subst z
      by_cases hl : i < r.length
      · rw [List.getElem?_set_self hl] at e
        cases e
        rw [hr] at hm; cases hm
      · rw [List.getElem?_eq_none (by rw [List.length_set]; omega)] at e; cases e
    have n1 := ne j d1 hr1 e1
    have n2 := ne k d2 hr2 e2
    rw [List.getElem?_set_ne n1] at e1 e3
    rw [List.getElem?_set_ne n2] at e2 e4
    exact h.sep j k ad d1 d2 ((h1 j hj).resolve_left fun z => n1 z.symm) ((h1 k hk).resolve_left fun z => n2 z.symm) hr1 hr2 e1 e2 e3 e4
end
section
variable {X : Cx} {R : Reg} {W : WX} {fr : FrK} {O O' B : List Nat} {a b e : Expr} {f g : Sl → M R.S D} {c : Sl → M R.S Bool} {fb : Sl → Mo R.S} {pos np pos' npos : Pos} {n i j : Nat} {x y z : Str} {body : List Stmt}
theorem df_pl (h : PE X e (tD R W O f)) : PE X e (tDF R W O (dUn plD f)) := pe_imp h fun σ H Q h => by
  obtain ⟨F, r, s, w, pu, p⟩ := h
  refine ⟨F, r, s, w, pu, p.bnd.imp (fun d s1 F1 H1 w1 st1 p1 v rv => ?_) fun _ _ _ _ _ _ z => z⟩
  obtain ⟨d', e', k⟩ := p1.lift
  have e' : (if isRT d = true then none else some d) = some d' := e'
  cases hr : isRT d with
  | true => rw [hr, if_pos rfl] at e'; cases e'
  | false =>
    rw [hr, if_neg Bool.false_ne_true] at e'
    cases e'
    exact k F1 H1 w1 Stp.refl v (fre_rep rv hr)
/-- name = something new, or plain; the slot is own behind -/
theorem ds_setA (i : Nat) {pos' : Pos} (hN : X.N.Nodup) (hi : X.N[i]? = some x) (hx : Loc X.env.scope x) (he : PE X e (tDF R W O f)) (hO : i ∈ O') (h1 : ∀ j ∈ O', j = i ∨ j ∈ O) (h2 : ∀ j ∈ O, j ≠ i → j ∈ O') (hs : swapsWith e (some (.Name x pos')) pos.line X.env = pure false := by rfl) (hf : X.fn x = true ∨ X.env.scope.names.lookup x = some .local := by first | exact .inl rfl | exact .inr rfl | assumption) :
    PS X (.Assign [.Name x pos'] e pos) (tDS R W fr B O O' (sAsg (tgN i) f)) := ps_imp (ps_set hN hi hx he hs hf) fun E σ H h => by
  obtain ⟨F0, H0, F, r, s, w, st, sl, p⟩ := h
  have ep : sAsg (tgN i) f r s = liftX (f r) r (fun d s => some (.next (r.set i (some d)), s)) s := rfl
  rw [ep] at p
  refine ⟨F, r, s, w, sl.pu, (postS_x w st sl p).imp (fun d s1 F1 H1 w1 st1 q v fv => ?_) fun _ _ _ _ _ _ z => z⟩
  obtain ⟨w2, st2, sl2, p2⟩ := q
  cases er : isRT d with
  | false => exact p2 _ F1 H1 w2 st2 (sl2.setP h1 h2 er (fv.rep er))
  | true =>
    obtain ⟨q, rfl, hq⟩ := fv.own er
    have hqq : OwnAt R H0 F1 H1 q d := ⟨st.th q hq.1, hq.2⟩
    refine p2 _ F1 H1 w2 st2 (sl2.setO hO h1 h2 hqq fun j d' ad hj ne hrt e1 e2 ea => ?_)
    subst ea
    obtain ⟨ad', e3, h4⟩ := sl.ow j d' hj hrt e1
    rw [e2] at e3
    cases e3
    obtain ⟨o, ho⟩ := h4.there
    rw [hq.1] at ho
    cases ho
/-- return x if c else e: an own thing, or a new one -/
theorem ds_retIf {t : Expr} {p2 : Pos} (i : Nat) (hc : PT X t (tDT R W O c)) (hO : i ∈ O) (hN : X.N[i]? = some x) (hv : Vis X.env.scope x) (hb : PE X b (tDF R W O g)) (hd : (x == ("__debug__" : Str)) = false := by decide) (hcd : (x == ("__classdict__" : Str)) = false := by decide) :
    PS X (.Return (some (.IfExp t (.Name x npos) b p2)) pos) (tDS R W .t B O O' (sIf c (sRetO i) (sRet g))) := ps_imp (ps_ret (pe_ifExp hc (pe_var hN hv hd hcd) hb)) fun E σ H h => by
  obtain ⟨F0, H0, F, r, s, w, st, sl, p⟩ := h
  refine ⟨F, r, s, w, sl.pu, (postS_x w st sl p).imp (fun k s1 F1 H1 w1 st1 q => ?_) fun _ _ _ _ _ _ z => z⟩
  obtain ⟨w2, st2, sl2, p2⟩ := q
  cases k with
  | true =>
    rw [if_pos rfl] at p2
    refine iteT ?_
    have p2 : PostS R .t F0 H0 (match getS r i with | some d => some (.rt d, s1) | none => none) E W B O' := p2
    cases eg : getS r i with
    | none => rw [eg] at p2; exact p2.elim
    | some d =>
      rw [eg] at p2
      obtain ⟨v, h1, h2⟩ := sl2.fre hO (getS_some eg)
      exact ⟨_, h1, p2 _ F1 H1 w2 st2 h2⟩
  | false =>
    rw [if_neg Bool.false_ne_true] at p2
    refine iteF ⟨F1, r, s1, w2, sl2.pu, (postS_x w2 st2 sl2 p2).imp (fun d s3 F3 H3 w3 st3 q v fv => q.2.2.2 v F3 H3 q.1 q.2.1 (show Fre R H0 F3 H3 d v from fv.base st2.th)) fun _ _ _ _ _ _ z => z⟩
/-- try: .. except c' as y: z = y, with own slots -/
def tryKO {S : Type} (cs : List Cl) (c' : Cl) (i j : Nat) (O : List Nat) : Option (Flw × S) → Option (Flw × S)
  | some (.thr x r, s) => if x.c ∈ cs ∧ i < r.length then (if subC x.c c' = true then (if plainAt O (((r.set i none).set j (some (.exc x.c x.fs))).set i none) = true then some (.next (((r.set i none).set j (some (.exc x.c x.fs))).set i none), s) else none) else some (.thr x r, s)) else none
  | some (.next r, s) => some (.next r, s)
  | some (.rt d, s) => some (.rt d, s)
  | some (.brk r, s) => some (.brk r, s)
  | some (.cnt r, s) => some (.cnt r, s)
  | none => none
def sTryHO {S : Type} (cs : List Cl) (c' : Cl) (i j : Nat) (O : List Nat) (f : Sl → Mo S) : Sl → Mo S := fun r s => tryKO cs c' i j O (f r s)
theorem ds_tryHO {cs : List Cl} {c' : Cl} {q1 q2 q3 : Pos} (cx : Cxt X R W n) (tk : TkM false X W) (xf : XF X.K cs) (hc' : c' ∈ cs) (hx : c'.name = x) (hex : X.ex = []) (hs : X.stack = X.env :: X.outer) (hf : X.env.frame = some X.env.locals) (hi : X.N[i]? = some y) (hln : X.env.kindOf y = some .local) (hj : X.N[j]? = some z) (hlz : X.env.scope.names.lookup z = some .local)
    (hg : Gl X x) (hm : X.mg x = some (.ref (eA X.K c'))) (hdy : (y == ("__debug__" : Str)) = false) (hcy : (y == ("__classdict__" : Str)) = false) (hsw : swapsWith (.Name y q2) (some (.Name z q1)) q3.line X.env = pure false) (hvy : Vis X.env.scope y)
    (hb : ∀ (W' : WX) (pn : List (Addr × Obj)) (xe : Value → Shared → Prop), Cxt (X.tr pn xe) R W' n → TkM false (X.tr pn xe) W' → PassesOwn (model X.prog X.w) X.A X.env xe → PSs (X.tr pn xe) body (tDS R W' fr B O O' fb)) (hdb : (x == ("__debug__" : Str)) = false := by decide) :
    PS X (.Try body [.ExceptHandler (some (.Name x np)) (some y) [.Assign [.Name z q1] (.Name y q2) q3] pos'] [] [] pos) (tDS R W fr B O O' (sTryHO cs c' i j O' fb)) := by
  have suite : ∀ (a : Addr) (oe : Obj) (cls : Value) (d : Option Addr) (pn : List (Addr × Obj)), Zc cls d oe → (∃ vs, oe.data = .fields vs) → PSs (X.suite a ((a, oe) :: pn)) [.Assign [.Name z q1] (.Name y q2) q3] (tAsg (tVar i) (gName j)) := fun a oe cls d pn _ _ =>
    pss_one (ps_set (X := X.suite a ((a, oe) :: pn)) cx.nd hj (.inl hlz) (pe_var hi hvy hdy hcy) hsw (.inr hlz))
  refine ps_imp (ps_try_asT hex hs hf cx.nd hi hln ⟨hg, hdb, .inl hm⟩ tk (tb := fun W' => tDS R W' fr B O O' fb) (fun W' pn xe tk po => hb W' pn xe (cx.tr W') tk po) suite) fun E σ H h => ?_
  obtain ⟨F0, H0, F, r, s, w, st, sl, p⟩ := h
  refine ⟨F0, H0, F, r, s, w, st, sl, ?_⟩
  unfold sTryHO at p
  cases ef : fb r s with
  | none => rw [ef] at p; exact p
  | some q =>
    obtain ⟨fl, s'⟩ := q
    rw [ef] at p
    cases fl with
    | next r' => exact p
    | rt d => exact p
    | brk r' => exact p
    | cnt r' => exact p
    | thr xx r' =>
      have p : PostS R fr F0 H0 (if xx.c ∈ cs ∧ i < r'.length then (if subC xx.c c' = true then (if plainAt O' (((r'.set i none).set j (some (.exc xx.c xx.fs))).set i none) = true then some (.next (((r'.set i none).set j (some (.exc xx.c xx.fs))).set i none), s') else none) else some (.thr xx r', s')) else none) E W B O' := p
      by_cases hcs : xx.c ∈ cs ∧ i < r'.length
      · rw [if_pos hcs] at p
        obtain ⟨hcs, hir⟩ := hcs
        intro σ' F' H' cls dd w' st' sl' rx
        have hcls : cls = .ref (eA X.K xx.c) := by rw [rx.1, cx.hK]
        refine ⟨subC xx.c c', by rw [hcls]; exact xf.exm _ hcs _ hc', fun hb2 ad had => ?_, fun hb2 => ?_⟩
        · rw [if_pos hb2] at p
          by_cases hpl : plainAt O' (((r'.set i none).set j (some (.exc xx.c xx.fs))).set i none) = true
          · rw [if_pos hpl] at p
            have st2 : Stp R F' H' (upd F' ad (ExH cls dd ad)) (upd H' ad (ExH cls dd ad)) := Stp.new _ had (w'.free had)
            have w2 : Wd R (upd F' ad (ExH cls dd ad)) (upd H' ad (ExH cls dd ad)) s' := w'.new _ had
            have pu2 := sl'.pu.mono st2.fs
            have rv : Rep R.K R.nm (upd F' ad (ExH cls dd ad)) (.exc xx.c xx.fs) (.ref ad) := by
              obtain ⟨h1, h2⟩ := rx.mono st2.fs
              refine ⟨ad, dd, rfl, by rw [upd_same, h1], ?_⟩
              rcases h2 with ⟨h3, h4⟩ | h2
              · exact .inl ⟨h3, h4⟩
              · exact .inr h2
            have hil : i < σ'.length := by rw [← sl'.pu.len]; exact hir
            refine ⟨.ref ad, List.getElem?_set_self hil, ?_⟩
            exact p _ _ _ w2 (st'.trans st2) (slots_plain (set_none_pu (set_some_pu (set_none_pu pu2 _) rv) _) hpl)
          · rw [if_neg hpl] at p; exact p.elim
        · rw [if_neg (by rw [hb2]; exact Bool.false_ne_true)] at p
          exact p σ' F' H' cls dd w' st' sl' rx
      · rw [if_neg hcs] at p; exact p.elim
end
end Nw
set_option Elab.async false
set_option linter.all false
set_option maxRecDepth 100000
set_option maxHeartbeats 4000000
/-! Part SS: d.pop(k); errors with a field: raised, raised out of an except suite, read. -/
namespace Nw
open PySem PySem.Spec L2
/-! ### pop -/
def dropD (kvs : List (Key × D)) (k : Key) : List (Key × D) := kvs.filter fun kv => decide (kv.1 ≠ k)
theorem RepsK.drop {K : PySem.W.Frag} {nm : Nat → Option Addr} {F : Hp} (k : Key) : ∀ {kvs : List (Key × D)} {ws : List (Key × V)}, RepsK K nm F kvs ws → RepsK K nm F (dropD kvs k) (dropK ws k)
  | [], ws, r => by rw [show ws = [] from r]; rfl
  | (j, d) :: kvs, ws, r => by
    obtain ⟨v, ws', rfl, hk, r1, r2⟩ := r
    have ih := RepsK.drop k r2
    unfold dropD dropK at ih ⊢
    by_cases e : j = k
    · rw [List.filter_cons_of_neg (by simp [e]), List.filter_cons_of_neg (by simp [e])]; exact ih
    · rw [List.filter_cons_of_pos (by simp [e]), List.filter_cons_of_pos (by simp [e])]
      exact ⟨v, _, rfl, hk, r1, ih⟩
theorem dropD_len (kvs : List (Key × D)) (k : Key) : (dropD kvs k).length ≤ kvs.length := List.length_filter_le _ _
theorem dropD_none {kvs : List (Key × D)} {k : Key} (h : valD kvs k = none) : dropD kvs k = kvs := by
  unfold dropD
  rw [List.filter_eq_self]
  intro p hp
  refine decide_eq_true fun e => ?_
  unfold valD at h
  cases hf : kvs.find? fun kv => decide (kv.1 = k) with
  | none =>
    have := List.find?_eq_none.mp hf p hp
    rw [decide_eq_true_eq] at this
    exact this e
  | some q => rw [hf] at h; cases h
def popD1 : D → D → Option D
  | .tab kvs, k => (keyD k).bind fun k => if (valD kvs k).isSome = true then some (.tab (dropD kvs k)) else none
  | _, _ => none
def popD2 : D → D → Option D
  | .tab kvs, k => (keyD k).map fun k => .tab (dropD kvs k)
  | _, _ => none
section
variable {X : Cx} {R : Reg} {W : WX} {fr : FrK} {O O' B : List Nat} {a b e : Expr} {f g : Sl → M R.S D} {pos p apos cpos npos q1 : Pos} {n i jj : Nat} {x : Str}
/-- x.pop(e), x an own table -/
theorem ds_pop1 (i : Nat) (hO : i ∈ O) (hN : X.N[i]? = some x) (hv : Vis X.env.scope x) (he : PE X e (tD R W O f)) (hd : (x == ("__debug__" : Str)) = false := by decide) (hcd : (x == ("__classdict__" : Str)) = false := by decide)
    (m : M1 X (.Name x npos) "pop" apos e cpos := by exact ⟨rfl, rfl, rfl, rfl⟩) (hs : swapsWith (.Call (.Attribute (.Name x npos) "pop" apos) [e] [] cpos) none pos.line X.env = pure false := by rfl) :
    PS X (.Expr (.Call (.Attribute (.Name x npos) "pop" apos) [e] [] cpos) pos) (tDS R W fr B O O (sOwn1 "dict" i popD1 f)) :=
  ps_imp (ps_expr (pe_dpop1 (pe_var hN hv hd hcd) he m) hs) fun E σ H h => by
  obtain ⟨F0, H0, F, r, s, w, st, sl, p⟩ := h
  obtain ⟨d, eg, p⟩ := opt_post p
  obtain ⟨d0, eg0, e2⟩ := bind_some eg
  obtain ⟨u, eu, e3⟩ := map_some e2
  have e3 : d0 = d := e3
  subst e3
  clear eg e2
  have eg := eg0
  cases d0 with
  | tab kvs =>
    obtain ⟨ad, h1, h2⟩ := sl.ow i _ hO rfl (getS_some eg)
    obtain ⟨ws0, e10, e20, e30⟩ := h2.2.2.2
    refine ⟨_, h1, ad, rfl, .inl ⟨ws0, .inl e10⟩, F, r, s, w, sl.pu, (postS_x w st sl p).imp (fun v s1 F1 H1 w1 st1 q vv rv => ?_) fun _ _ _ _ _ _ z => z⟩
    obtain ⟨w2, st2, sl2, p2⟩ := q
    obtain ⟨d', ed, p4⟩ := put_post p2
    have h3 := h2.step st1
    obtain ⟨ws, e1, e2, e3⟩ := h3.2.2.2
    obtain ⟨kk, ek, ed⟩ := bind_some (show (keyD v).bind (fun k => if (valD kvs k).isSome = true then some (D.tab (dropD kvs k)) else none) = some d' from ed)
    by_cases hz : (valD kvs kk).isSome = true
    · rw [if_pos hz] at ed
      cases ed
      obtain ⟨k1, k2⟩ := keyD_ok rv ek
      rcases repsK_val kk e3 with ⟨z, _⟩ | ⟨dv, vv', z1, z2, z3⟩
      · rw [z] at hz; cases hz
      · refine ⟨ws, kk, vv', e1, k1, z2, ?_⟩
        obtain ⟨a1, a2, a3⟩ := own_write (o := .dK (dropK ws kk)) w2 st2 sl2 hO (getS_some eg) h1 h3 (d' := .tab (dropD kvs kk)) ⟨_, rfl, by have := dropD_len kvs kk; omega, e3.drop kk⟩
        exact p4 σ F1 _ a1 a2 a3
    · rw [if_neg hz] at ed; cases ed
  | _ => cases eu
/-- x.pop(e, None), x an own table -/
theorem ds_pop2 (i : Nat) (hO : i ∈ O) (hN : X.N[i]? = some x) (hv : Vis X.env.scope x) (he : PE X e (tD R W O f)) (hd : (x == ("__debug__" : Str)) = false := by decide) (hcd : (x == ("__classdict__" : Str)) = false := by decide)
    (m : M2 X (.Name x npos) "pop" apos e (.Constant .none jj q1) cpos := by exact ⟨rfl, rfl, rfl, rfl⟩) (hs : swapsWith (.Call (.Attribute (.Name x npos) "pop" apos) [e, .Constant .none jj q1] [] cpos) none pos.line X.env = pure false := by rfl) :
    PS X (.Expr (.Call (.Attribute (.Name x npos) "pop" apos) [e, .Constant .none jj q1] [] cpos) pos) (tDS R W fr B O O (sOwn1 "dict" i popD2 f)) :=
  ps_imp (ps_expr (pe_dpop2 (pe_var hN hv hd hcd) he pe_non m) hs) fun E σ H h => by
  obtain ⟨F0, H0, F, r, s, w, st, sl, p⟩ := h
  obtain ⟨d, eg, p⟩ := opt_post p
  obtain ⟨d0, eg0, e2⟩ := bind_some eg
  obtain ⟨u, eu, e3⟩ := map_some e2
  have e3 : d0 = d := e3
  subst e3
  clear eg e2
  have eg := eg0
  cases d0 with
  | tab kvs =>
    obtain ⟨ad, h1, h2⟩ := sl.ow i _ hO rfl (getS_some eg)
    obtain ⟨ws0, e10, e20, e30⟩ := h2.2.2.2
    refine ⟨_, h1, ad, rfl, .inl ⟨ws0, .inl e10⟩, F, r, s, w, sl.pu, (postS_x w st sl p).imp (fun v s1 F1 H1 w1 st1 q vv rv => ?_) fun _ _ _ _ _ _ z => z⟩
    obtain ⟨w2, st2, sl2, p2⟩ := q
    obtain ⟨d', ed, p4⟩ := put_post p2
    have h3 := h2.step st1
    obtain ⟨ws, e1, e2, e3⟩ := h3.2.2.2
    obtain ⟨kk, ek, ed⟩ := map_some (show (keyD v).map (fun k => D.tab (dropD kvs k)) = some d' from ed)
    subst ed
    obtain ⟨k1, k2⟩ := keyD_ok rv ek
    refine ⟨ws, kk, e1, k1, fun vv' _ => ?_, fun hn => ?_⟩
    · obtain ⟨a1, a2, a3⟩ := own_write (o := .dK (dropK ws kk)) w2 st2 sl2 hO (getS_some eg) h1 h3 (d' := .tab (dropD kvs kk)) ⟨_, rfl, by have := dropD_len kvs kk; omega, e3.drop kk⟩
      exact p4 σ F1 _ a1 a2 a3
    · have hnd : valD kvs kk = none := by
        rcases repsK_val kk e3 with ⟨z, _⟩ | ⟨dv, vv', z1, z2, z3⟩
        · exact z
        · rw [hn] at z2; cases z2
      rw [dropD_none hnd] at p4
      refine p4 σ F1 H1 w2 st2 ?_
      have er : r.set i (some (.tab kvs)) = r := by
        have := getS_some eg
        obtain ⟨hl, hh⟩ := List.getElem?_eq_some_iff.mp this
        rw [← hh, List.set_getElem_self]
      rw [er]; exact sl2
  | _ => cases eu
/-! ### a field of an error that is held -/
def fldD (c : Cl) (m : Str) : D → Option D
  | .exc c' fs => if c' = c then fs.lookup m else none
  | _ => none
theorem repsF_look {K : PySem.W.Frag} {nm : Nat → Option Addr} {F : Hp} {m : Str} : ∀ {fs : List (Str × D)} {ws : List (Str × V)} {d : D}, RepsF K nm F fs ws → fs.lookup m = some d → ∃ v, ws.lookup m = some v ∧ Rep K nm F d v
  | [], ws, d, r, h => by cases h
  | (k, d0) :: fs, ws, d, r, h => by
    obtain ⟨v, ws', rfl, r1, r2⟩ := r
    rw [List.lookup_cons] at h ⊢
    by_cases e : (m == k) = true
    · rw [e] at h ⊢
      cases h
      exact ⟨v, rfl, r1⟩
    · have e : (m == k) = false := by cases hb : (m == k) <;> first | rfl | exact absurd hb e
      rw [e] at h ⊢
      exact repsF_look r2 h
theorem XC.xfC {K : PySem.W.Frag} {c : Cl} (h : XC K c) : XfC K (eA K c) := ⟨h.ga, h.gt, h.sub, h.dc⟩
theorem de_fld {c : Cl} {m : Str} (cx : Cxt X R W n) (xc : XC X.K c) (hno : PySem.W.findIn X.K (.ref (eA X.K c)) m = some none) (he : PE X e (tD R W O f)) (hb : attributeBase e m X.env (eval e X.env) = eval e X.env := by rfl) : PE X (.Attribute e m pos) (tD R W O (dUn (fldD c m) f)) := by
  have T := xc.xfC
  refine ⟨fun pins s σ H Q I h => ?_⟩
  obtain ⟨F, ρ, st, w, pu, p⟩ := h
  refine attr_of hb (thn (he.run pins s σ H (fun x H1 => ∃ (a dd : Addr) (fs : List (Str × V)) (v : V), x = .ref a ∧ H1 a = some (ExH (.ref (eA X.K c)) (some dd) a) ∧ H1 dd = some (.xd fs) ∧ fs.lookup m = some v ∧ Q v H1) I ⟨F, ρ, st, w, pu, p.bnd.imp (fun d s1 F1 H1 w1 st1 p1 v rv => ?_) fun _ _ _ _ _ _ z => z⟩) fun u s1 hh => ?_)
  · obtain ⟨d', e', k⟩ := p1.lift
    cases d with
    | exc c' fs =>
      have e2 : (if c' = c then fs.lookup m else none) = some d' := e'
      by_cases hc : c' = c
      · rw [if_pos hc] at e2
        clear e'
        subst hc
        obtain ⟨a, dd, rfl, h1, h2⟩ := rv
        rcases h2 with ⟨h3, _⟩ | ⟨d, ws, rfl, h3, h4⟩
        · rw [h3] at e2; cases e2
        · obtain ⟨v', h5, h6⟩ := repsF_look h4 e2
          refine ⟨a, d, ws, v', rfl, ?_, ?_, h5, k F1 H1 w1 Stp.refl v' h6⟩
          · rw [← cx.hK]
            rcases w1.sub a _ h1 with z | ⟨_, _, z, _⟩
            · exact z
            · cases z
          · rcases w1.sub d _ h3 with z | ⟨_, _, z, _⟩
            · exact z
            · cases z
      · rw [if_neg hc] at e2; cases e2
    | _ => cases e'
  · obtain ⟨x, H1, I1, rx, a, dd, fs, v, ex, ea, ed, l, q⟩ := hh
    subst ex
    obtain rfl : u = Value.ref a := rx
    obtain ⟨⟨oe, ha, hz, vs, hd⟩, _, _⟩ := (show ObjOk X.prog X.w H1 s1.heap a (ExH (.ref (eA X.K c)) (some dd) a) from I1.hok a _ ea)
    have hx : ObjOk X.prog X.w H1 s1.heap dd (.xd fs) := I1.hok dd _ ed
    obtain ⟨mA, hns, hr⟩ := hx
    obtain ⟨od, ho, hl⟩ := lookIn_ns hns
    obtain ⟨u, hu, ru⟩ := RelO.some_of (v := v) (o := mA m) (by rw [← l]; exact hr m)
    have J : PySem.W.InstAt s1.heap a oe (eA X.K c) (some od) := ⟨ha, hz.1, by unfold PySem.W.notCls; rw [hd] <;> rfl, by rw [hz.2]; exact ho⟩
    exact HandSPX.exc_get I1.kIn J T.ga T.gg T.exC (PySem.W.findObj_own T.hdC hno rfl (by rw [hl, hu])) (handed_of ru) ⟨v, H1, I1.tok _, ru, q⟩
end
end Nw
set_option Elab.async false
set_option linter.all false
set_option maxRecDepth 100000
set_option maxHeartbeats 4000000
/-! Part TT: raise C(e) of a class whose __init__ keeps one field; the same out of an except suite, from None. -/
namespace Nw
open PySem PySem.Spec L2
/-- what the classes say: C's __init__(self, m): self.m = m -/
def oexB (K : PySem.W.Frag) (C : Addr) : Bool := match K.lookup C with
  | some ⟨.type "type", _, .cls cd, sl⟩ => (match cd.mro, sl.toList with
    | .ref C' :: bm, [_, _, _, _, some (.builtin n), _] => C' == C && n == "ValueError.__new__" && !cd.hasDel && cd.hasDict && PySem.HandSPX.refsVE bm
    | _, _ => false)
  | _ => false
theorem oex_cls {K : PySem.W.Frag} {C : Addr} (q : oexB K C = true) : ∃ nm q N bs bm sn sub ab col dd k0 k1 k2 k3 k5, K.lookup C = some (excClassObj nm q C N bs bm true sn sub ab col dd k0 k1 k2 k3 k5 "ValueError.__new__") ∧ PySem.HandSPX.refsVE bm = true := by
  unfold oexB at q
  split at q
  · rename_i dd cd sl ho
    split at q
    · rename_i C' bm k0 k1 k2 k3 n k5 hm hs
      simp only [Bool.and_eq_true, beq_iff_eq, Bool.not_eq_true'] at q
      obtain ⟨⟨⟨⟨rfl, rfl⟩, hdel⟩, hdct⟩, ht⟩ := q
      obtain ⟨nm, bs, mro, ns, qn, hd, sn, sub, ab, col, del⟩ := cd
      dsimp only at hm hdel hdct
      subst hm hdel hdct
      have hsl : sl = #[k0, k1, k2, k3, some (.builtin "ValueError.__new__"), k5] := by
        obtain ⟨l⟩ := sl
        simp only at hs
        rw [hs]
      subst hsl
      exact ⟨nm, qn, ns, bs, bm, sn, sub, ab, col, dd, k0, k1, k2, k3, k5, ho, ht⟩
    · cases q
  · cases q
structure IniC (K : PySem.W.Frag) (c : Cl) (m : Str) (st : List Stmt) (ar : Arguments) (sc : Scope) (qn : Str) : Prop where
  T : OexC K (eA K c)
  xc : XC K c
  ini : PySem.W.findIn K (.ref (eA K c)) "__init__" = some (some (.ref (He.ma K (eA K c) "__init__")))
  ty : PySem.W.typeIn K (.ref (He.ma K (eA K c) "__init__")) = some (.type "function")
  no : PySem.W.findIn K (.ref (eA K c)) m = some none
  fn : ∃ fd, FunD K "__init__" qn ar st sc [] [] (He.ma K (eA K c) "__init__") fd
def iniB (K : PySem.W.Frag) (c : Cl) (m : Str) : Bool := oexB K (eA K c) && (decide (PySem.W.findIn K (.ref (eA K c)) "__setattr__" = some (some (.builtin "object.__setattr__"))) && (PySem.W.keepIn K (.ref (eA K c)) && (decide (PySem.W.findIn K (.ref (eA K c)) "__init__" = some (some (.ref (He.ma K (eA K c) "__init__")))) && (decide (PySem.W.typeIn K (.ref (He.ma K (eA K c) "__init__")) = some (.type "function")) && decide (PySem.W.findIn K (.ref (eA K c)) m = some none)))))
theorem iniC_of {K : PySem.W.Frag} {c : Cl} {m : Str} {st : List Stmt} {ar : Arguments} {sc : Scope} {qn : Str} (h : iniB K c m = true) (xc : XC K c) (fn : ∃ fd, FunD K "__init__" qn ar st sc [] [] (He.ma K (eA K c) "__init__") fd) : IniC K c m st ar sc qn := by
  obtain ⟨h1, h⟩ := Bool.and_eq_true_iff.mp h
  obtain ⟨h2, h⟩ := Bool.and_eq_true_iff.mp h
  obtain ⟨h3, h⟩ := Bool.and_eq_true_iff.mp h
  obtain ⟨h4, h⟩ := Bool.and_eq_true_iff.mp h
  obtain ⟨h5, h6⟩ := Bool.and_eq_true_iff.mp h
  exact ⟨⟨oex_cls h1, of_decide_eq_true h2, xc.sub, xc.ty, h3⟩, xc, of_decide_eq_true h4, of_decide_eq_true h5, of_decide_eq_true h6, fn⟩
/-- what the __init__ promises -/
def spIni (C : Addr) (m : Str) : Sp := fun vs H Q _ => ∃ (a : Addr) (v : V), vs = [.ref a, v] ∧ H a = some (exo a C none) ∧ ∀ d, H d = none → d ≠ a → Q .non (upd (upd H d (exd d [(m, v)])) a (exo a C (some d)))
section
variable {P : Program} {w : World} {K : PySem.W.Frag} {mg : Str → Option Value} {base : Heap} {qual : Str} {params : Arguments} {scope : Scope} {f : Addr} {fd : FuncData} {C : Addr} {m : Str} {p1 p2 p3 p4 : Pos} {CX : CXT} {k : Nat}
theorem fn_ini (F : FunD K "__init__" qual params [.Assign [.Attribute (.Name "self" p1) m p2] (.Name m p3) p4] scope [] [] f fd) (S : FnScope ["self", m] ["self", m] scope) (T : OexC K C) (hno : PySem.W.findIn K (.ref C) m = some none) (hv1 : Vis scope "self") (hv2 : Vis scope m) (hm1 : (m == ("__debug__" : Str)) = false) (hm2 : (m == ("__classdict__" : Str)) = false)
    (hs : ∀ env : Env, swapsWith (.Name m p3) (some (.Attribute (.Name "self" p1) m p2)) p4.line env = pure false) : FnOk P w K mg base CX (k + 1) f fd ["self", m] (spIni C m) := by
  refine F.ok S (fun vs H Q E h => by obtain ⟨a, v, rfl, _⟩ := h; rfl) fun cdv A outer s H vs Q E hr hsp => ?_
  obtain ⟨a, v, rfl, ha, hq⟩ := hsp
  refine ⟨_, pss_one (ps_ost (X := cxOf CX P w K mg base ["self", m] qual scope f cdv A outer s H E) (pe_var (i := 0) rfl hv1 (by decide) (by decide)) (pe_var (i := 1) rfl hv2 hm1 hm2) (hs _)), ?_⟩
  exact ⟨v, rfl, .ref a, rfl, a, C, rfl, T, hno, .inl ⟨ha, fun dx n ne => hq dx n ne⟩⟩
theorem fn_iniH (F : FunD K "__init__" qual params [.Assign [.Attribute (.Name "self" p1) m p2] (.Name m p3) p4] scope [] [] f fd) (S : FnScope ["self", m] ["self", m] scope) (T : OexC K C) (hno : PySem.W.findIn K (.ref C) m = some none) (hv1 : Vis scope "self") (hv2 : Vis scope m) (hm1 : (m == ("__debug__" : Str)) = false) (hm2 : (m == ("__classdict__" : Str)) = false)
    (hs : ∀ env : Env, swapsWith (.Name m p3) (some (.Attribute (.Name "self" p1) m p2)) p4.line env = pure false) : L2H.FnH P w K mg base CX (k + 1) f fd ["self", m] (spIni C m) := by
  obtain ⟨oc, od, dV, kV, doc, pm, an, cdv, ct, osl, rfl, lk, hcd, _, _⟩ := F.ex
  refine L2H.fn_ofH lk hcd S (fun vs H Q E h => by obtain ⟨a, v, rfl, _⟩ := h; rfl) fun A outer s H vs Q E p hot hr hsp => ?_
  obtain ⟨a, v, rfl, ha, hq⟩ := hsp
  refine ⟨_, pss_one (ps_ost (X := L2H.cxH CX P w K mg base ["self", m] qual scope f cdv A outer s H E p) (pe_var (i := 0) rfl hv1 (by decide) (by decide)) (pe_var (i := 1) rfl hv2 hm1 hm2) (hs _)), ?_⟩
  exact ⟨v, rfl, .ref a, rfl, a, C, rfl, T, hno, .inl ⟨ha, fun dx n ne => hq dx n ne⟩⟩
end
/-- the __init__ of a class, wherever it is called -/
structure IniF (P : Program) (w : World) (K : PySem.W.Frag) (mg : Str → Option Value) (base : Heap) (c : Cl) (m : Str) : Prop where
  T : OexC K (eA K c)
  xc : XC K c
  no : PySem.W.findIn K (.ref (eA K c)) m = some none
  mgx : mg c.name = some (.ref (eA K c))
  ex : ∃ fI fd, PySem.W.findIn K (.ref (eA K c)) "__init__" = some (some (.ref fI)) ∧ PySem.W.typeIn K (.ref fI) = some (.type "function") ∧ Binds K fd ["self", m] [] ∧ (FnOk P w K mg base (L2.CX P w) 1 fI fd ["self", m] (spIni (eA K c) m)) ∧ L2H.FnH P w K mg base (L2.CX P w) 1 fI fd ["self", m] (spIni (eA K c) m)
theorem iniF_of {P : Program} {w : World} {K : PySem.W.Frag} {mg : Str → Option Value} {base : Heap} {c : Cl} {m : Str} {ar : Arguments} {sc : Scope} {qn : Str} {p1 p2 p3 p4 : Pos} (h : IniC K c m [.Assign [.Attribute (.Name "self" p1) m p2] (.Name m p3) p4] ar sc qn) (hm : mg c.name = some (.ref (eA K c)))
    (S : FnScope ["self", m] ["self", m] sc) (hv1 : Vis sc "self") (hv2 : Vis sc m) (hm1 : (m == ("__debug__" : Str)) = false) (hm2 : (m == ("__classdict__" : Str)) = false) (hs : ∀ env : Env, swapsWith (.Name m p3) (some (.Attribute (.Name "self" p1) m p2)) p4.line env = pure false)
    (hb : ∀ (kV doc pm : Value) (an : Option Addr) (cdv ct : Value) (us : List Value), us.length = (["self", m] : List Str).length → bindArgs (PySem.W.fnOf "__init__" qn ar [.Assign [.Attribute (.Name "self" p1) m p2] (.Name m p3) p4] sc .none kV doc pm an cdv ct) ⟨us, []⟩ = pure ((["self", m] : List Str).zip us)) : IniF P w K mg base c m := by
  obtain ⟨fd, F⟩ := h.fn
  exact ⟨h.T, h.xc, h.no, hm, _, fd, h.ini, h.ty, F.bindsN hb, fn_ini F S h.T h.no hv1 hv2 hm1 hm2 hs, fn_iniH F S h.T h.no hv1 hv2 hm1 hm2 hs⟩
def clsFn (s : Stmt) (j : Nat) : Stmt := match s with
  | .ClassDef _ _ _ body _ _ _ _ _ _ _ => body.getD j (.Pass ⟨0, 0, 0, 0⟩)
  | s => s
section
variable {S : Type}
def sRaiseF (c : Cl) (m : Str) (f : Sl → M S D) : Sl → Mo S := fun r => liftX (f r) r fun d s => some (.thr ⟨c, [(m, d)]⟩ r, s)
end
section
variable {X : Cx} {R : Reg} {W : WX} {fr : FrK} {O O' B : List Nat} {e : Expr} {f : Sl → M R.S D} {fb : Sl → Mo R.S} {pos p np pos' cpos pp rp : Pos} {n : Nat} {x m : Str} {c : Cl} {body : List Stmt} {jj : Nat}
theorem passes0 {X : Cx} : Passes (L2.CX X.prog X.w) X (fun _ _ _ => False) := fun _ _ _ _ _ _ _ ⟨_, _, _, _, _, _, _, _, _, _, _, _, z⟩ => z.elim
theorem heap_back {H : Hp} {a d : Addr} {v : V} {C : Addr} {o : HO} (ha : H a = none) (hda : d ≠ a) : upd (del (upd (upd (upd H a o) d (exd d [(m, v)])) a (exo a C (some d))) a) d (.xd [(m, v)]) = upd H d (.xd [(m, v)]) := by
  funext b
  by_cases hb : b = d
  · subst hb; rw [upd_same, upd_same]
  · rw [upd_ne hb, upd_ne hb]
    by_cases hba : b = a
    · subst hba; rw [del_same, ha]
    · rw [del_ne hba, upd_ne hba, upd_ne hb, upd_ne hba]
/-- what the making of the error asks, by plain data -/
theorem sat_mkO (hK : R.K = X.K) (E : Ends) (σ : L2.St) (H : Hp) (h : tDS R W fr B O O' (sRaiseF c m f) E σ H) : tMkO (eA X.K c) (spIni (eA X.K c) m) [] (tDA R W O (dCons f dNil)) σ H fun cls d H' => W cls d σ H' := by
  obtain ⟨F0, H0, F, r, s, w, st, sl, p⟩ := h
  refine ⟨F, r, s, w, sl.pu, ?_⟩
  have p2 := postS_x w st sl p
  cases ef : f r s with
  | bot => rw [ef] at p2; exact p2.elim
  | exc xx s1 =>
    rw [ef] at p2
    have e2 : dCons f dNil r s = .exc xx s1 := by
      show bnd (f r) _ s = _
      rw [bnd_exc ef]
    rw [e2]
    exact p2
  | ok d s1 =>
    rw [ef] at p2
    have e2 : dCons f dNil r s = .ok [d] s1 := by
      show bnd (f r) _ s = _
      rw [bnd_ok ef]; rfl
    rw [e2]
    intro F1 H1 w1 st1 vs rvs
    obtain ⟨w2, st2, sl2, p4⟩ := p2 F1 H1 w1 st1
    obtain ⟨v, us, rfl, rv, e3⟩ := rvs
    rw [show us = [] from e3]
    refine ⟨by show 1 ≤ 1000; decide, fun a ha => ⟨a, v, rfl, upd_same, fun dx hdx hne => ⟨rfl, dx, [(m, v)], upd_same, by rw [upd_ne hne, upd_same], ?_, ?_⟩⟩⟩
    · rw [upd_ne hne] at hdx; exact hdx
    · rw [heap_back ha hne]
      have hd0 : H1 dx = none := by rw [upd_ne hne] at hdx; exact hdx
      obtain ⟨G, wG, stG, slG, sm, _⟩ := sl2.all w2 st2
      have st3 : Stp R G H1 (upd G dx (.xd [(m, v)])) (upd H1 dx (.xd [(m, v)])) := Stp.new _ hd0 (wG.free hd0)
      refine p4 σ _ _ _ _ (wG.new _ hd0) (stG.trans st3) (slG.step st3) ⟨by rw [hK], .inr ⟨dx, [(m, v)], rfl, upd_same, v, [], rfl, (rv.mono sm).mono st3.fs, rfl⟩⟩
/-- raise C(e) -/
theorem ds_raiseF (cx : Cxt X R W n) (tk : TkM false X W) (hx : c.name = x) (ic : IniF X.prog X.w X.K X.mg X.base c m) (hn : 2 ≤ n) (he : PE X e (tD R W O f)) (hg : Gl X x) (hdb : (x == ("__debug__" : Str)) = false := by decide)
    (hst : starEach [e] X.env = (false, eval e X.env) :: starEach [] X.env := by rfl) (hpl : (backTo pos (starEach [] X.env)).any (·.1) = false := by rfl) :
    PS X (.Raise (some (.Call (.Name x p) [e] [] pos)) none pos') (tDS R W fr B O O' (sRaiseF c m f)) := by
  obtain ⟨fI, fd, h1, h2, hb, F1, _⟩ := ic.ex
  subst hx
  exact ps_imp (ps_raise cx.calm tk (pmk_oex (dvs := []) (ds := []) ic.T h1 h2 F1 (cx.hr.mono (by omega)) hb .nil passes0 hg ic.mgx (da_cons he da_nil hst) hdb hst hpl)) fun E σ H h => sat_mkO cx.hK E σ H h
/-- try: .. except c': raise C(e) from None -/
theorem ds_tryX {cs : List Cl} {c' : Cl} (cx : Cxt X R W n) (tk : TkM false X W) (xf : XF X.K cs) (hc' : c' ∈ cs) (hx : c'.name = x) (hs : X.stack = X.env :: X.outer) (hf : X.env.frame = some X.env.locals)
    (hpa : ∀ hd : Option Value, PassesOwnAt (model X.prog X.w) (X.A.mark hd) X.A X.env X.xe)
    (hg : Gl X x) (hm : X.mg x = some (.ref (eA X.K c'))) {y : Str} (hy : c.name = y) (ic : IniF X.prog X.w X.K X.mg X.base c m) (hn : 2 ≤ n) (hgy : Gl X y)
    (hb : ∀ (W' : WX) (pn : List (Addr × Obj)) (xe : Value → Shared → Prop), Cxt (X.tr pn xe) R W' n → TkM true (X.tr pn xe) W' → PassesOwn (model X.prog X.w) X.A X.env xe → PSs (X.tr pn xe) body (tDS R W' fr B [] [] fb))
    (he : ∀ (a : Addr) (oe : Obj) (pn : List (Addr × Obj)), PE (L2H.suiteX X a ((a, oe) :: pn)) e (tD R W [] f)) (hdb : (x == ("__debug__" : Str)) = false := by decide) (hdy : (y == ("__debug__" : Str)) = false := by decide)
    (hst : starEach [e] X.env = (false, eval e X.env) :: starEach [] X.env := by rfl) (hpl : (backTo pp (starEach [] X.env)).any (·.1) = false := by rfl) :
    PS X (.Try body [.ExceptHandler (some (.Name x np)) none [.Raise (some (.Call (.Name y p) [e] [] pp)) (some (.Constant .none jj cpos)) rp] pos'] [] [] pos) (tDS R W fr B [] [] (sTryO cs c' fb (sRaiseF c m f))) := by
  obtain ⟨fI, fd, h1, h2, hbi, _, FH⟩ := ic.ex
  subst hy
  have suite : ∀ (a : Addr) (oe : Obj) (cls : Value) (d : Option Addr) (pn : List (Addr × Obj)), L2N.Zn cls d oe → (∃ vs, oe.data = .fields vs) → L2.Takes (L2H.suiteX X a ((a, oe) :: pn)) W → L2H.HotC (L2H.suiteX X a ((a, oe) :: pn)) →
      PSs (L2H.suiteX X a ((a, oe) :: pn)) [.Raise (some (.Call (.Name c.name p) [e] [] pp)) (some (.Constant .none jj cpos)) rp] (tDS R W fr B [] [] (sRaiseF c m f)) := fun a oe cls d pn _ _ tk2 hot =>
    pss_one (ps_imp (L2H.ps_raiseHN hot tk2 (L2H.pmk5_oexH (X := L2H.suiteX X a ((a, oe) :: pn)) ic.T h1 h2 FH (L2H.roomH_mark (cx.hr.mono (by omega)) _) hot hbi passes0 hgy ic.mgx (da_cons (he a oe pn) da_nil hst) hdy hst hpl)) fun E σ H h => sat_mkO (X := L2H.suiteX X a ((a, oe) :: pn)) cx.hK E σ H h)
  refine ps_imp (L2H.ps_try_onlyX hs hf ⟨hg, hdb, .inl hm⟩ hpa tk (tb := fun W' => tDS R W' fr B [] [] fb) (ts := fun _ _ _ => tDS R W fr B [] [] (sRaiseF c m f)) (fun W' pn xe tk1 _ po => hb W' pn xe (cx.tr W') tk1 po) suite) fun E σ H h => ?_
  obtain ⟨F0, H0, F, r, s, w, st, sl, p⟩ := h
  refine ⟨F0, H0, F, r, s, w, st, sl, ?_⟩
  unfold sTryO at p
  cases ef : fb r s with
  | none => rw [ef] at p; exact p
  | some q =>
    obtain ⟨fl, s'⟩ := q
    rw [ef] at p
    cases fl with
    | next r' => exact p
    | rt d => exact p
    | brk r' => exact p
    | cnt r' => exact p
    | thr xx r' =>
      have p : PostS R fr F0 H0 (if xx.c ∈ cs then (if subC xx.c c' = true then sRaiseF c m f r' s' else some (.thr xx r', s')) else none) E W B [] := p
      by_cases hcs : xx.c ∈ cs
      · rw [if_pos hcs] at p
        intro σ' F' H' cls dd w' st' sl' rx
        have hcls : cls = .ref (eA X.K xx.c) := by rw [rx.1, cx.hK]
        refine ⟨subC xx.c c', by rw [hcls]; exact xf.exm _ hcs _ hc', fun hb2 ad had => ?_, fun hb2 => ?_⟩
        · rw [if_pos hb2] at p
          exact ⟨F0, H0, F', r', s', w', st', sl', p⟩
        · rw [if_neg (by rw [hb2]; exact Bool.false_ne_true)] at p
          exact p σ' F' H' cls dd w' st' sl' rx
      · rw [if_neg hcs] at p; exact p.elim
end
end Nw
set_option Elab.async false
set_option linter.all false
set_option maxRecDepth 100000
set_option maxHeartbeats 4000000
/-! Part UU: own things read by an expression whose result is no object. -/
namespace Nw
open PySem PySem.Spec L2
def scal0 : D → Option D
  | .non => some .non
  | .bl b => some (.bl b)
  | .int i => some (.int i)
  | .str x => some (.str x)
  | _ => none
theorem scal0_some {d d' : D} (h : scal0 d = some d') : d' = d ∧ ∀ {K : PySem.W.Frag} {nm : Nat → Option Addr} {F G : Hp} {v : V}, Rep K nm F d v → Rep K nm G d v := by
  cases d <;> cases h <;> exact ⟨rfl, fun r => r⟩
def tDB (R : Reg) (W : WX) (O : List Nat) (f : Sl → M R.S D) : TE := fun σ H Q => ∃ F H0 r s, Wd R F H s ∧ Slots R H0 O F H σ r ∧ Post R F H (bnd (nox (f r)) (fun d => lift (scal0 d)) s) (fun d _ F' H' => ∀ v, Rep R.K R.nm F' d v → Q v H') (fun x _ F' H' => ∀ cls dd, RepX R.K R.nm F' x cls dd → W cls dd σ H')
section
variable {X : Cx} {R : Reg} {W : WX} {fr : FrK} {O O' B : List Nat} {e : Expr} {f : Sl → M R.S D} {pos : Pos} {x : Str}
theorem de_borrow (h : PE X e (tD R W [] f)) : PE X e (tDB R W O f) := ⟨fun pins s σ H Q I hq => by
  obtain ⟨F, H0, r, st, w, sl, p⟩ := hq
  have hrun := h.run pins s σ H (fun v H1 => Q v (unl (ownAs O σ r) H H1) ∧ ∀ a ∈ ownAs O σ r, Lkd H H1 a) I ⟨lend O σ r F H, r, st, lend_wd sl w, lend_pu sl, by
    cases ec : f r st with
    | ok d s1 =>
      have e2 : nox (f r) st = .ok d s1 := by unfold nox; rw [ec]
      rw [bnd_ok e2] at p
      obtain ⟨d', hd, pk⟩ := Post.lift p
      obtain ⟨e5, hrep⟩ := scal0_some hd
      subst e5
      intro F1 H1 w1 st1 v rv
      obtain ⟨F2, q1, q2, q3⟩ := lend_back sl w1 st1
      exact ⟨pk F2 _ q1 q2 v (hrep rv), q3⟩
    | exc x s1 =>
      have e2 : nox (f r) st = .bot := by unfold nox; rw [ec]
      rw [bnd_bot e2] at p; exact p.elim
    | bot =>
      have e2 : nox (f r) st = .bot := by unfold nox; rw [ec]
      rw [bnd_bot e2] at p; exact p.elim⟩
  refine thn hrun fun b s' hb => ?_
  obtain ⟨v, H1, I1, rv, q1, q2⟩ := hb
  refine ⟨v, _, inv_unl _ I1 q2 fun a ha o' u' z => ?_, rv, q1⟩
  obtain ⟨_, _, _, _, _, ho⟩ := ownAs_in sl ha
  obtain ⟨o, e1, e2⟩ := ho.obj
  have e3 := I.base.frzs a o' u' z
  rw [e1] at e3
  exact e2 _ _ (Option.some.inj e3)⟩
def dBor {S : Type} (f : Sl → M S D) : Sl → M S D := fun r => bnd (nox (f r)) fun d => lift (scal0 d)
/-- name = e, e reads own things, its value is no object -/
theorem ds_setB {i : Nat} {pos' : Pos} (hN : X.N.Nodup) (hi : X.N[i]? = some x) (hx : Loc X.env.scope x) (he : PE X e (tD R W [] f)) (h1 : ∀ j ∈ O', j ∈ O ∧ j ∉ [i]) (h2 : ∀ j ∈ O, j ∉ [i] → j ∈ O') (hs : swapsWith e (some (.Name x pos')) pos.line X.env = pure false := by rfl) (hf : X.fn x = true ∨ X.env.scope.names.lookup x = some .local := by first | exact .inl rfl | exact .inr rfl | assumption) :
    PS X (.Assign [.Name x pos'] e pos) (tDS R W fr B O O' (sAsg (tgN i) (dBor f))) := ps_imp (ps_set hN hi hx (de_borrow (O := O) he) hs hf) fun E σ H h => by
  obtain ⟨F0, H0, F, r, s, w, st, sl, p⟩ := h
  have ep : sAsg (tgN i) (dBor f) r s = liftX (dBor f r) r (fun d s => some (.next (r.set i (some d)), s)) s := rfl
  rw [ep] at p
  refine ⟨F, H0, r, s, w, sl, (postS_x w st sl p).imp (fun d s1 F1 H1 w1 st1 q v rv => ?_) fun _ _ _ _ _ _ z => z⟩
  obtain ⟨w2, st2, sl2, p2⟩ := q
  exact p2 _ F1 H1 w2 st2 (sl2.setAt (setAt_one sl2.pu.len rv) h1 h2)
end
end Nw
set_option Elab.async false
set_option linter.all false
set_option maxRecDepth 100000
set_option maxHeartbeats 4000000
/-! Part VV: expressions that read own things. -/
namespace Nw
open PySem PySem.Spec L2
def tDv (R : Reg) (W : WX) (O : List Nat) (f : Sl → M R.S D) : TE := fun σ H Q => ∃ F H0 r s, Wd R F H s ∧ Slots R H0 O F H σ r ∧ Post R F H (f r s) (fun d _ F' H' => ∀ v, Rep R.K R.nm F' d v → Q v H') (fun x _ F' H' => ∀ cls dd, RepX R.K R.nm F' x cls dd → W cls dd σ H')
def tDAv (R : Reg) (W : WX) (O : List Nat) (f : Sl → M R.S (List D)) : TA := fun σ H Q => ∃ F H0 r s, Wd R F H s ∧ Slots R H0 O F H σ r ∧ Post R F H (f r s) (fun ds _ F' H' => ∀ vs, Reps R.K R.nm F' ds vs → Q vs H') (fun x _ F' H' => ∀ cls dd, RepX R.K R.nm F' x cls dd → W cls dd σ H')
def dIxO {S : Type} (i : Nat) (g : Sl → M S D) : Sl → M S D := fun r => bnd (dVar i r) fun d => bnd (lift (ownIs "list" d)) fun _ => bnd (g r) fun k => lift (ixD d k)
section
variable {X : Cx} {R : Reg} {W : WX} {fr : FrK} {O O' B : List Nat} {a b e : Expr} {es : List Expr} {f g fk fv fe : Sl → M R.S D} {fs : Sl → M R.S (List D)} {pos npos apos cpos : Pos} {n i : Nat} {x : Str}
theorem de_wkV (h : PE X e (tD R W O f)) : PE X e (tDv R W O f) := pe_imp h fun σ H Q ⟨F, H0, r, s, w, sl, p⟩ => ⟨F, r, s, w, sl.pu, p⟩
theorem de_borV (h : PE X e (tD R W [] f)) : PE X e (tDv R W O (dBor f)) := de_borrow h
theorem de_wV (hO : i ∈ O) (h : PE X e (tDw R W O i f)) : PE X e (tDv R W O f) := pe_imp h fun σ H Q ⟨F, H0, r, s, w, sl, p⟩ => ⟨F, r, s, w, sl.pu, (fun d hrt hd => by obtain ⟨ad, h1, h2⟩ := sl.ow i d hO hrt hd; exact ⟨ad, _, h1, h2⟩), p⟩
theorem da_nilV : PA X [] (tDAv R W O dNil) := pa_imp pa_nil fun σ H Q h => by
  obtain ⟨F, H0, ρ, s, w, sl, p⟩ := h
  exact p F H w Stp.refl [] rfl
theorem da_consV (ha : PE X e (tDv R W O f)) (hr : PA X es (tDAv R W O fs)) (hs : starEach (e :: es) X.env = (false, eval e X.env) :: starEach es X.env := by rfl) : PA X (e :: es) (tDAv R W O (dCons f fs)) := pa_imp (pa_cons ha hr hs) fun σ H Q h => by
  obtain ⟨F, H0, ρ, s, w, sl, p⟩ := h
  refine ⟨F, H0, ρ, s, w, sl, p.bnd.imp (fun d s1 F1 H1 w1 st1 p1 v rv => ?_) fun _ _ _ _ _ _ z => z⟩
  refine ⟨F1, H0, ρ, s1, w1, sl.step st1, p1.bnd.imp (fun ds s2 F2 H2 w2 st2 p2 vs rvs => ?_) fun _ _ _ _ _ _ z => z⟩
  exact p2 F2 H2 w2 Stp.refl (v :: vs) ⟨v, vs, rfl, rv.mono st2.fs, rvs⟩
/-- an own list, by a place -/
theorem de_ixV (i : Nat) (hO : i ∈ O) (hN : X.N[i]? = some x) (hv : Vis X.env.scope x) (hb : PE X b (tDv R W O g)) (hs : PlainIx b := by exact fun _ _ => rfl) (hd : (x == ("__debug__" : Str)) = false := by decide) (hcd : (x == ("__classdict__" : Str)) = false := by decide) :
    PE X (.Subscript (.Name x npos) b pos) (tDv R W O (dIxO i g)) :=
  pe_imp (pe_ix ix_seq (pe_var hN hv hd hcd) hb hs) fun σ H Q h => by
    obtain ⟨F, H0, r, s, w, sl, p⟩ := h
    obtain ⟨d, e, p1⟩ := Post.lift0 (m := getS r i) p
    obtain ⟨u, eu, p2⟩ := p1.lift0
    cases d with
    | row xs =>
      obtain ⟨ad, h1, h2⟩ := sl.ow i _ hO rfl (getS_some e)
      refine ⟨_, h1, F, H0, r, s, w, sl, p2.bnd.imp (fun k s1 F1 H1 w1 st1 p3 v rv => ?_) fun _ _ _ _ _ _ z => z⟩
      obtain ⟨d', e', kk⟩ := p3.lift
      obtain ⟨vs, q1, q2, q3⟩ := (h2.step st1).2.2.2
      cases k with
      | int j =>
        have e' : atI xs j = some d' := e'
        obtain ⟨v', h3, h4⟩ := atI_rep q3 e'
        exact .inl ⟨ad, vs, _, v', rfl, rv, SqL.of q1, h3, kk F1 H1 w1 Stp.refl v' h4⟩
      | _ => exact absurd e' (by simp [ixD])
    | _ => cases eu
theorem sat_opV {r : R2} {op : D → D → Option D} (hs : OpSat R r op) (σ : L2.St) (H : Hp) (Q : VK) (h : tDv R W O (dOp op f g) σ H Q) : tOp r (tDv R W O f) (tDv R W O g) σ H Q := by
  obtain ⟨F, H0, ρ, s, w, sl, p⟩ := h
  refine ⟨F, H0, ρ, s, w, sl, p.bnd.imp (fun d s1 F1 H1 w1 st1 p1 v rv => ?_) fun _ _ _ _ _ _ z => z⟩
  refine ⟨F1, H0, ρ, s1, w1, sl.step st1, p1.bnd.imp (fun e s2 F2 H2 w2 st2 p2 u ru => ?_) fun _ _ _ _ _ _ z => z⟩
  obtain ⟨d', e', k⟩ := p2.lift
  exact hs v u d e d' F2 H2 s2 Q w2 (rv.mono st2.fs) ru e' fun v' F' H' w' st' r' => k F' H' w' st' v' r'
theorem sat_callPV {n : Nat} {g : List D → M Unit D} (σ : L2.St) (H : Hp) (Q : VK) (h : tDv R W O (dCall n (fun ds => up (g ds)) fs) σ H Q) : tCallS (spP R.K n g) (WE W) (tDAv R W O fs) σ H Q := by
  obtain ⟨F, H0, ρ, s, w, sl, p⟩ := h
  refine ⟨F, H0, ρ, s, w, sl, p.bnd.imp (fun ds s1 F1 H1 w1 st1 p1 vs rvs => ?_) fun _ _ _ _ _ _ z => z⟩
  split at p1
  · rename_i hn
    exact ⟨R.nm, by rw [rvs.length]; exact hn, F1, (), ds, wd_0 w1, rvs, post_up (k := fun d F' H' => ∀ v, Rep R.K R.nm F' d v → Q v H') (x := fun x F' H' => ∀ cls dd, RepX R.K R.nm F' x cls dd → W cls dd σ H') w1 p1⟩
  · exact False.elim p1
theorem de_callPV {md : Bool} {k n : Nat} {g : List D → M Unit D} {p : Pos} (c : Cxt X R W k) (tk : TkM md X W) (h : Has md X.prog X.w X.K X.mg X.base k x (spP X.K n g)) (hg : Gl X x) (ha : PA X (e :: es) (tDAv R W O fs)) (hdb : (x == ("__debug__" : Str)) = false := by decide)
    (he : starEach (e :: es) X.env = (false, eval e X.env) :: starEach es X.env := by rfl) (hpl : (backTo pos (starEach es X.env)).any (·.1) = false := by rfl) : PE X (.Call (.Name x p) (e :: es) [] pos) (tDv R W O (dCall n (fun ds => up (g ds)) fs)) := by
  obtain ⟨f, fd, ps, F, hm, hk, hb⟩ := h
  rw [← c.hK] at F
  exact pe_imp (pe_callS (sp := spP R.K n g) (by rw [← c.hK]; exact F) c.hr hg hm hk hb (fun σ => passM tk σ) ha hdb he hpl) sat_callPV
/-- x.append(e) -/
theorem ds_appV (i : Nat) (hO : i ∈ O) (hN : X.N[i]? = some x) (hv : Vis X.env.scope x) (he : PE X e (tDv R W O f)) (hd : (x == ("__debug__" : Str)) = false := by decide) (hcd : (x == ("__classdict__" : Str)) = false := by decide)
    (hbase : attributeBase (.Name x npos) "append" X.env (eval (.Name x npos) X.env) = eval (.Name x npos) X.env := by rfl)
    (hfew : ((backTo cpos (starEach [e] X.env)).all (fun x => !x.1) && (backToKw cpos (keywordEach [] X.env)).all (fun x => x.1.isSome)
      && decide (([e] : List Expr).length + ([] : List Keyword).length + (if ([] : List Keyword).isEmpty then 0 else 1) < 30)) = true := by rfl)
    (hline : (apos.endLine == cpos.line) = true := by rfl) (hst : starEach [e] X.env = (false, eval e X.env) :: starEach [] X.env := by rfl) (hplain : (backTo cpos (starEach [] X.env)).any (·.1) = false := by rfl) (hs : swapsWith (.Call (.Attribute (.Name x npos) "append" apos) [e] [] cpos) none pos.line X.env = pure false := by rfl) :
    PS X (.Expr (.Call (.Attribute (.Name x npos) "append" apos) [e] [] cpos) pos) (tDS R W fr B O O (sOwn1 "list" i appD f)) :=
  ps_imp (ps_expr (pe_bm F.plainAttrs_list F.slot_list_append F.type_list_append mt_append (pe_var hN hv hd hcd) (pa_cons he pa_nil hst) hbase hfew hline hst hplain) hs) fun E σ H h => by
  obtain ⟨F0, H0, F, r, s, w, st, sl, p⟩ := h
  obtain ⟨d, eg, p⟩ := opt_post p
  obtain ⟨d0, eg0, e2⟩ := bind_some eg
  obtain ⟨u, eu, e3⟩ := map_some e2
  have e3 : d0 = d := e3
  subst e3
  clear eg e2
  have eg := eg0
  cases d0 with
  | row xs =>
    obtain ⟨ad, h1, h2⟩ := sl.ow i _ hO rfl (getS_some eg)
    obtain ⟨ws0, e10, e20, e30⟩ := h2.2.2.2
    refine ⟨_, h1, .inl ⟨rfl, ws0, SqL.of e10⟩, F, H0, r, s, w, sl, (postS_x w st sl p).imp (fun v s1 F1 H1 w1 st1 q vv rv => ?_) fun _ _ _ _ _ _ z => z⟩
    obtain ⟨w2, st2, sl2, p2⟩ := q
    obtain ⟨d', ed, p4⟩ := put_post p2
    have h3 := h2.step st1
    obtain ⟨ws, e1, e2, e3⟩ := h3.2.2.2
    have ed : (if xs.length < sizeLine then some (D.row (xs ++ [v])) else none) = some d' := ed
    by_cases hz : xs.length < sizeLine
    · rw [if_pos hz] at ed
      cases ed
      refine ⟨ad, ws, vv, rfl, rfl, e1, by rw [e3.length]; exact hz, ?_⟩
      obtain ⟨a1, a2, a3⟩ := own_write (o := .lst (ws ++ [vv])) w2 st2 sl2 hO (getS_some eg) h1 h3 (d' := .row (xs ++ [v])) ⟨_, rfl, by rw [List.length_append, List.length_singleton]; omega, e3.append ⟨vv, [], rfl, rv, rfl⟩⟩
      exact p4 σ F1 _ a1 a2 a3
    · rw [if_neg hz] at ed; cases ed
  | _ => cases eu
/-- name = e -/
theorem ds_setV {pos' : Pos} (hN : X.N.Nodup) (hi : X.N[i]? = some x) (hx : Loc X.env.scope x) (he : PE X e (tDv R W O fe)) (h1 : ∀ j ∈ O', j ∈ O ∧ j ∉ [i]) (h2 : ∀ j ∈ O, j ∉ [i] → j ∈ O') (hs : swapsWith e (some (.Name x pos')) pos.line X.env = pure false := by rfl) (hf : X.fn x = true ∨ X.env.scope.names.lookup x = some .local := by first | exact .inl rfl | exact .inr rfl | assumption) :
    PS X (.Assign [.Name x pos'] e pos) (tDS R W fr B O O' (sAsg (tgN i) fe)) := ps_imp (ps_set hN hi hx he hs hf) fun E σ H h => by
  obtain ⟨F0, H0, F, r, s, w, st, sl, p⟩ := h
  refine ⟨F, H0, r, s, w, sl, (postS_x w st sl p).imp (fun d s1 F1 H1 w1 st1 q v rv => ?_) fun _ _ _ _ _ _ z => z⟩
  obtain ⟨w2, st2, sl2, p2⟩ := q
  exact tg_name v d σ r _ F1 H1 _ w2.sub rv sl2.pu.len rfl fun σ' sa => p2 σ' F1 H1 w2 st2 (sl2.setAt sa h1 h2)
/-- x[k] = e, x an own table -/
theorem ds_setTV (i : Nat) {pos' : Pos} (cx : Cxt X R W n) (hO : i ∈ O) (hN : X.N[i]? = some x) (hv : Vis X.env.scope x) (hk : PE X b (tD R W O fk)) (he : PE X e (tDv R W O fv)) (hs : swapsWith e (some (.Subscript (.Name x npos) b pos')) pos.line X.env = pure false := by rfl) (hd : (x == ("__debug__" : Str)) = false := by decide) (hcd : (x == ("__classdict__" : Str)) = false := by decide) :
    PS X (.Assign [.Subscript (.Name x npos) b pos'] e pos) (tDS R W fr B O O (sOwn2 i setTD fk fv)) := ps_imp (ps_dput (by have := cx.hr.units; omega) (pe_var hN hv hd hcd) hk he hs) fun E σ H h => by
  obtain ⟨F0, H0, F, r, s, w, st, sl, p⟩ := h
  refine ⟨F, H0, r, s, w, sl, (postS_x w st sl p).imp (fun v s1 F1 H1 w1 st1 q vv rv => ?_) fun _ _ _ _ _ _ z => z⟩
  obtain ⟨w2, st2, sl2, p2⟩ := q
  obtain ⟨d, eg, p2⟩ := opt_post p2
  obtain ⟨cv, h1, hfre⟩ := sl2.fre hO (getS_some eg)
  refine ⟨_, h1, F1, r, s1, w2, sl2.pu, (postS_x w2 st2 sl2 p2).imp (fun k s3 F3 H3 w3 st3 q kv rk => ?_) fun _ _ _ _ _ _ z => z⟩
  obtain ⟨w4, st4, sl4, p4⟩ := q
  obtain ⟨d', ed, p4⟩ := put_post p4
  cases d with
  | tab kvs =>
    obtain ⟨ad, rfl, h2⟩ := hfre
    have h3 := h2.step st3
    obtain ⟨kk, ek, ed⟩ := bind_some (show (keyD k).bind (fun k => if kvs.length < sizeLine then some (D.tab (putD kvs k v)) else none) = some d' from ed)
    by_cases hz : kvs.length < sizeLine
    · rw [if_pos hz] at ed
      cases ed
      obtain ⟨ws, e1, e2, e3⟩ := h3.2.2.2
      obtain ⟨k1, k2⟩ := keyD_ok rk ek
      refine ⟨ad, upd H3 ad (.dK (putK ws kk vv)), rfl, ?_, ?_⟩
      · rw [k1]; exact DPut.k e1 (by rw [e3.length]; exact hz)
      · obtain ⟨a1, a2, a3⟩ := own_write (o := .dK (putK ws kk vv)) w4 st4 sl4 hO (getS_some eg) h1 h3 (d' := .tab (putD kvs kk v)) ⟨_, rfl, by have := putD_length kvs kk v; omega, e3.put k2 (rv.mono st3.fs)⟩
        exact p4 σ F3 _ a1 a2 a3
    · rw [if_neg hz] at ed; cases ed
  | _ => exact absurd ed (by simp [setTD])
end
section
variable {X : Cx} {K : PySem.W.Frag} {T : Addr} {W : WX} {O : List Nat} {e : Expr} {es : List Expr} {fs : Sl → M Nat (List D)} {pos : Pos}
theorem sat_callTV {n : Nat} {g : List D → M Nat D} (σ : L2.St) (H : Hp) (Q : VK) (h : tDv (RT K T) W O (dCall n g fs) σ H Q) : tCallS (spT K n g) (WE W) (tDAv (RT K T) W O fs) σ H Q := by
  obtain ⟨F, H0, ρ, s, w, sl, p⟩ := h
  refine ⟨F, H0, ρ, s, w, sl, p.bnd.imp (fun ds s1 F1 H1 w1 st1 p1 vs rvs => ?_) fun _ _ _ _ _ _ z => z⟩
  by_cases hn : ds.length = n
  · rw [if_pos hn] at p1
    exact ⟨T, by rw [rvs.length]; exact hn, F1, s1, ds, w1, rvs, p1⟩
  · rw [if_neg hn] at p1
    exact False.elim p1
theorem de_callTV {md : Bool} {k n : Nat} {g : List D → M Nat D} {x : Str} {p : Pos} (c : Cxt X (RT K T) W k) (tk : TkM md X W) (h : Has md X.prog X.w X.K X.mg X.base k x (spT X.K n g)) (hg : Gl X x) (ha : PA X (e :: es) (tDAv (RT K T) W O fs)) (hdb : (x == ("__debug__" : Str)) = false := by decide)
    (he : starEach (e :: es) X.env = (false, eval e X.env) :: starEach es X.env := by rfl) (hpl : (backTo pos (starEach es X.env)).any (·.1) = false := by rfl) : PE X (.Call (.Name x p) (e :: es) [] pos) (tDv (RT K T) W O (dCall n g fs)) := by
  obtain ⟨f, fd, ps, F, hm, hk, hb⟩ := h
  have hK : K = X.K := c.hK
  subst hK
  exact pe_imp (pe_callS F c.hr hg hm hk hb (fun σ => passM tk σ) ha hdb he hpl) sat_callTV
end
end Nw
set_option Elab.async false
set_option linter.all false
set_option maxRecDepth 100000
set_option maxHeartbeats 4000000
/-! Part WW: a comprehension within a comprehension. -/
namespace Nw
open PySem PySem.Spec L2
theorem lookup_kinds {g : Str → NameKind → NameKind} : ∀ {ns : List (Str × NameKind)} {x : Str} {k : NameKind}, ns.lookup x = some k → (ns.map fun y => (y.1, g y.1 y.2)).lookup x = some (g x k)
  | [], x, k, h => by cases h
  | (n, k0) :: r, x, k, h => by
    cases e : x == n with
    | true =>
      have hx : x = n := by simpa using e
      simp only [List.lookup_cons, e] at h
      cases h
      simp only [List.map_cons, List.lookup_cons, e]
      rw [hx]
    | false =>
      simp only [List.lookup_cons, e] at h
      simp only [List.map_cons, List.lookup_cons, e]
      exact lookup_kinds h
theorem blkOk_in {N : List Str} {sc scope : Scope} {own : List (Str × Nat)} {env : Env} (h : blkC N sc scope own = true) : BlkOk N (relabel sc env) scope own := by
  have ok := blkOk_by h
  refine ⟨ok.kind, ok.uniq, ok.ix, fun y hy e => ?_, ok.own⟩
  have key : ∀ k, sc.names.lookup y.1 = some k → (relabel sc env).names.lookup y.1 = some (if (k == .free && env.scope.kind == .function && env.kindOf y.1 == some .cell) = true then .cell else k) := fun k hk => by
    have := lookup_kinds (g := fun n k => if (k == .free && env.scope.kind == .function && env.kindOf n == some .cell) = true then .cell else k) hk
    rw [← this]
    unfold relabel
    congr 1
    refine List.map_congr_left fun z _ => ?_
    obtain ⟨n, k0⟩ := z
    show (if _ then (n, NameKind.cell) else (n, k0)) = _
    split <;> rfl
  rcases ok.free y hy e with k | k
  · have := key _ k
    exact .inl (by rw [this]; rfl)
  · have := key _ k
    rw [this]
    split
    · exact .inl rfl
    · exact .inr rfl
end Nw
set_option Elab.async false
set_option linter.all false
set_option maxRecDepth 100000
set_option maxHeartbeats 4000000
/-! Part XX: results whose rows and tables straight within are new; a zone, behind which what came within it may have changed. -/
namespace Nw
open PySem PySem.Spec L2
def elD (d : D) : Option D := match d with
  | .row ds => if ds.any isRT = true then none else some (.row ds)
  | .tup ds => if ds.any isRT = true then none else some (.tup ds)
  | .tab _ => none
  | d => some d
theorem elD_some {d d' : D} (h : elD d = some d') : d' = d ∧ ∀ {H0 F : Hp} {v : V}, NewEl H0 F d v := by
  have key : ∀ ds : List D, ds.any isRT ≠ true → ∀ (i : Nat) (x : D), ds[i]? = some x → isRT x = true → False := fun ds hn i x e hr => hn (List.any_eq_true.mpr ⟨x, List.mem_of_getElem? e, hr⟩)
  cases d with
  | row ds =>
    by_cases c : ds.any isRT = true
    · have h : (if ds.any isRT = true then none else some _) = some d' := h; rw [if_pos c] at h; cases h
    · have h : (if ds.any isRT = true then none else some _) = some d' := h; rw [if_neg c] at h; cases h
      exact ⟨rfl, fun a vs _ _ i x e hr => (key ds c i x e hr).elim⟩
  | tup ds =>
    by_cases c : ds.any isRT = true
    · have h : (if ds.any isRT = true then none else some _) = some d' := h; rw [if_pos c] at h; cases h
    · have h : (if ds.any isRT = true then none else some _) = some d' := h; rw [if_neg c] at h; cases h
      exact ⟨rfl, fun a vs _ _ i x e hr => (key ds c i x e hr).elim⟩
  | tab _ => cases h
  | _ => cases h; exact ⟨rfl, trivial⟩
section
variable {S : Type}
/-- return (e, x), x own; return [x], x own -/
def sRetT2 (i : Nat) (f : Sl → M S D) : Sl → Mo S := fun r => liftX (f r) r fun d s => if isRT d = true then none else match getS r i with
  | some y => some (.rt (.tup [d, y]), s)
  | none => none
def sRetL1 (i : Nat) : Sl → Mo S := fun r s => match getS r i with
  | some y => some (.rt (.row [y]), s)
  | none => none
end
section
variable {X : Cx} {R : Reg} {W : WX} {O O' B : List Nat} {a b e : Expr} {es : List Expr} {f g : Sl → M R.S D} {c : Sl → M R.S Bool} {fs : Sl → M R.S (List D)} {pos npos tpos : Pos} {n i : Nat} {x : Str}
theorem ds_retE (he : PE X e (tD R W O f)) : PS X (.Return (some e) pos) (tDS R W .e B O O' (sRet (dUn elD f))) := ps_imp (ps_ret he) fun E σ H h => by
  obtain ⟨F0, H0, F, r, s, w, st, sl, p⟩ := h
  refine ⟨F, r, s, w, sl.pu, (postS_x w st sl p).bnd.imp (fun d s1 F1 H1 w1 st1 q v rv => ?_) fun _ _ _ _ _ _ z => z⟩
  obtain ⟨d', ed, k⟩ := q.lift
  obtain ⟨rfl, hn⟩ := elD_some ed
  obtain ⟨w2, st2, sl2, p2⟩ := k F1 H1 w1 Stp.refl
  exact p2 v F1 H1 w2 st2 ⟨rv, hn⟩
/-- an own thing given out, its place new -/
theorem own_out {F0 H0 F H : Hp} {σ : L2.St} {r : Sl} {s : R.S} {y : D} (w : Wd R F H s) (st : Stp R F0 H0 F H) (sl : Slots R H0 O F H σ r) (hO : i ∈ O) (e : r[i]? = some (some y)) : ∃ v F', σ[i]? = some (some v) ∧ Wd R F' H s ∧ Stp R F0 H0 F' H ∧ Same F F' ∧ Rep R.K R.nm F' y v ∧ (isRT y = true → ∃ p : Addr, v = .ref p ∧ H0 p = none) := by
  cases hr : isRT y with
  | false =>
    obtain ⟨v, h1, h2⟩ := sl.ns i y hO hr e
    exact ⟨v, F, h1, w, st, fun _ _ z => z, h2, fun z => nomatch z⟩
  | true =>
    obtain ⟨ad, h1, h2⟩ := sl.ow i y hO hr e
    obtain ⟨h0, hF, hm, h3⟩ := h2
    have sm : ∀ o, Same F (upd F ad o) := fun o b u q => by rw [upd_ne (ne_of_none q hF)]; exact q
    cases y with
    | row ds =>
      obtain ⟨vs, q1, q2, q3⟩ := h3
      exact ⟨.ref ad, upd F ad (.lst vs), h1, w.frz q1 hm, st.frz h0 hF _, sm _, ⟨ad, vs, rfl, upd_same, q2, q3.mono (sm _)⟩, fun _ => ⟨ad, rfl, h0⟩⟩
    | tab ds =>
      obtain ⟨vs, q1, q2, q3⟩ := h3
      exact ⟨.ref ad, upd F ad (.dK vs), h1, w.frz q1 hm, st.frz h0 hF _, sm _, ⟨ad, vs, rfl, upd_same, q2, q3.mono (sm _)⟩, fun _ => ⟨ad, rfl, h0⟩⟩
    | _ => cases hr
/-- return (e, x) -/
theorem ds_retT2 (i : Nat) {x1 : Nat} (ha : PE X a (tD R W O f)) (hO : i ∈ O) (hN : X.N[i]? = some x) (hv : Vis X.env.scope x) (hd : (x == ("__debug__" : Str)) = false := by decide) (hcd : (x == ("__classdict__" : Str)) = false := by decide)
    (h1 : starEach [a, .Name x npos] X.env = (false, eval a X.env) :: starEach [.Name x npos] X.env := by rfl) (h2 : starEach [.Name x npos] X.env = (false, eval (.Name x npos) X.env) :: starEach [] X.env := by rfl) :
    PS X (.Return (some (.Tuple [a, .Name x npos] x1 tpos)) pos) (tDS R W .e B O O' (sRetT2 i f)) := ps_imp (ps_ret (pe_tup (pa_cons ha (pa_cons (pe_var hN hv hd hcd) pa_nil h2) h1))) fun E σ H h => by
  obtain ⟨F0, H0, F, r, s, w, st, sl, p⟩ := h
  refine ⟨F, r, s, w, sl.pu, (postS_x w st sl p).imp (fun d s1 F1 H1 w1 st1 q v rv => ?_) fun _ _ _ _ _ _ z => z⟩
  obtain ⟨w2, st2, sl2, p2⟩ := q
  by_cases hr : isRT d = true
  · have p2 : PostS R .e F0 H0 (if isRT d = true then none else match getS r i with | some y => some (.rt (.tup [d, y]), s1) | none => none) E W B O' := p2
    rw [if_pos hr] at p2; exact p2.elim
  · have p2 : PostS R .e F0 H0 (if isRT d = true then none else match getS r i with | some y => some (.rt (.tup [d, y]), s1) | none => none) E W B O' := p2
    rw [if_neg hr] at p2
    cases eg : getS r i with
    | none => rw [eg] at p2; exact p2.elim
    | some y =>
      rw [eg] at p2
      obtain ⟨u, F2, k1, k2, k3, k4, k5, k6⟩ := own_out w2 st2 sl2 hO (getS_some eg)
      refine ⟨u, k1, (show 2 ≤ sizeLine by decide), fun q hq => ?_⟩
      have hF2 : F2 q = none := k2.free hq
      have sm : Same F2 (upd F2 q (.tup [v, u])) := fun b o z => by rw [upd_ne (ne_of_none z hF2)]; exact z
      refine p2 (.ref q) (upd F2 q (.tup [v, u])) _ (k2.new _ hq) (k3.trans (Stp.new _ hq hF2)) ⟨⟨q, [v, u], rfl, upd_same, (show 2 ≤ sizeLine by decide), v, [u], rfl, (rv.mono k4).mono sm, u, [], rfl, k5.mono sm, rfl⟩, ?_⟩
      intro a2 vs e1 e2 j z ez hz
      cases e1
      rw [upd_same] at e2
      cases e2
      match j, ez with
      | 0, ez => cases ez; exact absurd hz hr
      | 1, ez =>
        cases ez
        obtain ⟨pp, e3, e4⟩ := k6 hz
        exact ⟨pp, by rw [e3]; rfl, e4⟩
/-- return [x] if c else b -/
theorem ds_retL1 (i : Nat) {t : Expr} {p2 lpos : Pos} (hc : PT X t (tDT R W O c)) (hO : i ∈ O) (hN : X.N[i]? = some x) (hv : Vis X.env.scope x) (hb : PE X b (tD R W O g)) (hd : (x == ("__debug__" : Str)) = false := by decide) (hcd : (x == ("__classdict__" : Str)) = false := by decide)
    (h2 : starEach [.Name x npos] X.env = (false, eval (.Name x npos) X.env) :: starEach [] X.env := by rfl) :
    PS X (.Return (some (.IfExp t (.List [.Name x npos] lpos) b p2)) pos) (tDS R W .e B O O' (sIf c (sRetL1 i) (sRet (dUn elD g)))) := ps_imp (ps_ret (pe_ifExp hc (pe_lst (pa_cons (pe_var hN hv hd hcd) pa_nil h2)) hb)) fun E σ H h => by
  obtain ⟨F0, H0, F, r, s, w, st, sl, p⟩ := h
  refine ⟨F, r, s, w, sl.pu, (postS_x w st sl p).imp (fun k s1 F1 H1 w1 st1 q => ?_) fun _ _ _ _ _ _ z => z⟩
  obtain ⟨w2, st2, sl2, p2⟩ := q
  cases k with
  | true =>
    rw [if_pos rfl] at p2
    refine iteT ?_
    have p2 : PostS R .e F0 H0 (match getS r i with | some y => some (.rt (.row [y]), s1) | none => none) E W B O' := p2
    cases eg : getS r i with
    | none => rw [eg] at p2; exact p2.elim
    | some y =>
      rw [eg] at p2
      obtain ⟨u, F2, k1, k2, k3, k4, k5, k6⟩ := own_out w2 st2 sl2 hO (getS_some eg)
      refine ⟨u, k1, (show 1 ≤ sizeLine by decide), fun q hq => ?_⟩
      have hF2 : F2 q = none := k2.free hq
      have sm : Same F2 (upd F2 q (.lst [u])) := fun b o z => by rw [upd_ne (ne_of_none z hF2)]; exact z
      refine p2 (.ref q) (upd F2 q (.lst [u])) _ (k2.new _ hq) (k3.trans (Stp.new _ hq hF2)) ⟨⟨q, [u], rfl, upd_same, (show 1 ≤ sizeLine by decide), u, [], rfl, k5.mono sm, rfl⟩, ?_⟩
      intro a2 vs e1 e2 j z ez hz
      cases e1
      rw [upd_same] at e2
      cases e2
      match j, ez with
      | 0, ez =>
        cases ez
        obtain ⟨pp, e3, e4⟩ := k6 hz
        exact ⟨pp, by rw [e3]; rfl, e4⟩
  | false =>
    rw [if_neg Bool.false_ne_true] at p2
    refine iteF ⟨F1, r, s1, w2, sl2.pu, (postS_x w2 st2 sl2 p2).bnd.imp (fun d s3 F3 H3 w3 st3 q v rv => ?_) fun _ _ _ _ _ _ z => z⟩
    obtain ⟨d', ed, k⟩ := q.lift
    obtain ⟨rfl, hn⟩ := elD_some ed
    obtain ⟨w4, st4, sl4, p4⟩ := k F3 H3 w3 Stp.refl
    exact p4 v F3 H3 w4 st4 ⟨rv, hn⟩
end
/-- what a def that tells such a thing promises -/
def spE (R : Reg) (n : Nat) (g : List D → M R.S D) : Sp := fun vs H Q E => vs.length = n ∧ ∃ F s ds, Wd R F H s ∧ Reps R.K R.nm F ds vs ∧
  Post R F H (g ds s) (fun d _ F' H' => ∀ v, Rep R.K R.nm F' d v → NewEl H F' d v → Q v H') (fun x _ F' H' => ∀ cls dd, RepX R.K R.nm F' x cls dd → E cls dd H')
def spPE (K : PySem.W.Frag) (n : Nat) (g : List D → M Unit D) : Sp := fun vs H Q E => ∃ nm, spE (R0 K nm) n g vs H Q E
section
variable {P : Program} {w : World} {K : PySem.W.Frag} {mg : Str → Option Value} {base : Heap} {x qual : Str} {params : Arguments} {body : List Stmt} {scope : Scope} {kws : List (Str × V)} {f : Addr} {fd : FuncData} {N ps : List Str} {k : Nat} {md : Bool}
theorem fn_PE (F : FunD K x qual params body scope [] kws f fd) (S : FnScope N ps scope) {O' : List Nat} {g : Sl → Mo Unit} (hb : ∀ nm, BodyOk md P w K mg base N qual scope body k (R0 K nm) .e O' g) : FnOk P w K mg base (CXm md P w) (k + 1) f fd ps (spPE K ps.length (fnD N.length g)) :=
  fn_run F S (fun vs H Q E h => by obtain ⟨nm, hn, _⟩ := h; exact hn) fun vs H Q E h => by
    obtain ⟨nm, hn, G, s', ds, hw, rs, p⟩ := h
    exact ⟨R0 K nm, .e, O', g, rfl, hb nm, body_run hw rs (p.imp (fun d s1 F1 H1 w1 st1 q v rv => q v rv.1 rv.2) fun _ _ _ _ _ _ z => z)⟩
theorem not_PE {n : Nat} (vs : List V) (H : Hp) (Q : VK) (E : XK) : ¬ spPE K n gBot vs H Q E := fun ⟨_, _, _, _, _, _, _, p⟩ => p
theorem Has.ofPE {n : Nat} {g : List D → M Unit D} (h : Has md P w K mg base k x (spPE K n g)) : Has md P w K mg base k x (spP K n g) := h.imp fun vs H Q E ⟨nm, hn, F, s, ds, hw, rs, p⟩ => ⟨nm, hn, F, s, ds, hw, rs, p.imp (fun d s1 F1 H1 w1 st1 q v rv _ => q v rv) fun _ _ _ _ _ _ z => z⟩
end
def tDN (R : Reg) (W : WX) (O : List Nat) (f : Sl → M R.S D) : TE := fun σ H Q => ∃ F r s, Wd R F H s ∧ Pu R O F σ r ∧ Post R F H (f r s) (fun d _ F' H' => ∀ v, Rep R.K R.nm F' d v → NewEl H F' d v → Q v H') (fun x _ F' H' => ∀ cls dd, RepX R.K R.nm F' x cls dd → W cls dd σ H')
section
variable {X : Cx} {R : Reg} {W : WX} {O : List Nat} {e : Expr} {es : List Expr} {fs : Sl → M R.S (List D)} {pos : Pos} {x : Str} {p : Pos}
theorem dn_callPE {md : Bool} {k n : Nat} {g : List D → M Unit D} (c : Cxt X R W k) (tk : TkM md X W) (h : Has md X.prog X.w X.K X.mg X.base k x (spPE X.K n g)) (hg : Gl X x) (ha : PA X (e :: es) (tDA R W O fs)) (hdb : (x == ("__debug__" : Str)) = false := by decide)
    (he : starEach (e :: es) X.env = (false, eval e X.env) :: starEach es X.env := by rfl) (hpl : (backTo pos (starEach es X.env)).any (·.1) = false := by rfl) : PE X (.Call (.Name x p) (e :: es) [] pos) (tDN R W O (dCall n (fun ds => up (g ds)) fs)) := by
  obtain ⟨f, fd, ps, F, hm, hk, hb⟩ := h
  rw [← c.hK] at F
  refine pe_imp (pe_callS (sp := spPE R.K n g) (by rw [← c.hK]; exact F) c.hr hg hm hk hb (fun σ => passM tk σ) ha hdb he hpl) fun σ H Q h => ?_
  obtain ⟨F, ρ, s, w, pu, p⟩ := h
  refine ⟨F, ρ, s, w, pu, p.bnd.imp (fun ds s1 F1 H1 w1 st1 p1 vs rvs => ?_) fun _ _ _ _ _ _ z => z⟩
  split at p1
  · rename_i hn
    refine ⟨R.nm, by rw [rvs.length]; exact hn, F1, (), ds, wd_0 w1, rvs, post_up (k := fun d F' H' => ∀ v, Rep R.K R.nm F' d v → NewEl H1 F' d v → Q v H') (x := fun x F' H' => ∀ cls dd, RepX R.K R.nm F' x cls dd → W cls dd σ H') w1 ?_⟩
    exact p1.imp (fun d s2 F2 H2 w2 st2 q v rv hn2 => q v rv (hn2.base st1.th)) fun _ _ _ _ _ _ z => z
  · exact False.elim p1
end
/-! ### the zone -/
/-- two lists of the very same things -/
def Twin (F : Hp) (σ : L2.St) (i j : Nat) : Prop := ∃ (a b : Addr) (vs : List V), σ[i]? = some (some (.ref a)) ∧ σ[j]? = some (some (.ref b)) ∧ F a = some (.lst vs) ∧ F b = some (.lst vs) ∧ ∀ v ∈ vs, ∃ c : Addr, v = .ref c
structure ZS (X : Cx) (R : Reg) (pn nw : List Nat) (tw : List (Nat × Nat)) (F0 H0 Fb Hb F H : Hp) (σ : L2.St) (r : Sl) (s : R.S) : Prop where
  hfz : ∀ a o u, X.H_0 a = some (.frz o u) → Hb a ≠ none
  st0 : Stp R F0 H0 Fb Hb
  sb : Sub Fb Hb
  w : Wd R F H s
  st : Stp R Fb Hb F H
  pu : Pu R [] F σ r
  pin : ∀ i ∈ pn, ∀ d, r[i]? = some (some d) → ∃ v, σ[i]? = some (some v) ∧ Rep R.K R.nm Fb d v
  tws : ∀ q ∈ tw, q.1 ∈ pn ∧ q.2 ∈ pn ∧ Twin Fb σ q.1 q.2
  new : ∀ i ∈ nw, ∀ d, r[i]? = some (some d) → ∃ v, σ[i]? = some (some v) ∧ Rep R.K R.nm F d v ∧ NewEl Hb F d v
def PostZ (X : Cx) (R : Reg) (pn nw : List Nat) (tw : List (Nat × Nat)) (B : List Nat) (F0 H0 Fb Hb : Hp) (o : Option (Flw × R.S)) (E : Ends) (W : WX) : Prop := match o with
  | some (.next r, s) => ∀ σ F H, ZS X R pn nw tw F0 H0 Fb Hb F H σ r s → E.nx σ H
  | some (.rt d, s) => PostS R .f F0 H0 (some (.rt d, s)) E W B []
  | some (.brk r, s) => PostS R .f F0 H0 (some (.brk r, s)) E W B []
  | some (.cnt r, s) => PostS R .f F0 H0 (some (.cnt r, s)) E W B []
  | some (.thr x r, s) => PostS R .f F0 H0 (some (.thr x r, s)) E W B []
  | none => False
def tDZ (X : Cx) (R : Reg) (W : WX) (B pn nw : List Nat) (tw : List (Nat × Nat)) (f : Sl → Mo R.S) : TS := fun E σ H => ∃ F0 H0 Fb Hb F r s, ZS X R pn nw tw F0 H0 Fb Hb F H σ r s ∧ PostZ X R pn nw tw B F0 H0 Fb Hb (f r s) E W
section
variable {X : Cx} {R : Reg} {W : WX} {B pn nw : List Nat} {tw : List (Nat × Nat)} {F0 H0 Fb Hb F H F1 H1 : Hp} {σ : L2.St} {r : Sl} {s s1 : R.S} {E : Ends}
theorem ZS.step (z : ZS X R pn nw tw F0 H0 Fb Hb F H σ r s) (w1 : Wd R F1 H1 s1) (st1 : Stp R F H F1 H1) : ZS X R pn nw tw F0 H0 Fb Hb F1 H1 σ r s1 where
  hfz := z.hfz
  st0 := z.st0
  sb := z.sb
  w := w1
  st := z.st.trans st1
  pu := z.pu.mono st1.fs
  pin := z.pin
  tws := z.tws
  new := fun i hi d e => let ⟨v, h1, h2, h3⟩ := z.new i hi d e; ⟨v, h1, h2.mono st1.fs, h3.mono st1.fs h2⟩
theorem postZ_x {α : Type} {m : M R.S α} {k : α → Mo R.S} (z : ZS X R pn nw tw F0 H0 Fb Hb F H σ r s) (h : PostZ X R pn nw tw B F0 H0 Fb Hb (liftX m r k s) E W) :
    Post R F H (m s) (fun a s1 F1 H1 => ZS X R pn nw tw F0 H0 Fb Hb F1 H1 σ r s1 ∧ PostZ X R pn nw tw B F0 H0 Fb Hb (k a s1) E W) (fun x _ F' H' => ∀ cls dd, RepX R.K R.nm F' x cls dd → W cls dd σ H') := by
  unfold liftX at h
  cases e : m s with
  | ok a s1 => rw [e] at h; exact fun F1 H1 w1 st1 => ⟨z.step w1 st1, h⟩
  | exc x s1 =>
    rw [e] at h
    intro F1 H1 w1 st1 cls dd rx
    have z1 := z.step w1 st1
    exact h σ F1 H1 cls dd w1 (z.st0.trans z1.st) (slots_nil z1.pu) rx
  | bot => rw [e] at h; exact h.elim
theorem ZS.set {i : Nat} {d : D} {v : V} (z : ZS X R pn nw tw F0 H0 Fb Hb F H σ r s) (hp : ∀ j ∈ pn, j ≠ i) (rv : Rep R.K R.nm F d v) (hn : ∀ j ∈ nw, j = i → NewEl Hb F d v) : ZS X R pn nw tw F0 H0 Fb Hb F H (σ.set i (some v)) (r.set i (some d)) s where
  hfz := z.hfz
  st0 := z.st0
  sb := z.sb
  w := z.w
  st := z.st
  pu := set_some_pu z.pu rv
  pin := fun j hj d' e => by
    rw [List.getElem?_set_ne fun q => hp j hj q.symm] at e
    rw [List.getElem?_set_ne fun q => hp j hj q.symm]
    exact z.pin j hj d' e
  tws := fun q hq => by
    obtain ⟨h1, h2, a, b, vs, e1, e2, e3⟩ := z.tws q hq
    exact ⟨h1, h2, a, b, vs, by rw [List.getElem?_set_ne fun c => hp _ h1 c.symm]; exact e1, by rw [List.getElem?_set_ne fun c => hp _ h2 c.symm]; exact e2, e3⟩
  new := fun j hj d' e => by
    by_cases hji : j = i
    · subst hji
      have hl : j < r.length := by
        have := (List.getElem?_eq_some_iff.mp e).1
        rwa [List.length_set] at this
      rw [List.getElem?_set_self hl] at e
      cases e
      exact ⟨v, List.getElem?_set_self (by rw [← z.pu.len]; exact hl), rv, hn j hj rfl⟩
    · rw [List.getElem?_set_ne fun q => hji q.symm] at e
      rw [List.getElem?_set_ne fun q => hji q.symm]
      exact z.new j hj d' e
end
section
variable {X : Cx} {R : Reg} {W : WX} {B pn nw : List Nat} {tw : List (Nat × Nat)} {st : Stmt} {rest ss : List Stmt} {f g : Sl → Mo R.S} {pos : Pos} {e : Expr} {fe : Sl → M R.S D} {c : Sl → M R.S Bool} {i : Nat} {x : Str}
theorem dz_nil : PSs X [] (tDZ X R W B pn nw tw sNil) := pss_imp pss_nil fun E σ H h => by
  obtain ⟨F0, H0, Fb, Hb, F, r, s, z, p⟩ := h
  exact p σ F H z
theorem dz_cons (h1 : PS X st (tDZ X R W B pn nw tw f)) (h2 : PSs X rest (tDZ X R W B pn nw tw g)) : PSs X (st :: rest) (tDZ X R W B pn nw tw (sSeq f g)) := pss_imp (pss_cons h1 h2) fun E σ H h => by
  obtain ⟨F0, H0, Fb, Hb, F, r, s, z, p⟩ := h
  refine ⟨F0, H0, Fb, Hb, F, r, s, z, ?_⟩
  unfold sSeq at p
  cases e : f r s with
  | none => rw [e] at p; exact p
  | some q =>
    obtain ⟨fl, s'⟩ := q
    rw [e] at p
    cases fl with
    | next r' => exact fun σ' F' H' z' => ⟨F0, H0, Fb, Hb, F', r', s', z', p⟩
    | rt d => exact p
    | brk r' => exact p
    | cnt r' => exact p
    | thr x r' => exact p
theorem dz_one (h1 : PS X st (tDZ X R W B pn nw tw f)) : PSs X [st] (tDZ X R W B pn nw tw f) := pss_imp (pss_one h1) fun E σ H h => h
theorem dz_set (i : Nat) {pos' : Pos} (hN : X.N.Nodup) (hi : X.N[i]? = some x) (hx : Loc X.env.scope x) (he : PE X e (tD R W [] fe)) (h1 : ∀ j ∈ pn, j ≠ i) (h2 : ∀ j ∈ nw, j ≠ i) (hs : swapsWith e (some (.Name x pos')) pos.line X.env = pure false := by rfl) (hf : X.fn x = true ∨ X.env.scope.names.lookup x = some .local := by first | exact .inl rfl | exact .inr rfl | assumption) :
    PS X (.Assign [.Name x pos'] e pos) (tDZ X R W B pn nw tw (sAsg (tgN i) fe)) := ps_imp (ps_set hN hi hx he hs hf) fun E σ H h => by
  obtain ⟨F0, H0, Fb, Hb, F, r, s, z, p⟩ := h
  refine ⟨F, r, s, z.w, z.pu, (postZ_x z p).imp (fun d s1 F1 H1 w1 st1 q v rv => ?_) fun _ _ _ _ _ _ z => z⟩
  obtain ⟨z2, p2⟩ := q
  exact p2 _ F1 H1 (z2.set h1 rv fun j hj e => absurd e (h2 j hj))
/-- .. of what is new straight within -/
theorem dz_setN (i : Nat) {pos' : Pos} (hN : X.N.Nodup) (hi : X.N[i]? = some x) (hx : Loc X.env.scope x) (he : PE X e (tDN R W [] fe)) (h1 : ∀ j ∈ pn, j ≠ i) (hs : swapsWith e (some (.Name x pos')) pos.line X.env = pure false := by rfl) (hf : X.fn x = true ∨ X.env.scope.names.lookup x = some .local := by first | exact .inl rfl | exact .inr rfl | assumption) :
    PS X (.Assign [.Name x pos'] e pos) (tDZ X R W B pn nw tw (sAsg (tgN i) fe)) := ps_imp (ps_set hN hi hx he hs hf) fun E σ H h => by
  obtain ⟨F0, H0, Fb, Hb, F, r, s, z, p⟩ := h
  refine ⟨F, r, s, z.w, z.pu, (postZ_x z p).imp (fun d s1 F1 H1 w1 st1 q v rv hn => ?_) fun _ _ _ _ _ _ z => z⟩
  obtain ⟨z2, p2⟩ := q
  exact p2 _ F1 H1 (z2.set h1 rv fun j hj e => hn.base z.st.th)
theorem dz_ret (he : PE X e (tD R W [] fe)) : PS X (.Return (some e) pos) (tDZ X R W B pn nw tw (sRet fe)) := ps_imp (ps_ret he) fun E σ H h => by
  obtain ⟨F0, H0, Fb, Hb, F, r, s, z, p⟩ := h
  refine ⟨F, r, s, z.w, z.pu, (postZ_x z p).imp (fun d s1 F1 H1 w1 st1 q v rv => ?_) fun _ _ _ _ _ _ z => z⟩
  obtain ⟨z2, p2⟩ := q
  exact p2 v F1 H1 z2.w (z2.st0.trans z2.st) rv
theorem dz_if {t : Expr} {a b : List Stmt} (hc : PT X t (tDT R W [] c)) (ha : PSs X a (tDZ X R W B pn nw tw f)) (hb : PSs X b (tDZ X R W B pn nw tw g)) : PS X (.If t a b pos) (tDZ X R W B pn nw tw (sIf c f g)) := ps_imp (ps_if hc ha hb) fun E σ H h => by
  obtain ⟨F0, H0, Fb, Hb, F, r, s, z, p⟩ := h
  refine ⟨F, r, s, z.w, z.pu, (postZ_x z p).imp (fun k s1 F1 H1 w1 st1 q => ?_) fun _ _ _ _ _ _ z => z⟩
  obtain ⟨z2, p2⟩ := q
  cases k with
  | true => rw [if_pos rfl] at p2 ⊢; exact ⟨F0, H0, Fb, Hb, F1, r, s1, z2, p2⟩
  | false => rw [if_neg Bool.false_ne_true] at p2 ⊢; exact ⟨F0, H0, Fb, Hb, F1, r, s1, z2, p2⟩
/-- only the slots named stay -/
def keepA (pn : List Nat) : Nat → Sl → Sl
  | _, [] => []
  | n, d :: r => (if n ∈ pn then d else none) :: keepA pn (n + 1) r
def keepS (pn : List Nat) (r : Sl) : Sl := keepA pn 0 r
theorem keepA_len {pn : List Nat} : ∀ (n : Nat) (r : Sl), (keepA pn n r).length = r.length
  | _, [] => rfl
  | n, d :: r => by show (keepA pn (n + 1) r).length + 1 = r.length + 1; rw [keepA_len]
theorem keepA_at {pn : List Nat} {d : D} : ∀ {n : Nat} {r : Sl} {i : Nat}, (keepA pn n r)[i]? = some (some d) → n + i ∈ pn ∧ r[i]? = some (some d)
  | n, [], i, h => by simp [keepA] at h
  | n, q :: r, 0, h => by
    have h : some (if n ∈ pn then q else none) = some (some d) := h
    by_cases hi : n ∈ pn
    · rw [if_pos hi] at h; exact ⟨hi, h⟩
    · rw [if_neg hi] at h; cases h
  | n, q :: r, i + 1, h => by
    obtain ⟨h1, h2⟩ := keepA_at (n := n + 1) (r := r) (i := i) h
    exact ⟨by rw [show n + (i + 1) = n + 1 + i by omega]; exact h1, h2⟩
theorem keepS_at {pn : List Nat} {r : Sl} {i : Nat} {d : D} (h : (keepS pn r)[i]? = some (some d)) : i ∈ pn ∧ r[i]? = some (some d) := by
  have := keepA_at h
  rw [Nat.zero_add] at this
  exact this
theorem keepS_len {pn : List Nat} {r : Sl} : (keepS pn r).length = r.length := keepA_len 0 r
/-- behind the zone, to the def's end -/
def outK {S : Type} : Option (Flw × S) → Option (Flw × S)
  | some (.rt d, s) => some (.rt d, s)
  | some (.thr x r, s) => some (.thr x r, s)
  | _ => none
def sOut {S : Type} (pn : List Nat) (g : Sl → Mo S) : Sl → Mo S := fun r s => outK (g (keepS pn r) s)
theorem dz_out (h : PSs X ss (tDS R W .f B [] [] g)) : PSs X ss (tDZ X R W B pn nw tw (sOut pn g)) := pss_imp h fun E σ H h => by
  obtain ⟨F0, H0, Fb, Hb, F, r, s, z, p⟩ := h
  have pu : Pu R [] F σ (keepS pn r) := ⟨by rw [keepS_len]; exact z.pu.len, fun i d hi e => z.pu.at_ i d hi (keepS_at e).2⟩
  refine ⟨F0, H0, F, keepS pn r, s, z.w, z.st0.trans z.st, slots_nil pu, ?_⟩
  have p : PostZ X R pn nw tw B F0 H0 Fb Hb (outK (g (keepS pn r) s)) E W := p
  cases e : g (keepS pn r) s with
  | none => rw [e] at p; exact p
  | some q =>
    obtain ⟨fl, s'⟩ := q
    rw [e] at p
    cases fl with
    | next r' => exact p.elim
    | rt d => exact p
    | brk r' => exact p.elim
    | cnt r' => exact p.elim
    | thr x r' => exact p
/-- into the zone -/
def sZone {S : Type} (nw : List Nat) (f : Sl → Mo S) : Sl → Mo S := fun r s => if nw.all (fun i => (getS r i).isNone) = true then f r s else none
theorem dss_zone (pn nw : List Nat) (h : PSs X ss (tDZ X R W B pn nw [] f)) : PSs X ss (tDS R W .f B [] [] (sZone nw f)) := ⟨fun pins s σ H D I hq => h.run pins s σ H D I (by
  obtain ⟨F0, H0, F, r, s', w, st, sl, p⟩ := hq
  have p : PostS R .f F0 H0 (if nw.all (fun i => (getS r i).isNone) = true then f r s' else none) D W B [] := p
  by_cases hn : nw.all (fun i => (getS r i).isNone) = true
  · rw [if_pos hn] at p
    refine ⟨F0, H0, F, H, F, r, s', ⟨(fun a o u e => by rw [I.base.frzs a o u e]; exact fun z => nomatch z), st, w.sub, w, Stp.refl, sl.pu, fun i _ d e => sl.pu.at_ i d (by simp) e, (fun q hq => by cases hq), fun i hi d e => ?_⟩, ?_⟩
    · have := List.all_eq_true.mp hn i hi
      unfold getS at this
      rw [e] at this; cases this
    · cases e : f r s' with
      | none => rw [e] at p; exact p
      | some q =>
        obtain ⟨fl, s2⟩ := q
        rw [e] at p
        cases fl with
        | next r' => exact fun σ' F' H' z => p σ' F' H' z.w (z.st0.trans z.st) (slots_nil z.pu)
        | rt d => exact p
        | brk r' => exact p
        | cnt r' => exact p
        | thr x r' => exact p
  · rw [if_neg hn] at p; exact p.elim)⟩
end
end Nw
set_option Elab.async false
set_option linter.all false
set_option maxRecDepth 100000
set_option maxHeartbeats 4000000
/-! Part YY: what was told changes, late. -/
namespace Nw
open PySem PySem.Spec L2
/-! ### plain data, its size; one place changed -/
mutual
def pnD : D → Bool
  | .non => true
  | .bl _ => true
  | .int _ => true
  | .str _ => true
  | .row xs => pnL xs
  | .tup xs => pnL xs
  | .tab kvs => pnK kvs
  | _ => false
def pnL : List D → Bool
  | [] => true
  | d :: ds => pnD d && pnL ds
def pnK : List (Key × D) → Bool
  | [] => true
  | (_, d) :: ds => pnD d && pnK ds
end
mutual
def szD : D → Nat
  | .row xs => 1 + szL xs
  | .tup xs => 1 + szL xs
  | .tab kvs => 1 + szK kvs
  | _ => 0
def szL : List D → Nat
  | [] => 0
  | d :: ds => szD d + szL ds
def szK : List (Key × D) → Nat
  | [] => 0
  | (_, d) :: ds => szD d + szK ds
end
section
variable {K : PySem.W.Frag} {nm : Nat → Option Addr} {F : Hp}
mutual
theorem rep_sz : ∀ {d e : D} {v : V}, pnD d = true → pnD e = true → Rep K nm F d v → Rep K nm F e v → szD d = szD e
  | .non, e, v, hd, he, r, q => by
    rw [show v = V.non from r] at q
    cases e with
    | non => rfl
    | bl _ => cases q
    | int _ => cases q
    | str _ => cases q.1
    | row _ => obtain ⟨a, vs, e1, _⟩ := q; cases e1
    | tup _ => obtain ⟨a, vs, e1, _⟩ := q; cases e1
    | tab _ => obtain ⟨a, vs, e1, _⟩ := q; cases e1
    | _ => cases he
  | .bl b, e, v, hd, he, r, q => by
    rw [show v = V.bl b from r] at q
    cases e with
    | non => cases q
    | bl _ => rfl
    | int _ => cases q
    | str _ => cases q.1
    | row _ => obtain ⟨a, vs, e1, _⟩ := q; cases e1
    | tup _ => obtain ⟨a, vs, e1, _⟩ := q; cases e1
    | tab _ => obtain ⟨a, vs, e1, _⟩ := q; cases e1
    | _ => cases he
  | .int b, e, v, hd, he, r, q => by
    rw [show v = V.int b from r] at q
    cases e with
    | non => cases q
    | bl _ => cases q
    | int _ => rfl
    | str _ => cases q.1
    | row _ => obtain ⟨a, vs, e1, _⟩ := q; cases e1
    | tup _ => obtain ⟨a, vs, e1, _⟩ := q; cases e1
    | tab _ => obtain ⟨a, vs, e1, _⟩ := q; cases e1
    | _ => cases he
  | .str b, e, v, hd, he, r, q => by
    rw [r.1] at q
    cases e with
    | non => cases q
    | bl _ => cases q
    | int _ => cases q
    | str _ => rfl
    | row _ => obtain ⟨a, vs, e1, _⟩ := q; cases e1
    | tup _ => obtain ⟨a, vs, e1, _⟩ := q; cases e1
    | tab _ => obtain ⟨a, vs, e1, _⟩ := q; cases e1
    | _ => cases he
  | .row ds, e, v, hd, he, r, q => by
    obtain ⟨a, vs, rfl, f1, _, h1⟩ := r
    cases e with
    | non => cases q
    | bl _ => cases q
    | int _ => cases q
    | str _ => cases q.1
    | row es =>
      obtain ⟨b, ws, e1, f2, _, h2⟩ := q
      cases e1
      rw [f1] at f2
      cases f2
      show 1 + szL ds = 1 + szL es
      rw [reps_sz hd he h1 h2]
    | tup _ => obtain ⟨b, ws, e1, f2, _⟩ := q; cases e1; rw [f1] at f2; cases f2
    | tab _ => obtain ⟨b, ws, e1, f2, _⟩ := q; cases e1; rw [f1] at f2; cases f2
    | _ => cases he
  | .tup ds, e, v, hd, he, r, q => by
    obtain ⟨a, vs, rfl, f1, _, h1⟩ := r
    cases e with
    | non => cases q
    | bl _ => cases q
    | int _ => cases q
    | str _ => cases q.1
    | tup es =>
      obtain ⟨b, ws, e1, f2, _, h2⟩ := q
      cases e1
      rw [f1] at f2
      cases f2
      show 1 + szL ds = 1 + szL es
      rw [reps_sz hd he h1 h2]
    | row _ => obtain ⟨b, ws, e1, f2, _⟩ := q; cases e1; rw [f1] at f2; cases f2
    | tab _ => obtain ⟨b, ws, e1, f2, _⟩ := q; cases e1; rw [f1] at f2; cases f2
    | _ => cases he
  | .tab ds, e, v, hd, he, r, q => by
    obtain ⟨a, vs, rfl, f1, _, h1⟩ := r
    cases e with
    | non => cases q
    | bl _ => cases q
    | int _ => cases q
    | str _ => cases q.1
    | tab es =>
      obtain ⟨b, ws, e1, f2, _, h2⟩ := q
      cases e1
      rw [f1] at f2
      cases f2
      show 1 + szK ds = 1 + szK es
      rw [repsK_sz hd he h1 h2]
    | row _ => obtain ⟨b, ws, e1, f2, _⟩ := q; cases e1; rw [f1] at f2; cases f2
    | tup _ => obtain ⟨b, ws, e1, f2, _⟩ := q; cases e1; rw [f1] at f2; cases f2
    | _ => cases he
  | .kro _, e, v, hd, he, r, q => by cases hd
  | .exc _ _, e, v, hd, he, r, q => by cases hd
  | .obj _, e, v, hd, he, r, q => by cases hd
theorem reps_sz : ∀ {ds es : List D} {vs : List V}, pnL ds = true → pnL es = true → Reps K nm F ds vs → Reps K nm F es vs → szL ds = szL es
  | [], es, vs, hd, he, r, q => by
    rw [show vs = [] from r] at q
    cases es with
    | nil => rfl
    | cons e es => obtain ⟨_, _, e1, _⟩ := q; cases e1
  | d :: ds, es, vs, hd, he, r, q => by
    obtain ⟨v, ws, rfl, h1, h2⟩ := r
    cases es with
    | nil => cases (show v :: ws = [] from q)
    | cons e es =>
      obtain ⟨u, us, e1, h3, h4⟩ := q
      cases e1
      have hd : (pnD d && pnL ds) = true := hd
      have he : (pnD e && pnL es) = true := he
      rw [Bool.and_eq_true] at hd he
      show szD d + szL ds = szD e + szL es
      rw [rep_sz hd.1 he.1 h1 h3, reps_sz hd.2 he.2 h2 h4]
theorem repsK_sz : ∀ {ds es : List (Key × D)} {vs : List (Key × V)}, pnK ds = true → pnK es = true → RepsK K nm F ds vs → RepsK K nm F es vs → szK ds = szK es
  | [], es, vs, hd, he, r, q => by
    rw [show vs = [] from r] at q
    cases es with
    | nil => rfl
    | cons e es => obtain ⟨j, e⟩ := e; obtain ⟨_, _, e1, _⟩ := q; cases e1
  | (k, d) :: ds, es, vs, hd, he, r, q => by
    obtain ⟨v, ws, rfl, _, h1, h2⟩ := r
    cases es with
    | nil => cases (show (k, v) :: ws = [] from q)
    | cons e es =>
      obtain ⟨j, e⟩ := e
      obtain ⟨u, us, e1, _, h3, h4⟩ := q
      cases e1
      have hd : (pnD d && pnK ds) = true := hd
      have he : (pnD e && pnK es) = true := he
      rw [Bool.and_eq_true] at hd he
      show szD d + szK ds = szD e + szK es
      rw [rep_sz hd.1 he.1 h1 h3, repsK_sz hd.2 he.2 h2 h4]
end
variable {p : Addr} {o : HO}
mutual
theorem rep_upd : ∀ {d : D} {v : V}, pnD d = true → Rep K nm F d v → (∀ e, pnD e = true → szD e ≤ szD d → ¬ Rep K nm F e (.ref p)) → Rep K nm (upd F p o) d v
  | .non, v, hd, r, h => r
  | .bl _, v, hd, r, h => r
  | .int _, v, hd, r, h => r
  | .str _, v, hd, r, h => r
  | .row ds, v, hd, r, h => by
    have r0 := r
    obtain ⟨a, vs, rfl, f1, hz, h1⟩ := r
    have ne : a ≠ p := fun e => h (.row ds) hd (Nat.le_refl _) (by rw [← e]; exact r0)
    exact ⟨a, vs, rfl, by rw [upd_ne ne]; exact f1, hz, reps_upd hd h1 fun e he hs => h e he (by show szD e ≤ 1 + szL ds; omega)⟩
  | .tup ds, v, hd, r, h => by
    have r0 := r
    obtain ⟨a, vs, rfl, f1, hz, h1⟩ := r
    have ne : a ≠ p := fun e => h (.tup ds) hd (Nat.le_refl _) (by rw [← e]; exact r0)
    exact ⟨a, vs, rfl, by rw [upd_ne ne]; exact f1, hz, reps_upd hd h1 fun e he hs => h e he (by show szD e ≤ 1 + szL ds; omega)⟩
  | .tab ds, v, hd, r, h => by
    have r0 := r
    obtain ⟨a, vs, rfl, f1, hz, h1⟩ := r
    have ne : a ≠ p := fun e => h (.tab ds) hd (Nat.le_refl _) (by rw [← e]; exact r0)
    exact ⟨a, vs, rfl, by rw [upd_ne ne]; exact f1, hz, repsK_upd hd h1 fun e he hs => h e he (by show szD e ≤ 1 + szK ds; omega)⟩
  | .kro _, v, hd, r, h => by cases hd
  | .exc _ _, v, hd, r, h => by cases hd
  | .obj _, v, hd, r, h => by cases hd
theorem reps_upd : ∀ {ds : List D} {vs : List V}, pnL ds = true → Reps K nm F ds vs → (∀ e, pnD e = true → szD e ≤ szL ds → ¬ Rep K nm F e (.ref p)) → Reps K nm (upd F p o) ds vs
  | [], vs, hd, r, h => r
  | d :: ds, vs, hd, r, h => by
    obtain ⟨v, ws, rfl, h1, h2⟩ := r
    have hd : (pnD d && pnL ds) = true := hd
    rw [Bool.and_eq_true] at hd
    exact ⟨v, ws, rfl, rep_upd hd.1 h1 fun e he hs => h e he (by show szD e ≤ szD d + szL ds; omega), reps_upd hd.2 h2 fun e he hs => h e he (by show szD e ≤ szD d + szL ds; omega)⟩
theorem repsK_upd : ∀ {ds : List (Key × D)} {vs : List (Key × V)}, pnK ds = true → RepsK K nm F ds vs → (∀ e, pnD e = true → szD e ≤ szK ds → ¬ Rep K nm F e (.ref p)) → RepsK K nm (upd F p o) ds vs
  | [], vs, hd, r, h => r
  | (k, d) :: ds, vs, hd, r, h => by
    obtain ⟨v, ws, rfl, h0, h1, h2⟩ := r
    have hd : (pnD d && pnK ds) = true := hd
    rw [Bool.and_eq_true] at hd
    exact ⟨v, ws, rfl, h0, rep_upd hd.1 h1 fun e he hs => h e he (by show szD e ≤ szD d + szK ds; omega), repsK_upd hd.2 h2 fun e he hs => h e he (by show szD e ≤ szD d + szK ds; omega)⟩
end
theorem reps_of : ∀ {ds : List D} {vs : List V}, vs.length = ds.length → (∀ (i : Nat) (d : D), ds[i]? = some d → ∃ v, vs[i]? = some v ∧ Rep K nm F d v) → Reps K nm F ds vs
  | [], vs, hl, h => List.length_eq_zero_iff.mp hl
  | d :: ds, [], hl, h => by cases hl
  | d :: ds, v :: vs, hl, h => by
    obtain ⟨u, e, r⟩ := h 0 d rfl
    cases e
    exact ⟨v, vs, rfl, r, reps_of (by simpa using hl) fun i x e => h (i + 1) x e⟩
theorem szL_mem : ∀ {ds : List D} {i : Nat} {x : D}, ds[i]? = some x → szD x ≤ szL ds
  | d :: ds, 0, x, e => by cases e; show szD d ≤ szD d + szL ds; omega
  | d :: ds, i + 1, x, e => by
    have := szL_mem (ds := ds) (i := i) (x := x) e
    show szD x ≤ szD d + szL ds; omega
theorem pnL_cons {d : D} {ds : List D} (h : pnL (d :: ds) = true) : pnD d = true ∧ pnL ds = true := by
  have h : (pnD d && pnL ds) = true := h
  rw [Bool.and_eq_true] at h; exact h
theorem pnL_mem : ∀ {ds : List D} {i : Nat} {x : D}, pnL ds = true → ds[i]? = some x → pnD x = true
  | [], i, x, h, e => by simp at e
  | d :: ds, 0, x, h, e => by cases e; exact (pnL_cons h).1
  | d :: ds, i + 1, x, h, e => pnL_mem (pnL_cons h).2 e
end
/-! ### a row or tuple whose one part changes -/
def cds : D → Option (List D)
  | .tup ds => some ds
  | .row ds => some ds
  | _ => none
def cset : D → List D → D
  | .tup _, ds => .tup ds
  | .row _, ds => .row ds
  | d, _ => d
def lone (k : Nat) (ds : List D) : Bool := (List.range ds.length).all fun j => decide (j = k) || (match ds[j]? with | some x => (scal0 x).isSome | none => true)
theorem lone_at {k : Nat} {ds : List D} (h : lone k ds = true) {j : Nat} {x : D} (hj : j ≠ k) (e : ds[j]? = some x) : ∃ y, scal0 x = some y := by
  have hl : j < ds.length := (List.getElem?_eq_some_iff.mp e).1
  have := List.all_eq_true.mp h j (List.mem_range.mpr hl)
  rw [e, Bool.or_eq_true] at this
  rcases this with z | z
  · exact absurd (of_decide_eq_true z) hj
  · cases q : scal0 x with
    | none => simp only [q] at z; cases z
    | some y => exact ⟨y, rfl⟩
/-- the slot i holds a row or tuple, its part k one that may change, none other than itself an object -/
def lateAt (r : Sl) (i k : Nat) : Option D := (getS r i).bind fun c => (cds c).bind fun ds => if pnL ds = true ∧ lone k ds = true then ds[k]? else none
def lateS (pn : List Nat) (i k : Nat) (r : Sl) (x : D) : Sl := (keepS pn r).set i (((getS r i).bind fun c => (cds c).map fun ds => cset c (ds.set k x)))
section
variable {K : PySem.W.Frag} {nm : Nat → Option Addr} {F F' H0 : Hp} {c : D} {ds ds' : List D} {v : V} {a : Addr} {vs : List V}
def Cont (F : Hp) (a : Addr) (vs : List V) (c : D) (ds : List D) : Prop := (F a = some (.tup vs) ∧ c = .tup ds) ∨ (F a = some (.lst vs) ∧ c = .row ds)
theorem cont_of (rc : Rep K nm F c v) (ec : cds c = some ds) : ∃ a vs, v = .ref a ∧ Reps K nm F ds vs ∧ Cont F a vs c ds ∧ ds.length ≤ sizeLine := by
  cases c with
  | tup es => cases ec; obtain ⟨a, vs, e, f, z, r⟩ := rc; exact ⟨a, vs, e, r, .inl ⟨f, rfl⟩, z⟩
  | row es => cases ec; obtain ⟨a, vs, e, f, z, r⟩ := rc; exact ⟨a, vs, e, r, .inr ⟨f, rfl⟩, z⟩
  | _ => cases ec
theorem cont_mv (h : Cont F a vs c ds) (e : F' a = F a) : Cont F' a vs c ds := by
  rcases h with ⟨f, rfl⟩ | ⟨f, rfl⟩
  · exact .inl ⟨by rw [e]; exact f, rfl⟩
  · exact .inr ⟨by rw [e]; exact f, rfl⟩
theorem cont_to (h : Cont F a vs c ds) (hz : ds'.length ≤ sizeLine) (rr : Reps K nm F ds' vs) : Rep K nm F (cset c ds') (.ref a) := by
  rcases h with ⟨f, rfl⟩ | ⟨f, rfl⟩
  · exact ⟨a, vs, rfl, f, hz, rr⟩
  · exact ⟨a, vs, rfl, f, hz, rr⟩
theorem cont_new (h : Cont F a vs c ds) (hn : ∀ (j : Nat) (y : D), ds'[j]? = some y → isRT y = true → ∃ q : Addr, vs[j]? = some (V.ref q) ∧ H0 q = none) : NewEl H0 F (cset c ds') (.ref a) := by
  rcases h with ⟨f, rfl⟩ | ⟨f, rfl⟩
  · intro b ws e1 e2
    cases e1
    rw [f] at e2
    cases e2
    exact hn
  · intro b ws e1 e2
    cases e1
    rw [f] at e2
    cases e2
    exact hn
theorem cont_el (h : Cont F a vs c ds) (hn : NewEl H0 F c (.ref a)) : ∀ (j : Nat) (y : D), ds[j]? = some y → isRT y = true → ∃ q : Addr, vs[j]? = some (V.ref q) ∧ H0 q = none := by
  rcases h with ⟨f, rfl⟩ | ⟨f, rfl⟩
  · exact hn a vs rfl f
  · exact hn a vs rfl f
theorem cont_ix {Hx : Hp} (h : Cont Hx a vs c ds) {k : Nat} (e : vs[k]? = some v) {Q : VK} (q : Q v Hx) : rIx K (.ref a) (.int (k : Int)) Hx Q := by
  have hk : k < vs.length := (List.getElem?_eq_some_iff.mp e).1
  have ea : atI vs (k : Int) = some v := by
    unfold atI ixN
    rw [if_pos (Int.natCast_nonneg k), if_pos (by omega)]
    exact e
  rcases h with ⟨f, rfl⟩ | ⟨f, rfl⟩
  · exact .inr (.inl ⟨a, vs, _, v, rfl, rfl, .inl (.inl f), ea, q⟩)
  · exact .inl ⟨a, vs, _, v, rfl, rfl, SqL.of f, ea, q⟩
theorem cont_ne (h : Cont F a vs c ds) (hz : ds.length ≤ sizeLine) (rr : Reps K nm F ds vs) (hp : pnL ds = true) {k : Nat} {x : D} (e : ds[k]? = some x) {p : Addr} (rx : Rep K nm F x (.ref p)) : a ≠ p := by
  intro e1
  subst e1
  have s1 := szL_mem e
  have px := pnL_mem hp e
  rcases h with ⟨f, rfl⟩ | ⟨f, rfl⟩
  · have s2 := rep_sz (d := x) (e := .tup ds) px hp rx ⟨a, vs, rfl, f, hz, rr⟩
    have s2 : szD x = 1 + szL ds := s2
    omega
  · have s2 := rep_sz (d := x) (e := .row ds) px hp rx ⟨a, vs, rfl, f, hz, rr⟩
    have s2 : szD x = 1 + szL ds := s2
    omega
end
section
variable {X : Cx} {R : Reg} {pn nw : List Nat} {tw : List (Nat × Nat)} {F0 H0 Fb Hb F H F1 H1 : Hp} {σ : L2.St} {r : Sl} {s s1 : R.S} {i k : Nat} {x : D}
/-- what may change, and where -/
structure LA (R : Reg) (pn nw : List Nat) (Hb F : Hp) (σ : L2.St) (r : Sl) (i k : Nat) (x : D) (a p : Addr) (vs : List V) (c : D) (ds : List D) : Prop where
  at_ : σ[i]? = some (some (.ref a))
  eg : r[i]? = some (some c)
  ec : cds c = some ds
  pl : pnL ds = true
  lo : lone k ds = true
  ek : ds[k]? = some x
  hz : ds.length ≤ sizeLine
  ct : Cont F a vs c ds
  rr : Reps R.K R.nm F ds vs
  el : vs[k]? = some (.ref p)
  new : Hb p = none
  rx : Rep R.K R.nm F x (.ref p)
theorem late_la (z : ZS X R pn nw tw F0 H0 Fb Hb F H σ r s) (hi : i ∈ nw) (hl : lateAt r i k = some x) (hr : isRT x = true) : ∃ a p vs c ds, LA R pn nw Hb F σ r i k x a p vs c ds := by
  obtain ⟨c, eg, e2⟩ := bind_some hl
  obtain ⟨ds, ec, e3⟩ := bind_some e2
  by_cases hc : pnL ds = true ∧ lone k ds = true
  · rw [if_pos hc] at e3
    obtain ⟨v, h1, h2, h3⟩ := z.new i hi c (getS_some eg)
    obtain ⟨a, vs, rfl, rr, ct, hz⟩ := cont_of h2 ec
    obtain ⟨p, k1, k2⟩ := cont_el ct h3 k x e3 hr
    obtain ⟨u, k3, k4⟩ := rr.get e3
    rw [k1] at k3
    cases k3
    exact ⟨a, p, vs, c, ds, h1, getS_some eg, ec, hc.1, hc.2, e3, hz, ct, rr, k1, k2, k4⟩
  · rw [if_neg hc] at e3; cases e3
variable {a p : Addr} {vs : List V} {c : D} {ds : List D}
theorem LA.ne (la : LA R pn nw Hb F σ r i k x a p vs c ds) : a ≠ p := cont_ne la.ct la.hz la.rr la.pl la.ek la.rx
theorem LA.step (la : LA R pn nw Hb F σ r i k x a p vs c ds) (sm : Same F F1) : LA R pn nw Hb F1 σ r i k x a p vs c ds where
  at_ := la.at_
  eg := la.eg
  ec := la.ec
  pl := la.pl
  lo := la.lo
  ek := la.ek
  hz := la.hz
  ct := by
    rcases la.ct with ⟨f, e⟩ | ⟨f, e⟩
    · exact .inl ⟨sm _ _ f, e⟩
    · exact .inr ⟨sm _ _ f, e⟩
  rr := la.rr.mono sm
  el := la.el
  new := la.new
  rx := la.rx.mono sm
theorem LA.inH (la : LA R pn nw Hb F σ r i k x a p vs c ds) (sb : Sub F H) : Cont H a vs c ds := by
  rcases la.ct with ⟨f, e⟩ | ⟨f, e⟩
  · exact .inl ⟨sb.tup f, e⟩
  · exact .inr ⟨sb.lst f, e⟩
/-- .. it changes -/
theorem late_set {x' : D} {o : HO} (z : ZS X R pn nw tw F0 H0 Fb Hb F H σ r s) (la : LA R pn nw Hb F σ r i k x a p vs c ds) (hip : ∀ j ∈ pn, j ≠ i) (hr : isRT x = true) (rx : Rep R.K R.nm (upd F p o) x' (.ref p)) (hnw : ∀ j ∈ nw, j = i) :
    ZS X R pn nw tw F0 H0 Fb Hb (upd F p o) (upd H p o) σ (lateS pn i k r x') s := by
  have Fp : F p ≠ none := by
    have := la.rx
    cases x with
    | row _ => obtain ⟨b, ws, e1, f, _⟩ := this; cases e1; rw [f]; exact fun z => nomatch z
    | tab _ => obtain ⟨b, ws, e1, f, _⟩ := this; cases e1; rw [f]; exact fun z => nomatch z
    | _ => cases hr
  have nMu : ¬ R.Mu p := fun m => Fp (z.w.mu p m)
  have Fbp : Fb p = none := z.sb.free la.new
  have sm : Same Fb (upd F p o) := fun b u q => by rw [upd_ne (ne_of_none q Fbp)]; exact z.st.fs b u q
  have rs : lateS pn i k r x' = (keepS pn r).set i (some (cset c (ds.set k x'))) := by
    unfold lateS
    have : getS r i = some c := by unfold getS; rw [la.eg]; rfl
    rw [this]
    show (keepS pn r).set i ((cds c).map _) = _
    rw [la.ec]; rfl
  have hil : i < r.length := (List.getElem?_eq_some_iff.mp la.eg).1
  have ne := la.ne
  have ct : Cont (upd F p o) a vs c ds := cont_mv la.ct (upd_ne ne)
  have parts : Reps R.K R.nm (upd F p o) (ds.set k x') vs := by
    refine reps_of (by rw [List.length_set]; exact la.rr.length) fun j y e => ?_
    by_cases hj : j = k
    · subst hj
      rw [List.getElem?_set_self (List.getElem?_eq_some_iff.mp la.ek).1] at e
      cases e
      exact ⟨_, la.el, rx⟩
    · rw [List.getElem?_set_ne fun q => hj q.symm] at e
      obtain ⟨u, q1, q2⟩ := la.rr.get e
      obtain ⟨y', ey⟩ := lone_at la.lo hj e
      exact ⟨u, q1, (scal0_some ey).2 q2⟩
  have hz : (ds.set k x').length ≤ sizeLine := by rw [List.length_set]; exact la.hz
  have fresh : ∀ (j : Nat) (y : D), (ds.set k x')[j]? = some y → isRT y = true → ∃ q : Addr, vs[j]? = some (V.ref q) ∧ Hb q = none := fun j y e hy => by
    by_cases hj : j = k
    · subst hj; exact ⟨p, la.el, la.new⟩
    · rw [List.getElem?_set_ne fun q => hj q.symm] at e
      obtain ⟨y', ey⟩ := lone_at la.lo hj e
      cases y <;> first | (cases hy; done) | cases ey
  have rep := cont_to ct hz parts
  have new := cont_new (H0 := Hb) ct fresh
  refine ⟨z.hfz, z.st0, z.sb, ⟨fun b u e => ?_, fun b m => ?_, ?_⟩, ⟨sm, fun b u m e => ?_, fun b e => ?_, fun b e => ?_⟩, ⟨?_, fun j d _ e => ?_⟩, fun j hj d e => ?_, z.tws, fun j hj d e => ?_⟩
  · by_cases hb : b = p
    · subst hb; rw [upd_same] at e ⊢; exact .inl e
    · rw [upd_ne hb] at e ⊢; exact z.w.sub b u e
  · rw [upd_ne fun q => nMu (by rw [← q]; exact m)]; exact z.w.mu b m
  · exact R.loc s H _ z.w.si fun b m => upd_ne fun q => nMu (by rw [← q]; exact m)
  · have hb : b ≠ p := ne_of_none e la.new
    rw [upd_ne hb, upd_ne hb]; exact z.st.hs b u m e
  · by_cases hb : b = p
    · exact .inr (by rw [hb]; exact la.new)
    · rw [upd_ne hb] at e; exact z.st.nw b e
  · by_cases hb : b = p
    · rw [hb, upd_same] at e; cases e
    · rw [upd_ne hb] at e; exact z.st.th b e
  · rw [rs, List.length_set, keepS_len]; exact z.pu.len
  · rw [rs] at e
    by_cases hj : j = i
    · subst hj
      rw [List.getElem?_set_self (by rw [keepS_len]; exact hil)] at e
      cases e
      exact ⟨_, la.at_, rep⟩
    · rw [List.getElem?_set_ne fun q => hj q.symm] at e
      obtain ⟨e1, e2⟩ := keepS_at e
      obtain ⟨v, q1, q2⟩ := z.pin j e1 d e2
      exact ⟨v, q1, q2.mono sm⟩
  · rw [rs, List.getElem?_set_ne fun q => hip j hj q.symm] at e
    exact z.pin j hj d (keepS_at e).2
  · have hj := hnw j hj
    subst hj
    rw [rs, List.getElem?_set_self (by rw [keepS_len]; exact hil)] at e
    cases e
    exact ⟨_, la.at_, rep, new⟩
/-- parts of what changes stay -/
theorem LA.row (la : LA R pn nw Hb F σ r i k x a p vs c ds) {xs : List D} (ex : x = .row xs) (o : HO) : ∃ ws, F p = some (.lst ws) ∧ Reps R.K R.nm (upd F p o) xs ws := by
  subst ex
  obtain ⟨b, ws, e1, f, hz, rr⟩ := la.rx
  cases e1
  have px : pnL xs = true := pnL_mem la.pl la.ek
  refine ⟨ws, f, reps_upd px rr fun e he hs hr => ?_⟩
  have := rep_sz (d := e) (e := .row xs) he px hr ⟨p, ws, rfl, f, hz, rr⟩
  have : szD e = 1 + szL xs := this
  omega
theorem LA.tab (la : LA R pn nw Hb F σ r i k x a p vs c ds) {kvs : List (Key × D)} (ex : x = .tab kvs) (o : HO) : ∃ ws, F p = some (.dK ws) ∧ RepsK R.K R.nm (upd F p o) kvs ws := by
  subst ex
  obtain ⟨b, ws, e1, f, hz, rr⟩ := la.rx
  cases e1
  have px : pnK kvs = true := pnL_mem la.pl la.ek
  refine ⟨ws, f, repsK_upd px rr fun e he hs hr => ?_⟩
  have := rep_sz (d := e) (e := .tab kvs) he px hr ⟨p, ws, rfl, f, hz, rr⟩
  have : szD e = 1 + szK kvs := this
  omega
end
end Nw
set_option Elab.async false
set_option linter.all false
set_option maxRecDepth 100000
set_option maxHeartbeats 4000000
/-! Part ZZ: late changes as statements. -/
namespace Nw
open PySem PySem.Spec L2
def okY (y : D) : Bool := (scal0 y).isSome || (match y with | .row ys => ys.all fun z => (scal0 z).isSome | _ => false)
section
variable {S : Type}
def rowOf : D → Option (List D)
  | .row xs => some xs
  | _ => none
def sLateA (pn : List Nat) (i k : Nat) (f : Sl → M S D) : Sl → Mo S := fun r => optK ((lateAt r i k).bind rowOf) fun xs => liftX (f r) r fun y s => if xs.length < sizeLine ∧ okY y = true then some (.next (lateS pn i k r (.row (xs ++ [y]))), s) else none
def sLateP (pn : List Nat) (i k : Nat) (key : Str) (y : D) : Sl → Mo S := fun r s => match lateAt r i k with
  | some (.tab kvs) => if kvs.length < sizeLine then some (.next (lateS pn i k r (.tab (putD kvs (.inr key) y))), s) else none
  | _ => none
end
theorem reps_scal {K : PySem.W.Frag} {nm : Nat → Option Addr} {F G : Hp} : ∀ {ys : List D} {us : List V}, (ys.all fun z => (scal0 z).isSome) = true → Reps K nm F ys us → Reps K nm G ys us
  | [], us, h, r => r
  | y :: ys, us, h, r => by
    obtain ⟨v, ws, rfl, h1, h2⟩ := r
    rw [List.all_cons, Bool.and_eq_true] at h
    refine ⟨v, ws, rfl, ?_, reps_scal h.2 h2⟩
    cases e : scal0 y with
    | none => rw [e] at h; cases h.1
    | some z => exact (scal0_some e).2 h1
section
variable {X : Cx} {R : Reg} {W : WX} {B pn nw : List Nat} {tw : List (Nat × Nat)} {F0 H0 Fb Hb F H F1 H1 : Hp} {σ : L2.St} {r : Sl} {s s1 : R.S} {E : Ends} {i k n : Nat} {x : Str} {e : Expr} {fe : Sl → M R.S D} {pos npos kpos spos apos cpos pos' kp2 : Pos} {ki : Int}
theorem ZS.give {q : Addr} {o : HO} (z : ZS X R pn nw tw F0 H0 Fb Hb F H σ r s) (hq : Hb q = none) (hF : F q = none) (hH : H q = some o) (hm : ¬ R.Mu q) : ZS X R pn nw tw F0 H0 Fb Hb (upd F q o) H σ r s := by
  have sm : Same F (upd F q o) := fun b u e => by rw [upd_ne (ne_of_none e hF)]; exact e
  exact ⟨z.hfz, z.st0, z.sb, z.w.frz hH hm, z.st.frz hq hF _, z.pu.mono sm, z.pin, z.tws, fun j hj d e => let ⟨v, h1, h2, h3⟩ := z.new j hj d e; ⟨v, h1, h2.mono sm, h3.mono sm h2⟩⟩
/-- what is told, given out, whatever changes elsewhere -/
theorem give_y {y : D} {v : V} {p : Addr} (z : ZS X R pn nw tw F0 H0 Fb Hb F1 H1 σ r s) (hb : ∀ a, H a = none → Hb a = none) (hp : H p ≠ none) (fv : Fre R H F1 H1 y v) (oy : okY y = true) :
    ∃ F2, Same F1 F2 ∧ ZS X R pn nw tw F0 H0 Fb Hb F2 H1 σ r s ∧ ∀ o, Rep R.K R.nm (upd F2 p o) y v := by
  cases hs : scal0 y with
  | some y' =>
    refine ⟨F1, fun _ _ q => q, z, fun o => (scal0_some hs).2 (F := F1) ?_⟩
    cases y <;> first | exact fv | cases hs
  | none =>
    unfold okY at oy
    rw [hs] at oy
    cases y with
    | row ys =>
      have oy : (ys.all fun z => (scal0 z).isSome) = true := by simpa using oy
      obtain ⟨q, rfl, h0, hF, hm, us, e1, e2, e3⟩ := fv
      have hne : q ≠ p := fun c => hp (by rw [← c]; exact h0)
      refine ⟨upd F1 q (.lst us), fun b u c => by rw [upd_ne (ne_of_none c hF)]; exact c, z.give (hb q h0) hF e1 hm, fun o => ⟨q, us, rfl, by rw [upd_ne hne, upd_same], e2, reps_scal oy e3⟩⟩
    | _ => simp at oy
/-- x[k].append(e) -/
theorem dz_app (i k : Nat) {jj : Nat} (hki : ki = (k : Int)) (cx : Cxt X R W n) (hi : i ∈ nw) (hip : ∀ j ∈ pn, j ≠ i) (hnw : ∀ j ∈ nw, j = i) (hN : X.N[i]? = some x) (hv : Vis X.env.scope x) (he : PE X e (tDF R W [] fe)) (hd : (x == ("__debug__" : Str)) = false := by decide) (hcd : (x == ("__classdict__" : Str)) = false := by decide)
    (hsub : PlainIx (.Constant (.int ki) jj kpos) := by exact fun _ _ => rfl)
    (hbase : attributeBase (.Subscript (.Name x npos) (.Constant (.int ki) jj kpos) spos) "append" X.env (eval (.Subscript (.Name x npos) (.Constant (.int ki) jj kpos) spos) X.env) = eval (.Subscript (.Name x npos) (.Constant (.int ki) jj kpos) spos) X.env := by rfl)
    (hfew : ((backTo cpos (starEach [e] X.env)).all (fun x => !x.1) && (backToKw cpos (keywordEach [] X.env)).all (fun x => x.1.isSome)
      && decide (([e] : List Expr).length + ([] : List Keyword).length + (if ([] : List Keyword).isEmpty then 0 else 1) < 30)) = true := by rfl)
    (hline : (apos.endLine == cpos.line) = true := by rfl) (hst : starEach [e] X.env = (false, eval e X.env) :: starEach [] X.env := by rfl) (hplain : (backTo cpos (starEach [] X.env)).any (·.1) = false := by rfl) (hs : swapsWith (.Call (.Attribute (.Subscript (.Name x npos) (.Constant (.int ki) jj kpos) spos) "append" apos) [e] [] cpos) none pos.line X.env = pure false := by rfl) :
    PS X (.Expr (.Call (.Attribute (.Subscript (.Name x npos) (.Constant (.int ki) jj kpos) spos) "append" apos) [e] [] cpos) pos) (tDZ X R W B pn nw tw (sLateA pn i k fe)) :=
  ps_imp (ps_expr (pe_bm F.plainAttrs_list F.slot_list_append F.type_list_append mt_append (pe_ix ix_seq (pe_var hN hv hd hcd) pe_int hsub) (pa_cons he pa_nil hst) hbase hfew hline hst hplain) hs) fun E σ H h => by
  subst hki
  obtain ⟨F0, H0, Fb, Hb, F, r, s, z, p⟩ := h
  have p : PostZ X R pn nw tw B F0 H0 Fb Hb (optK ((lateAt r i k).bind rowOf) (fun xs => liftX (fe r) r fun y s => if xs.length < sizeLine ∧ okY y = true then some (.next (lateS pn i k r (.row (xs ++ [y]))), s) else none) s) E W := p
  cases el0 : (lateAt r i k).bind rowOf with
  | none => rw [el0] at p; exact p.elim
  | some xs =>
    rw [el0] at p
    obtain ⟨xx, el, er⟩ := bind_some el0
    have px := postZ_x z p
    cases xx with
    | row xs' =>
      cases er
      obtain ⟨a, p0, vs, c, ds, la⟩ := late_la z hi el rfl
      obtain ⟨ws, f0, _⟩ := la.row rfl (.lst [])
      have hp0 : H p0 = some (.lst ws) := z.w.sub.lst f0
      refine ⟨.ref a, la.at_, cont_ix (K := X.K) (la.inH z.w.sub) la.el ⟨.inl ⟨rfl, ws, SqL.of hp0⟩, F, r, s, z.w, z.pu, px.imp (fun y s1 F1 H1 w1 st1 q v fv => ?_) fun _ _ _ _ _ _ z => z⟩⟩
      obtain ⟨z1, p2⟩ := q
      have p2 : PostZ X R pn nw tw B F0 H0 Fb Hb (if xs.length < sizeLine ∧ okY y = true then some (.next (lateS pn i k r (.row (xs ++ [y]))), s1) else none) E W := p2
      by_cases hc : xs.length < sizeLine ∧ okY y = true
      · rw [if_pos hc] at p2
        obtain ⟨F2, sm2, z2, hy⟩ := give_y z1 z.st.th (by rw [hp0]; exact fun z => nomatch z) fv hc.2
        have la2 := (la.step st1.fs).step sm2
        have f1 : F1 p0 = some (.lst ws) := st1.fs _ _ f0
        have hlen : ws.length = xs.length := by
          obtain ⟨b, ws', e1, e2, _, e3⟩ := la.rx
          cases e1
          rw [f0] at e2
          cases e2
          exact e3.length
        refine ⟨p0, ws, v, rfl, rfl, w1.sub.lst f1, by rw [hlen]; exact hc.1, ?_⟩
        obtain ⟨ws2, f2, rs⟩ := la2.row rfl (.lst (ws ++ [v]))
        rw [sm2 _ _ f1] at f2
        cases f2
        have zz := late_set (x' := .row (xs ++ [y])) (o := .lst (ws ++ [v])) z2 la2 hip rfl ⟨p0, ws ++ [v], rfl, upd_same, by rw [List.length_append, List.length_singleton]; omega, rs.append ⟨v, [], rfl, hy _, rfl⟩⟩ hnw
        exact p2 _ _ _ zz
      · rw [if_neg hc] at p2; exact p2.elim
    | _ => cases er
/-- x[k][key] = e -/
theorem dz_put (i k : Nat) {jj j2 : Nat} {key : Str} {y : D} {ve : V} (hki : ki = (k : Int)) (cx : Cxt X R W n) (hi : i ∈ nw) (hip : ∀ j ∈ pn, j ≠ i) (hnw : ∀ j ∈ nw, j = i) (hN : X.N[i]? = some x) (hv : Vis X.env.scope x) (hk : key.length ≤ sizeLine) (he : PE X e (tC ve)) (hr : ∀ G, Rep R.K R.nm G y ve) (hd : (x == ("__debug__" : Str)) = false := by decide) (hcd : (x == ("__classdict__" : Str)) = false := by decide)
    (hsub : PlainIx (.Constant (.int ki) jj kpos) := by exact fun _ _ => rfl) (hs : swapsWith e (some (.Subscript (.Subscript (.Name x npos) (.Constant (.int ki) jj kpos) spos) (.Constant (.str key) j2 kp2) pos')) pos.line X.env = pure false := by rfl) :
    PS X (.Assign [.Subscript (.Subscript (.Name x npos) (.Constant (.int ki) jj kpos) spos) (.Constant (.str key) j2 kp2) pos'] e pos) (tDZ X R W B pn nw tw (sLateP pn i k key y)) := ⟨fun pins s σ H E I hq => by
  subst hki
  obtain ⟨F0, H0, Fb, Hb, F, r, st, z, p⟩ := hq
  have h := ps_dput (pos := pos) (pos' := pos') (X := X) (by have := cx.hr.units; omega) (pe_ix (pos := spos) ix_seq (pe_var (pos := npos) hN hv hd hcd) (pe_int (i := (k : Int)) (j := jj) (pos := kpos)) hsub) (pe_str (x := key) (j := j2) (pos := kp2)) he hs
  have p : PostZ X R pn nw tw B F0 H0 Fb Hb (match lateAt r i k with
    | some (.tab kvs) => if kvs.length < sizeLine then some (.next (lateS pn i k r (.tab (putD kvs (.inr key) y))), st) else none
    | _ => none) E W := p
  cases el : lateAt r i k with
  | none => rw [el] at p; exact p.elim
  | some xx =>
    rw [el] at p
    cases xx with
    | tab kvs =>
      have p : PostZ X R pn nw tw B F0 H0 Fb Hb (if kvs.length < sizeLine then some (.next (lateS pn i k r (.tab (putD kvs (.inr key) y))), st) else none) E W := p
      by_cases hc : kvs.length < sizeLine
      · rw [if_pos hc] at p
        obtain ⟨a, p0, vs, c, ds, la⟩ := late_la z hi el rfl
        obtain ⟨ws, f0, _⟩ := la.tab rfl (.lst [])
        have hlen : ws.length = kvs.length := by
          obtain ⟨b, ws', e1, e2, _, e3⟩ := la.rx
          cases e1
          rw [f0] at e2
          cases e2
          exact e3.length
        have ne := la.ne
        -- unlocked
        obtain ⟨H', I', hp', ho⟩ : ∃ H', Inv X pins σ H' s ∧ H' p0 = some (.dK ws) ∧ ∀ b, b ≠ p0 → H' b = H b := by
          rcases z.w.sub.dK f0 with q | ⟨ob, q⟩
          · exact ⟨H, I, q, fun _ _ => rfl⟩
          · exact ⟨upd H p0 (.dK ws), I.unlock q fun o' u' w => z.hfz p0 o' u' w la.new, upd_same, fun b hb => upd_ne hb⟩
        have hct : Cont H' a vs c ds := cont_mv (la.inH z.w.sub) (ho a ne)
        obtain ⟨ws2, f2, rs⟩ := la.tab rfl (.dK (putK ws (.inr key) ve))
        rw [f0] at f2
        cases f2
        have eqH : upd H' p0 (.dK (putK ws (.inr key) ve)) = upd H p0 (.dK (putK ws (.inr key) ve)) := funext fun b => by
          by_cases hb : b = p0
          · rw [hb, upd_same, upd_same]
          · rw [upd_ne hb, upd_ne hb, ho b hb]
        have zz := late_set (x' := .tab (putD kvs (.inr key) y)) (o := .dK (putK ws (.inr key) ve)) z la hip rfl ⟨p0, putK ws (.inr key) ve, rfl, upd_same, by have := putD_length kvs (.inr key) y; omega, rs.put (show kOk (.inr key) from hk) (hr _)⟩ hnw
        refine h.run pins s σ H' E I' ?_
        refine ⟨.ref a, la.at_, cont_ix (K := X.K) hct la.el ?_⟩
        refine ⟨p0, upd H' p0 (.dK (putK ws (.inr key) ve)), rfl, DPut.k (k := .inr key) hp' (by rw [hlen]; exact hc), ?_⟩
        rw [eqH]
        exact p _ _ _ zz
      · rw [if_neg hc] at p; exact p.elim
    | _ => exact p.elim⟩
end
/-! ### two lists of the very same things -/
def rTwin : R2 := fun x y H Q => ∃ a b vs, x = .ref a ∧ y = .ref b ∧ H a = some (.lst vs) ∧ H b = some (.lst vs) ∧ (∀ v ∈ vs, ∃ c : Addr, v = .ref c) ∧ Q (.bl false) H
theorem op_neT {X : Cx} (hu : X.A.units + 64 < cLine) : OpR X (compareOp .NotEq) rTwin := by
  intro pins s σ H x y v u Q I rx ry h
  obtain ⟨a, b, vs, rfl, rfl, ha, hb, hv, q⟩ := h
  cases (show v = Value.ref a from rx)
  cases (show u = Value.ref b from ry)
  obtain ⟨us, r1, p1, _⟩ := I.list (SqL.of ha)
  obtain ⟨ts, r2, p2, _⟩ := I.list (SqL.of hb)
  have hsz : us.toArray.size = ts.toArray.size := by rw [List.size_toArray, List.size_toArray, ← r1.length, ← r2.length]
  have same : ∀ {vs : List V} {us ts : List Value}, (∀ v ∈ vs, ∃ c : Addr, v = .ref c) → Vals vs us → Vals vs ts → ∀ j (h1 : j < us.length) (h2 : j < ts.length), SeqAt.EqAt X.A.in1 s us[j] ts[j] true := by
    intro vs
    induction vs with
    | nil => intro us ts _ r1 r2 j h1 h2; cases r1; exact absurd h1 (Nat.not_lt_zero j)
    | cons v vs ih =>
      intro us ts hv r1 r2 j h1 h2
      cases r1 with
      | cons a1 b1 =>
        cases r2 with
        | cons a2 b2 =>
          cases j with
          | zero =>
            obtain ⟨c, rfl⟩ := hv v List.mem_cons_self
            have e1 : _ = Value.ref c := a1
            have e2 : _ = Value.ref c := a2
            subst e1
            subst e2
            exact SeqAt.EqAt.same _
          | succ j => exact ih (fun w hw => hv w (List.mem_cons_of_mem _ hw)) b1 b2 j (Nat.lt_of_succ_lt_succ h1) (Nat.lt_of_succ_lt_succ h2)
  have k : SeqAt.RcNeAt X.A s (.ref a) (.ref b) (!((List.range us.toArray.size).all fun _ => true)) := SeqAt.RcNeAt.lists p1.isList p2.isList hsz (by omega) fun j h1 h2 => by simpa using same hv r1 r2 j (by simpa using h1) (by simpa using h2)
  rw [show ((List.range us.toArray.size).all fun _ => true) = true from List.all_eq_true.mpr fun _ _ => rfl] at k
  exact k X.prog X.w _ _ ⟨.bl false, H, I, rfl, q⟩
def tDTz (R : Reg) (W : WX) (tw : List (Nat × Nat)) (f : Sl → M R.S Bool) : TT := fun σ H Q => ∃ F Fb r s, Wd R F H s ∧ Pu R [] F σ r ∧ Same Fb F ∧ (∀ q ∈ tw, Twin Fb σ q.1 q.2) ∧ Post R F H (f r s) (fun b _ _ H' => Q b H') (fun x _ F' H' => ∀ cls dd, RepX R.K R.nm F' x cls dd → W cls dd σ H')
def isTupD : D → Bool
  | .tup _ => true
  | _ => false
/-- y = list(x), then the zone -/
def sZoneT {S : Type} (i j : Nat) (nw : List Nat) (f : Sl → Mo S) : Sl → Mo S := fun r s => match getS r i with
  | some (.row xs) => if xs.all isTupD = true ∧ nw.all (fun i => (getS r i).isNone) = true ∧ j ∉ nw then f (r.set j (some (.row xs))) s else none
  | _ => none
section
variable {X : Cx} {R : Reg} {W : WX} {B pn nw : List Nat} {tw : List (Nat × Nat)} {ss : List Stmt} {f g : Sl → Mo R.S} {c c' : Sl → M R.S Bool} {a b t : Expr} {rest : List Expr} {pos p1 p2 : Pos} {i j n : Nat} {x y : Str}
theorem dtz_of (h : PT X t (tDT R W [] c)) : PT X t (tDTz R W tw c) := pt_imp h fun σ H Q ⟨F, Fb, r, s, w, pu, _, _, p⟩ => ⟨F, r, s, w, pu, p⟩
theorem dwz_or1 (ha : PT X a (tDTz R W tw c)) : PW X (.BoolOp .Or [a] pos) (tDTz R W tw c) := pw_imp (pw_or1 ha) fun σ H Q h => h
theorem dwz_or (ha : PT X a (tDT R W [] c)) (hb : PW X (.BoolOp .Or (b :: rest) pos) (tDTz R W tw c')) : PW X (.BoolOp .Or (a :: b :: rest) pos) (tDTz R W tw (tOrD c c')) := pw_imp (pw_or (dtz_of (tw := tw) ha) hb) fun σ H Q h => by
  obtain ⟨F, Fb, r, s, w, pu, sm, ht, p⟩ := h
  refine ⟨F, Fb, r, s, w, pu, sm, ht, p.bnd.imp (fun k s1 F1 H1 w1 st1 p1 => ?_) fun _ _ _ _ _ _ z => z⟩
  cases k with
  | true =>
    have p1 : Post R F1 H1 (ret true s1) (fun b _ _ H' => Q b H') (fun x _ F' H' => ∀ cls dd, RepX R.K R.nm F' x cls dd → W cls dd σ H') := p1
    exact iteT (p1.ret w1)
  | false => exact iteF ⟨F1, Fb, r, s1, w1, pu.mono st1.fs, sm.trans st1.fs, ht, p1⟩
theorem dtz_ne {n1 n2 : Pos} (hq : (i, j) ∈ tw) (cx : Cxt X R W n) (h1 : X.N[i]? = some x) (v1 : Vis X.env.scope x) (h2 : X.N[j]? = some y) (v2 : Vis X.env.scope y) (hd1 : (x == ("__debug__" : Str)) = false := by decide) (hc1 : (x == ("__classdict__" : Str)) = false := by decide) (hd2 : (y == ("__debug__" : Str)) = false := by decide) (hc2 : (y == ("__classdict__" : Str)) = false := by decide)
    (hm : behindInMarks .NotEq (.Name y n2) = false := by rfl) : PT X (.Compare (.Name x n1) [.NotEq] [.Name y n2] pos) (tDTz R W tw (fun _ => ret false)) :=
  pt_imp (pt_cmpR (op_neT (by have := cx.hr.units; omega)) (pe_var h1 v1 hd1 hc1) (pe_var h2 v2 hd2 hc2) hm) fun σ H Q h => by
    obtain ⟨F, Fb, r, s, w, pu, sm, ht, p⟩ := h
    obtain ⟨a, b, vs, e1, e2, f1, f2, hv⟩ := ht _ hq
    exact ⟨_, e1, _, e2, a, b, vs, rfl, rfl, w.sub.lst (sm _ _ f1), w.sub.lst (sm _ _ f2), hv, false, rfl, p F H w Stp.refl⟩
theorem dz_ifT {sa sb : List Stmt} (hc : PT X t (tDTz R W tw c)) (ha : PSs X sa (tDZ X R W B pn nw tw f)) (hb : PSs X sb (tDZ X R W B pn nw tw g)) : PS X (.If t sa sb pos) (tDZ X R W B pn nw tw (sIf c f g)) := ps_imp (ps_if hc ha hb) fun E σ H h => by
  obtain ⟨F0, H0, Fb, Hb, F, r, s, z, p⟩ := h
  refine ⟨F, Fb, r, s, z.w, z.pu, z.st.fs, fun q hq => (z.tws q hq).2.2, (postZ_x z p).imp (fun k s1 F1 H1 w1 st1 q => ?_) fun _ _ _ _ _ _ z => z⟩
  obtain ⟨z2, p2⟩ := q
  cases k with
  | true => rw [if_pos rfl] at p2 ⊢; exact ⟨F0, H0, Fb, Hb, F1, r, s1, z2, p2⟩
  | false => rw [if_neg Bool.false_ne_true] at p2 ⊢; exact ⟨F0, H0, Fb, Hb, F1, r, s1, z2, p2⟩
theorem dss_zoneT (pn nw : List Nat) (i j : Nat) {lp xp cp pos' : Pos} (cx : Cxt X R W n) (hij : i ≠ j) (hip : i ∈ pn) (hjp : j ∈ pn) (hN : X.N[i]? = some x) (hv : Vis X.env.scope x) (hNj : X.N[j]? = some y) (hy : Loc X.env.scope y) (hg : Gl X "list") (hm : X.mg "list" = none) (h : PSs X ss (tDZ X R W B pn nw [(i, j)] f)) (hd : (x == ("__debug__" : Str)) = false := by decide) (hcd : (x == ("__classdict__" : Str)) = false := by decide)
    (he : starEach [.Name x xp] X.env = (false, eval (.Name x xp) X.env) :: starEach [] X.env := by rfl) (hpl : (backTo cp (starEach [] X.env)).any (·.1) = false := by rfl) (hs : swapsWith (.Call (.Name "list" lp) [.Name x xp] [] cp) (some (.Name y pos')) pos.line X.env = pure false := by rfl) (hf : X.fn y = true ∨ X.env.scope.names.lookup y = some .local := by first | exact .inl rfl | exact .inr rfl | assumption) :
    PSs X (.Assign [.Name y pos'] (.Call (.Name "list" lp) [.Name x xp] [] cp) pos :: ss) (tDS R W .f B [] [] (sZoneT i j nw f)) := by
  have h1 := ps_set (pos := pos) (pos' := pos') (X := X) cx.nd hNj hy (pe_callTy (pos := cp) (p := lp) call_list_of hg hm (by decide +kernel) (pa_cons (pe_var (pos := xp) hN hv hd hcd) pa_nil he) (by decide) (by decide) he hpl) hs hf
  have h2 := pss_cons h1 h
  refine ⟨fun pins s σ H D I hq => h2.run pins s σ H D I ?_⟩
  obtain ⟨F0, H0, F, r, s', w, st, sl, p⟩ := hq
  have p : PostS R .f F0 H0 (match getS r i with | some (.row xs) => if xs.all isTupD = true ∧ nw.all (fun i => (getS r i).isNone) = true ∧ j ∉ nw then f (r.set j (some (.row xs))) s' else none | _ => none) D W B [] := p
  cases eg : getS r i with
  | none => rw [eg] at p; exact p.elim
  | some d =>
    rw [eg] at p
    cases d with
    | row xs =>
      have p : PostS R .f F0 H0 (if xs.all isTupD = true ∧ nw.all (fun i => (getS r i).isNone) = true ∧ j ∉ nw then f (r.set j (some (.row xs))) s' else none) D W B [] := p
      by_cases hn : xs.all isTupD = true ∧ nw.all (fun i => (getS r i).isNone) = true ∧ j ∉ nw
      · rw [if_pos hn] at p
        obtain ⟨v, e1, rv⟩ := sl.pu.at_ i _ (by simp) (getS_some eg)
        have rv0 := rv
        obtain ⟨a, vs, rfl, fa, hz, rr⟩ := rv
        have refs : ∀ v ∈ vs, ∃ c : Addr, v = .ref c := fun v hvm => by
          obtain ⟨k, hk⟩ := List.getElem?_of_mem hvm
          obtain ⟨d, hd1, hd2⟩ := rr.get' hk
          have := List.all_eq_true.mp hn.1 d (List.mem_of_getElem? hd1)
          cases d with
          | tup ds => obtain ⟨c, _, e, _⟩ := hd2; exact ⟨c, e⟩
          | _ => cases this
        refine ⟨.ref a, e1, a, vs, rfl, .inl (SqL.of (w.sub.lst fa)), fun q hq => ?_⟩
        have hF : F q = none := w.free hq
        have w2 : Wd R (upd F q (.lst vs)) (upd H q (.lst vs)) s' := w.new _ hq
        have st2 : Stp R F H (upd F q (.lst vs)) (upd H q (.lst vs)) := Stp.new _ hq hF
        have ne : a ≠ q := fun c => by rw [c, hF] at fa; cases fa
        have rl : Rep R.K R.nm (upd F q (.lst vs)) (.row xs) (.ref q) := ⟨q, vs, rfl, upd_same, hz, rr.mono st2.fs⟩
        have pu2 := set_some_pu (i := j) (sl.pu.mono st2.fs) rl
        have hjl : j < σ.length ∨ ¬ j < σ.length := Nat.lt_or_ge j σ.length |>.imp id Nat.not_lt.mpr
        refine ⟨F0, H0, upd F q (.lst vs), upd H q (.lst vs), upd F q (.lst vs), r.set j (some (.row xs)), s', ⟨fun b o u e => ?_, st.trans st2, w2.sub, w2, Stp.refl, pu2, fun k _ d e => pu2.at_ k d (by simp) e, fun q2 hq2 => ?_, fun k hk d e => ?_⟩, ?_⟩
        · have hb : H b ≠ none := by rw [I.base.frzs b o u e]; exact fun z => nomatch z
          by_cases hbq : b = q
          · rw [hbq] at hb; exact absurd hq hb
          · rw [upd_ne hbq]; exact hb
        · rw [List.mem_singleton.mp hq2]
          refine ⟨hip, hjp, a, q, vs, by rw [List.getElem?_set_ne fun c => hij c.symm]; exact e1, ?_, by rw [upd_ne ne]; exact fa, upd_same, refs⟩
          exact List.getElem?_set_self (by
            have := (List.getElem?_eq_some_iff.mp hNj).1
            exact Nat.lt_of_lt_of_le this (by rw [I.len]; exact Nat.le_refl _))
        · have hkj : j ≠ k := fun c => hn.2.2 (by rw [c]; exact hk)
          rw [List.getElem?_set_ne hkj] at e
          have := List.all_eq_true.mp hn.2.1 k hk
          unfold getS at this
          rw [e] at this; cases this
        · cases e : f (r.set j (some (.row xs))) s' with
          | none => rw [e] at p; exact p
          | some q =>
            obtain ⟨fl, s2⟩ := q
            rw [e] at p
            cases fl with
            | next r' => exact fun σ' F' H' z => p σ' F' H' z.w (z.st0.trans z.st) (slots_nil z.pu)
            | rt d => exact p
            | brk r' => exact p
            | cnt r' => exact p
            | thr x r' => exact p
      · rw [if_neg hn] at p; exact p.elim
    | _ => exact p.elim
end
end Nw
set_option Elab.async false
set_option linter.all false
set_option maxRecDepth 100000
set_option maxHeartbeats 4000000
namespace Nw
open PySem PySem.Spec L2
def top (i : Nat) : Stmt := PySem.Challenge.pw_nestways_k70_whole_sheets.main.body.getD i (.Pass ⟨0, 0, 0, 0⟩)
abbrev s_kind_of : Stmt := top 12
abbrev s_is_sign : Stmt := top 13
abbrev s_is_word : Stmt := top 14
abbrev s_is_thing : Stmt := top 15
abbrev s_inner_things : Stmt := top 16
abbrev s_look_thing : Stmt := top 17
abbrev s_is_same : Stmt := top 18
abbrev s_copied : Stmt := top 19
abbrev s_laid : Stmt := top 21
abbrev s_merged : Stmt := top 22
abbrev s_has_none : Stmt := top 23
abbrev s_sheet_for : Stmt := top 24
abbrev s_sheet_between : Stmt := top 25
abbrev s__law_cell : Stmt := top 27
abbrev s__law_mix : Stmt := top 28
abbrev s__law_draw : Stmt := top 29
abbrev s__law_pick : Stmt := top 30
abbrev s__law_refusal : Stmt := top 31
abbrev s__law_kind : Stmt := top 32
abbrev s__law_same : Stmt := top 33
abbrev s__law_copy : Stmt := top 34
abbrev s__law_word : Stmt := top 35
abbrev s__law_leaf : Stmt := top 36
abbrev s__law_some : Stmt := top 37
abbrev s__law_laid : Stmt := top 38
abbrev s__law_can : Stmt := top 39
abbrev s__law_told : Stmt := top 40
abbrev s_law : Stmt := top 41
structure Den where
  kind_of : List D → M Unit D
  is_sign : List D → M Unit D
  is_word : List D → M Unit D
  is_thing : List D → M Unit D
  inner_things : List D → M Unit D
  look_thing : List D → M Unit D
  is_same : List D → M Unit D
  copied : List D → M Unit D
  laid : List D → M Unit D
  merged : List D → M Unit D
  has_none : List D → M Unit D
  sheet_for : List D → M Unit D
  sheet_between : List D → M Unit D
  _law_cell : List D → M Unit D
  _law_mix : List D → M Unit D
  _law_draw : List D → M Nat D
  _law_pick : List D → M Nat D
  _law_refusal : List D → M Unit D
  _law_kind : List D → M Unit D
  _law_same : List D → M Unit D
  _law_copy : List D → M Unit D
  _law_word : List D → M Nat D
  _law_leaf : List D → M Nat D
  _law_some : List D → M Nat D
  _law_laid : List D → M Unit D
  _law_can : List D → M Unit D
  _law_told : List D → M Unit D
def b_kind_of (d : Den) : Sl → Mo Unit := (sSeq (sIf (dTst (dUn (isND false) (dVar 0)) isBl) (sRet (dC (.str "none"))) sNil)
    (sSeq (sIf (dTst (dUn (isiD "bool") (dVar 0)) truD) (sRet (dC (.str "truth"))) sNil)
    (sSeq (sIf (dTst (dUn (isiD "int") (dVar 0)) truD) (sRet (dC (.str "number"))) sNil)
    (sSeq (sIf (dTst (dUn (isiD "str") (dVar 0)) truD) (sRet (dC (.str "word"))) sNil)
    (sRet (dIf (dTst (dUn (isiD "list") (dVar 0)) truD) (dC (.str "row")) (dC (.str "table"))))))))
def b_is_sign (d : Den) : Sl → Mo Unit := (sRet (dAnd (dChain leD ltD (dC (.int 32)) (dAll ordD (dCons (dVar 0) dNil)) (dC (.int 127))) (dOp neD (dAll ordD (dCons (dVar 0) dNil)) (dC (.int 37)))))
def b_is_word (d : Den) : Sl → Mo Unit := (sRet (dAnd (dOp leD (dAll lenD (dCons (dVar 0) dNil)) (dC (.int 60))) (dAll allD (dCons (dLc (dItems (dVar 0)) (tgN 1) dYes (dCall 1 (fun ds => up (d.is_sign ds)) (dCons (dVar 1) dNil))) dNil))))
def b_is_thing (d : Den) : Sl → Mo Unit := (sSeq (sAsg (tgN 2) (dCall 1 (fun ds => up (d.kind_of ds)) (dCons (dVar 0) dNil)))
    (sSeq (sIf (dTst (dOp eqD (dVar 2) (dC (.str "number"))) isBl) (sRet (dOp leD (dAll absD (dCons (dVar 0) dNil)) (dC (.int 999999999999999)))) sNil)
    (sSeq (sIf (dTst (dOp eqD (dVar 2) (dC (.str "word"))) isBl) (sRet (dCall 1 (fun ds => up (d.is_word ds)) (dCons (dVar 0) dNil))) sNil)
    (sSeq (sIf (dTst (dOp (inD true) (dVar 2) (dAll tupD (dCons (dC (.str "row")) (dCons (dC (.str "table")) dNil)))) isBl) (sRet (dC (.bl true))) sNil)
    (sSeq (sIf (tOrD (dTst (dOp eqD (dVar 1) (dC (.int 12))) isBl) (tAndD (dTst (dOp eqD (dVar 2) (dC (.str "table"))) isBl) (tNotD (dTst (dAll allD (dCons (dLc (fun r => bnd (dVar 0 r) fun x => lift (keysD x)) (tgN 4) dYes (dCall 1 (fun ds => up (d.is_word ds)) (dCons (dVar 4) dNil))) dNil)) truD)))) (sRet (dC (.bl false))) sNil)
    (sRet (dAll allD (dCons (dLc (dItems (dCall 1 (fun ds => up (d.inner_things ds)) (dCons (dVar 0) dNil))) (tgN 3) dYes (dCall 2 (fun ds => up (d.is_thing ds)) (dCons (dVar 3) (dCons (dOp addD (dVar 1) (dC (.int 1))) dNil)))) dNil))))))))
def b_inner_things (d : Den) : Sl → Mo Unit := (sSeq (sIf (dTst (dOp eqD (dCall 1 (fun ds => up (d.kind_of ds)) (dCons (dVar 0) dNil)) (dC (.str "row"))) isBl) (sRet (dAll listD (dCons (dVar 0) dNil))) sNil)
    (sRet (dIf (dTst (dOp eqD (dCall 1 (fun ds => up (d.kind_of ds)) (dCons (dVar 0) dNil)) (dC (.str "table"))) isBl) (dLc (dItems (dUn sortKD (dVar 0))) (tgN 1) dYes (dOp ixD (dVar 0) (dVar 1))) (dAll rowD dNil))))
def b_look_thing (d : Den) : Sl → Mo Unit := (sIf (tNotD (dTst (dCall 2 (fun ds => up (d.is_thing ds)) (dCons (dVar 0) (dCons (dC (.int 0)) dNil))) truD)) (sRaise .BadThing) sNil)
def b_is_same (d : Den) : Sl → Mo Unit := (sSeq (sAsg (tgN 2) (dCall 1 (fun ds => up (d.kind_of ds)) (dCons (dVar 0) dNil)))
    (sSeq (sIf (dTst (dOp neD (dVar 2) (dCall 1 (fun ds => up (d.kind_of ds)) (dCons (dVar 1) dNil))) isBl) (sRet (dC (.bl false))) sNil)
    (sSeq (sIf (dTst (dOp eqD (dVar 2) (dC (.str "row"))) isBl) (sRet (dAnd (dOp eqD (dAll lenD (dCons (dVar 0) dNil)) (dAll lenD (dCons (dVar 1) dNil))) (dAll allD (dCons (dLc (dRange (dCons (dAll lenD (dCons (dVar 0) dNil)) dNil)) (tgN 4) dYes (dCall 2 (fun ds => up (d.is_same ds)) (dCons (dOp ixD (dVar 0) (dVar 4)) (dCons (dOp ixD (dVar 1) (dVar 4)) dNil)))) dNil)))) sNil)
    (sSeq (sIf (dTst (dOp eqD (dVar 2) (dC (.str "table"))) isBl) (sSeq (sIf (dTst (dOp neD (dUn sortKD (dVar 0)) (dUn sortKD (dVar 1))) isBl) (sRet (dC (.bl false))) sNil)
    (sRet (dAll allD (dCons (dLc (fun r => bnd (dVar 0 r) fun x => lift (keysD x)) (tgN 3) dYes (dCall 2 (fun ds => up (d.is_same ds)) (dCons (dOp ixD (dVar 0) (dVar 3)) (dCons (dOp ixD (dVar 1) (dVar 3)) dNil)))) dNil)))) sNil)
    (sRet (dOp eqD (dVar 0) (dVar 1)))))))
def b_copied (d : Den) : Sl → Mo Unit := (sSeq (sIf (dTst (dOp eqD (dCall 1 (fun ds => up (d.kind_of ds)) (dCons (dVar 0) dNil)) (dC (.str "row"))) isBl) (sRet (dLc (dItems (dVar 0)) (tgN 3) dYes (dCall 1 (fun ds => up (d.copied ds)) (dCons (dVar 3) dNil)))) sNil)
    (sSeq (sIf (dTst (dOp neD (dCall 1 (fun ds => up (d.kind_of ds)) (dCons (dVar 0) dNil)) (dC (.str "table"))) isBl) (sRet (dUn scalD (dVar 0))) sNil)
    (sSeq (sAsgO 1 (dC (.tab [])))
    (sSeq (sFor (fun r => bnd (dVar 0 r) fun x => lift (keysD x)) (tgN 2) (sOwn2 1 setTD (dVar 2) (dCall 1 (fun ds => up (d.copied ds)) (dCons (dOp ixD (dVar 0) (dVar 2)) dNil))))
    (sRetO 1)))))
def b_laid (d : Den) : Sl → Mo Unit := (sSeq (sIf (dTst (dOp neD (dCall 1 (fun ds => up (d.kind_of ds)) (dCons (dVar 1) dNil)) (dC (.str "table"))) isBl) (sRet (dCall 1 (fun ds => up (d.copied ds)) (dCons (dVar 1) dNil))) sNil)
    (sSeq (sAsg (tgN 2) (dIf (dTst (dOp eqD (dCall 1 (fun ds => up (d.kind_of ds)) (dCons (dVar 0) dNil)) (dC (.str "table"))) isBl) (dUn copyTD (dVar 0)) (dC (.tab []))))
    (sSeq (sFor (fun r => bnd (dVar 1 r) fun x => lift (keysD x)) (tgN 3) (sIf (dTst (dUn (isND false) (dOp ixD (dVar 1) (dVar 3))) isBl) (sOwn1 "dict" 2 popD2 (dVar 3)) (sOwn2 2 setTD (dVar 3) (dCall 2 (fun ds => up (d.laid ds)) (dCons (dMt "dict" get2D (dVar 2) (dCons (dVar 3) (dCons (dC .non) dNil))) (dCons (dOp ixD (dVar 1) (dVar 3)) dNil))))))
    (sRet (dVar 2)))))
def b_merged (d : Den) : Sl → Mo Unit := (sSeq (sDrop (dCall 1 (fun ds => up (d.look_thing ds)) (dCons (dVar 0) dNil)))
    (sSeq (sDrop (dCall 1 (fun ds => up (d.look_thing ds)) (dCons (dVar 1) dNil)))
    (sRet (dCall 1 (fun ds => up (d.copied ds)) (dCons (dCall 2 (fun ds => up (d.laid ds)) (dCons (dVar 0) (dCons (dVar 1) dNil))) dNil)))))
def b_has_none (d : Den) : Sl → Mo Unit := (sSeq (sIf (dTst (dOp neD (dCall 1 (fun ds => up (d.kind_of ds)) (dCons (dVar 0) dNil)) (dC (.str "table"))) isBl) (sRet (dC (.bl false))) sNil)
    (sRet (dAll anyD (dCons (dLc (fun r => bnd (dVar 0 r) fun x => lift (valsD x)) (tgN 1) dYes (dOr (dUn (isND false) (dVar 1)) (dCall 1 (fun ds => up (d.has_none ds)) (dCons (dVar 1) dNil)))) dNil))))
def b_sheet_for (d : Den) : Sl → Mo Unit := (sSeq (sIf (tOrD (dTst (dOp neD (dCall 1 (fun ds => up (d.kind_of ds)) (dCons (dVar 1) dNil)) (dC (.str "table"))) isBl) (dTst (dOp neD (dCall 1 (fun ds => up (d.kind_of ds)) (dCons (dVar 0) dNil)) (dC (.str "table"))) isBl)) (sRet (dIf (dTst (dCall 1 (fun ds => up (d.has_none ds)) (dCons (dVar 1) dNil)) truD) (dC .non) (dAll tupD (dCons (dCall 1 (fun ds => up (d.copied ds)) (dCons (dVar 1) dNil)) dNil)))) sNil)
    (sSeq (sAsgO 2 (dC (.tab [])))
    (sSeq (sFor (fun r => bnd (dVar 0 r) fun x => lift (keysD x)) (tgN 3) (sIf (dTst (dOp (inD true) (dVar 3) (dVar 1)) isBl) (sOwn2 2 setTD (dVar 3) (dC .non)) sNil))
    (sSeq (sFor (fun r => bnd (dVar 1 r) fun x => lift (keysD x)) (tgN 3) (sIf (tOrD (dTst (dOp (inD true) (dVar 3) (dVar 0)) isBl) (tNotD (dTst (dCall 2 (fun ds => up (d.is_same ds)) (dCons (dOp ixD (dVar 0) (dVar 3)) (dCons (dOp ixD (dVar 1) (dVar 3)) dNil))) truD))) (sSeq (sAsg (tgN 4) (dIf (dTst (dUn (isND false) (dOp ixD (dVar 1) (dVar 3))) isBl) (dC .non) (dCall 2 (fun ds => up (d.sheet_for ds)) (dCons (dMt "dict" get2D (dVar 0) (dCons (dVar 3) (dCons (dC .non) dNil))) (dCons (dOp ixD (dVar 1) (dVar 3)) dNil)))))
    (sSeq (sIf (dTst (dUn (isND false) (dVar 4)) isBl) (sRet (dC .non)) sNil)
    (sOwn2 2 setTD (dVar 3) (dOp ixD (dVar 4) (dC (.int 0)))))) sNil))
    (sRet (dAll tupD (dCons (dVar 2) dNil)))))))
def b_sheet_between (d : Den) : Sl → Mo Unit := (sSeq (sDrop (dCall 1 (fun ds => up (d.look_thing ds)) (dCons (dVar 0) dNil)))
    (sSeq (sDrop (dCall 1 (fun ds => up (d.look_thing ds)) (dCons (dVar 1) dNil)))
    (sRet (dCall 2 (fun ds => up (d.sheet_for ds)) (dCons (dVar 0) (dCons (dVar 1) dNil))))))
def b__law_cell (d : Den) : Sl → Mo Unit := (sSeq (sIf (dTst (dVar 0) truD) (sRet (dOp ixD (dVar 0) (dOp modD (dVar 1) (dAll lenD (dCons (dVar 0) dNil))))) sNil)
    (sRet (dC (.int 0))))
def b__law_mix (d : Den) : Sl → Mo Unit := (sSeq (sAsg (tgN 2) (dOp modD (dOp addD (dCall 2 (fun ds => up (d._law_cell ds)) (dCons (dVar 0) (dCons (dVar 1) dNil))) (dOp mulD (dC (.int 104729)) (dOp addD (dVar 1) (dC (.int 1))))) (dC (.int 4294967291))))
    (sSeq (sAsg (tgN 2) (dOp modD (dOp powD (dVar 2) (dC (.int 5))) (dC (.int 4294967279))))
    (sRet (dOp modD (dOp addD (dOp mulD (dOp fdivD (dVar 2) (dC (.int 64))) (dC (.int 69621))) (dVar 2)) (dC (.int 4294967231))))))
def b__law_draw (d : Den) : Sl → Mo Nat := (sSeq (sTown 1)
    (sRet (dOp modD (dOp fdivD (dCall 2 (fun ds => up (d._law_mix ds)) (dCons (dVar 0) (dCons (dTown 1) dNil))) (dC (.int 8))) (dVar 2))))
def b__law_pick (d : Den) : Sl → Mo Nat := (sRet (dOp ixD (dVar 2) (dCall 3 d._law_draw (dCons (dVar 0) (dCons (dVar 1) (dCons (dAll lenD (dCons (dVar 2) dNil)) dNil))))))
def b__law_refusal (d : Den) : Sl → Mo Unit := (sSeq (sIf (dTst (dUn (isND false) (dVar 0)) isBl) (sRet (dAll tupD (dCons (dC (.str "ok")) dNil))) sNil)
    (sSeq (sAsg (tgN 1) (dAll rowD (dCons (dUn (isxD [.NestError, .BadThing, .BadText, .BadWay, .NoWay, .NoGo, .Nothing] .BadThing) (dVar 0)) (dCons (dUn (isxD [.NestError, .BadThing, .BadText, .BadWay, .NoWay, .NoGo, .Nothing] .BadText) (dVar 0)) (dCons (dUn (isxD [.NestError, .BadThing, .BadText, .BadWay, .NoWay, .NoGo, .Nothing] .BadWay) (dVar 0)) dNil)))))
    (sSeq (sAsg (tgN 1) (dOp addD (dVar 1) (dAll rowD (dCons (dUn (isxD [.NestError, .BadThing, .BadText, .BadWay, .NoWay, .NoGo, .Nothing] .NoWay) (dVar 0)) (dCons (dUn (isxD [.NestError, .BadThing, .BadText, .BadWay, .NoWay, .NoGo, .Nothing] .NoGo) (dVar 0)) (dCons (dUn (isxD [.NestError, .BadThing, .BadText, .BadWay, .NoWay, .NoGo, .Nothing] .Nothing) (dVar 0)) dNil))))))
    (sSeq (sIf (tOrD (dTst (dOp neD (dMt "list" countD (dVar 1) (dCons (dC (.bl true)) dNil)) (dC (.int 1))) isBl) (tNotD (dTst (dUn (isvD [.NestError, .BadThing, .BadText, .BadWay, .NoWay, .NoGo, .Nothing]) (dVar 0)) truD))) (sRet (dAll tupD (dCons (dC (.str "wrong")) dNil))) sNil)
    (sRet (dAll tupD (dCons (dC (.str "refused")) (dCons (dOp ixD (dAll rowD (dCons (dC (.str "thing")) (dCons (dC (.str "text")) (dCons (dC (.str "way")) (dCons (dC (.str "nothing there")) (dCons (dC (.str "go")) (dCons (dC (.str "nothing")) dNil))))))) (dMt "list" indexD (dVar 1) (dCons (dC (.bl true)) dNil))) dNil))))))))
def b__law_kind (d : Den) : Sl → Mo Unit := (sSeq (sIf (tOrD (dTst (dUn (isND false) (dVar 0)) isBl) (dTst (dUn (isiD "bool") (dVar 0)) truD)) (sRet (dIf (dTst (dUn (isND false) (dVar 0)) isBl) (dC (.int 0)) (dC (.int 1)))) sNil)
    (sSeq (sIf (dTst (dUn (isiD "int") (dVar 0)) truD) (sRet (dC (.int 2))) sNil)
    (sSeq (sIf (dTst (dUn (isiD "str") (dVar 0)) truD) (sRet (dC (.int 3))) sNil)
    (sRet (dIf (dTst (dUn (isiD "list") (dVar 0)) truD) (dC (.int 4)) (dIf (dTst (dUn (isiD "dict") (dVar 0)) truD) (dC (.int 5)) (dC (.int 6))))))))
def b__law_same (d : Den) : Sl → Mo Unit := (sSeq (sAsg (tgN 2) (dCall 1 (fun ds => up (d._law_kind ds)) (dCons (dVar 0) dNil)))
    (sSeq (sIf (dTst (dOp neD (dVar 2) (dCall 1 (fun ds => up (d._law_kind ds)) (dCons (dVar 1) dNil))) isBl) (sRet (dC (.bl false))) sNil)
    (sSeq (sIf (dTst (dOp eqD (dVar 2) (dC (.int 4))) isBl) (sRet (dAnd (dOp eqD (dAll lenD (dCons (dVar 0) dNil)) (dAll lenD (dCons (dVar 1) dNil))) (dAll allD (dCons (dLc (dRange (dCons (dAll lenD (dCons (dVar 0) dNil)) dNil)) (tgN 4) dYes (dCall 2 (fun ds => up (d._law_same ds)) (dCons (dOp ixD (dVar 0) (dVar 4)) (dCons (dOp ixD (dVar 1) (dVar 4)) dNil)))) dNil)))) sNil)
    (sSeq (sIf (dTst (dOp eqD (dVar 2) (dC (.int 5))) isBl) (sSeq (sIf (dTst (dOp neD (dUn sortKD (dVar 0)) (dUn sortKD (dVar 1))) isBl) (sRet (dC (.bl false))) sNil)
    (sRet (dAll allD (dCons (dLc (fun r => bnd (dVar 0 r) fun x => lift (keysD x)) (tgN 3) dYes (dCall 2 (fun ds => up (d._law_same ds)) (dCons (dOp ixD (dVar 0) (dVar 3)) (dCons (dOp ixD (dVar 1) (dVar 3)) dNil)))) dNil)))) sNil)
    (sRet (dAnd (dOp ltD (dVar 2) (dC (.int 6))) (dOp eqD (dVar 0) (dVar 1))))))))
def b__law_copy (d : Den) : Sl → Mo Unit := (sSeq (sIf (dTst (dUn (isiD "list") (dVar 0)) truD) (sRet (dLc (dItems (dVar 0)) (tgN 3) dYes (dCall 1 (fun ds => up (d._law_copy ds)) (dCons (dVar 3) dNil)))) sNil)
    (sSeq (sIf (tNotD (dTst (dUn (isiD "dict") (dVar 0)) truD)) (sRet (dVar 0)) sNil)
    (sSeq (sAsgO 1 (dC (.tab [])))
    (sSeq (sFor (fun r => bnd (dVar 0 r) fun x => lift (keysD x)) (tgN 2) (sOwn2 1 setTD (dVar 2) (dCall 1 (fun ds => up (d._law_copy ds)) (dCons (dOp ixD (dVar 0) (dVar 2)) dNil))))
    (sRet (dVar 1))))))
def b__law_word (d : Den) : Sl → Mo Nat := (sSeq (sAsg (tgN 2) (dC (.str " !\"#$&'()*+,-./0123456789:;<=>?@AZ[\\]^_abcdefghijklmnopqrstuvwxyz{|}~")))
    (sSeq (sIf (dTst (dOp eqD (dCall 3 d._law_draw (dCons (dVar 0) (dCons (dVar 1) (dCons (dC (.int 2)) dNil)))) (dC (.int 0))) isBl) (sRet (dCall 3 d._law_pick (dCons (dVar 0) (dCons (dVar 1) (dCons (dAll rowD (dCons (dC (.str "")) (dCons (dC (.str "a")) (dCons (dC (.str "b")) (dCons (dC (.str "0")) (dCons (dC (.str "1")) (dCons (dC (.str "-")) (dCons (dC (.str "~1")) (dCons (dC (.str "a/b")) (dCons (dC (.str "\"")) (dCons (dC (.str "\\")) (dCons (dC (.str "01")) dNil)))))))))))) dNil))))) sNil)
    (sSeq (sAsg (tgN 3) (dC (.str "")))
    (sSeq (sFor (dRange (dCons (dCall 3 d._law_pick (dCons (dVar 0) (dCons (dVar 1) (dCons (dAll rowD (dCons (dC (.int 1)) (dCons (dC (.int 2)) (dCons (dC (.int 5)) (dCons (dC (.int 9)) dNil))))) dNil)))) dNil)) (tgN 4) (sAsg (tgN 3) (dOp addD (dVar 3) (dOp ixD (dVar 2) (dCall 3 d._law_draw (dCons (dVar 0) (dCons (dVar 1) (dCons (dAll lenD (dCons (dVar 2) dNil)) dNil))))))))
    (sRet (dVar 3))))))
def b__law_leaf (d : Den) : Sl → Mo Nat := (sSeq (sAsg (tgN 2) (dCall 3 d._law_draw (dCons (dVar 0) (dCons (dVar 1) (dCons (dC (.int 8)) dNil)))))
    (sSeq (sIf (dTst (dOp ltD (dVar 2) (dC (.int 3))) isBl) (sRet (dOp ixD (dAll rowD (dCons (dC .non) (dCons (dC (.bl true)) (dCons (dC (.bl false)) dNil)))) (dVar 2))) sNil)
    (sSeq (sIf (dTst (dOp ltD (dVar 2) (dC (.int 6))) isBl) (sSeq (sAsg (tgN 3) (dAll rowD (dCons (dC (.int 0)) (dCons (dC (.int 1)) (dCons (dUn negD (dC (.int 1))) (dCons (dC (.int 10)) (dCons (dOp subD (dCall 3 d._law_draw (dCons (dVar 0) (dCons (dVar 1) (dCons (dC (.int 1000000)) dNil)))) (dC (.int 500000))) (dCons (dC (.int 999999999999999)) (dCons (dUn negD (dC (.int 999999999999999))) dNil)))))))))
    (sRet (dCall 3 d._law_pick (dCons (dVar 0) (dCons (dVar 1) (dCons (dVar 3) dNil)))))) sNil)
    (sRet (dCall 2 d._law_word (dCons (dVar 0) (dCons (dVar 1) dNil)))))))
def b__law_some (d : Den) : Sl → Mo Nat := (sSeq (sAsg (tgN 3) (dIf (dTst (dOp gtD (dVar 2) (dC (.int 0))) isBl) (dCall 3 d._law_draw (dCons (dVar 0) (dCons (dVar 1) (dCons (dC (.int 8)) dNil)))) (dC (.int 0))))
    (sSeq (sIf (dTst (dOp ltD (dVar 3) (dC (.int 2))) isBl) (sRet (dCall 3 d._law_pick (dCons (dVar 0) (dCons (dVar 1) (dCons (dAll rowD (dCons (dC .non) (dCons (dC .non) (dCons (dC (.int 1)) (dCons (dC (.bl true)) (dCons (dC (.str "x")) (dCons (dCall 2 d._law_leaf (dCons (dVar 0) (dCons (dVar 1) dNil))) dNil))))))) dNil))))) sNil)
    (sSeq (sIf (dTst (dOp eqD (dVar 3) (dC (.int 2))) isBl) (sRet (dLc (dRange (dCons (dCall 3 d._law_draw (dCons (dVar 0) (dCons (dVar 1) (dCons (dC (.int 3)) dNil)))) dNil)) (tgN 6) dYes (dCall 3 d._law_some (dCons (dVar 0) (dCons (dVar 1) (dCons (dOp subD (dVar 2) (dC (.int 1))) dNil)))))) sNil)
    (sSeq (sAsgO 4 (dC (.tab [])))
    (sSeq (sFor (dItems (dAll rowD (dCons (dC (.str "a")) (dCons (dC (.str "b")) (dCons (dC (.str "c")) (dCons (dC (.str "")) dNil)))))) (tgN 5) (sIf (dTst (dOp eqD (dCall 3 d._law_draw (dCons (dVar 0) (dCons (dVar 1) (dCons (dC (.int 2)) dNil)))) (dC (.int 0))) isBl) (sOwn2 4 setTD (dVar 5) (dCall 3 d._law_some (dCons (dVar 0) (dCons (dVar 1) (dCons (dOp subD (dVar 2) (dC (.int 1))) dNil))))) sNil))
    (sRet (dVar 4)))))))
def b__law_laid (d : Den) : Sl → Mo Unit := (sSeq (sIf (tNotD (dTst (dUn (isiD "dict") (dVar 1)) truD)) (sRet (dCall 1 (fun ds => up (d._law_copy ds)) (dCons (dVar 1) dNil))) sNil)
    (sSeq (sAsgO 2 (dC (.tab [])))
    (sSeq (sIf (dTst (dUn (isiD "dict") (dVar 0)) truD) (sFor (fun r => bnd (dVar 0 r) fun x => lift (keysD x)) (tgN 3) (sIf (dTst (dOp (inD true) (dVar 3) (dVar 1)) isBl) (sOwn2 2 setTD (dVar 3) (dCall 1 (fun ds => up (d._law_copy ds)) (dCons (dOp ixD (dVar 0) (dVar 3)) dNil))) sNil)) sNil)
    (sSeq (sFor (fun r => bnd (dVar 1 r) fun x => lift (keysD x)) (tgN 3) (sIf (dTst (dUn (isND true) (dOp ixD (dVar 1) (dVar 3))) isBl) (sSeq (sAsg (tgN 4) (dIf (tAndD (dTst (dUn (isiD "dict") (dVar 0)) truD) (dTst (dOp (inD false) (dVar 3) (dVar 0)) isBl)) (dOp ixD (dVar 0) (dVar 3)) (dC .non)))
    (sOwn2 2 setTD (dVar 3) (dCall 2 (fun ds => up (d._law_laid ds)) (dCons (dVar 4) (dCons (dOp ixD (dVar 1) (dVar 3)) dNil))))) sNil))
    (sRet (dVar 2))))))
def b__law_can (d : Den) : Sl → Mo Unit := (sSeq (sIf (tNotD (dTst (dUn (isiD "dict") (dVar 1)) truD)) (sRet (dC (.bl true))) sNil)
    (sSeq (sFor (fun r => bnd (dVar 1 r) fun x => lift (keysD x)) (tgN 2) (sSeq (sAsg (tgN 3) (dAnd (dUn (isiD "dict") (dVar 0)) (dOp (inD false) (dVar 2) (dVar 0))))
    (sSeq (sIf (tAndD (dTst (dUn (isND false) (dOp ixD (dVar 1) (dVar 2))) isBl) (tNotD (tAndD (dTst (dVar 3) truD) (dTst (dUn (isND false) (dOp ixD (dVar 0) (dVar 2))) isBl)))) (sRet (dC (.bl false))) sNil)
    (sIf (tAndD (dTst (dUn (isND true) (dOp ixD (dVar 1) (dVar 2))) isBl) (tNotD (dTst (dCall 2 (fun ds => up (d._law_can ds)) (dCons (dIf (dTst (dVar 3) truD) (dOp ixD (dVar 0) (dVar 2)) (dC .non)) (dCons (dOp ixD (dVar 1) (dVar 2)) dNil))) truD))) (sRet (dC (.bl false))) sNil))))
    (sRet (dC (.bl true)))))
def b__law_told (d : Den) : Sl → Mo Unit := (sSeq (sAsg (tgN 3) (dC .non))
    (sSeq (sAsg (tgN 4) (dUn scalD (dC .non)))
    (sSeq (sTryHO [.NestError, .BadThing, .BadText, .BadWay, .NoWay, .NoGo, .Nothing] .NestError 5 3 [4] (sAsg (tgN 4) (dIf (dTst (dOp eqD (dVar 0) (dC (.int 0))) isBl) (dCall 2 (fun ds => up (d.merged ds)) (dCons (dVar 1) (dCons (dVar 2) dNil))) (dUn scalD (dCall 2 (fun ds => up (d.sheet_between ds)) (dCons (dVar 1) (dCons (dVar 2) dNil)))))))
    (sIf (dTst (dUn (isND false) (dVar 3)) isBl) (sRetL1 4) (sRet (dUn elD (dCall 1 (fun ds => up (d._law_refusal ds)) (dCons (dVar 3) dNil))))))))
def b_law (d : Den) : Sl → Mo Nat := (sSeq (sAsg (tgN 2) (dCall 3 d._law_some (dCons (dVar 0) (dCons (dVar 1) (dCons (dC (.int 3)) dNil)))))
    (sSeq (sAsg (tgN 3) (dCall 3 d._law_some (dCons (dVar 0) (dCons (dVar 1) (dCons (dC (.int 3)) dNil)))))
    (sSeq (sAsg (tgN 4) (dCall 3 d._law_some (dCons (dVar 0) (dCons (dVar 1) (dCons (dC (.int 3)) dNil)))))
    (sSeq (sIf (dTst (dOp eqD (dCall 3 d._law_draw (dCons (dVar 0) (dCons (dVar 1) (dCons (dC (.int 2)) dNil)))) (dC (.int 0))) isBl) (sAsg (tgN 4) (dCall 2 (fun ds => up (d._law_laid ds)) (dCons (dVar 2) (dCons (dVar 4) dNil)))) sNil)
    (sSeq (sAsg (tgN 5) (dAll rowD (dCons (dCall 1 (fun ds => up (d._law_copy ds)) (dCons (dVar 2) dNil)) (dCons (dCall 1 (fun ds => up (d._law_copy ds)) (dCons (dVar 3) dNil)) (dCons (dCall 1 (fun ds => up (d._law_copy ds)) (dCons (dVar 4) dNil)) dNil)))))
    (sZone [6] (sSeq (sAsg (tgN 6) (dCall 3 (fun ds => up (d._law_told ds)) (dCons (dC (.int 0)) (dCons (dVar 2) (dCons (dVar 3) dNil)))))
    (sSeq (sAsg (tgN 7) (dCall 2 (fun ds => up (d._law_laid ds)) (dCons (dVar 2) (dCons (dVar 3) dNil))))
    (sSeq (sIf (tOrD (tNotD (dTst (dUn (isiD "list") (dVar 6)) truD)) (tOrD (tNotD (dTst (dCall 2 (fun ds => up (d._law_same ds)) (dCons (dOp ixD (dVar 6) (dC (.int 0))) (dCons (dVar 7) dNil))) truD)) (tNotD (dTst (dCall 2 (fun ds => up (d._law_same ds)) (dCons (dCall 2 (fun ds => up (d.merged ds)) (dCons (dOp ixD (dVar 6) (dC (.int 0))) (dCons (dVar 3) dNil))) (dCons (dVar 7) dNil))) truD)))) (sRet (dC (.bl false))) sNil)
    (sSeq (sIf (dTst (dUn (isiD "dict") (dOp ixD (dVar 6) (dC (.int 0)))) truD) (sLateP [0, 1, 2, 3, 4, 5] 6 0 "late" (.int 1)) sNil)
    (sOut [0, 1, 2, 3, 4, 5] (sSeq (sAsg (tgN 8) (dCall 3 (fun ds => up (d._law_told ds)) (dCons (dC (.int 1)) (dCons (dVar 2) (dCons (dVar 4) dNil)))))
    (sSeq (sIf (tOrD (tNotD (dTst (dUn (isiD "list") (dVar 8)) truD)) (dTst (dOp eqD (dUn (isND false) (dOp ixD (dVar 8) (dC (.int 0)))) (dCall 2 (fun ds => up (d._law_can ds)) (dCons (dVar 2) (dCons (dVar 4) dNil)))) isBl)) (sRet (dC (.bl false))) sNil)
    (sSeq (sIf (dTst (dUn (isND true) (dOp ixD (dVar 8) (dC (.int 0)))) isBl) (sSeq (sIf (tOrD (tNotD (dTst (dUn (isiD "tuple") (dOp ixD (dVar 8) (dC (.int 0)))) truD)) (dTst (dOp neD (dAll lenD (dCons (dOp ixD (dVar 8) (dC (.int 0))) dNil)) (dC (.int 1))) isBl)) (sRet (dC (.bl false))) sNil)
    (sIf (tNotD (dTst (dCall 2 (fun ds => up (d._law_same ds)) (dCons (dCall 2 (fun ds => up (d._law_laid ds)) (dCons (dVar 2) (dCons (dOp ixD (dOp ixD (dVar 8) (dC (.int 0))) (dC (.int 0))) dNil))) (dCons (dVar 4) dNil))) truD)) (sRet (dC (.bl false))) sNil)) sNil)
    (sSeq (sIf (tNotD (dTst (dCall 2 (fun ds => up (d._law_same ds)) (dCons (dAll rowD (dCons (dVar 2) (dCons (dVar 3) (dCons (dVar 4) dNil)))) (dCons (dVar 5) dNil))) truD)) (sRet (dC (.bl false))) sNil)
    (sSeq (sAsg (tgN 9) (dCall 3 d._law_pick (dCons (dVar 0) (dCons (dVar 1) (dCons (dAll rowD (dCons (dC (.str "\n")) (dCons (dAll dispD (dCons (dOp mulD (dC (.str "x")) (dC (.int 61))) (dCons (dC (.int 1)) dNil))) (dCons (dAll rowD (dCons (dC (.int 1000000000000000)) dNil)) dNil)))) dNil)))))
    (sSeq (sAsg (tgN 10) (dOp addD (dLc (dRange (dCons (dC (.int 2)) dNil)) (tgN 11) dYes (dCall 3 (fun ds => up (d._law_told ds)) (dCons (dVar 11) (dCons (dVar 9) (dCons (dVar 2) dNil))))) (dLc (dRange (dCons (dC (.int 2)) dNil)) (tgN 11) dYes (dCall 3 (fun ds => up (d._law_told ds)) (dCons (dVar 11) (dCons (dVar 2) (dCons (dVar 9) dNil)))))))
    (sRet (dOp eqD (dVar 10) (dOp mulD (dAll rowD (dCons (dAll tupD (dCons (dC (.str "refused")) (dCons (dC (.str "thing")) dNil))) dNil)) (dC (.int 4))))))))))))))))))))))
def step (d : Den) : Den where
  kind_of := fnD 1 (b_kind_of d)
  is_sign := fnD 1 (b_is_sign d)
  is_word := fnD 2 (b_is_word d)
  is_thing := fnD 5 (b_is_thing d)
  inner_things := fnD 2 (b_inner_things d)
  look_thing := fnD 1 (b_look_thing d)
  is_same := fnD 5 (b_is_same d)
  copied := fnD 4 (b_copied d)
  laid := fnD 4 (b_laid d)
  merged := fnD 2 (b_merged d)
  has_none := fnD 2 (b_has_none d)
  sheet_for := fnD 5 (b_sheet_for d)
  sheet_between := fnD 2 (b_sheet_between d)
  _law_cell := fnD 2 (b__law_cell d)
  _law_mix := fnD 3 (b__law_mix d)
  _law_draw := fnD 3 (b__law_draw d)
  _law_pick := fnD 3 (b__law_pick d)
  _law_refusal := fnD 2 (b__law_refusal d)
  _law_kind := fnD 1 (b__law_kind d)
  _law_same := fnD 5 (b__law_same d)
  _law_copy := fnD 4 (b__law_copy d)
  _law_word := fnD 5 (b__law_word d)
  _law_leaf := fnD 4 (b__law_leaf d)
  _law_some := fnD 7 (b__law_some d)
  _law_laid := fnD 5 (b__law_laid d)
  _law_can := fnD 4 (b__law_can d)
  _law_told := fnD 6 (b__law_told d)
def den : Nat → Den
  | 0 => ⟨gBot, gBot, gBot, gBot, gBot, gBot, gBot, gBot, gBot, gBot, gBot, gBot, gBot, gBot, gBot, gBot, gBot, gBot, gBot, gBot, gBot, gBot, gBot, gBot, gBot, gBot, gBot⟩
  | k + 1 => step (den k)
structure Hyp (P : Program) (w : World) (K : PySem.W.Frag) (mg : Str → Option Value) (base : Heap) (k : Nat) (d : Den) : Prop where
  kind_of : Has false P w K mg base k "kind_of" (spP K 1 d.kind_of)
  is_sign : Has false P w K mg base k "is_sign" (spP K 1 d.is_sign)
  is_word : Has false P w K mg base k "is_word" (spP K 1 d.is_word)
  is_thing : Has false P w K mg base k "is_thing" (spP K 2 d.is_thing)
  inner_things : Has false P w K mg base k "inner_things" (spP K 1 d.inner_things)
  look_thing : Has false P w K mg base k "look_thing" (spP K 1 d.look_thing)
  is_same : Has false P w K mg base k "is_same" (spP K 2 d.is_same)
  copied : Has false P w K mg base k "copied" (spPF K 1 d.copied)
  laid : Has false P w K mg base k "laid" (spP K 2 d.laid)
  merged : Has false P w K mg base k "merged" (spPF K 2 d.merged)
  has_none : Has false P w K mg base k "has_none" (spP K 1 d.has_none)
  sheet_for : Has false P w K mg base k "sheet_for" (spP K 2 d.sheet_for)
  sheet_between : Has false P w K mg base k "sheet_between" (spP K 2 d.sheet_between)
  _law_cell : Has false P w K mg base k "_law_cell" (spP K 2 d._law_cell)
  _law_mix : Has false P w K mg base k "_law_mix" (spP K 2 d._law_mix)
  _law_draw : Has false P w K mg base k "_law_draw" (spT K 3 d._law_draw)
  _law_pick : Has false P w K mg base k "_law_pick" (spT K 3 d._law_pick)
  _law_refusal : Has false P w K mg base k "_law_refusal" (spP K 1 d._law_refusal)
  _law_kind : Has false P w K mg base k "_law_kind" (spP K 1 d._law_kind)
  _law_same : Has false P w K mg base k "_law_same" (spP K 2 d._law_same)
  _law_copy : Has false P w K mg base k "_law_copy" (spP K 1 d._law_copy)
  _law_word : Has false P w K mg base k "_law_word" (spT K 2 d._law_word)
  _law_leaf : Has false P w K mg base k "_law_leaf" (spT K 2 d._law_leaf)
  _law_some : Has false P w K mg base k "_law_some" (spT K 3 d._law_some)
  _law_laid : Has false P w K mg base k "_law_laid" (spP K 2 d._law_laid)
  _law_can : Has false P w K mg base k "_law_can" (spP K 2 d._law_can)
  _law_told : Has false P w K mg base k "_law_told" (spPE K 3 d._law_told)
structure Fx (w : World) (K : PySem.W.Frag) (mg : Str → Option Value) : Prop where
  xf : XF K [.NestError, .BadThing, .BadText, .BadWay, .NoWay, .NoGo, .Nothing]
  f_ValueError : mg "ValueError" = none
  f_abs : mg "abs" = none
  f_all : mg "all" = none
  f_any : mg "any" = none
  f_bool : mg "bool" = none
  f_dict : mg "dict" = none
  f_int : mg "int" = none
  f_isinstance : mg "isinstance" = none
  f_len : mg "len" = none
  f_list : mg "list" = none
  f_ord : mg "ord" = none
  f_range : mg "range" = none
  f_sorted : mg "sorted" = none
  f_str : mg "str" = none
  f_tuple : mg "tuple" = none
  c_BadText : mg "BadText" = some (.ref (eA K .BadText))
  c_BadThing : mg "BadThing" = some (.ref (eA K .BadThing))
  c_BadWay : mg "BadWay" = some (.ref (eA K .BadWay))
  c_NestError : mg "NestError" = some (.ref (eA K .NestError))
  c_NoGo : mg "NoGo" = some (.ref (eA K .NoGo))
  c_NoWay : mg "NoWay" = some (.ref (eA K .NoWay))
  c_Nothing : mg "Nothing" = some (.ref (eA K .Nothing))
  e_BadThing : PySem.W.excIn K (eA K .BadThing) He.veBase "ValueError.__new__" = true
  k_BadThing : PySem.W.keepIn K (.ref (eA K .BadThing)) = true
  g_MOST_DEEP : ∃ t, mg "MOST_DEEP" = some (.int 12 t)
  g_MOST_NUMBER : ∃ t, mg "MOST_NUMBER" = some (.int 999999999999999 t)
  g_MOST_SIGNS : ∃ t, mg "MOST_SIGNS" = some (.int 60 t)
def n_kind_of : List Str := ["thing"]
theorem body_kind_of {P : Program} {w : World} {K : PySem.W.Frag} {mg : Str → Option Value} {base : Heap} {k : Nat} {d : Den} (fx : Fx w K mg) (hk2 : 2 ≤ k) (hy : Hyp P w K mg base k d) (nm : Nat → Option Addr) : BodyOk false P w K mg base n_kind_of "kind_of" (defScope s_kind_of) (defBody s_kind_of) k (R0 K nm) .f [] (b_kind_of d) :=
  fun f cdv A outer s H E c tk hp => (dss_cons (ds_if (dt_isN (de_var 0 (by decide))) (dss_one (ds_ret de_str)) dss_nil)
    (dss_cons (ds_if (dt_tru c.hK (de_isi "bool" c rfl fx.f_isinstance rfl fx.f_bool (by decide +kernel) (de_var 0 (by decide)))) (dss_one (ds_ret de_str)) dss_nil)
    (dss_cons (ds_if (dt_tru c.hK (de_isi "int" c rfl fx.f_isinstance rfl fx.f_int (by decide +kernel) (de_var 0 (by decide)))) (dss_one (ds_ret de_str)) dss_nil)
    (dss_cons (ds_if (dt_tru c.hK (de_isi "str" c rfl fx.f_isinstance rfl fx.f_str (by decide +kernel) (de_var 0 (by decide)))) (dss_one (ds_ret de_str)) dss_nil)
    (dss_one (ds_ret (de_if (dt_tru c.hK (de_isi "list" c rfl fx.f_isinstance rfl fx.f_list (by decide +kernel) (de_var 0 (by decide)))) de_str de_str)))))))
theorem sc_kind_of : FnScope n_kind_of ["thing"] (defScope s_kind_of) := ⟨rfl, rfl, rfl, by decide +kernel, rfl, by decide +kernel, by decide +kernel⟩
def n_is_sign : List Str := ["sign"]
theorem body_is_sign {P : Program} {w : World} {K : PySem.W.Frag} {mg : Str → Option Value} {base : Heap} {k : Nat} {d : Den} (fx : Fx w K mg) (hk2 : 2 ≤ k) (hy : Hyp P w K mg base k d) (nm : Nat → Option Addr) : BodyOk false P w K mg base n_is_sign "is_sign" (defScope s_is_sign) (defBody s_is_sign) k (R0 K nm) .f [] (b_is_sign d) :=
  fun f cdv A outer s H E c tk hp => (dss_one (ds_ret (de_and c.hK (de_chain ck_le ck_lt de_int (de_ord rfl fx.f_ord (da_cons (de_var 0 (by decide)) da_nil)) de_int) (de_one (de_ck (ck_ne c) (de_ord rfl fx.f_ord (da_cons (de_var 0 (by decide)) da_nil)) de_int rfl)))))
theorem sc_is_sign : FnScope n_is_sign ["sign"] (defScope s_is_sign) := ⟨rfl, rfl, rfl, by decide +kernel, rfl, by decide +kernel, by decide +kernel⟩
def n_is_word : List Str := ["word", "sign"]
theorem body_is_word {P : Program} {w : World} {K : PySem.W.Frag} {mg : Str → Option Value} {base : Heap} {k : Nat} {d : Den} (fx : Fx w K mg) (hk2 : 2 ≤ k) (hy : Hyp P w K mg base k d) (nm : Nat → Option Addr) : BodyOk false P w K mg base n_is_word "is_word" (defScope s_is_word) (defBody s_is_word) k (R0 K nm) .f [] (b_is_word d) :=
  fun f cdv A outer s H E c tk hp => (dss_one (ds_ret (de_and c.hK (de_ck ck_le (de_len c.hK rfl fx.f_len (da_cons (de_var 0 (by decide)) da_nil)) (de_gint rfl fx.g_MOST_SIGNS) rfl) (de_one (de_all c rfl fx.f_all (da_cons (de_give (df_lc (own := [("sign", 1)]) c (di_any c.hK (de_var 0 (by decide))) (blkOk_by (N := n_is_word) (sc := defScope s_is_word) (by decide +kernel)) tg_name (fun _ _ _ _ _ => (pg_name c.nd (i := 1) rfl (by first | exact Or.inl rfl | exact Or.inr rfl))) (fun _ _ _ _ _ c' => dts_nil) (fun _ _ _ _ _ c' => (de_callP c' tk0 hy.is_sign rfl (da_cons (de_var 1 (by decide)) da_nil))))) da_nil))))))
theorem sc_is_word : FnScope n_is_word ["word"] (defScope s_is_word) := ⟨rfl, rfl, rfl, by decide +kernel, rfl, by decide +kernel, by decide +kernel⟩
def n_is_thing : List Str := ["thing", "deep", "kind", "one", "key"]
theorem body_is_thing {P : Program} {w : World} {K : PySem.W.Frag} {mg : Str → Option Value} {base : Heap} {k : Nat} {d : Den} (fx : Fx w K mg) (hk2 : 2 ≤ k) (hy : Hyp P w K mg base k d) (nm : Nat → Option Addr) : BodyOk false P w K mg base n_is_thing "is_thing" (defScope s_is_thing) (defBody s_is_thing) k (R0 K nm) .f [] (b_is_thing d) :=
  fun f cdv A outer s H E c tk hp => (dss_cons (ds_set (O' := []) c.nd (i := 2) rfl (by first | exact Or.inl rfl | exact Or.inr rfl) (de_callP c tk hy.kind_of rfl (da_cons (de_var 0 (by decide)) da_nil)) (by decide) (by decide))
    (dss_cons (ds_if (dt_ck (ck_eq c) (de_var 2 (by decide)) de_str rfl) (dss_one (ds_ret (de_ck ck_le (de_abs rfl fx.f_abs (da_cons (de_var 0 (by decide)) da_nil)) (de_gint rfl fx.g_MOST_NUMBER) rfl))) dss_nil)
    (dss_cons (ds_if (dt_ck (ck_eq c) (de_var 2 (by decide)) de_str rfl) (dss_one (ds_ret (de_callP c tk hy.is_word rfl (da_cons (de_var 0 (by decide)) da_nil)))) dss_nil)
    (dss_cons (ds_if (dt_ck (ck_notin c) (de_var 2 (by decide)) (de_tup (da_cons de_str (da_cons de_str da_nil))) rfl) (dss_one (ds_ret de_bl)) dss_nil)
    (dss_cons (ds_if (PW.pt (dw_or (dt_ck (ck_eq c) (de_var 1 (by decide)) (de_gint rfl fx.g_MOST_DEEP) rfl) (dw_or1 (PW.pt (dw_and (dt_ck (ck_eq c) (de_var 2 (by decide)) de_str rfl) (dw_and1 (dt_not (dt_tru c.hK (de_all c rfl fx.f_all (da_cons (de_lcW (own := [("key", 4)]) keysD_tab (by decide) c (di_keysL 0 (by decide) rfl (by first | exact Or.inl rfl | exact Or.inr (Or.inl rfl) | exact Or.inr (Or.inr rfl))) (blkOk_by (N := n_is_thing) (sc := defScope s_is_thing) (by decide +kernel)) tg_name (fun _ _ _ _ _ => (pg_name c.nd (i := 4) rfl (by first | exact Or.inl rfl | exact Or.inr rfl))) (fun _ _ _ _ _ c' => dts_nil) (fun _ _ _ _ _ c' => (de_callP c' tk0 hy.is_word rfl (da_cons (de_var 4 (by decide)) da_nil)))) da_nil)))))))))) (dss_one (ds_ret de_bl)) dss_nil)
    (dss_one (ds_ret (de_all c rfl fx.f_all (da_cons (de_give (df_lc (own := [("one", 3)]) c (di_any c.hK (de_callP c tk hy.inner_things rfl (da_cons (de_var 0 (by decide)) da_nil))) (blkOk_by (N := n_is_thing) (sc := defScope s_is_thing) (by decide +kernel)) tg_name (fun _ _ _ _ _ => (pg_name c.nd (i := 3) rfl (by first | exact Or.inl rfl | exact Or.inr rfl))) (fun _ _ _ _ _ c' => dts_nil) (fun _ _ _ _ _ c' => (de_callP c' tk0 hy.is_thing rfl (da_cons (de_var 3 (by decide)) (da_cons (de_add c'.hK (de_var 1 (by decide)) de_int) da_nil)))))) da_nil)))))))))
theorem sc_is_thing : FnScope n_is_thing ["thing", "deep"] (defScope s_is_thing) := ⟨rfl, rfl, rfl, by decide +kernel, rfl, by decide +kernel, by decide +kernel⟩
def n_inner_things : List Str := ["thing", "key"]
theorem body_inner_things {P : Program} {w : World} {K : PySem.W.Frag} {mg : Str → Option Value} {base : Heap} {k : Nat} {d : Den} (fx : Fx w K mg) (hk2 : 2 ≤ k) (hy : Hyp P w K mg base k d) (nm : Nat → Option Addr) : BodyOk false P w K mg base n_inner_things "inner_things" (defScope s_inner_things) (defBody s_inner_things) k (R0 K nm) .f [] (b_inner_things d) :=
  fun f cdv A outer s H E c tk hp => (dss_cons (ds_if (dt_ck (ck_eq c) (de_callP c tk hy.kind_of rfl (da_cons (de_var 0 (by decide)) da_nil)) de_str rfl) (dss_one (ds_ret (de_list c rfl fx.f_list (da_cons (de_var 0 (by decide)) da_nil)))) dss_nil)
    (dss_one (ds_ret (de_if (dt_ck (ck_eq c) (de_callP c tk hy.kind_of rfl (da_cons (de_var 0 (by decide)) da_nil)) de_str rfl) (de_give (df_lc (own := [("key", 1)]) c (di_any c.hK (de_sortedK c rfl fx.f_sorted (de_var 0 (by decide)))) (blkOk_by (N := n_inner_things) (sc := defScope s_inner_things) (by decide +kernel)) tg_name (fun _ _ _ _ _ => (pg_name c.nd (i := 1) rfl (by first | exact Or.inl rfl | exact Or.inr rfl))) (fun _ _ _ _ _ c' => dts_nil) (fun _ _ _ _ _ c' => (de_ix c' (de_var 0 (by decide)) (de_var 1 (by decide)))))) (de_lst da_nil)))))
theorem sc_inner_things : FnScope n_inner_things ["thing"] (defScope s_inner_things) := ⟨rfl, rfl, rfl, by decide +kernel, rfl, by decide +kernel, by decide +kernel⟩
def n_look_thing : List Str := ["thing"]
theorem body_look_thing {P : Program} {w : World} {K : PySem.W.Frag} {mg : Str → Option Value} {base : Heap} {k : Nat} {d : Den} (fx : Fx w K mg) (hk2 : 2 ≤ k) (hy : Hyp P w K mg base k d) (nm : Nat → Option Addr) : BodyOk false P w K mg base n_look_thing "look_thing" (defScope s_look_thing) (defBody s_look_thing) k (R0 K nm) .f [] (b_look_thing d) :=
  fun f cdv A outer s H E c tk hp => (dss_one (ds_if (dt_not (dt_tru c.hK (de_callP c tk hy.is_thing rfl (da_cons (de_var 0 (by decide)) (da_cons de_int da_nil))))) (dss_one (ds_raise c tk (c := .BadThing) rfl fx.e_BadThing fx.c_BadThing fx.k_BadThing (fx.xf.xc _ (by decide)) rfl)) dss_nil))
theorem sc_look_thing : FnScope n_look_thing ["thing"] (defScope s_look_thing) := ⟨rfl, rfl, rfl, by decide +kernel, rfl, by decide +kernel, by decide +kernel⟩
def n_is_same : List Str := ["one", "other", "kind", "key", "k"]
theorem body_is_same {P : Program} {w : World} {K : PySem.W.Frag} {mg : Str → Option Value} {base : Heap} {k : Nat} {d : Den} (fx : Fx w K mg) (hk2 : 2 ≤ k) (hy : Hyp P w K mg base k d) (nm : Nat → Option Addr) : BodyOk false P w K mg base n_is_same "is_same" (defScope s_is_same) (defBody s_is_same) k (R0 K nm) .f [] (b_is_same d) :=
  fun f cdv A outer s H E c tk hp => (dss_cons (ds_set (O' := []) c.nd (i := 2) rfl (by first | exact Or.inl rfl | exact Or.inr rfl) (de_callP c tk hy.kind_of rfl (da_cons (de_var 0 (by decide)) da_nil)) (by decide) (by decide))
    (dss_cons (ds_if (dt_ck (ck_ne c) (de_var 2 (by decide)) (de_callP c tk hy.kind_of rfl (da_cons (de_var 1 (by decide)) da_nil)) rfl) (dss_one (ds_ret de_bl)) dss_nil)
    (dss_cons (ds_if (dt_ck (ck_eq c) (de_var 2 (by decide)) de_str rfl) (dss_one (ds_ret (de_and c.hK (de_ck (ck_eq c) (de_len c.hK rfl fx.f_len (da_cons (de_var 0 (by decide)) da_nil)) (de_len c.hK rfl fx.f_len (da_cons (de_var 1 (by decide)) da_nil)) rfl) (de_one (de_all c rfl fx.f_all (da_cons (de_give (df_lc (own := [("k", 4)]) c (di_range rfl fx.f_range (da_cons (de_len c.hK rfl fx.f_len (da_cons (de_var 0 (by decide)) da_nil)) da_nil)) (blkOk_by (N := n_is_same) (sc := defScope s_is_same) (by decide +kernel)) tg_name (fun _ _ _ _ _ => (pg_name c.nd (i := 4) rfl (by first | exact Or.inl rfl | exact Or.inr rfl))) (fun _ _ _ _ _ c' => dts_nil) (fun _ _ _ _ _ c' => (de_callP c' tk0 hy.is_same rfl (da_cons (de_ix c' (de_var 0 (by decide)) (de_var 4 (by decide))) (da_cons (de_ix c' (de_var 1 (by decide)) (de_var 4 (by decide))) da_nil)))))) da_nil)))))) dss_nil)
    (dss_cons (ds_if (dt_ck (ck_eq c) (de_var 2 (by decide)) de_str rfl) (dss_cons (ds_if (dt_ck (ck_ne c) (de_sortedK c rfl fx.f_sorted (de_var 0 (by decide))) (de_sortedK c rfl fx.f_sorted (de_var 1 (by decide))) rfl) (dss_one (ds_ret de_bl)) dss_nil)
    (dss_one (ds_ret (de_all c rfl fx.f_all (da_cons (de_lcW (own := [("key", 3)]) keysD_tab (by decide) c (di_keysL 0 (by decide) rfl (by first | exact Or.inl rfl | exact Or.inr (Or.inl rfl) | exact Or.inr (Or.inr rfl))) (blkOk_by (N := n_is_same) (sc := defScope s_is_same) (by decide +kernel)) tg_name (fun _ _ _ _ _ => (pg_name c.nd (i := 3) rfl (by first | exact Or.inl rfl | exact Or.inr rfl))) (fun _ _ _ _ _ c' => dts_nil) (fun _ _ _ _ _ c' => (de_callP c' tk0 hy.is_same rfl (da_cons (de_ix c' (de_var 0 (by decide)) (de_var 3 (by decide))) (da_cons (de_ix c' (de_var 1 (by decide)) (de_var 3 (by decide))) da_nil))))) da_nil))))) dss_nil)
    (dss_one (ds_ret (de_ck (ck_eq c) (de_var 0 (by decide)) (de_var 1 (by decide)) rfl)))))))
theorem sc_is_same : FnScope n_is_same ["one", "other"] (defScope s_is_same) := ⟨rfl, rfl, rfl, by decide +kernel, rfl, by decide +kernel, by decide +kernel⟩
def n_copied : List Str := ["thing", "found", "key", "one"]
theorem body_copied {P : Program} {w : World} {K : PySem.W.Frag} {mg : Str → Option Value} {base : Heap} {k : Nat} {d : Den} (fx : Fx w K mg) (hk2 : 2 ≤ k) (hy : Hyp P w K mg base k d) (nm : Nat → Option Addr) : BodyOk false P w K mg base n_copied "copied" (defScope s_copied) (defBody s_copied) k (R0 K nm) .t [1] (b_copied d) :=
  fun f cdv A outer s H E c tk hp => (dss_cons (ds_if (dt_ck (ck_eq c) (de_callP c tk hy.kind_of rfl (da_cons (de_var 0 (by decide)) da_nil)) de_str rfl) (dss_one (ds_retF (df_lc (own := [("one", 3)]) c (di_any c.hK (de_var 0 (by decide))) (blkOk_by (N := n_copied) (sc := defScope s_copied) (by decide +kernel)) tg_name (fun _ _ _ _ _ => (pg_name c.nd (i := 3) rfl (by first | exact Or.inl rfl | exact Or.inr rfl))) (fun _ _ _ _ _ c' => dts_nil) (fun _ _ _ _ _ c' => (de_callP c' tk0 (hy.copied).ofPF rfl (da_cons (de_var 3 (by decide)) da_nil)))))) dss_nil)
    (dss_cons (ds_if (dt_ck (ck_ne c) (de_callP c tk hy.kind_of rfl (da_cons (de_var 0 (by decide)) da_nil)) de_str rfl) (dss_one (ds_retF (df_scal (de_var 0 (by decide))))) dss_nil)
    (dss_cons (ds_setO (O' := [1]) 1 c.nd rfl (by first | exact Or.inl rfl | exact Or.inr rfl) df_dict0 (by decide) (by decide) (by decide))
    (dss_cons (ds_forW keysD_tab (by decide) hp rfl (di_keysL 0 (by decide) rfl (by first | exact Or.inl rfl | exact Or.inr (Or.inl rfl) | exact Or.inr (Or.inr rfl))) (pg_name c.nd (i := 2) rfl (by first | exact Or.inl rfl | exact Or.inr rfl)) tg_name (dss_one (ds_setT 1 c (by decide) rfl (by first | exact Or.inl rfl | exact Or.inr (Or.inl rfl) | exact Or.inr (Or.inr rfl)) (de_var 2 (by decide)) (de_callP c tk (hy.copied).ofPF rfl (da_cons (de_ix c (de_var 0 (by decide)) (de_var 2 (by decide))) da_nil)))) (by decide))
    (dss_one (ds_retO 1 (by decide) rfl (by first | exact Or.inl rfl | exact Or.inr (Or.inl rfl) | exact Or.inr (Or.inr rfl))))))))
theorem sc_copied : FnScope n_copied ["thing"] (defScope s_copied) := ⟨rfl, rfl, rfl, by decide +kernel, rfl, by decide +kernel, by decide +kernel⟩
def n_laid : List Str := ["thing", "sheet", "found", "key"]
theorem body_laid {P : Program} {w : World} {K : PySem.W.Frag} {mg : Str → Option Value} {base : Heap} {k : Nat} {d : Den} (fx : Fx w K mg) (hk2 : 2 ≤ k) (hy : Hyp P w K mg base k d) (nm : Nat → Option Addr) : BodyOk false P w K mg base n_laid "laid" (defScope s_laid) (defBody s_laid) k (R0 K nm) .f [] (b_laid d) :=
  fun f cdv A outer s H E c tk hp => (dss_cons (ds_if (dt_ck (ck_ne c) (de_callP c tk hy.kind_of rfl (da_cons (de_var 1 (by decide)) da_nil)) de_str rfl) (dss_one (ds_ret (de_callP c tk (hy.copied).ofPF rfl (da_cons (de_var 1 (by decide)) da_nil)))) dss_nil)
    (dss_cons (ds_setA (O' := [2]) 2 c.nd rfl (by first | exact Or.inl rfl | exact Or.inr rfl) (df_if (dt_ck (ck_eq c) (de_callP c tk hy.kind_of rfl (da_cons (de_var 0 (by decide)) da_nil)) de_str rfl) (df_copy c (de_var 0 (by decide))) df_dict0) (by decide) (by decide) (by decide))
    (dss_cons (ds_forW keysD_tab (by decide) hp rfl (di_keysL 1 (by decide) rfl (by first | exact Or.inl rfl | exact Or.inr (Or.inl rfl) | exact Or.inr (Or.inr rfl))) (pg_name c.nd (i := 3) rfl (by first | exact Or.inl rfl | exact Or.inr rfl)) tg_name (dss_one (ds_if (dt_isN (de_ix c (de_var 1 (by decide)) (de_var 3 (by decide)))) (dss_one (ds_pop2 2 (by decide) rfl (by first | exact Or.inl rfl | exact Or.inr (Or.inl rfl) | exact Or.inr (Or.inr rfl)) (de_var 3 (by decide)))) (dss_one (ds_setTV 2 c (by decide) rfl (by first | exact Or.inl rfl | exact Or.inr (Or.inl rfl) | exact Or.inr (Or.inr rfl)) (de_var 3 (by decide)) (de_callPV c tk hy.laid rfl (da_consV (de_wV (i := 2) (by decide) (de_getO 2 c rfl (by first | exact Or.inl rfl | exact Or.inr (Or.inl rfl) | exact Or.inr (Or.inr rfl)) (da_cons (de_var 3 (by decide)) (da_cons de_non da_nil)))) (da_consV (de_wkV (de_ix c (de_var 1 (by decide)) (de_var 3 (by decide)))) da_nilV))))))) (by decide))
    (dss_frz (O1 := []) (dss_one (ds_ret (de_var 2 (by decide)))) (by decide)))))
theorem sc_laid : FnScope n_laid ["thing", "sheet"] (defScope s_laid) := ⟨rfl, rfl, rfl, by decide +kernel, rfl, by decide +kernel, by decide +kernel⟩
def n_merged : List Str := ["thing", "sheet"]
theorem body_merged {P : Program} {w : World} {K : PySem.W.Frag} {mg : Str → Option Value} {base : Heap} {k : Nat} {d : Den} (fx : Fx w K mg) (hk2 : 2 ≤ k) (hy : Hyp P w K mg base k d) (nm : Nat → Option Addr) : BodyOk false P w K mg base n_merged "merged" (defScope s_merged) (defBody s_merged) k (R0 K nm) .t [] (b_merged d) :=
  fun f cdv A outer s H E c tk hp => (dss_cons (ds_expr (de_callP c tk hy.look_thing rfl (da_cons (de_var 0 (by decide)) da_nil)))
    (dss_cons (ds_expr (de_callP c tk hy.look_thing rfl (da_cons (de_var 1 (by decide)) da_nil)))
    (dss_one (ds_retF (df_callP c tk hy.copied rfl (da_cons (de_callP c tk hy.laid rfl (da_cons (de_var 0 (by decide)) (da_cons (de_var 1 (by decide)) da_nil))) da_nil))))))
theorem sc_merged : FnScope n_merged ["thing", "sheet"] (defScope s_merged) := ⟨rfl, rfl, rfl, by decide +kernel, rfl, by decide +kernel, by decide +kernel⟩
def n_has_none : List Str := ["thing", "one"]
theorem body_has_none {P : Program} {w : World} {K : PySem.W.Frag} {mg : Str → Option Value} {base : Heap} {k : Nat} {d : Den} (fx : Fx w K mg) (hk2 : 2 ≤ k) (hy : Hyp P w K mg base k d) (nm : Nat → Option Addr) : BodyOk false P w K mg base n_has_none "has_none" (defScope s_has_none) (defBody s_has_none) k (R0 K nm) .f [] (b_has_none d) :=
  fun f cdv A outer s H E c tk hp => (dss_cons (ds_if (dt_ck (ck_ne c) (de_callP c tk hy.kind_of rfl (da_cons (de_var 0 (by decide)) da_nil)) de_str rfl) (dss_one (ds_ret de_bl)) dss_nil)
    (dss_one (ds_ret (de_any c rfl fx.f_any (da_cons (de_lcW (own := [("one", 1)]) valsD_tab (by decide) c (di_valsL 0 (by decide) rfl (by first | exact Or.inl rfl | exact Or.inr (Or.inl rfl) | exact Or.inr (Or.inr rfl))) (blkOk_by (N := n_has_none) (sc := defScope s_has_none) (by decide +kernel)) tg_name (fun _ _ _ _ _ => (pg_name c.nd (i := 1) rfl (by first | exact Or.inl rfl | exact Or.inr rfl))) (fun _ _ _ _ _ c' => dts_nil) (fun _ _ _ _ _ c' => (de_or c'.hK (de_isN (de_var 1 (by decide))) (de_one (de_callP c' tk0 hy.has_none rfl (da_cons (de_var 1 (by decide)) da_nil)))))) da_nil)))))
theorem sc_has_none : FnScope n_has_none ["thing"] (defScope s_has_none) := ⟨rfl, rfl, rfl, by decide +kernel, rfl, by decide +kernel, by decide +kernel⟩
def n_sheet_for : List Str := ["one", "other", "found", "key", "later"]
theorem body_sheet_for {P : Program} {w : World} {K : PySem.W.Frag} {mg : Str → Option Value} {base : Heap} {k : Nat} {d : Den} (fx : Fx w K mg) (hk2 : 2 ≤ k) (hy : Hyp P w K mg base k d) (nm : Nat → Option Addr) : BodyOk false P w K mg base n_sheet_for "sheet_for" (defScope s_sheet_for) (defBody s_sheet_for) k (R0 K nm) .f [] (b_sheet_for d) :=
  fun f cdv A outer s H E c tk hp => (dss_cons (ds_if (PW.pt (dw_or (dt_ck (ck_ne c) (de_callP c tk hy.kind_of rfl (da_cons (de_var 1 (by decide)) da_nil)) de_str rfl) (dw_or1 (dt_ck (ck_ne c) (de_callP c tk hy.kind_of rfl (da_cons (de_var 0 (by decide)) da_nil)) de_str rfl)))) (dss_one (ds_ret (de_if (dt_tru c.hK (de_callP c tk hy.has_none rfl (da_cons (de_var 1 (by decide)) da_nil))) de_non (de_tup (da_cons (de_callP c tk (hy.copied).ofPF rfl (da_cons (de_var 1 (by decide)) da_nil)) da_nil))))) dss_nil)
    (dss_cons (ds_setO (O' := [2]) 2 c.nd rfl (by first | exact Or.inl rfl | exact Or.inr rfl) df_dict0 (by decide) (by decide) (by decide))
    (dss_cons (ds_forW keysD_tab (by decide) hp rfl (di_keysL 0 (by decide) rfl (by first | exact Or.inl rfl | exact Or.inr (Or.inl rfl) | exact Or.inr (Or.inr rfl))) (pg_name c.nd (i := 3) rfl (by first | exact Or.inl rfl | exact Or.inr rfl)) tg_name (dss_one (ds_if (dt_ck (ck_notin c) (de_var 3 (by decide)) (de_var 1 (by decide)) rfl) (dss_one (ds_setT 2 c (by decide) rfl (by first | exact Or.inl rfl | exact Or.inr (Or.inl rfl) | exact Or.inr (Or.inr rfl)) (de_var 3 (by decide)) de_non)) dss_nil)) (by decide))
    (dss_cons (ds_forW keysD_tab (by decide) hp rfl (di_keysL 1 (by decide) rfl (by first | exact Or.inl rfl | exact Or.inr (Or.inl rfl) | exact Or.inr (Or.inr rfl))) (pg_name c.nd (i := 3) rfl (by first | exact Or.inl rfl | exact Or.inr rfl)) tg_name (dss_one (ds_if (PW.pt (dw_or (dt_ck (ck_notin c) (de_var 3 (by decide)) (de_var 0 (by decide)) rfl) (dw_or1 (dt_not (dt_tru c.hK (de_callP c tk hy.is_same rfl (da_cons (de_ix c (de_var 0 (by decide)) (de_var 3 (by decide))) (da_cons (de_ix c (de_var 1 (by decide)) (de_var 3 (by decide))) da_nil)))))))) (dss_cons (ds_set (O' := [2]) c.nd (i := 4) rfl (by first | exact Or.inl rfl | exact Or.inr rfl) (de_if (dt_isN (de_ix c (de_var 1 (by decide)) (de_var 3 (by decide)))) de_non (de_callP c tk hy.sheet_for rfl (da_cons (de_get2 c (de_var 0 (by decide)) (da_cons (de_var 3 (by decide)) (da_cons de_non da_nil))) (da_cons (de_ix c (de_var 1 (by decide)) (de_var 3 (by decide))) da_nil)))) (by decide) (by decide))
    (dss_cons (ds_if (dt_isN (de_var 4 (by decide))) (dss_frz (O1 := []) (dss_one (ds_ret de_non)) (by decide)) dss_nil)
    (dss_one (ds_setT 2 c (by decide) rfl (by first | exact Or.inl rfl | exact Or.inr (Or.inl rfl) | exact Or.inr (Or.inr rfl)) (de_var 3 (by decide)) (de_ix c (de_var 4 (by decide)) de_int))))) dss_nil)) (by decide))
    (dss_frz (O1 := []) (dss_one (ds_ret (de_tup (da_cons (de_var 2 (by decide)) da_nil)))) (by decide))))))
theorem sc_sheet_for : FnScope n_sheet_for ["one", "other"] (defScope s_sheet_for) := ⟨rfl, rfl, rfl, by decide +kernel, rfl, by decide +kernel, by decide +kernel⟩
def n_sheet_between : List Str := ["one", "other"]
theorem body_sheet_between {P : Program} {w : World} {K : PySem.W.Frag} {mg : Str → Option Value} {base : Heap} {k : Nat} {d : Den} (fx : Fx w K mg) (hk2 : 2 ≤ k) (hy : Hyp P w K mg base k d) (nm : Nat → Option Addr) : BodyOk false P w K mg base n_sheet_between "sheet_between" (defScope s_sheet_between) (defBody s_sheet_between) k (R0 K nm) .f [] (b_sheet_between d) :=
  fun f cdv A outer s H E c tk hp => (dss_cons (ds_expr (de_callP c tk hy.look_thing rfl (da_cons (de_var 0 (by decide)) da_nil)))
    (dss_cons (ds_expr (de_callP c tk hy.look_thing rfl (da_cons (de_var 1 (by decide)) da_nil)))
    (dss_one (ds_ret (de_callP c tk hy.sheet_for rfl (da_cons (de_var 0 (by decide)) (da_cons (de_var 1 (by decide)) da_nil)))))))
theorem sc_sheet_between : FnScope n_sheet_between ["one", "other"] (defScope s_sheet_between) := ⟨rfl, rfl, rfl, by decide +kernel, rfl, by decide +kernel, by decide +kernel⟩
def n__law_cell : List Str := ["script", "k"]
theorem body__law_cell {P : Program} {w : World} {K : PySem.W.Frag} {mg : Str → Option Value} {base : Heap} {k : Nat} {d : Den} (fx : Fx w K mg) (hk2 : 2 ≤ k) (hy : Hyp P w K mg base k d) (nm : Nat → Option Addr) : BodyOk false P w K mg base n__law_cell "_law_cell" (defScope s__law_cell) (defBody s__law_cell) k (R0 K nm) .f [] (b__law_cell d) :=
  fun f cdv A outer s H E c tk hp => (dss_cons (ds_if (dt_tru c.hK (de_var 0 (by decide))) (dss_one (ds_ret (de_ix c (de_var 0 (by decide)) (de_mod (de_var 1 (by decide)) (de_len c.hK rfl fx.f_len (da_cons (de_var 0 (by decide)) da_nil)))))) dss_nil)
    (dss_one (ds_ret de_int)))
theorem sc__law_cell : FnScope n__law_cell ["script", "k"] (defScope s__law_cell) := ⟨rfl, rfl, rfl, by decide +kernel, rfl, by decide +kernel, by decide +kernel⟩
def n__law_mix : List Str := ["script", "k", "number"]
theorem body__law_mix {P : Program} {w : World} {K : PySem.W.Frag} {mg : Str → Option Value} {base : Heap} {k : Nat} {d : Den} (fx : Fx w K mg) (hk2 : 2 ≤ k) (hy : Hyp P w K mg base k d) (nm : Nat → Option Addr) : BodyOk false P w K mg base n__law_mix "_law_mix" (defScope s__law_mix) (defBody s__law_mix) k (R0 K nm) .f [] (b__law_mix d) :=
  fun f cdv A outer s H E c tk hp => (dss_cons (ds_set (O' := []) c.nd (i := 2) rfl (by first | exact Or.inl rfl | exact Or.inr rfl) (de_mod (de_add c.hK (de_callP c tk hy._law_cell rfl (da_cons (de_var 0 (by decide)) (da_cons (de_var 1 (by decide)) da_nil))) (de_mul de_int (de_add c.hK (de_var 1 (by decide)) de_int))) de_int) (by decide) (by decide))
    (dss_cons (ds_set (O' := []) c.nd (i := 2) rfl (by first | exact Or.inl rfl | exact Or.inr rfl) (de_mod (de_pow (de_var 2 (by decide)) de_int) de_int) (by decide) (by decide))
    (dss_one (ds_ret (de_mod (de_add c.hK (de_mul (de_fdiv (de_var 2 (by decide)) de_int) de_int) (de_var 2 (by decide))) de_int)))))
theorem sc__law_mix : FnScope n__law_mix ["script", "k"] (defScope s__law_mix) := ⟨rfl, rfl, rfl, by decide +kernel, rfl, by decide +kernel, by decide +kernel⟩
def n__law_draw : List Str := ["script", "town", "many"]
theorem body__law_draw {P : Program} {w : World} {K : PySem.W.Frag} {mg : Str → Option Value} {base : Heap} {k : Nat} {d : Den} (fx : Fx w K mg) (hk2 : 2 ≤ k) (hy : Hyp P w K mg base k d) (T : Addr) : BodyOk false P w K mg base n__law_draw "_law_draw" (defScope s__law_draw) (defBody s__law_draw) k (RT K T) .f [] (b__law_draw d) :=
  fun f cdv A outer s H E c tk hp => (dss_cons (ds_town 1 (by decide) rfl (by first | exact Or.inl rfl | exact Or.inr (Or.inl rfl) | exact Or.inr (Or.inr rfl)))
    (dss_one (ds_ret (de_mod (de_fdiv (de_callP c tk hy._law_mix rfl (da_cons (de_var 0 (by decide)) (da_cons (de_lenT 1 (by decide) rfl (by first | exact Or.inl rfl | exact Or.inr (Or.inl rfl) | exact Or.inr (Or.inr rfl)) rfl fx.f_len) da_nil))) de_int) (de_var 2 (by decide))))))
theorem sc__law_draw : FnScope n__law_draw ["script", "town", "many"] (defScope s__law_draw) := ⟨rfl, rfl, rfl, by decide +kernel, rfl, by decide +kernel, by decide +kernel⟩
def n__law_pick : List Str := ["script", "town", "some"]
theorem body__law_pick {P : Program} {w : World} {K : PySem.W.Frag} {mg : Str → Option Value} {base : Heap} {k : Nat} {d : Den} (fx : Fx w K mg) (hk2 : 2 ≤ k) (hy : Hyp P w K mg base k d) (T : Addr) : BodyOk false P w K mg base n__law_pick "_law_pick" (defScope s__law_pick) (defBody s__law_pick) k (RT K T) .f [] (b__law_pick d) :=
  fun f cdv A outer s H E c tk hp => (dss_one (ds_ret (de_ix c (de_var 2 (by decide)) (de_callT c tk hy._law_draw rfl (da_cons (de_var 0 (by decide)) (da_cons (de_var 1 (by decide)) (da_cons (de_len c.hK rfl fx.f_len (da_cons (de_var 2 (by decide)) da_nil)) da_nil)))))))
theorem sc__law_pick : FnScope n__law_pick ["script", "town", "some"] (defScope s__law_pick) := ⟨rfl, rfl, rfl, by decide +kernel, rfl, by decide +kernel, by decide +kernel⟩
def n__law_refusal : List Str := ["held", "kinds"]
theorem body__law_refusal {P : Program} {w : World} {K : PySem.W.Frag} {mg : Str → Option Value} {base : Heap} {k : Nat} {d : Den} (fx : Fx w K mg) (hk2 : 2 ≤ k) (hy : Hyp P w K mg base k d) (nm : Nat → Option Addr) : BodyOk false P w K mg base n__law_refusal "_law_refusal" (defScope s__law_refusal) (defBody s__law_refusal) k (R0 K nm) .f [] (b__law_refusal d) :=
  fun f cdv A outer s H E c tk hp => (dss_cons (ds_if (dt_isN (de_var 0 (by decide))) (dss_one (ds_ret (de_tup (da_cons de_str da_nil)))) dss_nil)
    (dss_cons (ds_set (O' := []) c.nd (i := 1) rfl (by first | exact Or.inl rfl | exact Or.inr rfl) (de_lst (da_cons (de_isx .BadThing c fx.xf (by decide) rfl rfl fx.f_isinstance rfl fx.c_BadThing (de_var 0 (by decide))) (da_cons (de_isx .BadText c fx.xf (by decide) rfl rfl fx.f_isinstance rfl fx.c_BadText (de_var 0 (by decide))) (da_cons (de_isx .BadWay c fx.xf (by decide) rfl rfl fx.f_isinstance rfl fx.c_BadWay (de_var 0 (by decide))) da_nil)))) (by decide) (by decide))
    (dss_cons (ds_set (O' := []) c.nd (i := 1) rfl (by first | exact Or.inl rfl | exact Or.inr rfl) (de_add c.hK (de_var 1 (by decide)) (de_lst (da_cons (de_isx .NoWay c fx.xf (by decide) rfl rfl fx.f_isinstance rfl fx.c_NoWay (de_var 0 (by decide))) (da_cons (de_isx .NoGo c fx.xf (by decide) rfl rfl fx.f_isinstance rfl fx.c_NoGo (de_var 0 (by decide))) (da_cons (de_isx .Nothing c fx.xf (by decide) rfl rfl fx.f_isinstance rfl fx.c_Nothing (de_var 0 (by decide))) da_nil))))) (by decide) (by decide))
    (dss_cons (ds_if (PW.pt (dw_or (dt_ck (ck_ne c) (de_count c (de_var 1 (by decide)) (da_cons de_bl da_nil)) de_int rfl) (dw_or1 (dt_not (dt_tru c.hK (de_isv c fx.xf rfl fx.f_isinstance rfl fx.f_ValueError (de_var 0 (by decide)))))))) (dss_one (ds_ret (de_tup (da_cons de_str da_nil)))) dss_nil)
    (dss_one (ds_ret (de_tup (da_cons de_str (da_cons (de_ix c (de_lst (da_cons de_str (da_cons de_str (da_cons de_str (da_cons de_str (da_cons de_str (da_cons de_str da_nil))))))) (de_index c (de_var 1 (by decide)) (da_cons de_bl da_nil))) da_nil)))))))))
theorem sc__law_refusal : FnScope n__law_refusal ["held"] (defScope s__law_refusal) := ⟨rfl, rfl, rfl, by decide +kernel, rfl, by decide +kernel, by decide +kernel⟩
def n__law_kind : List Str := ["thing"]
theorem body__law_kind {P : Program} {w : World} {K : PySem.W.Frag} {mg : Str → Option Value} {base : Heap} {k : Nat} {d : Den} (fx : Fx w K mg) (hk2 : 2 ≤ k) (hy : Hyp P w K mg base k d) (nm : Nat → Option Addr) : BodyOk false P w K mg base n__law_kind "_law_kind" (defScope s__law_kind) (defBody s__law_kind) k (R0 K nm) .f [] (b__law_kind d) :=
  fun f cdv A outer s H E c tk hp => (dss_cons (ds_if (PW.pt (dw_or (dt_isN (de_var 0 (by decide))) (dw_or1 (dt_tru c.hK (de_isi "bool" c rfl fx.f_isinstance rfl fx.f_bool (by decide +kernel) (de_var 0 (by decide))))))) (dss_one (ds_ret (de_if (dt_isN (de_var 0 (by decide))) de_int de_int))) dss_nil)
    (dss_cons (ds_if (dt_tru c.hK (de_isi "int" c rfl fx.f_isinstance rfl fx.f_int (by decide +kernel) (de_var 0 (by decide)))) (dss_one (ds_ret de_int)) dss_nil)
    (dss_cons (ds_if (dt_tru c.hK (de_isi "str" c rfl fx.f_isinstance rfl fx.f_str (by decide +kernel) (de_var 0 (by decide)))) (dss_one (ds_ret de_int)) dss_nil)
    (dss_one (ds_ret (de_if (dt_tru c.hK (de_isi "list" c rfl fx.f_isinstance rfl fx.f_list (by decide +kernel) (de_var 0 (by decide)))) de_int (de_if (dt_tru c.hK (de_isi "dict" c rfl fx.f_isinstance rfl fx.f_dict (by decide +kernel) (de_var 0 (by decide)))) de_int de_int)))))))
theorem sc__law_kind : FnScope n__law_kind ["thing"] (defScope s__law_kind) := ⟨rfl, rfl, rfl, by decide +kernel, rfl, by decide +kernel, by decide +kernel⟩
def n__law_same : List Str := ["one", "other", "kind", "key", "k"]
theorem body__law_same {P : Program} {w : World} {K : PySem.W.Frag} {mg : Str → Option Value} {base : Heap} {k : Nat} {d : Den} (fx : Fx w K mg) (hk2 : 2 ≤ k) (hy : Hyp P w K mg base k d) (nm : Nat → Option Addr) : BodyOk false P w K mg base n__law_same "_law_same" (defScope s__law_same) (defBody s__law_same) k (R0 K nm) .f [] (b__law_same d) :=
  fun f cdv A outer s H E c tk hp => (dss_cons (ds_set (O' := []) c.nd (i := 2) rfl (by first | exact Or.inl rfl | exact Or.inr rfl) (de_callP c tk hy._law_kind rfl (da_cons (de_var 0 (by decide)) da_nil)) (by decide) (by decide))
    (dss_cons (ds_if (dt_ck (ck_ne c) (de_var 2 (by decide)) (de_callP c tk hy._law_kind rfl (da_cons (de_var 1 (by decide)) da_nil)) rfl) (dss_one (ds_ret de_bl)) dss_nil)
    (dss_cons (ds_if (dt_ck (ck_eq c) (de_var 2 (by decide)) de_int rfl) (dss_one (ds_ret (de_and c.hK (de_ck (ck_eq c) (de_len c.hK rfl fx.f_len (da_cons (de_var 0 (by decide)) da_nil)) (de_len c.hK rfl fx.f_len (da_cons (de_var 1 (by decide)) da_nil)) rfl) (de_one (de_all c rfl fx.f_all (da_cons (de_give (df_lc (own := [("k", 4)]) c (di_range rfl fx.f_range (da_cons (de_len c.hK rfl fx.f_len (da_cons (de_var 0 (by decide)) da_nil)) da_nil)) (blkOk_by (N := n__law_same) (sc := defScope s__law_same) (by decide +kernel)) tg_name (fun _ _ _ _ _ => (pg_name c.nd (i := 4) rfl (by first | exact Or.inl rfl | exact Or.inr rfl))) (fun _ _ _ _ _ c' => dts_nil) (fun _ _ _ _ _ c' => (de_callP c' tk0 hy._law_same rfl (da_cons (de_ix c' (de_var 0 (by decide)) (de_var 4 (by decide))) (da_cons (de_ix c' (de_var 1 (by decide)) (de_var 4 (by decide))) da_nil)))))) da_nil)))))) dss_nil)
    (dss_cons (ds_if (dt_ck (ck_eq c) (de_var 2 (by decide)) de_int rfl) (dss_cons (ds_if (dt_ck (ck_ne c) (de_sortedK c rfl fx.f_sorted (de_var 0 (by decide))) (de_sortedK c rfl fx.f_sorted (de_var 1 (by decide))) rfl) (dss_one (ds_ret de_bl)) dss_nil)
    (dss_one (ds_ret (de_all c rfl fx.f_all (da_cons (de_lcW (own := [("key", 3)]) keysD_tab (by decide) c (di_keysL 0 (by decide) rfl (by first | exact Or.inl rfl | exact Or.inr (Or.inl rfl) | exact Or.inr (Or.inr rfl))) (blkOk_by (N := n__law_same) (sc := defScope s__law_same) (by decide +kernel)) tg_name (fun _ _ _ _ _ => (pg_name c.nd (i := 3) rfl (by first | exact Or.inl rfl | exact Or.inr rfl))) (fun _ _ _ _ _ c' => dts_nil) (fun _ _ _ _ _ c' => (de_callP c' tk0 hy._law_same rfl (da_cons (de_ix c' (de_var 0 (by decide)) (de_var 3 (by decide))) (da_cons (de_ix c' (de_var 1 (by decide)) (de_var 3 (by decide))) da_nil))))) da_nil))))) dss_nil)
    (dss_one (ds_ret (de_and c.hK (de_ck ck_lt (de_var 2 (by decide)) de_int rfl) (de_one (de_ck (ck_eq c) (de_var 0 (by decide)) (de_var 1 (by decide)) rfl)))))))))
theorem sc__law_same : FnScope n__law_same ["one", "other"] (defScope s__law_same) := ⟨rfl, rfl, rfl, by decide +kernel, rfl, by decide +kernel, by decide +kernel⟩
def n__law_copy : List Str := ["thing", "found", "key", "one"]
theorem body__law_copy {P : Program} {w : World} {K : PySem.W.Frag} {mg : Str → Option Value} {base : Heap} {k : Nat} {d : Den} (fx : Fx w K mg) (hk2 : 2 ≤ k) (hy : Hyp P w K mg base k d) (nm : Nat → Option Addr) : BodyOk false P w K mg base n__law_copy "_law_copy" (defScope s__law_copy) (defBody s__law_copy) k (R0 K nm) .f [] (b__law_copy d) :=
  fun f cdv A outer s H E c tk hp => (dss_cons (ds_if (dt_tru c.hK (de_isi "list" c rfl fx.f_isinstance rfl fx.f_list (by decide +kernel) (de_var 0 (by decide)))) (dss_one (ds_ret (de_give (df_lc (own := [("one", 3)]) c (di_any c.hK (de_var 0 (by decide))) (blkOk_by (N := n__law_copy) (sc := defScope s__law_copy) (by decide +kernel)) tg_name (fun _ _ _ _ _ => (pg_name c.nd (i := 3) rfl (by first | exact Or.inl rfl | exact Or.inr rfl))) (fun _ _ _ _ _ c' => dts_nil) (fun _ _ _ _ _ c' => (de_callP c' tk0 hy._law_copy rfl (da_cons (de_var 3 (by decide)) da_nil))))))) dss_nil)
    (dss_cons (ds_if (dt_not (dt_tru c.hK (de_isi "dict" c rfl fx.f_isinstance rfl fx.f_dict (by decide +kernel) (de_var 0 (by decide))))) (dss_one (ds_ret (de_var 0 (by decide)))) dss_nil)
    (dss_cons (ds_setO (O' := [1]) 1 c.nd rfl (by first | exact Or.inl rfl | exact Or.inr rfl) df_dict0 (by decide) (by decide) (by decide))
    (dss_cons (ds_forW keysD_tab (by decide) hp rfl (di_keysL 0 (by decide) rfl (by first | exact Or.inl rfl | exact Or.inr (Or.inl rfl) | exact Or.inr (Or.inr rfl))) (pg_name c.nd (i := 2) rfl (by first | exact Or.inl rfl | exact Or.inr rfl)) tg_name (dss_one (ds_setT 1 c (by decide) rfl (by first | exact Or.inl rfl | exact Or.inr (Or.inl rfl) | exact Or.inr (Or.inr rfl)) (de_var 2 (by decide)) (de_callP c tk hy._law_copy rfl (da_cons (de_ix c (de_var 0 (by decide)) (de_var 2 (by decide))) da_nil)))) (by decide))
    (dss_frz (O1 := []) (dss_one (ds_ret (de_var 1 (by decide)))) (by decide))))))
theorem sc__law_copy : FnScope n__law_copy ["thing"] (defScope s__law_copy) := ⟨rfl, rfl, rfl, by decide +kernel, rfl, by decide +kernel, by decide +kernel⟩
def n__law_word : List Str := ["script", "town", "signs", "found", "k"]
theorem body__law_word {P : Program} {w : World} {K : PySem.W.Frag} {mg : Str → Option Value} {base : Heap} {k : Nat} {d : Den} (fx : Fx w K mg) (hk2 : 2 ≤ k) (hy : Hyp P w K mg base k d) (T : Addr) : BodyOk false P w K mg base n__law_word "_law_word" (defScope s__law_word) (defBody s__law_word) k (RT K T) .f [] (b__law_word d) :=
  fun f cdv A outer s H E c tk hp => (dss_cons (ds_set (O' := []) c.nd (i := 2) rfl (by first | exact Or.inl rfl | exact Or.inr rfl) de_str (by decide) (by decide))
    (dss_cons (ds_if (dt_ck (ck_eq c) (de_callT c tk hy._law_draw rfl (da_cons (de_var 0 (by decide)) (da_cons (de_var 1 (by decide)) (da_cons de_int da_nil)))) de_int rfl) (dss_one (ds_ret (de_callT c tk hy._law_pick rfl (da_cons (de_var 0 (by decide)) (da_cons (de_var 1 (by decide)) (da_cons (de_lst (da_cons de_str (da_cons de_str (da_cons de_str (da_cons de_str (da_cons de_str (da_cons de_str (da_cons de_str (da_cons de_str (da_cons de_str (da_cons de_str (da_cons de_str da_nil)))))))))))) da_nil)))))) dss_nil)
    (dss_cons (ds_set (O' := []) c.nd (i := 3) rfl (by first | exact Or.inl rfl | exact Or.inr rfl) de_str (by decide) (by decide))
    (dss_cons (ds_for hp rfl (di_range rfl fx.f_range (da_cons (de_callT c tk hy._law_pick rfl (da_cons (de_var 0 (by decide)) (da_cons (de_var 1 (by decide)) (da_cons (de_lst (da_cons de_int (da_cons de_int (da_cons de_int (da_cons de_int da_nil))))) da_nil)))) da_nil)) (pg_name c.nd (i := 4) rfl (by first | exact Or.inl rfl | exact Or.inr rfl)) tg_name (dss_one (ds_set (O' := []) c.nd (i := 3) rfl (by first | exact Or.inl rfl | exact Or.inr rfl) (de_add c.hK (de_var 3 (by decide)) (de_ix c (de_var 2 (by decide)) (de_callT c tk hy._law_draw rfl (da_cons (de_var 0 (by decide)) (da_cons (de_var 1 (by decide)) (da_cons (de_len c.hK rfl fx.f_len (da_cons (de_var 2 (by decide)) da_nil)) da_nil)))))) (by decide) (by decide))) (by decide))
    (dss_one (ds_ret (de_var 3 (by decide))))))))
theorem sc__law_word : FnScope n__law_word ["script", "town"] (defScope s__law_word) := ⟨rfl, rfl, rfl, by decide +kernel, rfl, by decide +kernel, by decide +kernel⟩
def n__law_leaf : List Str := ["script", "town", "way", "some"]
theorem body__law_leaf {P : Program} {w : World} {K : PySem.W.Frag} {mg : Str → Option Value} {base : Heap} {k : Nat} {d : Den} (fx : Fx w K mg) (hk2 : 2 ≤ k) (hy : Hyp P w K mg base k d) (T : Addr) : BodyOk false P w K mg base n__law_leaf "_law_leaf" (defScope s__law_leaf) (defBody s__law_leaf) k (RT K T) .f [] (b__law_leaf d) :=
  fun f cdv A outer s H E c tk hp => (dss_cons (ds_set (O' := []) c.nd (i := 2) rfl (by first | exact Or.inl rfl | exact Or.inr rfl) (de_callT c tk hy._law_draw rfl (da_cons (de_var 0 (by decide)) (da_cons (de_var 1 (by decide)) (da_cons de_int da_nil)))) (by decide) (by decide))
    (dss_cons (ds_if (dt_ck ck_lt (de_var 2 (by decide)) de_int rfl) (dss_one (ds_ret (de_ix c (de_lst (da_cons de_non (da_cons de_bl (da_cons de_bl da_nil)))) (de_var 2 (by decide))))) dss_nil)
    (dss_cons (ds_if (dt_ck ck_lt (de_var 2 (by decide)) de_int rfl) (dss_cons (ds_set (O' := []) c.nd (i := 3) rfl (by first | exact Or.inl rfl | exact Or.inr rfl) (de_lst (da_cons de_int (da_cons de_int (da_cons (de_neg de_int) (da_cons de_int (da_cons (de_sub (de_callT c tk hy._law_draw rfl (da_cons (de_var 0 (by decide)) (da_cons (de_var 1 (by decide)) (da_cons de_int da_nil)))) de_int) (da_cons de_int (da_cons (de_neg de_int) da_nil)))))))) (by decide) (by decide))
    (dss_one (ds_ret (de_callT c tk hy._law_pick rfl (da_cons (de_var 0 (by decide)) (da_cons (de_var 1 (by decide)) (da_cons (de_var 3 (by decide)) da_nil))))))) dss_nil)
    (dss_one (ds_ret (de_callT c tk hy._law_word rfl (da_cons (de_var 0 (by decide)) (da_cons (de_var 1 (by decide)) da_nil))))))))
theorem sc__law_leaf : FnScope n__law_leaf ["script", "town"] (defScope s__law_leaf) := ⟨rfl, rfl, rfl, by decide +kernel, rfl, by decide +kernel, by decide +kernel⟩
def n__law_some : List Str := ["script", "town", "deep", "way", "found", "key", "k"]
theorem body__law_some {P : Program} {w : World} {K : PySem.W.Frag} {mg : Str → Option Value} {base : Heap} {k : Nat} {d : Den} (fx : Fx w K mg) (hk2 : 2 ≤ k) (hy : Hyp P w K mg base k d) (T : Addr) : BodyOk false P w K mg base n__law_some "_law_some" (defScope s__law_some) (defBody s__law_some) k (RT K T) .f [] (b__law_some d) :=
  fun f cdv A outer s H E c tk hp => (dss_cons (ds_set (O' := []) c.nd (i := 3) rfl (by first | exact Or.inl rfl | exact Or.inr rfl) (de_if (dt_ck ck_gt (de_var 2 (by decide)) de_int rfl) (de_callT c tk hy._law_draw rfl (da_cons (de_var 0 (by decide)) (da_cons (de_var 1 (by decide)) (da_cons de_int da_nil)))) de_int) (by decide) (by decide))
    (dss_cons (ds_if (dt_ck ck_lt (de_var 3 (by decide)) de_int rfl) (dss_one (ds_ret (de_callT c tk hy._law_pick rfl (da_cons (de_var 0 (by decide)) (da_cons (de_var 1 (by decide)) (da_cons (de_lst (da_cons de_non (da_cons de_non (da_cons de_int (da_cons de_bl (da_cons de_str (da_cons (de_callT c tk hy._law_leaf rfl (da_cons (de_var 0 (by decide)) (da_cons (de_var 1 (by decide)) da_nil))) da_nil))))))) da_nil)))))) dss_nil)
    (dss_cons (ds_if (dt_ck (ck_eq c) (de_var 3 (by decide)) de_int rfl) (dss_one (ds_ret (de_give (df_lc (own := [("k", 6)]) c (di_range rfl fx.f_range (da_cons (de_callT c tk hy._law_draw rfl (da_cons (de_var 0 (by decide)) (da_cons (de_var 1 (by decide)) (da_cons de_int da_nil)))) da_nil)) (blkOk_by (N := n__law_some) (sc := defScope s__law_some) (by decide +kernel)) tg_name (fun _ _ _ _ _ => (pg_name c.nd (i := 6) rfl (by first | exact Or.inl rfl | exact Or.inr rfl))) (fun _ _ _ _ _ c' => dts_nil) (fun _ _ _ _ _ c' => (de_callT c' tk0 hy._law_some rfl (da_cons (de_var 0 (by decide)) (da_cons (de_var 1 (by decide)) (da_cons (de_sub (de_var 2 (by decide)) de_int) da_nil))))))))) dss_nil)
    (dss_cons (ds_setO (O' := [4]) 4 c.nd rfl (by first | exact Or.inl rfl | exact Or.inr rfl) df_dict0 (by decide) (by decide) (by decide))
    (dss_cons (ds_for hp rfl (di_any c.hK (de_lst (da_cons de_str (da_cons de_str (da_cons de_str (da_cons de_str da_nil)))))) (pg_name c.nd (i := 5) rfl (by first | exact Or.inl rfl | exact Or.inr rfl)) tg_name (dss_one (ds_if (dt_ck (ck_eq c) (de_callT c tk hy._law_draw rfl (da_cons (de_var 0 (by decide)) (da_cons (de_var 1 (by decide)) (da_cons de_int da_nil)))) de_int rfl) (dss_one (ds_setT 4 c (by decide) rfl (by first | exact Or.inl rfl | exact Or.inr (Or.inl rfl) | exact Or.inr (Or.inr rfl)) (de_var 5 (by decide)) (de_callT c tk hy._law_some rfl (da_cons (de_var 0 (by decide)) (da_cons (de_var 1 (by decide)) (da_cons (de_sub (de_var 2 (by decide)) de_int) da_nil)))))) dss_nil)) (by decide))
    (dss_frz (O1 := []) (dss_one (ds_ret (de_var 4 (by decide)))) (by decide)))))))
theorem sc__law_some : FnScope n__law_some ["script", "town", "deep"] (defScope s__law_some) := ⟨rfl, rfl, rfl, by decide +kernel, rfl, by decide +kernel, by decide +kernel⟩
def n__law_laid : List Str := ["thing", "sheet", "found", "key", "old"]
theorem body__law_laid {P : Program} {w : World} {K : PySem.W.Frag} {mg : Str → Option Value} {base : Heap} {k : Nat} {d : Den} (fx : Fx w K mg) (hk2 : 2 ≤ k) (hy : Hyp P w K mg base k d) (nm : Nat → Option Addr) : BodyOk false P w K mg base n__law_laid "_law_laid" (defScope s__law_laid) (defBody s__law_laid) k (R0 K nm) .f [] (b__law_laid d) :=
  fun f cdv A outer s H E c tk hp => (dss_cons (ds_if (dt_not (dt_tru c.hK (de_isi "dict" c rfl fx.f_isinstance rfl fx.f_dict (by decide +kernel) (de_var 1 (by decide))))) (dss_one (ds_ret (de_callP c tk hy._law_copy rfl (da_cons (de_var 1 (by decide)) da_nil)))) dss_nil)
    (dss_cons (ds_setO (O' := [2]) 2 c.nd rfl (by first | exact Or.inl rfl | exact Or.inr rfl) df_dict0 (by decide) (by decide) (by decide))
    (dss_cons (ds_if (dt_tru c.hK (de_isi "dict" c rfl fx.f_isinstance rfl fx.f_dict (by decide +kernel) (de_var 0 (by decide)))) (dss_one (ds_forW keysD_tab (by decide) hp rfl (di_keysL 0 (by decide) rfl (by first | exact Or.inl rfl | exact Or.inr (Or.inl rfl) | exact Or.inr (Or.inr rfl))) (pg_name c.nd (i := 3) rfl (by first | exact Or.inl rfl | exact Or.inr rfl)) tg_name (dss_one (ds_if (dt_ck (ck_notin c) (de_var 3 (by decide)) (de_var 1 (by decide)) rfl) (dss_one (ds_setT 2 c (by decide) rfl (by first | exact Or.inl rfl | exact Or.inr (Or.inl rfl) | exact Or.inr (Or.inr rfl)) (de_var 3 (by decide)) (de_callP c tk hy._law_copy rfl (da_cons (de_ix c (de_var 0 (by decide)) (de_var 3 (by decide))) da_nil)))) dss_nil)) (by decide))) dss_nil)
    (dss_cons (ds_forW keysD_tab (by decide) hp rfl (di_keysL 1 (by decide) rfl (by first | exact Or.inl rfl | exact Or.inr (Or.inl rfl) | exact Or.inr (Or.inr rfl))) (pg_name c.nd (i := 3) rfl (by first | exact Or.inl rfl | exact Or.inr rfl)) tg_name (dss_one (ds_if (dt_notN (de_ix c (de_var 1 (by decide)) (de_var 3 (by decide)))) (dss_cons (ds_set (O' := [2]) c.nd (i := 4) rfl (by first | exact Or.inl rfl | exact Or.inr rfl) (de_if (PW.pt (dw_and (dt_tru c.hK (de_isi "dict" c rfl fx.f_isinstance rfl fx.f_dict (by decide +kernel) (de_var 0 (by decide)))) (dw_and1 (dt_ck (ck_in c) (de_var 3 (by decide)) (de_var 0 (by decide)) rfl)))) (de_ix c (de_var 0 (by decide)) (de_var 3 (by decide))) de_non) (by decide) (by decide))
    (dss_one (ds_setT 2 c (by decide) rfl (by first | exact Or.inl rfl | exact Or.inr (Or.inl rfl) | exact Or.inr (Or.inr rfl)) (de_var 3 (by decide)) (de_callP c tk hy._law_laid rfl (da_cons (de_var 4 (by decide)) (da_cons (de_ix c (de_var 1 (by decide)) (de_var 3 (by decide))) da_nil)))))) dss_nil)) (by decide))
    (dss_frz (O1 := []) (dss_one (ds_ret (de_var 2 (by decide)))) (by decide))))))
theorem sc__law_laid : FnScope n__law_laid ["thing", "sheet"] (defScope s__law_laid) := ⟨rfl, rfl, rfl, by decide +kernel, rfl, by decide +kernel, by decide +kernel⟩
def n__law_can : List Str := ["one", "other", "key", "old"]
theorem body__law_can {P : Program} {w : World} {K : PySem.W.Frag} {mg : Str → Option Value} {base : Heap} {k : Nat} {d : Den} (fx : Fx w K mg) (hk2 : 2 ≤ k) (hy : Hyp P w K mg base k d) (nm : Nat → Option Addr) : BodyOk false P w K mg base n__law_can "_law_can" (defScope s__law_can) (defBody s__law_can) k (R0 K nm) .f [] (b__law_can d) :=
  fun f cdv A outer s H E c tk hp => (dss_cons (ds_if (dt_not (dt_tru c.hK (de_isi "dict" c rfl fx.f_isinstance rfl fx.f_dict (by decide +kernel) (de_var 1 (by decide))))) (dss_one (ds_ret de_bl)) dss_nil)
    (dss_cons (ds_forW keysD_tab (by decide) hp rfl (di_keysL 1 (by decide) rfl (by first | exact Or.inl rfl | exact Or.inr (Or.inl rfl) | exact Or.inr (Or.inr rfl))) (pg_name c.nd (i := 2) rfl (by first | exact Or.inl rfl | exact Or.inr rfl)) tg_name (dss_cons (ds_set (O' := []) c.nd (i := 3) rfl (by first | exact Or.inl rfl | exact Or.inr rfl) (de_and c.hK (de_isi "dict" c rfl fx.f_isinstance rfl fx.f_dict (by decide +kernel) (de_var 0 (by decide))) (de_one (de_ck (ck_in c) (de_var 2 (by decide)) (de_var 0 (by decide)) rfl))) (by decide) (by decide))
    (dss_cons (ds_if (PW.pt (dw_and (dt_isN (de_ix c (de_var 1 (by decide)) (de_var 2 (by decide)))) (dw_and1 (dt_not (PW.pt (dw_and (dt_tru c.hK (de_var 3 (by decide))) (dw_and1 (dt_isN (de_ix c (de_var 0 (by decide)) (de_var 2 (by decide))))))))))) (dss_one (ds_ret de_bl)) dss_nil)
    (dss_one (ds_if (PW.pt (dw_and (dt_notN (de_ix c (de_var 1 (by decide)) (de_var 2 (by decide)))) (dw_and1 (dt_not (dt_tru c.hK (de_callP c tk hy._law_can rfl (da_cons (de_if (dt_tru c.hK (de_var 3 (by decide))) (de_ix c (de_var 0 (by decide)) (de_var 2 (by decide))) de_non) (da_cons (de_ix c (de_var 1 (by decide)) (de_var 2 (by decide))) da_nil)))))))) (dss_one (ds_ret de_bl)) dss_nil)))) (by decide))
    (dss_one (ds_ret de_bl))))
theorem sc__law_can : FnScope n__law_can ["one", "other"] (defScope s__law_can) := ⟨rfl, rfl, rfl, by decide +kernel, rfl, by decide +kernel, by decide +kernel⟩
def n__law_told : List Str := ["way", "one", "other", "held", "found", "e"]
theorem body__law_told {P : Program} {w : World} {K : PySem.W.Frag} {mg : Str → Option Value} {base : Heap} {k : Nat} {d : Den} (fx : Fx w K mg) (hk2 : 2 ≤ k) (hy : Hyp P w K mg base k d) (nm : Nat → Option Addr) : BodyOk false P w K mg base n__law_told "_law_told" (defScope s__law_told) (defBody s__law_told) k (R0 K nm) .e [4] (b__law_told d) :=
  fun f cdv A outer s H E c tk hp => (dss_cons (ds_set (O' := []) c.nd (i := 3) rfl (by first | exact Or.inl rfl | exact Or.inr rfl) de_non (by decide) (by decide))
    (dss_cons (ds_setA (O' := [4]) 4 c.nd rfl (by first | exact Or.inl rfl | exact Or.inr rfl) (df_scal de_non) (by decide) (by decide) (by decide))
    (dss_cons (ds_tryHO (O' := [4]) c tk fx.xf (by decide) rfl rfl rfl rfl (i := 5) rfl rfl (j := 3) rfl rfl rfl fx.c_NestError (by decide) (by decide) rfl (by first | exact Or.inl rfl | exact Or.inr (Or.inl rfl) | exact Or.inr (Or.inr rfl)) (fun _ _ _ ct tt pt => (dss_one (ds_setA (O' := [4]) 4 ct.nd rfl (by first | exact Or.inl rfl | exact Or.inr rfl) (df_if (dt_ck (ck_eq ct) (de_var 0 (by decide)) de_int rfl) (df_callP ct tt hy.merged rfl (da_cons (de_var 1 (by decide)) (da_cons (de_var 2 (by decide)) da_nil))) (df_scal (de_callP ct tt hy.sheet_between rfl (da_cons (de_var 1 (by decide)) (da_cons (de_var 2 (by decide)) da_nil))))) (by decide) (by decide) (by decide)))))
    (dss_one (ds_retL1 4 (dt_isN (de_var 3 (by decide))) (by decide) rfl (by first | exact Or.inl rfl | exact Or.inr (Or.inl rfl) | exact Or.inr (Or.inr rfl)) (de_callP c tk hy._law_refusal rfl (da_cons (de_var 3 (by decide)) da_nil)))))))
theorem sc__law_told : FnScope n__law_told ["way", "one", "other"] (defScope s__law_told) := ⟨rfl, rfl, rfl, by decide +kernel, rfl, by decide +kernel, by decide +kernel⟩
def n_law : List Str := ["script", "town", "thing", "sheet", "other", "given", "found", "due", "told", "bad", "some", "way"]
theorem rest_law {P : Program} {w : World} {K : PySem.W.Frag} {mg : Str → Option Value} {base : Heap} {k : Nat} {d : Den} (fx : Fx w K mg) (hk2 : 2 ≤ k) (hy : Hyp P w K mg base k d) (T : Addr) : BodyOk false P w K mg base n_law "law" (defScope s_law) ((defBody s_law).drop 1) k (RT K T) .f [] (b_law d) :=
  fun f cdv A outer s H E c tk hp => (dss_cons (ds_set (O' := []) c.nd (i := 2) rfl (by first | exact Or.inl rfl | exact Or.inr rfl) (de_callT c tk hy._law_some rfl (da_cons (de_var 0 (by decide)) (da_cons (de_var 1 (by decide)) (da_cons de_int da_nil)))) (by decide) (by decide))
    (dss_cons (ds_set (O' := []) c.nd (i := 3) rfl (by first | exact Or.inl rfl | exact Or.inr rfl) (de_callT c tk hy._law_some rfl (da_cons (de_var 0 (by decide)) (da_cons (de_var 1 (by decide)) (da_cons de_int da_nil)))) (by decide) (by decide))
    (dss_cons (ds_set (O' := []) c.nd (i := 4) rfl (by first | exact Or.inl rfl | exact Or.inr rfl) (de_callT c tk hy._law_some rfl (da_cons (de_var 0 (by decide)) (da_cons (de_var 1 (by decide)) (da_cons de_int da_nil)))) (by decide) (by decide))
    (dss_cons (ds_if (dt_ck (ck_eq c) (de_callT c tk hy._law_draw rfl (da_cons (de_var 0 (by decide)) (da_cons (de_var 1 (by decide)) (da_cons de_int da_nil)))) de_int rfl) (dss_one (ds_set (O' := []) c.nd (i := 4) rfl (by first | exact Or.inl rfl | exact Or.inr rfl) (de_callP c tk hy._law_laid rfl (da_cons (de_var 2 (by decide)) (da_cons (de_var 4 (by decide)) da_nil))) (by decide) (by decide))) dss_nil)
    (dss_cons (ds_set (O' := []) c.nd (i := 5) rfl (by first | exact Or.inl rfl | exact Or.inr rfl) (de_lst (da_cons (de_callP c tk hy._law_copy rfl (da_cons (de_var 2 (by decide)) da_nil)) (da_cons (de_callP c tk hy._law_copy rfl (da_cons (de_var 3 (by decide)) da_nil)) (da_cons (de_callP c tk hy._law_copy rfl (da_cons (de_var 4 (by decide)) da_nil)) da_nil)))) (by decide) (by decide))
    (dss_zone [0, 1, 2, 3, 4, 5] [6] (dz_cons (dz_setN 6 c.nd rfl (by first | exact Or.inl rfl | exact Or.inr rfl) (dn_callPE c tk hy._law_told rfl (da_cons de_int (da_cons (de_var 2 (by decide)) (da_cons (de_var 3 (by decide)) da_nil)))) (by decide))
    (dz_cons (dz_set 7 c.nd rfl (by first | exact Or.inl rfl | exact Or.inr rfl) (de_callP c tk hy._law_laid rfl (da_cons (de_var 2 (by decide)) (da_cons (de_var 3 (by decide)) da_nil))) (by decide) (by decide))
    (dz_cons (dz_if (PW.pt (dw_or (dt_not (dt_tru c.hK (de_isi "list" c rfl fx.f_isinstance rfl fx.f_list (by decide +kernel) (de_var 6 (by decide))))) (dw_or (dt_not (dt_tru c.hK (de_callP c tk hy._law_same rfl (da_cons (de_ix c (de_var 6 (by decide)) de_int) (da_cons (de_var 7 (by decide)) da_nil))))) (dw_or1 (dt_not (dt_tru c.hK (de_callP c tk hy._law_same rfl (da_cons (de_callP c tk (hy.merged).ofPF rfl (da_cons (de_ix c (de_var 6 (by decide)) de_int) (da_cons (de_var 3 (by decide)) da_nil))) (da_cons (de_var 7 (by decide)) da_nil))))))))) (dz_one (dz_ret de_bl)) dz_nil)
    (dz_cons (dz_if (dt_tru c.hK (de_isi "dict" c rfl fx.f_isinstance rfl fx.f_dict (by decide +kernel) (de_ix c (de_var 6 (by decide)) de_int))) (dz_one (dz_put 6 0 (y := .int 1) (ve := .int 1) rfl c (by decide) (by decide) (by decide) rfl (by first | exact Or.inl rfl | exact Or.inr (Or.inl rfl) | exact Or.inr (Or.inr rfl)) (by decide) pe_int (fun _ => rfl))) dz_nil)
    (dz_out (dss_cons (ds_set (O' := []) c.nd (i := 8) rfl (by first | exact Or.inl rfl | exact Or.inr rfl) (de_callP c tk (hy._law_told).ofPE rfl (da_cons de_int (da_cons (de_var 2 (by decide)) (da_cons (de_var 4 (by decide)) da_nil)))) (by decide) (by decide))
    (dss_cons (ds_if (PW.pt (dw_or (dt_not (dt_tru c.hK (de_isi "list" c rfl fx.f_isinstance rfl fx.f_list (by decide +kernel) (de_var 8 (by decide))))) (dw_or1 (dt_ck (ck_eq c) (de_isN (de_ix c (de_var 8 (by decide)) de_int)) (de_callP c tk hy._law_can rfl (da_cons (de_var 2 (by decide)) (da_cons (de_var 4 (by decide)) da_nil))) rfl)))) (dss_one (ds_ret de_bl)) dss_nil)
    (dss_cons (ds_if (dt_notN (de_ix c (de_var 8 (by decide)) de_int)) (dss_cons (ds_if (PW.pt (dw_or (dt_not (dt_tru c.hK (de_isi "tuple" c rfl fx.f_isinstance rfl fx.f_tuple (by decide +kernel) (de_ix c (de_var 8 (by decide)) de_int)))) (dw_or1 (dt_ck (ck_ne c) (de_len c.hK rfl fx.f_len (da_cons (de_ix c (de_var 8 (by decide)) de_int) da_nil)) de_int rfl)))) (dss_one (ds_ret de_bl)) dss_nil)
    (dss_one (ds_if (dt_not (dt_tru c.hK (de_callP c tk hy._law_same rfl (da_cons (de_callP c tk hy._law_laid rfl (da_cons (de_var 2 (by decide)) (da_cons (de_ix c (de_ix c (de_var 8 (by decide)) de_int) de_int) da_nil))) (da_cons (de_var 4 (by decide)) da_nil))))) (dss_one (ds_ret de_bl)) dss_nil))) dss_nil)
    (dss_cons (ds_if (dt_not (dt_tru c.hK (de_callP c tk hy._law_same rfl (da_cons (de_lst (da_cons (de_var 2 (by decide)) (da_cons (de_var 3 (by decide)) (da_cons (de_var 4 (by decide)) da_nil)))) (da_cons (de_var 5 (by decide)) da_nil))))) (dss_one (ds_ret de_bl)) dss_nil)
    (dss_cons (ds_set (O' := []) c.nd (i := 9) rfl (by first | exact Or.inl rfl | exact Or.inr rfl) (de_callT c tk hy._law_pick rfl (da_cons (de_var 0 (by decide)) (da_cons (de_var 1 (by decide)) (da_cons (de_lst (da_cons de_str (da_cons (de_give (df_disp (dps_cons (de_mul de_str de_int) de_int dps_nil) rfl rfl (fun z => nomatch z) (by decide) (fun r s ds s2 z => by rw [(dlen_cons (dlen_cons dlen_nil)) r s ds s2 z]; decide))) (da_cons (de_lst (da_cons de_int da_nil)) da_nil)))) da_nil)))) (by decide) (by decide))
    (dss_cons (ds_set (O' := []) c.nd (i := 10) rfl (by first | exact Or.inl rfl | exact Or.inr rfl) (de_add c.hK (de_give (df_lc (own := [("way", 11)]) c (di_range rfl fx.f_range (da_cons de_int da_nil)) (blkOk_by (N := n_law) (sc := defScope s_law) (by decide +kernel)) tg_name (fun _ _ _ _ _ => (pg_name c.nd (i := 11) rfl (by first | exact Or.inl rfl | exact Or.inr rfl))) (fun _ _ _ _ _ c' => dts_nil) (fun _ _ _ _ _ c' => (de_callP c' tk0 (hy._law_told).ofPE rfl (da_cons (de_var 11 (by decide)) (da_cons (de_var 9 (by decide)) (da_cons (de_var 2 (by decide)) da_nil))))))) (de_give (df_lc (own := [("way", 11)]) c (di_range rfl fx.f_range (da_cons de_int da_nil)) (blkOk_by (N := n_law) (sc := defScope s_law) (by decide +kernel)) tg_name (fun _ _ _ _ _ => (pg_name c.nd (i := 11) rfl (by first | exact Or.inl rfl | exact Or.inr rfl))) (fun _ _ _ _ _ c' => dts_nil) (fun _ _ _ _ _ c' => (de_callP c' tk0 (hy._law_told).ofPE rfl (da_cons (de_var 11 (by decide)) (da_cons (de_var 2 (by decide)) (da_cons (de_var 9 (by decide)) da_nil)))))))) (by decide) (by decide))
    (dss_one (ds_ret (de_ck (ck_eq c) (de_var 10 (by decide)) (de_mul (de_lst (da_cons (de_tup (da_cons de_str (da_cons de_str da_nil))) da_nil)) de_int) rfl))))))))))))))))))))
theorem sc_law : FnScope n_law ["script"] (defScope s_law) := ⟨rfl, rfl, rfl, by decide +kernel, rfl, by decide +kernel, by decide +kernel⟩
end Nw
set_option Elab.async false
set_option linter.all false
set_option maxRecDepth 100000
set_option maxHeartbeats 0
namespace Nw
open PySem PySem.Spec L2
abbrev FnP (K : PySem.W.Frag) (x : Str) (st : Stmt) (f : Addr) (fd : FuncData) : Prop := FunD K x x (defArgs st) (defBody st) (defScope st) [] [] f fd
structure Fns (K : PySem.W.Frag) (mg : Str → Option Value) : Prop where
  kind_of : (∃ fd, FnP K "kind_of" s_kind_of (He.ga K "kind_of") fd) ∧ mg "kind_of" = some (.ref (He.ga K "kind_of"))
  is_sign : (∃ fd, FnP K "is_sign" s_is_sign (He.ga K "is_sign") fd) ∧ mg "is_sign" = some (.ref (He.ga K "is_sign"))
  is_word : (∃ fd, FnP K "is_word" s_is_word (He.ga K "is_word") fd) ∧ mg "is_word" = some (.ref (He.ga K "is_word"))
  is_thing : (∃ fd, FnP K "is_thing" s_is_thing (He.ga K "is_thing") fd) ∧ mg "is_thing" = some (.ref (He.ga K "is_thing"))
  inner_things : (∃ fd, FnP K "inner_things" s_inner_things (He.ga K "inner_things") fd) ∧ mg "inner_things" = some (.ref (He.ga K "inner_things"))
  look_thing : (∃ fd, FnP K "look_thing" s_look_thing (He.ga K "look_thing") fd) ∧ mg "look_thing" = some (.ref (He.ga K "look_thing"))
  is_same : (∃ fd, FnP K "is_same" s_is_same (He.ga K "is_same") fd) ∧ mg "is_same" = some (.ref (He.ga K "is_same"))
  copied : (∃ fd, FnP K "copied" s_copied (He.ga K "copied") fd) ∧ mg "copied" = some (.ref (He.ga K "copied"))
  laid : (∃ fd, FnP K "laid" s_laid (He.ga K "laid") fd) ∧ mg "laid" = some (.ref (He.ga K "laid"))
  merged : (∃ fd, FnP K "merged" s_merged (He.ga K "merged") fd) ∧ mg "merged" = some (.ref (He.ga K "merged"))
  has_none : (∃ fd, FnP K "has_none" s_has_none (He.ga K "has_none") fd) ∧ mg "has_none" = some (.ref (He.ga K "has_none"))
  sheet_for : (∃ fd, FnP K "sheet_for" s_sheet_for (He.ga K "sheet_for") fd) ∧ mg "sheet_for" = some (.ref (He.ga K "sheet_for"))
  sheet_between : (∃ fd, FnP K "sheet_between" s_sheet_between (He.ga K "sheet_between") fd) ∧ mg "sheet_between" = some (.ref (He.ga K "sheet_between"))
  _law_cell : (∃ fd, FnP K "_law_cell" s__law_cell (He.ga K "_law_cell") fd) ∧ mg "_law_cell" = some (.ref (He.ga K "_law_cell"))
  _law_mix : (∃ fd, FnP K "_law_mix" s__law_mix (He.ga K "_law_mix") fd) ∧ mg "_law_mix" = some (.ref (He.ga K "_law_mix"))
  _law_draw : (∃ fd, FnP K "_law_draw" s__law_draw (He.ga K "_law_draw") fd) ∧ mg "_law_draw" = some (.ref (He.ga K "_law_draw"))
  _law_pick : (∃ fd, FnP K "_law_pick" s__law_pick (He.ga K "_law_pick") fd) ∧ mg "_law_pick" = some (.ref (He.ga K "_law_pick"))
  _law_refusal : (∃ fd, FnP K "_law_refusal" s__law_refusal (He.ga K "_law_refusal") fd) ∧ mg "_law_refusal" = some (.ref (He.ga K "_law_refusal"))
  _law_kind : (∃ fd, FnP K "_law_kind" s__law_kind (He.ga K "_law_kind") fd) ∧ mg "_law_kind" = some (.ref (He.ga K "_law_kind"))
  _law_same : (∃ fd, FnP K "_law_same" s__law_same (He.ga K "_law_same") fd) ∧ mg "_law_same" = some (.ref (He.ga K "_law_same"))
  _law_copy : (∃ fd, FnP K "_law_copy" s__law_copy (He.ga K "_law_copy") fd) ∧ mg "_law_copy" = some (.ref (He.ga K "_law_copy"))
  _law_word : (∃ fd, FnP K "_law_word" s__law_word (He.ga K "_law_word") fd) ∧ mg "_law_word" = some (.ref (He.ga K "_law_word"))
  _law_leaf : (∃ fd, FnP K "_law_leaf" s__law_leaf (He.ga K "_law_leaf") fd) ∧ mg "_law_leaf" = some (.ref (He.ga K "_law_leaf"))
  _law_some : (∃ fd, FnP K "_law_some" s__law_some (He.ga K "_law_some") fd) ∧ mg "_law_some" = some (.ref (He.ga K "_law_some"))
  _law_laid : (∃ fd, FnP K "_law_laid" s__law_laid (He.ga K "_law_laid") fd) ∧ mg "_law_laid" = some (.ref (He.ga K "_law_laid"))
  _law_can : (∃ fd, FnP K "_law_can" s__law_can (He.ga K "_law_can") fd) ∧ mg "_law_can" = some (.ref (He.ga K "_law_can"))
  _law_told : (∃ fd, FnP K "_law_told" s__law_told (He.ga K "_law_told") fd) ∧ mg "_law_told" = some (.ref (He.ga K "_law_told"))
  law : (∃ fd, FnP K "law" s_law (He.ga K "law") fd) ∧ mg "law" = some (.ref (He.ga K "law"))
theorem has_of {md : Bool} {P : Program} {w : World} {K : PySem.W.Frag} {mg : Str → Option Value} {base : Heap} {k : Nat} {sp : Sp} {x : Str} {st : Stmt} {ps : List Str} (h : (∃ fd, FnP K x st (He.ga K x) fd) ∧ mg x = some (.ref (He.ga K x)))
    (b : ∀ (kV doc pm : Value) (an : Option Addr) (cdv ct : Value) (us : List Value), us.length = ps.length → bindArgs (PySem.W.fnOf x x (defArgs st) (defBody st) (defScope st) .none kV doc pm an cdv ct) ⟨us, []⟩ = pure (ps.zip us))
    (F : ∀ fd, FnP K x st (He.ga K x) fd → FnOk P w K mg base (CXm md P w) k (He.ga K x) fd ps sp) : Has md P w K mg base k x sp := by
  obtain ⟨⟨fd, hf⟩, hm⟩ := h
  exact ⟨He.ga K x, fd, ps, F fd hf, hm, hf.kp, hf.bindsN b⟩
theorem bi_kind_of (kV doc pm : Value) (an : Option Addr) (cdv ct : Value) (us : List Value) (hl : us.length = (["thing"] : List Str).length) : bindArgs (PySem.W.fnOf "kind_of" "kind_of" (defArgs s_kind_of) (defBody s_kind_of) (defScope s_kind_of) .none kV doc pm an cdv ct) ⟨us, []⟩ = pure ((["thing"] : List Str).zip us) := match us, hl with | [_], _ => rfl
theorem bi_is_sign (kV doc pm : Value) (an : Option Addr) (cdv ct : Value) (us : List Value) (hl : us.length = (["sign"] : List Str).length) : bindArgs (PySem.W.fnOf "is_sign" "is_sign" (defArgs s_is_sign) (defBody s_is_sign) (defScope s_is_sign) .none kV doc pm an cdv ct) ⟨us, []⟩ = pure ((["sign"] : List Str).zip us) := match us, hl with | [_], _ => rfl
theorem bi_is_word (kV doc pm : Value) (an : Option Addr) (cdv ct : Value) (us : List Value) (hl : us.length = (["word"] : List Str).length) : bindArgs (PySem.W.fnOf "is_word" "is_word" (defArgs s_is_word) (defBody s_is_word) (defScope s_is_word) .none kV doc pm an cdv ct) ⟨us, []⟩ = pure ((["word"] : List Str).zip us) := match us, hl with | [_], _ => rfl
theorem bi_is_thing (kV doc pm : Value) (an : Option Addr) (cdv ct : Value) (us : List Value) (hl : us.length = (["thing", "deep"] : List Str).length) : bindArgs (PySem.W.fnOf "is_thing" "is_thing" (defArgs s_is_thing) (defBody s_is_thing) (defScope s_is_thing) .none kV doc pm an cdv ct) ⟨us, []⟩ = pure ((["thing", "deep"] : List Str).zip us) := match us, hl with | [_, _], _ => rfl
theorem bi_inner_things (kV doc pm : Value) (an : Option Addr) (cdv ct : Value) (us : List Value) (hl : us.length = (["thing"] : List Str).length) : bindArgs (PySem.W.fnOf "inner_things" "inner_things" (defArgs s_inner_things) (defBody s_inner_things) (defScope s_inner_things) .none kV doc pm an cdv ct) ⟨us, []⟩ = pure ((["thing"] : List Str).zip us) := match us, hl with | [_], _ => rfl
theorem bi_look_thing (kV doc pm : Value) (an : Option Addr) (cdv ct : Value) (us : List Value) (hl : us.length = (["thing"] : List Str).length) : bindArgs (PySem.W.fnOf "look_thing" "look_thing" (defArgs s_look_thing) (defBody s_look_thing) (defScope s_look_thing) .none kV doc pm an cdv ct) ⟨us, []⟩ = pure ((["thing"] : List Str).zip us) := match us, hl with | [_], _ => rfl
theorem bi_is_same (kV doc pm : Value) (an : Option Addr) (cdv ct : Value) (us : List Value) (hl : us.length = (["one", "other"] : List Str).length) : bindArgs (PySem.W.fnOf "is_same" "is_same" (defArgs s_is_same) (defBody s_is_same) (defScope s_is_same) .none kV doc pm an cdv ct) ⟨us, []⟩ = pure ((["one", "other"] : List Str).zip us) := match us, hl with | [_, _], _ => rfl
theorem bi_copied (kV doc pm : Value) (an : Option Addr) (cdv ct : Value) (us : List Value) (hl : us.length = (["thing"] : List Str).length) : bindArgs (PySem.W.fnOf "copied" "copied" (defArgs s_copied) (defBody s_copied) (defScope s_copied) .none kV doc pm an cdv ct) ⟨us, []⟩ = pure ((["thing"] : List Str).zip us) := match us, hl with | [_], _ => rfl
theorem bi_laid (kV doc pm : Value) (an : Option Addr) (cdv ct : Value) (us : List Value) (hl : us.length = (["thing", "sheet"] : List Str).length) : bindArgs (PySem.W.fnOf "laid" "laid" (defArgs s_laid) (defBody s_laid) (defScope s_laid) .none kV doc pm an cdv ct) ⟨us, []⟩ = pure ((["thing", "sheet"] : List Str).zip us) := match us, hl with | [_, _], _ => rfl
theorem bi_merged (kV doc pm : Value) (an : Option Addr) (cdv ct : Value) (us : List Value) (hl : us.length = (["thing", "sheet"] : List Str).length) : bindArgs (PySem.W.fnOf "merged" "merged" (defArgs s_merged) (defBody s_merged) (defScope s_merged) .none kV doc pm an cdv ct) ⟨us, []⟩ = pure ((["thing", "sheet"] : List Str).zip us) := match us, hl with | [_, _], _ => rfl
theorem bi_has_none (kV doc pm : Value) (an : Option Addr) (cdv ct : Value) (us : List Value) (hl : us.length = (["thing"] : List Str).length) : bindArgs (PySem.W.fnOf "has_none" "has_none" (defArgs s_has_none) (defBody s_has_none) (defScope s_has_none) .none kV doc pm an cdv ct) ⟨us, []⟩ = pure ((["thing"] : List Str).zip us) := match us, hl with | [_], _ => rfl
theorem bi_sheet_for (kV doc pm : Value) (an : Option Addr) (cdv ct : Value) (us : List Value) (hl : us.length = (["one", "other"] : List Str).length) : bindArgs (PySem.W.fnOf "sheet_for" "sheet_for" (defArgs s_sheet_for) (defBody s_sheet_for) (defScope s_sheet_for) .none kV doc pm an cdv ct) ⟨us, []⟩ = pure ((["one", "other"] : List Str).zip us) := match us, hl with | [_, _], _ => rfl
theorem bi_sheet_between (kV doc pm : Value) (an : Option Addr) (cdv ct : Value) (us : List Value) (hl : us.length = (["one", "other"] : List Str).length) : bindArgs (PySem.W.fnOf "sheet_between" "sheet_between" (defArgs s_sheet_between) (defBody s_sheet_between) (defScope s_sheet_between) .none kV doc pm an cdv ct) ⟨us, []⟩ = pure ((["one", "other"] : List Str).zip us) := match us, hl with | [_, _], _ => rfl
theorem bi__law_cell (kV doc pm : Value) (an : Option Addr) (cdv ct : Value) (us : List Value) (hl : us.length = (["script", "k"] : List Str).length) : bindArgs (PySem.W.fnOf "_law_cell" "_law_cell" (defArgs s__law_cell) (defBody s__law_cell) (defScope s__law_cell) .none kV doc pm an cdv ct) ⟨us, []⟩ = pure ((["script", "k"] : List Str).zip us) := match us, hl with | [_, _], _ => rfl
theorem bi__law_mix (kV doc pm : Value) (an : Option Addr) (cdv ct : Value) (us : List Value) (hl : us.length = (["script", "k"] : List Str).length) : bindArgs (PySem.W.fnOf "_law_mix" "_law_mix" (defArgs s__law_mix) (defBody s__law_mix) (defScope s__law_mix) .none kV doc pm an cdv ct) ⟨us, []⟩ = pure ((["script", "k"] : List Str).zip us) := match us, hl with | [_, _], _ => rfl
theorem bi__law_draw (kV doc pm : Value) (an : Option Addr) (cdv ct : Value) (us : List Value) (hl : us.length = (["script", "town", "many"] : List Str).length) : bindArgs (PySem.W.fnOf "_law_draw" "_law_draw" (defArgs s__law_draw) (defBody s__law_draw) (defScope s__law_draw) .none kV doc pm an cdv ct) ⟨us, []⟩ = pure ((["script", "town", "many"] : List Str).zip us) := match us, hl with | [_, _, _], _ => rfl
theorem bi__law_pick (kV doc pm : Value) (an : Option Addr) (cdv ct : Value) (us : List Value) (hl : us.length = (["script", "town", "some"] : List Str).length) : bindArgs (PySem.W.fnOf "_law_pick" "_law_pick" (defArgs s__law_pick) (defBody s__law_pick) (defScope s__law_pick) .none kV doc pm an cdv ct) ⟨us, []⟩ = pure ((["script", "town", "some"] : List Str).zip us) := match us, hl with | [_, _, _], _ => rfl
theorem bi__law_refusal (kV doc pm : Value) (an : Option Addr) (cdv ct : Value) (us : List Value) (hl : us.length = (["held"] : List Str).length) : bindArgs (PySem.W.fnOf "_law_refusal" "_law_refusal" (defArgs s__law_refusal) (defBody s__law_refusal) (defScope s__law_refusal) .none kV doc pm an cdv ct) ⟨us, []⟩ = pure ((["held"] : List Str).zip us) := match us, hl with | [_], _ => rfl
theorem bi__law_kind (kV doc pm : Value) (an : Option Addr) (cdv ct : Value) (us : List Value) (hl : us.length = (["thing"] : List Str).length) : bindArgs (PySem.W.fnOf "_law_kind" "_law_kind" (defArgs s__law_kind) (defBody s__law_kind) (defScope s__law_kind) .none kV doc pm an cdv ct) ⟨us, []⟩ = pure ((["thing"] : List Str).zip us) := match us, hl with | [_], _ => rfl
theorem bi__law_same (kV doc pm : Value) (an : Option Addr) (cdv ct : Value) (us : List Value) (hl : us.length = (["one", "other"] : List Str).length) : bindArgs (PySem.W.fnOf "_law_same" "_law_same" (defArgs s__law_same) (defBody s__law_same) (defScope s__law_same) .none kV doc pm an cdv ct) ⟨us, []⟩ = pure ((["one", "other"] : List Str).zip us) := match us, hl with | [_, _], _ => rfl
theorem bi__law_copy (kV doc pm : Value) (an : Option Addr) (cdv ct : Value) (us : List Value) (hl : us.length = (["thing"] : List Str).length) : bindArgs (PySem.W.fnOf "_law_copy" "_law_copy" (defArgs s__law_copy) (defBody s__law_copy) (defScope s__law_copy) .none kV doc pm an cdv ct) ⟨us, []⟩ = pure ((["thing"] : List Str).zip us) := match us, hl with | [_], _ => rfl
theorem bi__law_word (kV doc pm : Value) (an : Option Addr) (cdv ct : Value) (us : List Value) (hl : us.length = (["script", "town"] : List Str).length) : bindArgs (PySem.W.fnOf "_law_word" "_law_word" (defArgs s__law_word) (defBody s__law_word) (defScope s__law_word) .none kV doc pm an cdv ct) ⟨us, []⟩ = pure ((["script", "town"] : List Str).zip us) := match us, hl with | [_, _], _ => rfl
theorem bi__law_leaf (kV doc pm : Value) (an : Option Addr) (cdv ct : Value) (us : List Value) (hl : us.length = (["script", "town"] : List Str).length) : bindArgs (PySem.W.fnOf "_law_leaf" "_law_leaf" (defArgs s__law_leaf) (defBody s__law_leaf) (defScope s__law_leaf) .none kV doc pm an cdv ct) ⟨us, []⟩ = pure ((["script", "town"] : List Str).zip us) := match us, hl with | [_, _], _ => rfl
theorem bi__law_some (kV doc pm : Value) (an : Option Addr) (cdv ct : Value) (us : List Value) (hl : us.length = (["script", "town", "deep"] : List Str).length) : bindArgs (PySem.W.fnOf "_law_some" "_law_some" (defArgs s__law_some) (defBody s__law_some) (defScope s__law_some) .none kV doc pm an cdv ct) ⟨us, []⟩ = pure ((["script", "town", "deep"] : List Str).zip us) := match us, hl with | [_, _, _], _ => rfl
theorem bi__law_laid (kV doc pm : Value) (an : Option Addr) (cdv ct : Value) (us : List Value) (hl : us.length = (["thing", "sheet"] : List Str).length) : bindArgs (PySem.W.fnOf "_law_laid" "_law_laid" (defArgs s__law_laid) (defBody s__law_laid) (defScope s__law_laid) .none kV doc pm an cdv ct) ⟨us, []⟩ = pure ((["thing", "sheet"] : List Str).zip us) := match us, hl with | [_, _], _ => rfl
theorem bi__law_can (kV doc pm : Value) (an : Option Addr) (cdv ct : Value) (us : List Value) (hl : us.length = (["one", "other"] : List Str).length) : bindArgs (PySem.W.fnOf "_law_can" "_law_can" (defArgs s__law_can) (defBody s__law_can) (defScope s__law_can) .none kV doc pm an cdv ct) ⟨us, []⟩ = pure ((["one", "other"] : List Str).zip us) := match us, hl with | [_, _], _ => rfl
theorem bi__law_told (kV doc pm : Value) (an : Option Addr) (cdv ct : Value) (us : List Value) (hl : us.length = (["way", "one", "other"] : List Str).length) : bindArgs (PySem.W.fnOf "_law_told" "_law_told" (defArgs s__law_told) (defBody s__law_told) (defScope s__law_told) .none kV doc pm an cdv ct) ⟨us, []⟩ = pure ((["way", "one", "other"] : List Str).zip us) := match us, hl with | [_, _, _], _ => rfl
theorem hyp_all {P : Program} {w : World} {K : PySem.W.Frag} {mg : Str → Option Value} {base : Heap} (fx : Fx w K mg) (fns : Fns K mg) : ∀ k, Hyp P w K mg base (k + 2) (den k)
  | 0 => {
    kind_of := has_of fns.kind_of bi_kind_of fun _ _ => fn_none not_P
    is_sign := has_of fns.is_sign bi_is_sign fun _ _ => fn_none not_P
    is_word := has_of fns.is_word bi_is_word fun _ _ => fn_none not_P
    is_thing := has_of fns.is_thing bi_is_thing fun _ _ => fn_none not_P
    inner_things := has_of fns.inner_things bi_inner_things fun _ _ => fn_none not_P
    look_thing := has_of fns.look_thing bi_look_thing fun _ _ => fn_none not_P
    is_same := has_of fns.is_same bi_is_same fun _ _ => fn_none not_P
    copied := has_of fns.copied bi_copied fun _ _ => fn_none not_PF
    laid := has_of fns.laid bi_laid fun _ _ => fn_none not_P
    merged := has_of fns.merged bi_merged fun _ _ => fn_none not_PF
    has_none := has_of fns.has_none bi_has_none fun _ _ => fn_none not_P
    sheet_for := has_of fns.sheet_for bi_sheet_for fun _ _ => fn_none not_P
    sheet_between := has_of fns.sheet_between bi_sheet_between fun _ _ => fn_none not_P
    _law_cell := has_of fns._law_cell bi__law_cell fun _ _ => fn_none not_P
    _law_mix := has_of fns._law_mix bi__law_mix fun _ _ => fn_none not_P
    _law_draw := has_of fns._law_draw bi__law_draw fun _ _ => fn_none not_T
    _law_pick := has_of fns._law_pick bi__law_pick fun _ _ => fn_none not_T
    _law_refusal := has_of fns._law_refusal bi__law_refusal fun _ _ => fn_none not_P
    _law_kind := has_of fns._law_kind bi__law_kind fun _ _ => fn_none not_P
    _law_same := has_of fns._law_same bi__law_same fun _ _ => fn_none not_P
    _law_copy := has_of fns._law_copy bi__law_copy fun _ _ => fn_none not_P
    _law_word := has_of fns._law_word bi__law_word fun _ _ => fn_none not_T
    _law_leaf := has_of fns._law_leaf bi__law_leaf fun _ _ => fn_none not_T
    _law_some := has_of fns._law_some bi__law_some fun _ _ => fn_none not_T
    _law_laid := has_of fns._law_laid bi__law_laid fun _ _ => fn_none not_P
    _law_can := has_of fns._law_can bi__law_can fun _ _ => fn_none not_P
    _law_told := has_of fns._law_told bi__law_told fun _ _ => fn_none not_PE
  }
  | k + 1 => have h := hyp_all fx fns k; {
    kind_of := has_of fns.kind_of bi_kind_of fun _ F => fn_P F sc_kind_of fun q => body_kind_of fx (by omega) h q
    is_sign := has_of fns.is_sign bi_is_sign fun _ F => fn_P F sc_is_sign fun q => body_is_sign fx (by omega) h q
    is_word := has_of fns.is_word bi_is_word fun _ F => fn_P F sc_is_word fun q => body_is_word fx (by omega) h q
    is_thing := has_of fns.is_thing bi_is_thing fun _ F => fn_P F sc_is_thing fun q => body_is_thing fx (by omega) h q
    inner_things := has_of fns.inner_things bi_inner_things fun _ F => fn_P F sc_inner_things fun q => body_inner_things fx (by omega) h q
    look_thing := has_of fns.look_thing bi_look_thing fun _ F => fn_P F sc_look_thing fun q => body_look_thing fx (by omega) h q
    is_same := has_of fns.is_same bi_is_same fun _ F => fn_P F sc_is_same fun q => body_is_same fx (by omega) h q
    copied := has_of fns.copied bi_copied fun _ F => fn_PF F sc_copied fun q => body_copied fx (by omega) h q
    laid := has_of fns.laid bi_laid fun _ F => fn_P F sc_laid fun q => body_laid fx (by omega) h q
    merged := has_of fns.merged bi_merged fun _ F => fn_PF F sc_merged fun q => body_merged fx (by omega) h q
    has_none := has_of fns.has_none bi_has_none fun _ F => fn_P F sc_has_none fun q => body_has_none fx (by omega) h q
    sheet_for := has_of fns.sheet_for bi_sheet_for fun _ F => fn_P F sc_sheet_for fun q => body_sheet_for fx (by omega) h q
    sheet_between := has_of fns.sheet_between bi_sheet_between fun _ F => fn_P F sc_sheet_between fun q => body_sheet_between fx (by omega) h q
    _law_cell := has_of fns._law_cell bi__law_cell fun _ F => fn_P F sc__law_cell fun q => body__law_cell fx (by omega) h q
    _law_mix := has_of fns._law_mix bi__law_mix fun _ F => fn_P F sc__law_mix fun q => body__law_mix fx (by omega) h q
    _law_draw := has_of fns._law_draw bi__law_draw fun _ F => fn_T F sc__law_draw fun q => body__law_draw fx (by omega) h q
    _law_pick := has_of fns._law_pick bi__law_pick fun _ F => fn_T F sc__law_pick fun q => body__law_pick fx (by omega) h q
    _law_refusal := has_of fns._law_refusal bi__law_refusal fun _ F => fn_P F sc__law_refusal fun q => body__law_refusal fx (by omega) h q
    _law_kind := has_of fns._law_kind bi__law_kind fun _ F => fn_P F sc__law_kind fun q => body__law_kind fx (by omega) h q
    _law_same := has_of fns._law_same bi__law_same fun _ F => fn_P F sc__law_same fun q => body__law_same fx (by omega) h q
    _law_copy := has_of fns._law_copy bi__law_copy fun _ F => fn_P F sc__law_copy fun q => body__law_copy fx (by omega) h q
    _law_word := has_of fns._law_word bi__law_word fun _ F => fn_T F sc__law_word fun q => body__law_word fx (by omega) h q
    _law_leaf := has_of fns._law_leaf bi__law_leaf fun _ F => fn_T F sc__law_leaf fun q => body__law_leaf fx (by omega) h q
    _law_some := has_of fns._law_some bi__law_some fun _ F => fn_T F sc__law_some fun q => body__law_some fx (by omega) h q
    _law_laid := has_of fns._law_laid bi__law_laid fun _ F => fn_P F sc__law_laid fun q => body__law_laid fx (by omega) h q
    _law_can := has_of fns._law_can bi__law_can fun _ F => fn_P F sc__law_can fun q => body__law_can fx (by omega) h q
    _law_told := has_of fns._law_told bi__law_told fun _ F => fn_PE F sc__law_told fun q => body__law_told fx (by omega) h q
  }
end Nw
set_option Elab.async false
set_option linter.all false
set_option maxRecDepth 100000
set_option maxHeartbeats 4000000
namespace Nw
open PySem PySem.Spec L2
/-! ### what the pieces do, as equations -/
section
variable {S α β : Type}
theorem bnd_e (m : M S α) (k : α → M S β) (s : S) : bnd m k s = match m s with | .ok a s' => k a s' | .exc x s' => .exc x s' | .bot => .bot := rfl
theorem lift_e (a : α) (s : S) : (lift (some a) : M S α) s = .ok a s := rfl
theorem lift_n (s : S) : (lift none : M S α) s = .bot := rfl
/-- a comprehension whose turns are told one by one -/
theorem lcA_map {i : Nat} {f : Sl → M S D} {r : Sl} {s : S} (g : D → D) : ∀ (xs acc : List D), (∀ x ∈ xs, f (r.set i (some x)) s = .ok (g x) s) → lcA (tgN i) dYes f r acc xs s = .ok (.row (acc ++ xs.map g)) s
  | [], acc, _ => by rw [List.map_nil, List.append_nil]; rfl
  | x :: xs, acc, h => by
    have h1 := h x List.mem_cons_self
    have e : lcA (tgN i) dYes f r acc (x :: xs) s = bnd (nox (f (r.set i (some x)))) (fun y => lcA (tgN i) dYes f r (acc ++ [y]) xs) s := rfl
    have e2 : nox (f (r.set i (some x))) s = .ok (g x) s := by unfold nox; rw [h1]
    rw [e, bnd_ok e2, lcA_map g xs (acc ++ [g x]) fun y hy => h y (List.mem_cons_of_mem _ hy), List.map_cons, List.append_assoc, List.singleton_append]
end
theorem kind_non (k : Nat) : (den (k + 1)).kind_of [.non] () = .ok (.str "none") () := by kernel_rfl
theorem kind_bl (k : Nat) (b : Bool) : (den (k + 1)).kind_of [.bl b] () = .ok (.str "truth") () := by kernel_rfl
theorem kind_int (k : Nat) (i : Int) : (den (k + 1)).kind_of [.int i] () = .ok (.str "number") () := by kernel_rfl
theorem kind_str (k : Nat) (x : Str) : (den (k + 1)).kind_of [.str x] () = .ok (.str "word") () := by kernel_rfl
theorem kind_row (k : Nat) (x : List D) : (den (k + 1)).kind_of [.row x] () = .ok (.str "row") () := by kernel_rfl
theorem kind_tab (k : Nat) (x : List (Key × D)) : (den (k + 1)).kind_of [.tab x] () = .ok (.str "table") () := by kernel_rfl
theorem lkind_non (k : Nat) : (den (k + 1))._law_kind [.non] () = .ok (.int 0) () := by kernel_rfl
theorem lkind_bl (k : Nat) (b : Bool) : (den (k + 1))._law_kind [.bl b] () = .ok (.int 1) () := by kernel_rfl
theorem lkind_int (k : Nat) (i : Int) : (den (k + 1))._law_kind [.int i] () = .ok (.int 2) () := by kernel_rfl
theorem lkind_str (k : Nat) (x : Str) : (den (k + 1))._law_kind [.str x] () = .ok (.int 3) () := by kernel_rfl
theorem lkind_row (k : Nat) (x : List D) : (den (k + 1))._law_kind [.row x] () = .ok (.int 4) () := by kernel_rfl
theorem lkind_tab (k : Nat) (x : List (Key × D)) : (den (k + 1))._law_kind [.tab x] () = .ok (.int 5) () := by kernel_rfl
/-! ### words -/
def okC (c : Nat) : Bool := decide (32 ≤ c) && decide (c < 127) && !decide (c = 37)
def okS : D → D
  | .str x => .bl (okC (x.cps.getD 0 0))
  | _ => .bl false
def isW (x : Str) : Bool := decide (x.length ≤ 60) && x.cps.toList.all okC
theorem eqD_int (i j : Int) : eqD (.int i) (.int j) = some (.bl (decide (i = j))) := by
  kernel_rfl
theorem neD_int (i j : Int) : neD (.int i) (.int j) = some (.bl (!decide (i = j))) := by
  kernel_rfl
theorem is_sign_eq (k c : Nat) : (den (k + 1)).is_sign [.str ⟨#[c]⟩] () = .ok (.bl (okC c)) () := by
  show fnD 1 (b_is_sign (den k)) [.str ⟨#[c]⟩] () = _
  have ho : ordD [.str ⟨#[c]⟩] = some (.int (c : Nat)) := rfl
  have h1 : leD (.int 32) (.int (c : Nat)) = some (.bl (decide (32 ≤ c))) := by
    show some (D.bl (decide ((32 : Int) ≤ c))) = _
    congr 2
    exact decide_eq_decide.mpr (by omega)
  have h2 : ltD (.int (c : Nat)) (.int 127) = some (.bl (decide (c < 127))) := by
    show some (D.bl (decide ((c : Int) < 127))) = _
    congr 2
    exact decide_eq_decide.mpr (by omega)
  have h3 : neD (.int (c : Nat)) (.int 37) = some (.bl (!decide (c = 37))) := by
    rw [neD_int]
    congr 3
    exact decide_eq_decide.mpr (by omega)
  unfold okC
  cases e1 : decide (32 ≤ c) <;> cases e2 : decide (c < 127) <;> simp only [b_is_sign, dChain, ho, h1, h2, h3, e1, e2, fnD, startD, endK, sRet, sRetN, sSeq, seqK, sIf, sAsg, sDrop, sNil, liftX, tgN, sFor, sOwn1, sOwn2, optK, putK2, sAsgO, sRetO, isRT, ownIs, dAnd, dOr, dIf, bnd_e, dOp, dUn, dAll, dCons, dNil, ret_ap, dVar, getS, lift_e, lift_n, dC, dTst, isBl, dCall, up, tAndD, tOrD, tNotD, dItems, itemsD, dRange, dMt, dLc, rowD, tupD, truD, notD, tyIs, List.map_cons, List.map_nil, List.length_cons, List.length_nil, List.cons_append, List.nil_append, List.replicate_succ, List.replicate_zero, List.getElem?_cons_zero, List.getElem?_cons_succ, List.set_cons_zero, List.set_cons_succ, Option.join_some, Option.join_none, Option.map_some, Option.map_none, Option.bind_some, Option.bind_none, Nat.reduceAdd, Nat.reduceSub, Nat.zero_add, if_true, if_false, ite_true, ite_false, reduceIte, Bool.false_eq_true, Bool.true_eq_false, eq_self_iff_true, Bool.true_and, Bool.false_and, Bool.and_false]
theorem EV : (type_of% @fnD.eq_1) ∧ (type_of% @startD.eq_1) ∧ (type_of% @endK.eq_1) ∧ (type_of% @endK.eq_2) ∧ (type_of% @endK.eq_3) ∧ (type_of% @endK.eq_4) ∧ (type_of% @sRet.eq_1) ∧ (type_of% @sRetN.eq_1) ∧ (type_of% @sSeq.eq_1) ∧ (type_of% @seqK.eq_1) ∧ (type_of% @seqK.eq_2) ∧ (type_of% @seqK.eq_3) ∧ (type_of% @seqK.eq_4) ∧ (type_of% @seqK.eq_5) ∧ (type_of% @seqK.eq_6) ∧ (type_of% @sIf.eq_1) ∧ (type_of% @sAsg.eq_1) ∧ (type_of% @sDrop.eq_1) ∧ (type_of% @sNil.eq_1) ∧ (type_of% @liftX.eq_1) ∧ (type_of% @tgN.eq_1) ∧ (type_of% @sFor.eq_1) ∧ (type_of% @sOwn1.eq_1) ∧ (type_of% @sOwn2.eq_1) ∧ (type_of% @optK.eq_1) ∧ (type_of% @optK.eq_2) ∧ (type_of% @putK2.eq_1) ∧ (type_of% @putK2.eq_2) ∧ (type_of% @sAsgO.eq_1) ∧ (type_of% @sRetO.eq_1) ∧ (type_of% @isRT.eq_1) ∧ (type_of% @isRT.eq_2) ∧ (type_of% @isRT.eq_3) ∧ (type_of% @ownIs.eq_1) ∧ (type_of% @ownIs.eq_2) ∧ (type_of% @ownIs.eq_3) ∧ (type_of% @dAnd.eq_1) ∧ (type_of% @dOr.eq_1) ∧ (type_of% @dIf.eq_1) ∧ (type_of% @bnd_e) ∧ (type_of% @dOp.eq_1) ∧ (type_of% @dUn.eq_1) ∧ (type_of% @dAll.eq_1) ∧ (type_of% @dCons.eq_1) ∧ (type_of% @dNil.eq_1) ∧ (type_of% @ret_ap) ∧ (type_of% @dVar.eq_1) ∧ (type_of% @getS.eq_1) ∧ (type_of% @lift_e) ∧ (type_of% @lift_n) ∧ (type_of% @dC.eq_1) ∧ (type_of% @dTst.eq_1) ∧ (type_of% @isBl.eq_1) ∧ (type_of% @isBl.eq_2) ∧ (type_of% @dCall.eq_1) ∧ (type_of% @up.eq_1) ∧ (type_of% @tAndD.eq_1) ∧ (type_of% @tOrD.eq_1) ∧ (type_of% @tNotD.eq_1) ∧ (type_of% @dItems.eq_1) ∧ (type_of% @itemsD.eq_1) ∧ (type_of% @itemsD.eq_2) ∧ (type_of% @itemsD.eq_3) ∧ (type_of% @itemsD.eq_4) ∧ (type_of% @itemsD.eq_5) ∧ (type_of% @dRange.eq_1) ∧ (type_of% @dMt.eq_1) ∧ (type_of% @dLc.eq_1) ∧ (type_of% @rowD.eq_1) ∧ (type_of% @tupD.eq_1) ∧ (type_of% @truD.eq_1) ∧ (type_of% @truD.eq_2) ∧ (type_of% @truD.eq_3) ∧ (type_of% @truD.eq_4) ∧ (type_of% @truD.eq_5) ∧ (type_of% @truD.eq_6) ∧ (type_of% @truD.eq_7) ∧ (type_of% @truD.eq_8) ∧ (type_of% @truD.eq_9) ∧ (type_of% @notD.eq_1) ∧ (type_of% @tyIs.eq_1) ∧ (type_of% @tyIs.eq_2) ∧ (type_of% @tyIs.eq_3) ∧ (type_of% @tyIs.eq_4) ∧ (type_of% @tyIs.eq_5) ∧ (type_of% @List.map_cons.{0,0}) ∧ (type_of% @List.map_nil.{0,0}) ∧ (type_of% @List.length_cons.{0}) ∧ (type_of% @List.length_nil.{0}) ∧ (type_of% @List.cons_append.{0}) ∧ (type_of% @List.nil_append.{0}) ∧ (type_of% @List.replicate_succ.{0}) ∧ (type_of% @List.replicate_zero.{0}) ∧ (type_of% @List.getElem?_cons_zero.{0}) ∧ (type_of% @List.getElem?_cons_succ.{0}) ∧ (type_of% @List.set_cons_zero.{0}) ∧ (type_of% @List.set_cons_succ.{0}) ∧ (type_of% @Option.join_some.{0}) ∧ (type_of% @Option.join_none.{0}) ∧ (type_of% @Option.map_some.{0,0}) ∧ (type_of% @Option.map_none.{0,0}) ∧ (type_of% @Option.bind_some.{0,0}) ∧ (type_of% @Option.bind_none.{0,0}) ∧ (type_of% @Nat.zero_add) ∧ (type_of% @if_true.{1}) ∧ (type_of% @if_false.{1}) ∧ (type_of% @ite_true.{1}) ∧ (type_of% @ite_false.{1}) ∧ (type_of% @Bool.false_eq_true) ∧ (type_of% @Bool.true_eq_false) :=
  ⟨@fnD.eq_1, @startD.eq_1, @endK.eq_1, @endK.eq_2, @endK.eq_3, @endK.eq_4, @sRet.eq_1, @sRetN.eq_1, @sSeq.eq_1, @seqK.eq_1, @seqK.eq_2, @seqK.eq_3, @seqK.eq_4, @seqK.eq_5, @seqK.eq_6, @sIf.eq_1, @sAsg.eq_1, @sDrop.eq_1, @sNil.eq_1, @liftX.eq_1, @tgN.eq_1, @sFor.eq_1, @sOwn1.eq_1, @sOwn2.eq_1, @optK.eq_1, @optK.eq_2, @putK2.eq_1, @putK2.eq_2, @sAsgO.eq_1, @sRetO.eq_1, @isRT.eq_1, @isRT.eq_2, @isRT.eq_3, @ownIs.eq_1, @ownIs.eq_2, @ownIs.eq_3, @dAnd.eq_1, @dOr.eq_1, @dIf.eq_1, @bnd_e, @dOp.eq_1, @dUn.eq_1, @dAll.eq_1, @dCons.eq_1, @dNil.eq_1, @ret_ap, @dVar.eq_1, @getS.eq_1, @lift_e, @lift_n, @dC.eq_1, @dTst.eq_1, @isBl.eq_1, @isBl.eq_2, @dCall.eq_1, @up.eq_1, @tAndD.eq_1, @tOrD.eq_1, @tNotD.eq_1, @dItems.eq_1, @itemsD.eq_1, @itemsD.eq_2, @itemsD.eq_3, @itemsD.eq_4, @itemsD.eq_5, @dRange.eq_1, @dMt.eq_1, @dLc.eq_1, @rowD.eq_1, @tupD.eq_1, @truD.eq_1, @truD.eq_2, @truD.eq_3, @truD.eq_4, @truD.eq_5, @truD.eq_6, @truD.eq_7, @truD.eq_8, @truD.eq_9, @notD.eq_1, @tyIs.eq_1, @tyIs.eq_2, @tyIs.eq_3, @tyIs.eq_4, @tyIs.eq_5, @List.map_cons.{0,0}, @List.map_nil.{0,0}, @List.length_cons.{0}, @List.length_nil.{0}, @List.cons_append.{0}, @List.nil_append.{0}, @List.replicate_succ.{0}, @List.replicate_zero.{0}, @List.getElem?_cons_zero.{0}, @List.getElem?_cons_succ.{0}, @List.set_cons_zero.{0}, @List.set_cons_succ.{0}, @Option.join_some.{0}, @Option.join_none.{0}, @Option.map_some.{0,0}, @Option.map_none.{0,0}, @Option.bind_some.{0,0}, @Option.bind_none.{0,0}, @Nat.zero_add, @if_true.{1}, @if_false.{1}, @ite_true.{1}, @ite_false.{1}, @Bool.false_eq_true, @Bool.true_eq_false⟩
theorem EVw : (type_of% @fnD.eq_1) ∧ (type_of% @startD.eq_1) ∧ (type_of% @endK.eq_1) ∧ (type_of% @endK.eq_2) ∧ (type_of% @endK.eq_3) ∧ (type_of% @endK.eq_4) ∧ (type_of% @sRet.eq_1) ∧ (type_of% @sRetN.eq_1) ∧ (type_of% @sSeq.eq_1) ∧ (type_of% @seqK.eq_1) ∧ (type_of% @seqK.eq_2) ∧ (type_of% @seqK.eq_3) ∧ (type_of% @seqK.eq_4) ∧ (type_of% @seqK.eq_5) ∧ (type_of% @seqK.eq_6) ∧ (type_of% @sIf.eq_1) ∧ (type_of% @sAsg.eq_1) ∧ (type_of% @sDrop.eq_1) ∧ (type_of% @sNil.eq_1) ∧ (type_of% @liftX.eq_1) ∧ (type_of% @tgN.eq_1) ∧ (type_of% @sFor.eq_1) ∧ (type_of% @sOwn1.eq_1) ∧ (type_of% @sOwn2.eq_1) ∧ (type_of% @optK.eq_1) ∧ (type_of% @optK.eq_2) ∧ (type_of% @putK2.eq_1) ∧ (type_of% @putK2.eq_2) ∧ (type_of% @sAsgO.eq_1) ∧ (type_of% @sRetO.eq_1) ∧ (type_of% @isRT.eq_1) ∧ (type_of% @isRT.eq_2) ∧ (type_of% @isRT.eq_3) ∧ (type_of% @ownIs.eq_1) ∧ (type_of% @ownIs.eq_2) ∧ (type_of% @ownIs.eq_3) ∧ (type_of% @dAnd.eq_1) ∧ (type_of% @dOr.eq_1) ∧ (type_of% @dIf.eq_1) ∧ (type_of% @bnd_e) ∧ (type_of% @dOp.eq_1) ∧ (type_of% @dUn.eq_1) ∧ (type_of% @dAll.eq_1) ∧ (type_of% @dCons.eq_1) ∧ (type_of% @dNil.eq_1) ∧ (type_of% @ret_ap) ∧ (type_of% @dVar.eq_1) ∧ (type_of% @getS.eq_1) ∧ (type_of% @lift_e) ∧ (type_of% @lift_n) ∧ (type_of% @dC.eq_1) ∧ (type_of% @dTst.eq_1) ∧ (type_of% @isBl.eq_1) ∧ (type_of% @isBl.eq_2) ∧ (type_of% @dCall.eq_1) ∧ (type_of% @up.eq_1) ∧ (type_of% @tAndD.eq_1) ∧ (type_of% @tOrD.eq_1) ∧ (type_of% @tNotD.eq_1) ∧ (type_of% @dItems.eq_1) ∧ (type_of% @itemsD.eq_1) ∧ (type_of% @itemsD.eq_2) ∧ (type_of% @itemsD.eq_3) ∧ (type_of% @itemsD.eq_4) ∧ (type_of% @itemsD.eq_5) ∧ (type_of% @dRange.eq_1) ∧ (type_of% @dMt.eq_1) ∧ (type_of% @dLc.eq_1) ∧ (type_of% @rowD.eq_1) ∧ (type_of% @tupD.eq_1) ∧ (type_of% @notD.eq_1) ∧ (type_of% @tyIs.eq_1) ∧ (type_of% @tyIs.eq_2) ∧ (type_of% @tyIs.eq_3) ∧ (type_of% @tyIs.eq_4) ∧ (type_of% @tyIs.eq_5) ∧ (type_of% @List.map_cons.{0,0}) ∧ (type_of% @List.map_nil.{0,0}) ∧ (type_of% @List.length_cons.{0}) ∧ (type_of% @List.length_nil.{0}) ∧ (type_of% @List.cons_append.{0}) ∧ (type_of% @List.nil_append.{0}) ∧ (type_of% @List.replicate_succ.{0}) ∧ (type_of% @List.replicate_zero.{0}) ∧ (type_of% @List.getElem?_cons_zero.{0}) ∧ (type_of% @List.getElem?_cons_succ.{0}) ∧ (type_of% @List.set_cons_zero.{0}) ∧ (type_of% @List.set_cons_succ.{0}) ∧ (type_of% @Option.join_some.{0}) ∧ (type_of% @Option.join_none.{0}) ∧ (type_of% @Option.map_some.{0,0}) ∧ (type_of% @Option.map_none.{0,0}) ∧ (type_of% @Option.bind_some.{0,0}) ∧ (type_of% @Option.bind_none.{0,0}) ∧ (type_of% @Nat.zero_add) ∧ (type_of% @if_true.{1}) ∧ (type_of% @if_false.{1}) ∧ (type_of% @ite_true.{1}) ∧ (type_of% @ite_false.{1}) ∧ (type_of% @Bool.false_eq_true) ∧ (type_of% @Bool.true_eq_false) :=
  ⟨@fnD.eq_1, @startD.eq_1, @endK.eq_1, @endK.eq_2, @endK.eq_3, @endK.eq_4, @sRet.eq_1, @sRetN.eq_1, @sSeq.eq_1, @seqK.eq_1, @seqK.eq_2, @seqK.eq_3, @seqK.eq_4, @seqK.eq_5, @seqK.eq_6, @sIf.eq_1, @sAsg.eq_1, @sDrop.eq_1, @sNil.eq_1, @liftX.eq_1, @tgN.eq_1, @sFor.eq_1, @sOwn1.eq_1, @sOwn2.eq_1, @optK.eq_1, @optK.eq_2, @putK2.eq_1, @putK2.eq_2, @sAsgO.eq_1, @sRetO.eq_1, @isRT.eq_1, @isRT.eq_2, @isRT.eq_3, @ownIs.eq_1, @ownIs.eq_2, @ownIs.eq_3, @dAnd.eq_1, @dOr.eq_1, @dIf.eq_1, @bnd_e, @dOp.eq_1, @dUn.eq_1, @dAll.eq_1, @dCons.eq_1, @dNil.eq_1, @ret_ap, @dVar.eq_1, @getS.eq_1, @lift_e, @lift_n, @dC.eq_1, @dTst.eq_1, @isBl.eq_1, @isBl.eq_2, @dCall.eq_1, @up.eq_1, @tAndD.eq_1, @tOrD.eq_1, @tNotD.eq_1, @dItems.eq_1, @itemsD.eq_1, @itemsD.eq_2, @itemsD.eq_3, @itemsD.eq_4, @itemsD.eq_5, @dRange.eq_1, @dMt.eq_1, @dLc.eq_1, @rowD.eq_1, @tupD.eq_1, @notD.eq_1, @tyIs.eq_1, @tyIs.eq_2, @tyIs.eq_3, @tyIs.eq_4, @tyIs.eq_5, @List.map_cons.{0,0}, @List.map_nil.{0,0}, @List.length_cons.{0}, @List.length_nil.{0}, @List.cons_append.{0}, @List.nil_append.{0}, @List.replicate_succ.{0}, @List.replicate_zero.{0}, @List.getElem?_cons_zero.{0}, @List.getElem?_cons_succ.{0}, @List.set_cons_zero.{0}, @List.set_cons_succ.{0}, @Option.join_some.{0}, @Option.join_none.{0}, @Option.map_some.{0,0}, @Option.map_none.{0,0}, @Option.bind_some.{0,0}, @Option.bind_none.{0,0}, @Nat.zero_add, @if_true.{1}, @if_false.{1}, @ite_true.{1}, @ite_false.{1}, @Bool.false_eq_true, @Bool.true_eq_false⟩
theorem EVi : (type_of% @fnD.eq_1) ∧ (type_of% @startD.eq_1) ∧ (type_of% @endK.eq_1) ∧ (type_of% @endK.eq_2) ∧ (type_of% @endK.eq_3) ∧ (type_of% @endK.eq_4) ∧ (type_of% @sRet.eq_1) ∧ (type_of% @sRetN.eq_1) ∧ (type_of% @sSeq.eq_1) ∧ (type_of% @seqK.eq_1) ∧ (type_of% @seqK.eq_2) ∧ (type_of% @seqK.eq_3) ∧ (type_of% @seqK.eq_4) ∧ (type_of% @seqK.eq_5) ∧ (type_of% @seqK.eq_6) ∧ (type_of% @sIf.eq_1) ∧ (type_of% @sAsg.eq_1) ∧ (type_of% @sDrop.eq_1) ∧ (type_of% @sNil.eq_1) ∧ (type_of% @liftX.eq_1) ∧ (type_of% @tgN.eq_1) ∧ (type_of% @sFor.eq_1) ∧ (type_of% @sOwn1.eq_1) ∧ (type_of% @sOwn2.eq_1) ∧ (type_of% @optK.eq_1) ∧ (type_of% @optK.eq_2) ∧ (type_of% @putK2.eq_1) ∧ (type_of% @putK2.eq_2) ∧ (type_of% @sAsgO.eq_1) ∧ (type_of% @sRetO.eq_1) ∧ (type_of% @isRT.eq_1) ∧ (type_of% @isRT.eq_2) ∧ (type_of% @isRT.eq_3) ∧ (type_of% @ownIs.eq_1) ∧ (type_of% @ownIs.eq_2) ∧ (type_of% @ownIs.eq_3) ∧ (type_of% @dAnd.eq_1) ∧ (type_of% @dOr.eq_1) ∧ (type_of% @dIf.eq_1) ∧ (type_of% @bnd_e) ∧ (type_of% @dOp.eq_1) ∧ (type_of% @dUn.eq_1) ∧ (type_of% @dAll.eq_1) ∧ (type_of% @dCons.eq_1) ∧ (type_of% @dNil.eq_1) ∧ (type_of% @ret_ap) ∧ (type_of% @dVar.eq_1) ∧ (type_of% @getS.eq_1) ∧ (type_of% @lift_e) ∧ (type_of% @lift_n) ∧ (type_of% @dC.eq_1) ∧ (type_of% @dTst.eq_1) ∧ (type_of% @isBl.eq_1) ∧ (type_of% @isBl.eq_2) ∧ (type_of% @dCall.eq_1) ∧ (type_of% @up.eq_1) ∧ (type_of% @tAndD.eq_1) ∧ (type_of% @tOrD.eq_1) ∧ (type_of% @tNotD.eq_1) ∧ (type_of% @dItems.eq_1) ∧ (type_of% @dRange.eq_1) ∧ (type_of% @dMt.eq_1) ∧ (type_of% @dLc.eq_1) ∧ (type_of% @rowD.eq_1) ∧ (type_of% @tupD.eq_1) ∧ (type_of% @truD.eq_1) ∧ (type_of% @truD.eq_2) ∧ (type_of% @truD.eq_3) ∧ (type_of% @truD.eq_4) ∧ (type_of% @truD.eq_5) ∧ (type_of% @truD.eq_6) ∧ (type_of% @truD.eq_7) ∧ (type_of% @truD.eq_8) ∧ (type_of% @truD.eq_9) ∧ (type_of% @notD.eq_1) ∧ (type_of% @tyIs.eq_1) ∧ (type_of% @tyIs.eq_2) ∧ (type_of% @tyIs.eq_3) ∧ (type_of% @tyIs.eq_4) ∧ (type_of% @tyIs.eq_5) ∧ (type_of% @List.map_cons.{0,0}) ∧ (type_of% @List.map_nil.{0,0}) ∧ (type_of% @List.length_cons.{0}) ∧ (type_of% @List.length_nil.{0}) ∧ (type_of% @List.cons_append.{0}) ∧ (type_of% @List.nil_append.{0}) ∧ (type_of% @List.replicate_succ.{0}) ∧ (type_of% @List.replicate_zero.{0}) ∧ (type_of% @List.getElem?_cons_zero.{0}) ∧ (type_of% @List.getElem?_cons_succ.{0}) ∧ (type_of% @List.set_cons_zero.{0}) ∧ (type_of% @List.set_cons_succ.{0}) ∧ (type_of% @Option.join_some.{0}) ∧ (type_of% @Option.join_none.{0}) ∧ (type_of% @Option.map_some.{0,0}) ∧ (type_of% @Option.map_none.{0,0}) ∧ (type_of% @Option.bind_some.{0,0}) ∧ (type_of% @Option.bind_none.{0,0}) ∧ (type_of% @Nat.zero_add) ∧ (type_of% @if_true.{1}) ∧ (type_of% @if_false.{1}) ∧ (type_of% @ite_true.{1}) ∧ (type_of% @ite_false.{1}) ∧ (type_of% @Bool.false_eq_true) ∧ (type_of% @Bool.true_eq_false) :=
  ⟨@fnD.eq_1, @startD.eq_1, @endK.eq_1, @endK.eq_2, @endK.eq_3, @endK.eq_4, @sRet.eq_1, @sRetN.eq_1, @sSeq.eq_1, @seqK.eq_1, @seqK.eq_2, @seqK.eq_3, @seqK.eq_4, @seqK.eq_5, @seqK.eq_6, @sIf.eq_1, @sAsg.eq_1, @sDrop.eq_1, @sNil.eq_1, @liftX.eq_1, @tgN.eq_1, @sFor.eq_1, @sOwn1.eq_1, @sOwn2.eq_1, @optK.eq_1, @optK.eq_2, @putK2.eq_1, @putK2.eq_2, @sAsgO.eq_1, @sRetO.eq_1, @isRT.eq_1, @isRT.eq_2, @isRT.eq_3, @ownIs.eq_1, @ownIs.eq_2, @ownIs.eq_3, @dAnd.eq_1, @dOr.eq_1, @dIf.eq_1, @bnd_e, @dOp.eq_1, @dUn.eq_1, @dAll.eq_1, @dCons.eq_1, @dNil.eq_1, @ret_ap, @dVar.eq_1, @getS.eq_1, @lift_e, @lift_n, @dC.eq_1, @dTst.eq_1, @isBl.eq_1, @isBl.eq_2, @dCall.eq_1, @up.eq_1, @tAndD.eq_1, @tOrD.eq_1, @tNotD.eq_1, @dItems.eq_1, @dRange.eq_1, @dMt.eq_1, @dLc.eq_1, @rowD.eq_1, @tupD.eq_1, @truD.eq_1, @truD.eq_2, @truD.eq_3, @truD.eq_4, @truD.eq_5, @truD.eq_6, @truD.eq_7, @truD.eq_8, @truD.eq_9, @notD.eq_1, @tyIs.eq_1, @tyIs.eq_2, @tyIs.eq_3, @tyIs.eq_4, @tyIs.eq_5, @List.map_cons.{0,0}, @List.map_nil.{0,0}, @List.length_cons.{0}, @List.length_nil.{0}, @List.cons_append.{0}, @List.nil_append.{0}, @List.replicate_succ.{0}, @List.replicate_zero.{0}, @List.getElem?_cons_zero.{0}, @List.getElem?_cons_succ.{0}, @List.set_cons_zero.{0}, @List.set_cons_succ.{0}, @Option.join_some.{0}, @Option.join_none.{0}, @Option.map_some.{0,0}, @Option.map_none.{0,0}, @Option.bind_some.{0,0}, @Option.bind_none.{0,0}, @Nat.zero_add, @if_true.{1}, @if_false.{1}, @ite_true.{1}, @ite_false.{1}, @Bool.false_eq_true, @Bool.true_eq_false⟩
end Nw
set_option Elab.async false
set_option linter.all false
set_option maxRecDepth 100000
set_option maxHeartbeats 4000000
namespace Nw
open PySem PySem.Spec L2
theorem all_bls (bs : List Bool) : allD [.row (bs.map D.bl)] = some (.bl (bs.all id)) := by
  show (blsD (bs.map D.bl)).map _ = _
  rw [blsD_map]; rfl
theorem sum_ints (bs : List Int) : sumD [.row (bs.map D.int)] = some (.int bs.sum) := by
  show (intsD (bs.map D.int)).map _ = _
  rw [intsD_map]; rfl
theorem is_word_eq (k : Nat) (x : Str) : (den (k + 2)).is_word [.str x] () = .ok (.bl (isW x)) () := by
  show fnD 2 (b_is_word (den (k + 1))) [.str x] () = _
  have h0 : lenD [.str x] = some (.int (x.length : Nat)) := rfl
  have h1 : leD (.int (x.length : Nat)) (.int 60) = some (.bl (decide (x.length ≤ 60))) := by
    show some (D.bl (decide ((x.length : Int) ≤ 60))) = _
    congr 2
    exact decide_eq_decide.mpr (by omega)
  have h2 : ∀ r : Sl, lcA (tgN 1) dYes (dCall 1 (fun ds => up ((den (k + 1)).is_sign ds)) (dCons (dVar 1) dNil)) [some (.str x), none] [] (signs x) () = .ok (.row ((signs x).map okS)) () := fun r => by
    rw [lcA_map okS (signs x) [] fun y hy => ?_, List.nil_append]
    obtain ⟨c, hc, rfl⟩ := List.mem_map.mp hy
    simp only [EV, Nat.reduceAdd, Nat.reduceSub, reduceIte, is_sign_eq]
    rfl
  have h3 : (signs x).map okS = (x.cps.toList.map okC).map D.bl := by
    unfold signs
    rw [List.map_map, List.map_map]
    exact List.map_congr_left fun c _ => rfl
  have h4 : allD [.row ((signs x).map okS)] = some (.bl (x.cps.toList.all okC)) := by
    rw [h3, all_bls, List.all_map]; rfl
  unfold isW
  cases e1 : decide (x.length ≤ 60) <;> simp only [b_is_word, h0, h1, e1, EV, Nat.reduceAdd, Nat.reduceSub, reduceIte, h2 [], h4, Bool.true_and, Bool.false_and]
end Nw
set_option Elab.async false
set_option linter.all false
set_option maxRecDepth 100000
set_option maxHeartbeats 4000000
namespace Nw
open PySem PySem.Spec L2
/-! ### things -/
def okL : D → Prop
  | .non => True
  | .bl _ => True
  | .int i => (if i < 0 then -i else i) ≤ 999999999999999
  | .str x => isW x = true
  | _ => False
def ThB (b : Nat) : Nat → D → Prop
  | 0, d => okL d
  | n + 1, .row xs => xs.length ≤ b ∧ ∀ x ∈ xs, ThB b n x
  | n + 1, .tab kvs => kvs.length ≤ b ∧ (kvs.map (·.1)).Nodup ∧ ∀ p ∈ kvs, (∃ x, p.1 = Sum.inr x ∧ isW x = true) ∧ ThB b n p.2
  | _ + 1, d => okL d
theorem ThB.leaf {b n : Nat} {d : D} (h : okL d) : ThB b n d := by
  cases n with
  | zero => exact h
  | succ n => cases d <;> first | exact h | exact h.elim
theorem ThB.mono {b : Nat} : ∀ {n : Nat} {d : D}, ThB b n d → ThB b (n + 1) d
  | 0, d, h => .leaf h
  | n + 1, d, h => by
    cases d with
    | row xs => exact ⟨h.1, fun x hx => (h.2 x hx).mono⟩
    | tab kvs => exact ⟨h.1, h.2.1, fun p hp => ⟨(h.2.2 p hp).1, (h.2.2 p hp).2.mono⟩⟩
    | _ => exact h
theorem ThB.monos {b n m : Nat} {d : D} (h : ThB b n d) (hm : n ≤ m) : ThB b m d := by
  induction hm with
  | refl => exact h
  | step _ ih => exact ih.mono
theorem ThB.wide {b b2 : Nat} (hb : b ≤ b2) : ∀ {n : Nat} {d : D}, ThB b n d → ThB b2 n d
  | 0, d, h => h
  | n + 1, d, h => by
    cases d with
    | row xs => exact ⟨Nat.le_trans h.1 hb, fun x hx => (h.2 x hx).wide hb⟩
    | tab kvs => exact ⟨Nat.le_trans h.1 hb, h.2.1, fun p hp => ⟨(h.2.2 p hp).1, (h.2.2 p hp).2.wide hb⟩⟩
    | _ => exact h
abbrev ThD (n : Nat) (d : D) : Prop := ThB 60 n d
theorem ThD.leaf {n : Nat} {d : D} (h : okL d) : ThD n d := ThB.leaf h
theorem ThD.mono {n : Nat} {d : D} (h : ThD n d) : ThD (n + 1) d := ThB.mono h
theorem ThD.monos {n m : Nat} {d : D} (h : ThD n d) (hm : n ≤ m) : ThD m d := ThB.monos h hm
def keyS : Key → Str
  | .inr x => x
  | .inl _ => ""
def kS (kvs : List (Key × D)) : List Str := kvs.map fun p => keyS p.1
def gv (kvs : List (Key × D)) (x : Str) : D := (valD kvs (.inr x)).getD .non
def TxK (kvs : List (Key × D)) : Prop := ∀ p ∈ kvs, ∃ x, p.1 = Sum.inr x
theorem txtKeys_of : ∀ {kvs : List (Key × D)}, TxK kvs → txtKeys kvs = some (kS kvs)
  | [], _ => rfl
  | (k, d) :: r, h => by
    obtain ⟨x, e⟩ := h (k, d) List.mem_cons_self
    have e : k = Sum.inr x := e
    subst e
    show (txtKeys r).map _ = _
    rw [txtKeys_of fun p hp => h p (List.mem_cons_of_mem _ hp)]
    rfl
theorem valD_mem {kvs : List (Key × D)} {k : Key} {d : D} (h : valD kvs k = some d) : (k, d) ∈ kvs := by
  unfold valD at h
  obtain ⟨p, h1, h2⟩ := map_some h
  have h3 := List.find?_some h1
  have h4 := List.mem_of_find?_eq_some h1
  obtain ⟨a, b⟩ := p
  have e1 : a = k := by simpa using h3
  have e2 : b = d := h2
  rw [← e1, ← e2]; exact h4
theorem valD_has : ∀ {kvs : List (Key × D)} {k : Key}, k ∈ kvs.map (·.1) → ∃ d, valD kvs k = some d
  | [], k, h => by simp at h
  | (j, d) :: r, k, h => by
    unfold valD
    by_cases e : j = k
    · exact ⟨d, by rw [List.find?_cons_of_pos (by simp [e])]; rfl⟩
    · rw [List.find?_cons_of_neg (by simp [e])]
      exact valD_has (by
        rcases List.mem_cons.mp h with h | h
        · exact absurd h.symm e
        · exact h)
theorem kS_mem {kvs : List (Key × D)} (h : TxK kvs) {x : Str} : x ∈ kS kvs ↔ (Sum.inr x : Key) ∈ kvs.map (·.1) := by
  unfold kS
  constructor
  · intro hx
    obtain ⟨p, hp, e⟩ := List.mem_map.mp hx
    obtain ⟨y, ey⟩ := h p hp
    rw [ey] at e
    exact List.mem_map.mpr ⟨p, hp, by rw [ey, ← e]; rfl⟩
  · intro hx
    obtain ⟨p, hp, e⟩ := List.mem_map.mp hx
    exact List.mem_map.mpr ⟨p, hp, by rw [e]; rfl⟩
theorem gv_val {kvs : List (Key × D)} (h : TxK kvs) {x : Str} (hx : x ∈ kS kvs) : valD kvs (.inr x) = some (gv kvs x) ∧ (Sum.inr x, gv kvs x) ∈ kvs := by
  obtain ⟨d, hd⟩ := valD_has ((kS_mem h).mp hx)
  have e : gv kvs x = d := by unfold gv; rw [hd]; rfl
  rw [e]
  exact ⟨hd, valD_mem hd⟩
theorem inner_row (k : Nat) (xs : List D) : (den (k + 2)).inner_things [.row xs] () = .ok (.row xs) () := by
  show fnD 2 (b_inner_things (den (k + 1))) [.row xs] () = _
  have h1 : eqD (.str "row") (.str "row") = some (.bl true) := by kernel_rfl
  have h2 : listD [.row xs] = some (.row xs) := rfl
  simp only [b_inner_things, kind_row, h1, h2, EV, Nat.reduceAdd, Nat.reduceSub, reduceIte]
theorem inner_tab (k : Nat) {kvs : List (Key × D)} (h : TxK kvs) : (den (k + 2)).inner_things [.tab kvs] () = .ok (.row ((sortS (kS kvs)).map (gv kvs))) () := by
  show fnD 2 (b_inner_things (den (k + 1))) [.tab kvs] () = _
  have h1 : eqD (.str "table") (.str "row") = some (.bl false) := by kernel_rfl
  have h2 : eqD (.str "table") (.str "table") = some (.bl true) := by kernel_rfl
  have h3 : sortKD (.tab kvs) = some (.row ((sortS (kS kvs)).map D.str)) := by
    show (txtKeys kvs).map _ = _
    rw [txtKeys_of h]; rfl
  have h4 : lcA (tgN 1) dYes (dOp ixD (dVar 0) (dVar 1)) [some (.tab kvs), none] [] ((sortS (kS kvs)).map D.str) () = .ok (.row ((sortS (kS kvs)).map (gv kvs))) () := by
    rw [lcA_map (fun d => match d with | .str x => gv kvs x | _ => .non) _ [] fun y hy => ?_, List.nil_append, List.map_map]
    · rfl
    · obtain ⟨x, hx, rfl⟩ := List.mem_map.mp hy
      have hv := (gv_val h ((sortS_perm _).mem_iff.mp hx)).1
      have e : ixD (.tab kvs) (.str x) = some (gv kvs x) := hv
      simp only [EV, Nat.reduceAdd, Nat.reduceSub, reduceIte, e]
  simp only [b_inner_things, kind_tab, h1, h2, h3, h4, EV, Nat.reduceAdd, Nat.reduceSub, reduceIte]
theorem all_true {α : Type} (l : List α) : allD [.row (l.map fun _ => D.bl true)] = some (.bl true) := by
  have e : (l.map fun _ => D.bl true) = (l.map fun _ => true).map D.bl := by rw [List.map_map]; rfl
  rw [e, all_bls, List.all_map]
  congr 2
  rw [List.all_eq_true]
  intro x _
  rfl
theorem th_txk {n : Nat} {kvs : List (Key × D)} (h : ThD (n + 1) (.tab kvs)) : TxK kvs := fun p hp => let ⟨x, e, _⟩ := (h.2.2 p hp).1; ⟨x, e⟩
theorem is_thing_eq : ∀ (n : Nat) (d : D) (deep k : Nat), ThD n d → n + deep ≤ 12 → (den (k + n + 4)).is_thing [d, .int deep] () = .ok (.bl true) () := by
  have leafs : ∀ (d : D) (deep k : Nat), okL d → (den (k + 4)).is_thing [d, .int deep] () = .ok (.bl true) () := fun d deep k h => by
    show fnD 5 (b_is_thing (den (k + 3))) [d, .int deep] () = _
    cases d with
    | non =>
      have h1 : eqD (.str "none") (.str "number") = some (.bl false) := by kernel_rfl
      have h2 : eqD (.str "none") (.str "word") = some (.bl false) := by kernel_rfl
      have h3 : inD true (.str "none") (.tup [.str "row", .str "table"]) = some (.bl true) := by kernel_rfl
      simp only [b_is_thing, kind_non, h1, h2, h3, EV, Nat.reduceAdd, Nat.reduceSub, reduceIte, show (2 : Nat) ≤ sizeLine from by decide]
    | bl b =>
      have h1 : eqD (.str "truth") (.str "number") = some (.bl false) := by kernel_rfl
      have h2 : eqD (.str "truth") (.str "word") = some (.bl false) := by kernel_rfl
      have h3 : inD true (.str "truth") (.tup [.str "row", .str "table"]) = some (.bl true) := by kernel_rfl
      simp only [b_is_thing, kind_bl, h1, h2, h3, EV, Nat.reduceAdd, Nat.reduceSub, reduceIte, show (2 : Nat) ≤ sizeLine from by decide]
    | int i =>
      have h1 : eqD (.str "number") (.str "number") = some (.bl true) := by kernel_rfl
      have h2 : absD [.int i] = some (.int (if i < 0 then -i else i)) := rfl
      have h3 : leD (.int (if i < 0 then -i else i)) (.int 999999999999999) = some (.bl true) := by
        show some (D.bl (decide _)) = _
        rw [decide_eq_true (show (if i < 0 then -i else i) ≤ 999999999999999 from h)]
      simp only [b_is_thing, kind_int, h1, h2, h3, EV, Nat.reduceAdd, Nat.reduceSub, reduceIte]
    | str x =>
      have h1 : eqD (.str "word") (.str "number") = some (.bl false) := by kernel_rfl
      have h2 : eqD (.str "word") (.str "word") = some (.bl true) := by kernel_rfl
      have h3 := is_word_eq (k + 1) x
      rw [show isW x = true from h] at h3
      simp only [b_is_thing, kind_str, h1, h2, h3, EV, Nat.reduceAdd, Nat.reduceSub, reduceIte]
    | _ => exact h.elim
  intro n
  induction n with
  | zero => exact fun d deep k h _ => leafs d deep k h
  | succ n ih =>
    intro d deep k h hd
    have hdeep : eqD (.int deep) (.int 12) = some (.bl false) := by
      rw [eqD_int]
      rw [decide_eq_false (by omega)]
    have hadd : addD (.int deep) (.int 1) = some (.int ((deep + 1 : Nat) : Int)) := rfl
    have h4 : eqD (.str "row") (.str "table") = some (.bl false) := by kernel_rfl
    have h5 : eqD (.str "table") (.str "table") = some (.bl true) := by kernel_rfl
    cases d with
    | row xs =>
      show fnD 5 (b_is_thing (den (k + n + 4))) [.row xs, .int deep] () = _
      have h1 : eqD (.str "row") (.str "number") = some (.bl false) := by kernel_rfl
      have h2 : eqD (.str "row") (.str "word") = some (.bl false) := by kernel_rfl
      have h3 : inD true (.str "row") (.tup [.str "row", .str "table"]) = some (.bl false) := by kernel_rfl
      have h6 : lcA (tgN 3) dYes (dCall 2 (fun ds => up ((den (k + n + 4)).is_thing ds)) (dCons (dVar 3) (dCons (dOp addD (dVar 1) (dC (.int 1))) dNil))) [some (.row xs), some (.int deep), some (.str "row"), none, none] [] xs () = .ok (.row (xs.map fun _ => .bl true)) () := by
        rw [lcA_map (fun _ => .bl true) xs [] fun y hy => ?_, List.nil_append]
        have h7 := ih y (deep + 1) k (h.2 y hy) (by omega)
        simp only [EV, Nat.reduceAdd, Nat.reduceSub, reduceIte, hadd, h7]
      simp only [b_is_thing, kind_row, inner_row, h1, h2, h3, h4, h6, hdeep, all_true, EV, Nat.reduceAdd, Nat.reduceSub, reduceIte, show (2 : Nat) ≤ sizeLine from by decide]
    | tab kvs =>
      show fnD 5 (b_is_thing (den (k + n + 4))) [.tab kvs, .int deep] () = _
      have tx := th_txk h
      have h1 : eqD (.str "table") (.str "number") = some (.bl false) := by kernel_rfl
      have h2 : eqD (.str "table") (.str "word") = some (.bl false) := by kernel_rfl
      have h3 : inD true (.str "table") (.tup [.str "row", .str "table"]) = some (.bl false) := by kernel_rfl
      have h6 : lcA (tgN 3) dYes (dCall 2 (fun ds => up ((den (k + n + 4)).is_thing ds)) (dCons (dVar 3) (dCons (dOp addD (dVar 1) (dC (.int 1))) dNil))) [some (.tab kvs), some (.int deep), some (.str "table"), none, none] [] ((sortS (kS kvs)).map (gv kvs)) () = .ok (.row (((sortS (kS kvs)).map (gv kvs)).map fun _ => .bl true)) () := by
        rw [lcA_map (fun _ => .bl true) _ [] fun y hy => ?_, List.nil_append]
        obtain ⟨x, hx, rfl⟩ := List.mem_map.mp hy
        have hv := (gv_val tx ((sortS_perm _).mem_iff.mp hx)).2
        have h7 := ih (gv kvs x) (deep + 1) k (h.2.2 _ hv).2 (by omega)
        simp only [EV, Nat.reduceAdd, Nat.reduceSub, reduceIte, hadd, h7]
      have h8 : lcA (tgN 4) dYes (dCall 1 (fun ds => up ((den (k + n + 4)).is_word ds)) (dCons (dVar 4) dNil)) [some (.tab kvs), some (.int deep), some (.str "table"), none, none] [] (kvs.map fun kv => kD kv.1) () = .ok (.row ((kvs.map fun kv => kD kv.1).map fun _ => .bl true)) () := by
        rw [lcA_map (fun _ => .bl true) _ [] fun y hy => ?_, List.nil_append]
        obtain ⟨p, hp, rfl⟩ := List.mem_map.mp hy
        obtain ⟨⟨x, e1, e2⟩, _⟩ := h.2.2 p hp
        have h9 := is_word_eq (k + n + 2) x
        rw [e2] at h9
        have e3 : kD p.1 = .str x := by rw [e1]; rfl
        simp only [EV, Nat.reduceAdd, Nat.reduceSub, reduceIte, e3, h9]
      have h10 : keysD (.tab kvs) = some (kvs.map fun kv => kD kv.1) := rfl
      simp only [b_is_thing, kind_tab, inner_tab _ tx, h1, h2, h3, h5, h6, h8, h10, hdeep, all_true, EV, Nat.reduceAdd, Nat.reduceSub, reduceIte, show (2 : Nat) ≤ sizeLine from by decide, Bool.not_true, Bool.not_false]
    | _ =>
      have hl : okL _ := h
      have := leafs _ deep (k + (n + 1)) hl
      exact this
end Nw
set_option Elab.async false
set_option linter.all false
set_option maxRecDepth 100000
set_option maxHeartbeats 4000000
namespace Nw
open PySem PySem.Spec L2
/-! ### sameness -/
def sameD : Nat → D → D → Bool
  | _, .non, .non => true
  | _, .bl a, .bl b => decide (a = b)
  | _, .int a, .int b => decide (a = b)
  | _, .str a, .str b => decide (a = b)
  | n + 1, .row xs, .row ys => decide (xs.length = ys.length) && (List.range xs.length).all fun i => sameD n (xs.getD i .non) (ys.getD i .non)
  | n + 1, .tab a, .tab b => decide (sortS (kS a) = sortS (kS b)) && (kS a).all fun x => sameD n (gv a x) (gv b x)
  | _, _, _ => false
theorem beq_dec {α : Type} [BEq α] [LawfulBEq α] [DecidableEq α] (a b : α) : (a == b) = decide (a = b) := by
  by_cases h : a = b
  · rw [h, decide_eq_true rfl]; simp
  · rw [decide_eq_false h]; simp [h]
theorem eqD_str (a b : Str) : eqD (.str a) (.str b) = some (.bl (decide (a = b))) := by
  have h : eqN 60 (.str a) (.str b) = some (a == b) := rfl
  unfold eqD; rw [h, beq_dec]; rfl
theorem neD_str (a b : Str) : neD (.str a) (.str b) = some (.bl (!decide (a = b))) := by
  have h : eqN 60 (.str a) (.str b) = some (a == b) := rfl
  unfold neD; rw [h, beq_dec]; rfl
theorem eqD_bl (a b : Bool) : eqD (.bl a) (.bl b) = some (.bl (decide (a = b))) := by
  have h : eqN 60 (.bl a) (.bl b) = some (a == b) := rfl
  unfold eqD; rw [h, beq_dec]; rfl
theorem neD_bl (a b : Bool) : neD (.bl a) (.bl b) = some (.bl (!decide (a = b))) := by
  have h : eqN 60 (.bl a) (.bl b) = some (a == b) := rfl
  unfold neD; rw [h, beq_dec]; rfl
theorem eqD_non : eqD .non .non = some (.bl true) := by kernel_rfl
theorem eqLN_strs (n : Nat) : ∀ as bs : List Str, as.length = bs.length → eqLN (eqN (n + 1)) (as.map D.str) (bs.map D.str) = some (decide (as = bs))
  | [], [], _ => by simp [eqLN]
  | a :: as, b :: bs, h => by
    have e : eqN (n + 1) (.str a) (.str b) = some (a == b) := rfl
    have ih := eqLN_strs n as bs (by simpa using h)
    rw [List.map_cons, List.map_cons]
    unfold eqLN
    rw [e, ih, beq_dec]
    by_cases h1 : a = b <;> by_cases h2 : as = bs <;> simp [h1, h2]
  | [], b :: bs, h => by simp at h
  | a :: as, [], h => by simp at h
theorem neD_rows (as bs : List Str) : neD (.row (as.map D.str)) (.row (bs.map D.str)) = some (.bl (!decide (as = bs))) := by
  have h : eqN 60 (.row (as.map D.str)) (.row (bs.map D.str)) = some (decide (as = bs)) := by
    show (if (as.map D.str).length = (bs.map D.str).length then eqLN (eqN 59) (as.map D.str) (bs.map D.str) else some false) = _
    rw [List.length_map, List.length_map]
    by_cases hl : as.length = bs.length
    · rw [if_pos hl, eqLN_strs 58 as bs hl]
    · rw [if_neg hl, decide_eq_false (fun z => hl (by rw [z]))]
  unfold neD; rw [h]; rfl
theorem atI_nat (xs : List D) (i : Nat) (h : i < xs.length) : atI xs (i : Int) = some (xs.getD i .non) := by
  have e : ixN xs.length (i : Int) = some i := by
    unfold ixN
    simp [h]
  unfold atI
  rw [e, List.getD_eq_getElem?_getD]
  show xs[i]? = _
  rw [List.getElem?_eq_getElem h]; rfl
theorem lcA_range {S : Type} {i : Nat} {f : Sl → M S D} {r : Sl} {s : S} (g : Nat → Bool) (n : Nat) (h : ∀ j, j < n → f (r.set i (some (.int (j : Nat)))) s = .ok (.bl (g j)) s) :
    lcA (tgN i) dYes f r [] ((List.range n).map fun (j : Nat) => D.int (j : Int)) s = .ok (.row (((List.range n).map g).map D.bl)) s := by
  rw [lcA_map (fun d => match d with | .int j => .bl (g j.toNat) | _ => .non) _ [] fun y hy => ?_, List.nil_append, List.map_map, List.map_map]
  · rfl
  · obtain ⟨j, hj, rfl⟩ := List.mem_map.mp hy
    exact h j (List.mem_range.mp hj)
theorem lcA_keys {S : Type} {i : Nat} {f : Sl → M S D} {r : Sl} {s : S} (g : Str → Bool) {kvs : List (Key × D)} (tx : TxK kvs) (h : ∀ x ∈ kS kvs, f (r.set i (some (.str x))) s = .ok (.bl (g x)) s) :
    lcA (tgN i) dYes f r [] (kvs.map fun kv => kD kv.1) s = .ok (.row (((kS kvs).map g).map D.bl)) s := by
  rw [lcA_map (fun d => match d with | .str x => .bl (g x) | _ => .non) _ [] fun y hy => ?_, List.nil_append]
  · unfold kS
    rw [List.map_map, List.map_map, List.map_map]
    congr 2
    refine List.map_congr_left fun p hp => ?_
    obtain ⟨x, e⟩ := tx p hp
    show (match kD p.1 with | .str x => D.bl (g x) | _ => .non) = D.bl (g (keyS p.1))
    rw [e]; rfl
  · obtain ⟨p, hp, rfl⟩ := List.mem_map.mp hy
    obtain ⟨x, e⟩ := tx p hp
    have hx : x ∈ kS kvs := List.mem_map.mpr ⟨p, hp, by rw [e]; rfl⟩
    have e2 : kD p.1 = .str x := by rw [e]; rfl
    rw [e2]
    exact h x hx
theorem rng_len (n : Nat) (h : n ≤ sizeLine) : rngD [.int (n : Nat)] = some ((List.range n).map fun (j : Nat) => D.int (j : Int)) := by
  show (if (0 : Int) ≤ n ∧ (n : Int) ≤ sizeLine then _ else _) = _
  rw [if_pos ⟨by omega, by omega⟩]
  rfl
theorem eqD_len (a b : Nat) : eqD (.int (a : Nat)) (.int (b : Nat)) = some (.bl (decide (a = b))) := by
  rw [eqD_int]
  congr 2
  exact decide_eq_decide.mpr (by omega)
theorem small_size {n : Nat} (h : n ≤ 60) : n ≤ sizeLine := by rw [sizeLine_eq]; omega
theorem is_same_eq : ∀ (n : Nat) (a b : D) (k : Nat), ThD n a → ThD n b → (den (k + n + 2)).is_same [a, b] () = .ok (.bl (sameD n a b)) () := by
  have gen : ∀ (n : Nat) (a b : D) (k : Nat), ThD n a → ThD n b → (∀ m, n = m + 1 → ∀ (a b : D), ThD m a → ThD m b → (den (k + n + 1)).is_same [a, b] () = .ok (.bl (sameD m a b)) ()) → (den (k + n + 2)).is_same [a, b] () = .ok (.bl (sameD n a b)) () := fun n a b k ha hb ih => by
    show fnD 5 (b_is_same (den (k + n + 1))) [a, b] () = _
    have r_non : eqD (.str "none") (.str "row") = some (.bl false) := by kernel_rfl
    have t_non : eqD (.str "none") (.str "table") = some (.bl false) := by kernel_rfl
    have n_non_non : neD (.str "none") (.str "none") = some (.bl false) := by kernel_rfl
    have n_non_bl : neD (.str "none") (.str "truth") = some (.bl true) := by kernel_rfl
    have n_non_int : neD (.str "none") (.str "number") = some (.bl true) := by kernel_rfl
    have n_non_str : neD (.str "none") (.str "word") = some (.bl true) := by kernel_rfl
    have n_non_row : neD (.str "none") (.str "row") = some (.bl true) := by kernel_rfl
    have n_non_tab : neD (.str "none") (.str "table") = some (.bl true) := by kernel_rfl
    have r_bl : eqD (.str "truth") (.str "row") = some (.bl false) := by kernel_rfl
    have t_bl : eqD (.str "truth") (.str "table") = some (.bl false) := by kernel_rfl
    have n_bl_non : neD (.str "truth") (.str "none") = some (.bl true) := by kernel_rfl
    have n_bl_bl : neD (.str "truth") (.str "truth") = some (.bl false) := by kernel_rfl
    have n_bl_int : neD (.str "truth") (.str "number") = some (.bl true) := by kernel_rfl
    have n_bl_str : neD (.str "truth") (.str "word") = some (.bl true) := by kernel_rfl
    have n_bl_row : neD (.str "truth") (.str "row") = some (.bl true) := by kernel_rfl
    have n_bl_tab : neD (.str "truth") (.str "table") = some (.bl true) := by kernel_rfl
    have r_int : eqD (.str "number") (.str "row") = some (.bl false) := by kernel_rfl
    have t_int : eqD (.str "number") (.str "table") = some (.bl false) := by kernel_rfl
    have n_int_non : neD (.str "number") (.str "none") = some (.bl true) := by kernel_rfl
    have n_int_bl : neD (.str "number") (.str "truth") = some (.bl true) := by kernel_rfl
    have n_int_int : neD (.str "number") (.str "number") = some (.bl false) := by kernel_rfl
    have n_int_str : neD (.str "number") (.str "word") = some (.bl true) := by kernel_rfl
    have n_int_row : neD (.str "number") (.str "row") = some (.bl true) := by kernel_rfl
    have n_int_tab : neD (.str "number") (.str "table") = some (.bl true) := by kernel_rfl
    have r_str : eqD (.str "word") (.str "row") = some (.bl false) := by kernel_rfl
    have t_str : eqD (.str "word") (.str "table") = some (.bl false) := by kernel_rfl
    have n_str_non : neD (.str "word") (.str "none") = some (.bl true) := by kernel_rfl
    have n_str_bl : neD (.str "word") (.str "truth") = some (.bl true) := by kernel_rfl
    have n_str_int : neD (.str "word") (.str "number") = some (.bl true) := by kernel_rfl
    have n_str_str : neD (.str "word") (.str "word") = some (.bl false) := by kernel_rfl
    have n_str_row : neD (.str "word") (.str "row") = some (.bl true) := by kernel_rfl
    have n_str_tab : neD (.str "word") (.str "table") = some (.bl true) := by kernel_rfl
    have r_row : eqD (.str "row") (.str "row") = some (.bl true) := by kernel_rfl
    have t_row : eqD (.str "row") (.str "table") = some (.bl false) := by kernel_rfl
    have n_row_non : neD (.str "row") (.str "none") = some (.bl true) := by kernel_rfl
    have n_row_bl : neD (.str "row") (.str "truth") = some (.bl true) := by kernel_rfl
    have n_row_int : neD (.str "row") (.str "number") = some (.bl true) := by kernel_rfl
    have n_row_str : neD (.str "row") (.str "word") = some (.bl true) := by kernel_rfl
    have n_row_row : neD (.str "row") (.str "row") = some (.bl false) := by kernel_rfl
    have n_row_tab : neD (.str "row") (.str "table") = some (.bl true) := by kernel_rfl
    have r_tab : eqD (.str "table") (.str "row") = some (.bl false) := by kernel_rfl
    have t_tab : eqD (.str "table") (.str "table") = some (.bl true) := by kernel_rfl
    have n_tab_non : neD (.str "table") (.str "none") = some (.bl true) := by kernel_rfl
    have n_tab_bl : neD (.str "table") (.str "truth") = some (.bl true) := by kernel_rfl
    have n_tab_int : neD (.str "table") (.str "number") = some (.bl true) := by kernel_rfl
    have n_tab_str : neD (.str "table") (.str "word") = some (.bl true) := by kernel_rfl
    have n_tab_row : neD (.str "table") (.str "row") = some (.bl true) := by kernel_rfl
    have n_tab_tab : neD (.str "table") (.str "table") = some (.bl false) := by kernel_rfl
    have elim : ∀ {n : Nat} {d : D}, ThD n d → (∃ xs, d = .tup xs) ∨ (∃ xs, d = .kro xs) ∨ (∃ c fs, d = .exc c fs) ∨ (∃ j, d = .obj j) → False := fun {n d} h z => by
      rcases z with ⟨_, rfl⟩ | ⟨_, rfl⟩ | ⟨_, _, rfl⟩ | ⟨_, rfl⟩ <;> cases n <;> exact h
    cases a with
    | non =>
      cases b with
      | non => simp only [b_is_same, kind_non, kind_bl, kind_int, kind_str, kind_row, kind_tab, r_non, t_non, r_bl, t_bl, r_int, t_int, r_str, t_str, r_row, t_row, r_tab, t_tab, n_non_non, n_non_bl, n_non_int, n_non_str, n_non_row, n_non_tab, n_bl_non, n_bl_bl, n_bl_int, n_bl_str, n_bl_row, n_bl_tab, n_int_non, n_int_bl, n_int_int, n_int_str, n_int_row, n_int_tab, n_str_non, n_str_bl, n_str_int, n_str_str, n_str_row, n_str_tab, n_row_non, n_row_bl, n_row_int, n_row_str, n_row_row, n_row_tab, n_tab_non, n_tab_bl, n_tab_int, n_tab_str, n_tab_row, n_tab_tab, EV, Nat.reduceAdd, Nat.reduceSub, reduceIte, eqD_non]; cases n <;> rfl
      | bl y => simp only [b_is_same, kind_non, kind_bl, kind_int, kind_str, kind_row, kind_tab, r_non, t_non, r_bl, t_bl, r_int, t_int, r_str, t_str, r_row, t_row, r_tab, t_tab, n_non_non, n_non_bl, n_non_int, n_non_str, n_non_row, n_non_tab, n_bl_non, n_bl_bl, n_bl_int, n_bl_str, n_bl_row, n_bl_tab, n_int_non, n_int_bl, n_int_int, n_int_str, n_int_row, n_int_tab, n_str_non, n_str_bl, n_str_int, n_str_str, n_str_row, n_str_tab, n_row_non, n_row_bl, n_row_int, n_row_str, n_row_row, n_row_tab, n_tab_non, n_tab_bl, n_tab_int, n_tab_str, n_tab_row, n_tab_tab, EV, Nat.reduceAdd, Nat.reduceSub, reduceIte]; cases n <;> rfl
      | int y => simp only [b_is_same, kind_non, kind_bl, kind_int, kind_str, kind_row, kind_tab, r_non, t_non, r_bl, t_bl, r_int, t_int, r_str, t_str, r_row, t_row, r_tab, t_tab, n_non_non, n_non_bl, n_non_int, n_non_str, n_non_row, n_non_tab, n_bl_non, n_bl_bl, n_bl_int, n_bl_str, n_bl_row, n_bl_tab, n_int_non, n_int_bl, n_int_int, n_int_str, n_int_row, n_int_tab, n_str_non, n_str_bl, n_str_int, n_str_str, n_str_row, n_str_tab, n_row_non, n_row_bl, n_row_int, n_row_str, n_row_row, n_row_tab, n_tab_non, n_tab_bl, n_tab_int, n_tab_str, n_tab_row, n_tab_tab, EV, Nat.reduceAdd, Nat.reduceSub, reduceIte]; cases n <;> rfl
      | str y => simp only [b_is_same, kind_non, kind_bl, kind_int, kind_str, kind_row, kind_tab, r_non, t_non, r_bl, t_bl, r_int, t_int, r_str, t_str, r_row, t_row, r_tab, t_tab, n_non_non, n_non_bl, n_non_int, n_non_str, n_non_row, n_non_tab, n_bl_non, n_bl_bl, n_bl_int, n_bl_str, n_bl_row, n_bl_tab, n_int_non, n_int_bl, n_int_int, n_int_str, n_int_row, n_int_tab, n_str_non, n_str_bl, n_str_int, n_str_str, n_str_row, n_str_tab, n_row_non, n_row_bl, n_row_int, n_row_str, n_row_row, n_row_tab, n_tab_non, n_tab_bl, n_tab_int, n_tab_str, n_tab_row, n_tab_tab, EV, Nat.reduceAdd, Nat.reduceSub, reduceIte]; cases n <;> rfl
      | row y => simp only [b_is_same, kind_non, kind_bl, kind_int, kind_str, kind_row, kind_tab, r_non, t_non, r_bl, t_bl, r_int, t_int, r_str, t_str, r_row, t_row, r_tab, t_tab, n_non_non, n_non_bl, n_non_int, n_non_str, n_non_row, n_non_tab, n_bl_non, n_bl_bl, n_bl_int, n_bl_str, n_bl_row, n_bl_tab, n_int_non, n_int_bl, n_int_int, n_int_str, n_int_row, n_int_tab, n_str_non, n_str_bl, n_str_int, n_str_str, n_str_row, n_str_tab, n_row_non, n_row_bl, n_row_int, n_row_str, n_row_row, n_row_tab, n_tab_non, n_tab_bl, n_tab_int, n_tab_str, n_tab_row, n_tab_tab, EV, Nat.reduceAdd, Nat.reduceSub, reduceIte]; cases n <;> rfl
      | tab y => simp only [b_is_same, kind_non, kind_bl, kind_int, kind_str, kind_row, kind_tab, r_non, t_non, r_bl, t_bl, r_int, t_int, r_str, t_str, r_row, t_row, r_tab, t_tab, n_non_non, n_non_bl, n_non_int, n_non_str, n_non_row, n_non_tab, n_bl_non, n_bl_bl, n_bl_int, n_bl_str, n_bl_row, n_bl_tab, n_int_non, n_int_bl, n_int_int, n_int_str, n_int_row, n_int_tab, n_str_non, n_str_bl, n_str_int, n_str_str, n_str_row, n_str_tab, n_row_non, n_row_bl, n_row_int, n_row_str, n_row_row, n_row_tab, n_tab_non, n_tab_bl, n_tab_int, n_tab_str, n_tab_row, n_tab_tab, EV, Nat.reduceAdd, Nat.reduceSub, reduceIte]; cases n <;> rfl
      | tup z => exact (elim hb (.inl ⟨_, rfl⟩)).elim
      | kro z => exact (elim hb (.inr (.inl ⟨_, rfl⟩))).elim
      | exc z1 z2 => exact (elim hb (.inr (.inr (.inl ⟨_, _, rfl⟩)))).elim
      | obj z => exact (elim hb (.inr (.inr (.inr ⟨_, rfl⟩)))).elim
    | bl x =>
      cases b with
      | non => simp only [b_is_same, kind_non, kind_bl, kind_int, kind_str, kind_row, kind_tab, r_non, t_non, r_bl, t_bl, r_int, t_int, r_str, t_str, r_row, t_row, r_tab, t_tab, n_non_non, n_non_bl, n_non_int, n_non_str, n_non_row, n_non_tab, n_bl_non, n_bl_bl, n_bl_int, n_bl_str, n_bl_row, n_bl_tab, n_int_non, n_int_bl, n_int_int, n_int_str, n_int_row, n_int_tab, n_str_non, n_str_bl, n_str_int, n_str_str, n_str_row, n_str_tab, n_row_non, n_row_bl, n_row_int, n_row_str, n_row_row, n_row_tab, n_tab_non, n_tab_bl, n_tab_int, n_tab_str, n_tab_row, n_tab_tab, EV, Nat.reduceAdd, Nat.reduceSub, reduceIte]; cases n <;> rfl
      | bl y => simp only [b_is_same, kind_non, kind_bl, kind_int, kind_str, kind_row, kind_tab, r_non, t_non, r_bl, t_bl, r_int, t_int, r_str, t_str, r_row, t_row, r_tab, t_tab, n_non_non, n_non_bl, n_non_int, n_non_str, n_non_row, n_non_tab, n_bl_non, n_bl_bl, n_bl_int, n_bl_str, n_bl_row, n_bl_tab, n_int_non, n_int_bl, n_int_int, n_int_str, n_int_row, n_int_tab, n_str_non, n_str_bl, n_str_int, n_str_str, n_str_row, n_str_tab, n_row_non, n_row_bl, n_row_int, n_row_str, n_row_row, n_row_tab, n_tab_non, n_tab_bl, n_tab_int, n_tab_str, n_tab_row, n_tab_tab, EV, Nat.reduceAdd, Nat.reduceSub, reduceIte, eqD_bl]; cases n <;> rfl
      | int y => simp only [b_is_same, kind_non, kind_bl, kind_int, kind_str, kind_row, kind_tab, r_non, t_non, r_bl, t_bl, r_int, t_int, r_str, t_str, r_row, t_row, r_tab, t_tab, n_non_non, n_non_bl, n_non_int, n_non_str, n_non_row, n_non_tab, n_bl_non, n_bl_bl, n_bl_int, n_bl_str, n_bl_row, n_bl_tab, n_int_non, n_int_bl, n_int_int, n_int_str, n_int_row, n_int_tab, n_str_non, n_str_bl, n_str_int, n_str_str, n_str_row, n_str_tab, n_row_non, n_row_bl, n_row_int, n_row_str, n_row_row, n_row_tab, n_tab_non, n_tab_bl, n_tab_int, n_tab_str, n_tab_row, n_tab_tab, EV, Nat.reduceAdd, Nat.reduceSub, reduceIte]; cases n <;> rfl
      | str y => simp only [b_is_same, kind_non, kind_bl, kind_int, kind_str, kind_row, kind_tab, r_non, t_non, r_bl, t_bl, r_int, t_int, r_str, t_str, r_row, t_row, r_tab, t_tab, n_non_non, n_non_bl, n_non_int, n_non_str, n_non_row, n_non_tab, n_bl_non, n_bl_bl, n_bl_int, n_bl_str, n_bl_row, n_bl_tab, n_int_non, n_int_bl, n_int_int, n_int_str, n_int_row, n_int_tab, n_str_non, n_str_bl, n_str_int, n_str_str, n_str_row, n_str_tab, n_row_non, n_row_bl, n_row_int, n_row_str, n_row_row, n_row_tab, n_tab_non, n_tab_bl, n_tab_int, n_tab_str, n_tab_row, n_tab_tab, EV, Nat.reduceAdd, Nat.reduceSub, reduceIte]; cases n <;> rfl
      | row y => simp only [b_is_same, kind_non, kind_bl, kind_int, kind_str, kind_row, kind_tab, r_non, t_non, r_bl, t_bl, r_int, t_int, r_str, t_str, r_row, t_row, r_tab, t_tab, n_non_non, n_non_bl, n_non_int, n_non_str, n_non_row, n_non_tab, n_bl_non, n_bl_bl, n_bl_int, n_bl_str, n_bl_row, n_bl_tab, n_int_non, n_int_bl, n_int_int, n_int_str, n_int_row, n_int_tab, n_str_non, n_str_bl, n_str_int, n_str_str, n_str_row, n_str_tab, n_row_non, n_row_bl, n_row_int, n_row_str, n_row_row, n_row_tab, n_tab_non, n_tab_bl, n_tab_int, n_tab_str, n_tab_row, n_tab_tab, EV, Nat.reduceAdd, Nat.reduceSub, reduceIte]; cases n <;> rfl
      | tab y => simp only [b_is_same, kind_non, kind_bl, kind_int, kind_str, kind_row, kind_tab, r_non, t_non, r_bl, t_bl, r_int, t_int, r_str, t_str, r_row, t_row, r_tab, t_tab, n_non_non, n_non_bl, n_non_int, n_non_str, n_non_row, n_non_tab, n_bl_non, n_bl_bl, n_bl_int, n_bl_str, n_bl_row, n_bl_tab, n_int_non, n_int_bl, n_int_int, n_int_str, n_int_row, n_int_tab, n_str_non, n_str_bl, n_str_int, n_str_str, n_str_row, n_str_tab, n_row_non, n_row_bl, n_row_int, n_row_str, n_row_row, n_row_tab, n_tab_non, n_tab_bl, n_tab_int, n_tab_str, n_tab_row, n_tab_tab, EV, Nat.reduceAdd, Nat.reduceSub, reduceIte]; cases n <;> rfl
      | tup z => exact (elim hb (.inl ⟨_, rfl⟩)).elim
      | kro z => exact (elim hb (.inr (.inl ⟨_, rfl⟩))).elim
      | exc z1 z2 => exact (elim hb (.inr (.inr (.inl ⟨_, _, rfl⟩)))).elim
      | obj z => exact (elim hb (.inr (.inr (.inr ⟨_, rfl⟩)))).elim
    | int x =>
      cases b with
      | non => simp only [b_is_same, kind_non, kind_bl, kind_int, kind_str, kind_row, kind_tab, r_non, t_non, r_bl, t_bl, r_int, t_int, r_str, t_str, r_row, t_row, r_tab, t_tab, n_non_non, n_non_bl, n_non_int, n_non_str, n_non_row, n_non_tab, n_bl_non, n_bl_bl, n_bl_int, n_bl_str, n_bl_row, n_bl_tab, n_int_non, n_int_bl, n_int_int, n_int_str, n_int_row, n_int_tab, n_str_non, n_str_bl, n_str_int, n_str_str, n_str_row, n_str_tab, n_row_non, n_row_bl, n_row_int, n_row_str, n_row_row, n_row_tab, n_tab_non, n_tab_bl, n_tab_int, n_tab_str, n_tab_row, n_tab_tab, EV, Nat.reduceAdd, Nat.reduceSub, reduceIte]; cases n <;> rfl
      | bl y => simp only [b_is_same, kind_non, kind_bl, kind_int, kind_str, kind_row, kind_tab, r_non, t_non, r_bl, t_bl, r_int, t_int, r_str, t_str, r_row, t_row, r_tab, t_tab, n_non_non, n_non_bl, n_non_int, n_non_str, n_non_row, n_non_tab, n_bl_non, n_bl_bl, n_bl_int, n_bl_str, n_bl_row, n_bl_tab, n_int_non, n_int_bl, n_int_int, n_int_str, n_int_row, n_int_tab, n_str_non, n_str_bl, n_str_int, n_str_str, n_str_row, n_str_tab, n_row_non, n_row_bl, n_row_int, n_row_str, n_row_row, n_row_tab, n_tab_non, n_tab_bl, n_tab_int, n_tab_str, n_tab_row, n_tab_tab, EV, Nat.reduceAdd, Nat.reduceSub, reduceIte]; cases n <;> rfl
      | int y => simp only [b_is_same, kind_non, kind_bl, kind_int, kind_str, kind_row, kind_tab, r_non, t_non, r_bl, t_bl, r_int, t_int, r_str, t_str, r_row, t_row, r_tab, t_tab, n_non_non, n_non_bl, n_non_int, n_non_str, n_non_row, n_non_tab, n_bl_non, n_bl_bl, n_bl_int, n_bl_str, n_bl_row, n_bl_tab, n_int_non, n_int_bl, n_int_int, n_int_str, n_int_row, n_int_tab, n_str_non, n_str_bl, n_str_int, n_str_str, n_str_row, n_str_tab, n_row_non, n_row_bl, n_row_int, n_row_str, n_row_row, n_row_tab, n_tab_non, n_tab_bl, n_tab_int, n_tab_str, n_tab_row, n_tab_tab, EV, Nat.reduceAdd, Nat.reduceSub, reduceIte, eqD_int]; cases n <;> rfl
      | str y => simp only [b_is_same, kind_non, kind_bl, kind_int, kind_str, kind_row, kind_tab, r_non, t_non, r_bl, t_bl, r_int, t_int, r_str, t_str, r_row, t_row, r_tab, t_tab, n_non_non, n_non_bl, n_non_int, n_non_str, n_non_row, n_non_tab, n_bl_non, n_bl_bl, n_bl_int, n_bl_str, n_bl_row, n_bl_tab, n_int_non, n_int_bl, n_int_int, n_int_str, n_int_row, n_int_tab, n_str_non, n_str_bl, n_str_int, n_str_str, n_str_row, n_str_tab, n_row_non, n_row_bl, n_row_int, n_row_str, n_row_row, n_row_tab, n_tab_non, n_tab_bl, n_tab_int, n_tab_str, n_tab_row, n_tab_tab, EV, Nat.reduceAdd, Nat.reduceSub, reduceIte]; cases n <;> rfl
      | row y => simp only [b_is_same, kind_non, kind_bl, kind_int, kind_str, kind_row, kind_tab, r_non, t_non, r_bl, t_bl, r_int, t_int, r_str, t_str, r_row, t_row, r_tab, t_tab, n_non_non, n_non_bl, n_non_int, n_non_str, n_non_row, n_non_tab, n_bl_non, n_bl_bl, n_bl_int, n_bl_str, n_bl_row, n_bl_tab, n_int_non, n_int_bl, n_int_int, n_int_str, n_int_row, n_int_tab, n_str_non, n_str_bl, n_str_int, n_str_str, n_str_row, n_str_tab, n_row_non, n_row_bl, n_row_int, n_row_str, n_row_row, n_row_tab, n_tab_non, n_tab_bl, n_tab_int, n_tab_str, n_tab_row, n_tab_tab, EV, Nat.reduceAdd, Nat.reduceSub, reduceIte]; cases n <;> rfl
      | tab y => simp only [b_is_same, kind_non, kind_bl, kind_int, kind_str, kind_row, kind_tab, r_non, t_non, r_bl, t_bl, r_int, t_int, r_str, t_str, r_row, t_row, r_tab, t_tab, n_non_non, n_non_bl, n_non_int, n_non_str, n_non_row, n_non_tab, n_bl_non, n_bl_bl, n_bl_int, n_bl_str, n_bl_row, n_bl_tab, n_int_non, n_int_bl, n_int_int, n_int_str, n_int_row, n_int_tab, n_str_non, n_str_bl, n_str_int, n_str_str, n_str_row, n_str_tab, n_row_non, n_row_bl, n_row_int, n_row_str, n_row_row, n_row_tab, n_tab_non, n_tab_bl, n_tab_int, n_tab_str, n_tab_row, n_tab_tab, EV, Nat.reduceAdd, Nat.reduceSub, reduceIte]; cases n <;> rfl
      | tup z => exact (elim hb (.inl ⟨_, rfl⟩)).elim
      | kro z => exact (elim hb (.inr (.inl ⟨_, rfl⟩))).elim
      | exc z1 z2 => exact (elim hb (.inr (.inr (.inl ⟨_, _, rfl⟩)))).elim
      | obj z => exact (elim hb (.inr (.inr (.inr ⟨_, rfl⟩)))).elim
    | str x =>
      cases b with
      | non => simp only [b_is_same, kind_non, kind_bl, kind_int, kind_str, kind_row, kind_tab, r_non, t_non, r_bl, t_bl, r_int, t_int, r_str, t_str, r_row, t_row, r_tab, t_tab, n_non_non, n_non_bl, n_non_int, n_non_str, n_non_row, n_non_tab, n_bl_non, n_bl_bl, n_bl_int, n_bl_str, n_bl_row, n_bl_tab, n_int_non, n_int_bl, n_int_int, n_int_str, n_int_row, n_int_tab, n_str_non, n_str_bl, n_str_int, n_str_str, n_str_row, n_str_tab, n_row_non, n_row_bl, n_row_int, n_row_str, n_row_row, n_row_tab, n_tab_non, n_tab_bl, n_tab_int, n_tab_str, n_tab_row, n_tab_tab, EV, Nat.reduceAdd, Nat.reduceSub, reduceIte]; cases n <;> rfl
      | bl y => simp only [b_is_same, kind_non, kind_bl, kind_int, kind_str, kind_row, kind_tab, r_non, t_non, r_bl, t_bl, r_int, t_int, r_str, t_str, r_row, t_row, r_tab, t_tab, n_non_non, n_non_bl, n_non_int, n_non_str, n_non_row, n_non_tab, n_bl_non, n_bl_bl, n_bl_int, n_bl_str, n_bl_row, n_bl_tab, n_int_non, n_int_bl, n_int_int, n_int_str, n_int_row, n_int_tab, n_str_non, n_str_bl, n_str_int, n_str_str, n_str_row, n_str_tab, n_row_non, n_row_bl, n_row_int, n_row_str, n_row_row, n_row_tab, n_tab_non, n_tab_bl, n_tab_int, n_tab_str, n_tab_row, n_tab_tab, EV, Nat.reduceAdd, Nat.reduceSub, reduceIte]; cases n <;> rfl
      | int y => simp only [b_is_same, kind_non, kind_bl, kind_int, kind_str, kind_row, kind_tab, r_non, t_non, r_bl, t_bl, r_int, t_int, r_str, t_str, r_row, t_row, r_tab, t_tab, n_non_non, n_non_bl, n_non_int, n_non_str, n_non_row, n_non_tab, n_bl_non, n_bl_bl, n_bl_int, n_bl_str, n_bl_row, n_bl_tab, n_int_non, n_int_bl, n_int_int, n_int_str, n_int_row, n_int_tab, n_str_non, n_str_bl, n_str_int, n_str_str, n_str_row, n_str_tab, n_row_non, n_row_bl, n_row_int, n_row_str, n_row_row, n_row_tab, n_tab_non, n_tab_bl, n_tab_int, n_tab_str, n_tab_row, n_tab_tab, EV, Nat.reduceAdd, Nat.reduceSub, reduceIte]; cases n <;> rfl
      | str y => simp only [b_is_same, kind_non, kind_bl, kind_int, kind_str, kind_row, kind_tab, r_non, t_non, r_bl, t_bl, r_int, t_int, r_str, t_str, r_row, t_row, r_tab, t_tab, n_non_non, n_non_bl, n_non_int, n_non_str, n_non_row, n_non_tab, n_bl_non, n_bl_bl, n_bl_int, n_bl_str, n_bl_row, n_bl_tab, n_int_non, n_int_bl, n_int_int, n_int_str, n_int_row, n_int_tab, n_str_non, n_str_bl, n_str_int, n_str_str, n_str_row, n_str_tab, n_row_non, n_row_bl, n_row_int, n_row_str, n_row_row, n_row_tab, n_tab_non, n_tab_bl, n_tab_int, n_tab_str, n_tab_row, n_tab_tab, EV, Nat.reduceAdd, Nat.reduceSub, reduceIte, eqD_str]; cases n <;> rfl
      | row y => simp only [b_is_same, kind_non, kind_bl, kind_int, kind_str, kind_row, kind_tab, r_non, t_non, r_bl, t_bl, r_int, t_int, r_str, t_str, r_row, t_row, r_tab, t_tab, n_non_non, n_non_bl, n_non_int, n_non_str, n_non_row, n_non_tab, n_bl_non, n_bl_bl, n_bl_int, n_bl_str, n_bl_row, n_bl_tab, n_int_non, n_int_bl, n_int_int, n_int_str, n_int_row, n_int_tab, n_str_non, n_str_bl, n_str_int, n_str_str, n_str_row, n_str_tab, n_row_non, n_row_bl, n_row_int, n_row_str, n_row_row, n_row_tab, n_tab_non, n_tab_bl, n_tab_int, n_tab_str, n_tab_row, n_tab_tab, EV, Nat.reduceAdd, Nat.reduceSub, reduceIte]; cases n <;> rfl
      | tab y => simp only [b_is_same, kind_non, kind_bl, kind_int, kind_str, kind_row, kind_tab, r_non, t_non, r_bl, t_bl, r_int, t_int, r_str, t_str, r_row, t_row, r_tab, t_tab, n_non_non, n_non_bl, n_non_int, n_non_str, n_non_row, n_non_tab, n_bl_non, n_bl_bl, n_bl_int, n_bl_str, n_bl_row, n_bl_tab, n_int_non, n_int_bl, n_int_int, n_int_str, n_int_row, n_int_tab, n_str_non, n_str_bl, n_str_int, n_str_str, n_str_row, n_str_tab, n_row_non, n_row_bl, n_row_int, n_row_str, n_row_row, n_row_tab, n_tab_non, n_tab_bl, n_tab_int, n_tab_str, n_tab_row, n_tab_tab, EV, Nat.reduceAdd, Nat.reduceSub, reduceIte]; cases n <;> rfl
      | tup z => exact (elim hb (.inl ⟨_, rfl⟩)).elim
      | kro z => exact (elim hb (.inr (.inl ⟨_, rfl⟩))).elim
      | exc z1 z2 => exact (elim hb (.inr (.inr (.inl ⟨_, _, rfl⟩)))).elim
      | obj z => exact (elim hb (.inr (.inr (.inr ⟨_, rfl⟩)))).elim
    | row x =>
      cases b with
      | non => simp only [b_is_same, kind_non, kind_bl, kind_int, kind_str, kind_row, kind_tab, r_non, t_non, r_bl, t_bl, r_int, t_int, r_str, t_str, r_row, t_row, r_tab, t_tab, n_non_non, n_non_bl, n_non_int, n_non_str, n_non_row, n_non_tab, n_bl_non, n_bl_bl, n_bl_int, n_bl_str, n_bl_row, n_bl_tab, n_int_non, n_int_bl, n_int_int, n_int_str, n_int_row, n_int_tab, n_str_non, n_str_bl, n_str_int, n_str_str, n_str_row, n_str_tab, n_row_non, n_row_bl, n_row_int, n_row_str, n_row_row, n_row_tab, n_tab_non, n_tab_bl, n_tab_int, n_tab_str, n_tab_row, n_tab_tab, EV, Nat.reduceAdd, Nat.reduceSub, reduceIte]; cases n <;> rfl
      | bl y => simp only [b_is_same, kind_non, kind_bl, kind_int, kind_str, kind_row, kind_tab, r_non, t_non, r_bl, t_bl, r_int, t_int, r_str, t_str, r_row, t_row, r_tab, t_tab, n_non_non, n_non_bl, n_non_int, n_non_str, n_non_row, n_non_tab, n_bl_non, n_bl_bl, n_bl_int, n_bl_str, n_bl_row, n_bl_tab, n_int_non, n_int_bl, n_int_int, n_int_str, n_int_row, n_int_tab, n_str_non, n_str_bl, n_str_int, n_str_str, n_str_row, n_str_tab, n_row_non, n_row_bl, n_row_int, n_row_str, n_row_row, n_row_tab, n_tab_non, n_tab_bl, n_tab_int, n_tab_str, n_tab_row, n_tab_tab, EV, Nat.reduceAdd, Nat.reduceSub, reduceIte]; cases n <;> rfl
      | int y => simp only [b_is_same, kind_non, kind_bl, kind_int, kind_str, kind_row, kind_tab, r_non, t_non, r_bl, t_bl, r_int, t_int, r_str, t_str, r_row, t_row, r_tab, t_tab, n_non_non, n_non_bl, n_non_int, n_non_str, n_non_row, n_non_tab, n_bl_non, n_bl_bl, n_bl_int, n_bl_str, n_bl_row, n_bl_tab, n_int_non, n_int_bl, n_int_int, n_int_str, n_int_row, n_int_tab, n_str_non, n_str_bl, n_str_int, n_str_str, n_str_row, n_str_tab, n_row_non, n_row_bl, n_row_int, n_row_str, n_row_row, n_row_tab, n_tab_non, n_tab_bl, n_tab_int, n_tab_str, n_tab_row, n_tab_tab, EV, Nat.reduceAdd, Nat.reduceSub, reduceIte]; cases n <;> rfl
      | str y => simp only [b_is_same, kind_non, kind_bl, kind_int, kind_str, kind_row, kind_tab, r_non, t_non, r_bl, t_bl, r_int, t_int, r_str, t_str, r_row, t_row, r_tab, t_tab, n_non_non, n_non_bl, n_non_int, n_non_str, n_non_row, n_non_tab, n_bl_non, n_bl_bl, n_bl_int, n_bl_str, n_bl_row, n_bl_tab, n_int_non, n_int_bl, n_int_int, n_int_str, n_int_row, n_int_tab, n_str_non, n_str_bl, n_str_int, n_str_str, n_str_row, n_str_tab, n_row_non, n_row_bl, n_row_int, n_row_str, n_row_row, n_row_tab, n_tab_non, n_tab_bl, n_tab_int, n_tab_str, n_tab_row, n_tab_tab, EV, Nat.reduceAdd, Nat.reduceSub, reduceIte]; cases n <;> rfl
      | row y =>
        cases n with
        | zero => exact ha.elim
        | succ n =>
          have hx : lenD [.row x] = some (.int (x.length : Nat)) := rfl
          have hy : lenD [.row y] = some (.int (y.length : Nat)) := rfl
          have hr := rng_len x.length (small_size ha.1)
          by_cases hl : x.length = y.length
          · have hc : lcA (tgN 4) dYes (dCall 2 (fun ds => up ((den (k + (n + 1) + 1)).is_same ds)) (dCons (dOp ixD (dVar 0) (dVar 4)) (dCons (dOp ixD (dVar 1) (dVar 4)) dNil))) [some (.row x), some (.row y), some (.str "row"), none, none] [] ((List.range x.length).map fun (j : Nat) => D.int (j : Int)) () = .ok (.row (((List.range x.length).map fun i => sameD n (x.getD i .non) (y.getD i .non)).map D.bl)) () := by
              refine lcA_range (fun i => sameD n (x.getD i .non) (y.getD i .non)) x.length fun j hj => ?_
              have e1 : ixD (.row x) (.int (j : Nat)) = some (x.getD j .non) := atI_nat x j hj
              have e2 : ixD (.row y) (.int (j : Nat)) = some (y.getD j .non) := atI_nat y j (by omega)
              have m1 : x.getD j .non ∈ x := by rw [List.getD_eq_getElem?_getD, List.getElem?_eq_getElem hj]; exact List.getElem_mem hj
              have m2 : y.getD j .non ∈ y := by rw [List.getD_eq_getElem?_getD, List.getElem?_eq_getElem (by omega : j < y.length)]; exact List.getElem_mem _
              have e3 := ih n rfl _ _ (ha.2 _ m1) (hb.2 _ m2)
              simp only [EV, Nat.reduceAdd, Nat.reduceSub, reduceIte, e1, e2, e3]
            have hs : sameD (n + 1) (.row x) (.row y) = ((List.range x.length).map fun i => sameD n (x.getD i .non) (y.getD i .non)).all id := by
              show (decide (x.length = y.length) && _) = _
              rw [decide_eq_true hl, Bool.true_and, List.all_map]; rfl
            simp only [b_is_same, kind_non, kind_bl, kind_int, kind_str, kind_row, kind_tab, r_non, t_non, r_bl, t_bl, r_int, t_int, r_str, t_str, r_row, t_row, r_tab, t_tab, n_non_non, n_non_bl, n_non_int, n_non_str, n_non_row, n_non_tab, n_bl_non, n_bl_bl, n_bl_int, n_bl_str, n_bl_row, n_bl_tab, n_int_non, n_int_bl, n_int_int, n_int_str, n_int_row, n_int_tab, n_str_non, n_str_bl, n_str_int, n_str_str, n_str_row, n_str_tab, n_row_non, n_row_bl, n_row_int, n_row_str, n_row_row, n_row_tab, n_tab_non, n_tab_bl, n_tab_int, n_tab_str, n_tab_row, n_tab_tab, EV, Nat.reduceAdd, Nat.reduceSub, reduceIte, hx, hy, hr, eqD_len, decide_eq_true hl, hs, hc, all_bls]
          · have hs : sameD (n + 1) (.row x) (.row y) = false := by
              show (decide (x.length = y.length) && _) = _
              rw [decide_eq_false hl, Bool.false_and]
            simp only [b_is_same, kind_non, kind_bl, kind_int, kind_str, kind_row, kind_tab, r_non, t_non, r_bl, t_bl, r_int, t_int, r_str, t_str, r_row, t_row, r_tab, t_tab, n_non_non, n_non_bl, n_non_int, n_non_str, n_non_row, n_non_tab, n_bl_non, n_bl_bl, n_bl_int, n_bl_str, n_bl_row, n_bl_tab, n_int_non, n_int_bl, n_int_int, n_int_str, n_int_row, n_int_tab, n_str_non, n_str_bl, n_str_int, n_str_str, n_str_row, n_str_tab, n_row_non, n_row_bl, n_row_int, n_row_str, n_row_row, n_row_tab, n_tab_non, n_tab_bl, n_tab_int, n_tab_str, n_tab_row, n_tab_tab, EV, Nat.reduceAdd, Nat.reduceSub, reduceIte, hx, hy, eqD_len, decide_eq_false hl, hs]
      | tab y => simp only [b_is_same, kind_non, kind_bl, kind_int, kind_str, kind_row, kind_tab, r_non, t_non, r_bl, t_bl, r_int, t_int, r_str, t_str, r_row, t_row, r_tab, t_tab, n_non_non, n_non_bl, n_non_int, n_non_str, n_non_row, n_non_tab, n_bl_non, n_bl_bl, n_bl_int, n_bl_str, n_bl_row, n_bl_tab, n_int_non, n_int_bl, n_int_int, n_int_str, n_int_row, n_int_tab, n_str_non, n_str_bl, n_str_int, n_str_str, n_str_row, n_str_tab, n_row_non, n_row_bl, n_row_int, n_row_str, n_row_row, n_row_tab, n_tab_non, n_tab_bl, n_tab_int, n_tab_str, n_tab_row, n_tab_tab, EV, Nat.reduceAdd, Nat.reduceSub, reduceIte]; cases n <;> rfl
      | tup z => exact (elim hb (.inl ⟨_, rfl⟩)).elim
      | kro z => exact (elim hb (.inr (.inl ⟨_, rfl⟩))).elim
      | exc z1 z2 => exact (elim hb (.inr (.inr (.inl ⟨_, _, rfl⟩)))).elim
      | obj z => exact (elim hb (.inr (.inr (.inr ⟨_, rfl⟩)))).elim
    | tab x =>
      cases b with
      | non => simp only [b_is_same, kind_non, kind_bl, kind_int, kind_str, kind_row, kind_tab, r_non, t_non, r_bl, t_bl, r_int, t_int, r_str, t_str, r_row, t_row, r_tab, t_tab, n_non_non, n_non_bl, n_non_int, n_non_str, n_non_row, n_non_tab, n_bl_non, n_bl_bl, n_bl_int, n_bl_str, n_bl_row, n_bl_tab, n_int_non, n_int_bl, n_int_int, n_int_str, n_int_row, n_int_tab, n_str_non, n_str_bl, n_str_int, n_str_str, n_str_row, n_str_tab, n_row_non, n_row_bl, n_row_int, n_row_str, n_row_row, n_row_tab, n_tab_non, n_tab_bl, n_tab_int, n_tab_str, n_tab_row, n_tab_tab, EV, Nat.reduceAdd, Nat.reduceSub, reduceIte]; cases n <;> rfl
      | bl y => simp only [b_is_same, kind_non, kind_bl, kind_int, kind_str, kind_row, kind_tab, r_non, t_non, r_bl, t_bl, r_int, t_int, r_str, t_str, r_row, t_row, r_tab, t_tab, n_non_non, n_non_bl, n_non_int, n_non_str, n_non_row, n_non_tab, n_bl_non, n_bl_bl, n_bl_int, n_bl_str, n_bl_row, n_bl_tab, n_int_non, n_int_bl, n_int_int, n_int_str, n_int_row, n_int_tab, n_str_non, n_str_bl, n_str_int, n_str_str, n_str_row, n_str_tab, n_row_non, n_row_bl, n_row_int, n_row_str, n_row_row, n_row_tab, n_tab_non, n_tab_bl, n_tab_int, n_tab_str, n_tab_row, n_tab_tab, EV, Nat.reduceAdd, Nat.reduceSub, reduceIte]; cases n <;> rfl
      | int y => simp only [b_is_same, kind_non, kind_bl, kind_int, kind_str, kind_row, kind_tab, r_non, t_non, r_bl, t_bl, r_int, t_int, r_str, t_str, r_row, t_row, r_tab, t_tab, n_non_non, n_non_bl, n_non_int, n_non_str, n_non_row, n_non_tab, n_bl_non, n_bl_bl, n_bl_int, n_bl_str, n_bl_row, n_bl_tab, n_int_non, n_int_bl, n_int_int, n_int_str, n_int_row, n_int_tab, n_str_non, n_str_bl, n_str_int, n_str_str, n_str_row, n_str_tab, n_row_non, n_row_bl, n_row_int, n_row_str, n_row_row, n_row_tab, n_tab_non, n_tab_bl, n_tab_int, n_tab_str, n_tab_row, n_tab_tab, EV, Nat.reduceAdd, Nat.reduceSub, reduceIte]; cases n <;> rfl
      | str y => simp only [b_is_same, kind_non, kind_bl, kind_int, kind_str, kind_row, kind_tab, r_non, t_non, r_bl, t_bl, r_int, t_int, r_str, t_str, r_row, t_row, r_tab, t_tab, n_non_non, n_non_bl, n_non_int, n_non_str, n_non_row, n_non_tab, n_bl_non, n_bl_bl, n_bl_int, n_bl_str, n_bl_row, n_bl_tab, n_int_non, n_int_bl, n_int_int, n_int_str, n_int_row, n_int_tab, n_str_non, n_str_bl, n_str_int, n_str_str, n_str_row, n_str_tab, n_row_non, n_row_bl, n_row_int, n_row_str, n_row_row, n_row_tab, n_tab_non, n_tab_bl, n_tab_int, n_tab_str, n_tab_row, n_tab_tab, EV, Nat.reduceAdd, Nat.reduceSub, reduceIte]; cases n <;> rfl
      | row y => simp only [b_is_same, kind_non, kind_bl, kind_int, kind_str, kind_row, kind_tab, r_non, t_non, r_bl, t_bl, r_int, t_int, r_str, t_str, r_row, t_row, r_tab, t_tab, n_non_non, n_non_bl, n_non_int, n_non_str, n_non_row, n_non_tab, n_bl_non, n_bl_bl, n_bl_int, n_bl_str, n_bl_row, n_bl_tab, n_int_non, n_int_bl, n_int_int, n_int_str, n_int_row, n_int_tab, n_str_non, n_str_bl, n_str_int, n_str_str, n_str_row, n_str_tab, n_row_non, n_row_bl, n_row_int, n_row_str, n_row_row, n_row_tab, n_tab_non, n_tab_bl, n_tab_int, n_tab_str, n_tab_row, n_tab_tab, EV, Nat.reduceAdd, Nat.reduceSub, reduceIte]; cases n <;> rfl
      | tab y =>
        cases n with
        | zero => exact ha.elim
        | succ n =>
          have tx := th_txk ha
          have ty := th_txk hb
          have hx : sortKD (.tab x) = some (.row ((sortS (kS x)).map D.str)) := by
            show (txtKeys x).map _ = _
            rw [txtKeys_of tx]; rfl
          have hy : sortKD (.tab y) = some (.row ((sortS (kS y)).map D.str)) := by
            show (txtKeys y).map _ = _
            rw [txtKeys_of ty]; rfl
          have hkd : keysD (.tab x) = some (x.map fun kv => kD kv.1) := rfl
          by_cases hl : sortS (kS x) = sortS (kS y)
          · have hc : lcA (tgN 3) dYes (dCall 2 (fun ds => up ((den (k + (n + 1) + 1)).is_same ds)) (dCons (dOp ixD (dVar 0) (dVar 3)) (dCons (dOp ixD (dVar 1) (dVar 3)) dNil))) [some (.tab x), some (.tab y), some (.str "table"), none, none] [] (x.map fun kv => kD kv.1) () = .ok (.row (((kS x).map fun z => sameD n (gv x z) (gv y z)).map D.bl)) () := by
              refine lcA_keys (fun z => sameD n (gv x z) (gv y z)) tx fun z hz => ?_
              have hz2 : z ∈ kS y := (sortS_perm _).mem_iff.mp (hl ▸ (sortS_perm _).mem_iff.mpr hz)
              have e1 : ixD (.tab x) (.str z) = some (gv x z) := (gv_val tx hz).1
              have e2 : ixD (.tab y) (.str z) = some (gv y z) := (gv_val ty hz2).1
              have e3 := ih n rfl _ _ (ha.2.2 _ (gv_val tx hz).2).2 (hb.2.2 _ (gv_val ty hz2).2).2
              simp only [EV, Nat.reduceAdd, Nat.reduceSub, reduceIte, e1, e2, e3]
            have hs : sameD (n + 1) (.tab x) (.tab y) = ((kS x).map fun z => sameD n (gv x z) (gv y z)).all id := by
              show (decide (sortS (kS x) = sortS (kS y)) && _) = _
              rw [decide_eq_true hl, Bool.true_and, List.all_map]; rfl
            simp only [b_is_same, kind_non, kind_bl, kind_int, kind_str, kind_row, kind_tab, r_non, t_non, r_bl, t_bl, r_int, t_int, r_str, t_str, r_row, t_row, r_tab, t_tab, n_non_non, n_non_bl, n_non_int, n_non_str, n_non_row, n_non_tab, n_bl_non, n_bl_bl, n_bl_int, n_bl_str, n_bl_row, n_bl_tab, n_int_non, n_int_bl, n_int_int, n_int_str, n_int_row, n_int_tab, n_str_non, n_str_bl, n_str_int, n_str_str, n_str_row, n_str_tab, n_row_non, n_row_bl, n_row_int, n_row_str, n_row_row, n_row_tab, n_tab_non, n_tab_bl, n_tab_int, n_tab_str, n_tab_row, n_tab_tab, EV, Nat.reduceAdd, Nat.reduceSub, reduceIte, hx, hy, hkd, neD_rows, hl, decide_true, Bool.not_true, hs, hc, all_bls]
          · have hs : sameD (n + 1) (.tab x) (.tab y) = false := by
              show (decide (sortS (kS x) = sortS (kS y)) && _) = _
              rw [decide_eq_false hl, Bool.false_and]
            simp only [b_is_same, kind_non, kind_bl, kind_int, kind_str, kind_row, kind_tab, r_non, t_non, r_bl, t_bl, r_int, t_int, r_str, t_str, r_row, t_row, r_tab, t_tab, n_non_non, n_non_bl, n_non_int, n_non_str, n_non_row, n_non_tab, n_bl_non, n_bl_bl, n_bl_int, n_bl_str, n_bl_row, n_bl_tab, n_int_non, n_int_bl, n_int_int, n_int_str, n_int_row, n_int_tab, n_str_non, n_str_bl, n_str_int, n_str_str, n_str_row, n_str_tab, n_row_non, n_row_bl, n_row_int, n_row_str, n_row_row, n_row_tab, n_tab_non, n_tab_bl, n_tab_int, n_tab_str, n_tab_row, n_tab_tab, EV, Nat.reduceAdd, Nat.reduceSub, reduceIte, hx, hy, neD_rows, decide_eq_false hl, Bool.not_false, hs]
      | tup z => exact (elim hb (.inl ⟨_, rfl⟩)).elim
      | kro z => exact (elim hb (.inr (.inl ⟨_, rfl⟩))).elim
      | exc z1 z2 => exact (elim hb (.inr (.inr (.inl ⟨_, _, rfl⟩)))).elim
      | obj z => exact (elim hb (.inr (.inr (.inr ⟨_, rfl⟩)))).elim
    | tup z => exact (elim ha (.inl ⟨_, rfl⟩)).elim
    | kro z => exact (elim ha (.inr (.inl ⟨_, rfl⟩))).elim
    | exc z1 z2 => exact (elim ha (.inr (.inr (.inl ⟨_, _, rfl⟩)))).elim
    | obj z => exact (elim ha (.inr (.inr (.inr ⟨_, rfl⟩)))).elim
  intro n
  induction n with
  | zero => exact fun a b k ha hb => gen 0 a b k ha hb fun m e => by cases e
  | succ n ih => exact fun a b k ha hb => gen (n + 1) a b k ha hb fun m e a b ha hb => by cases e; exact ih a b k ha hb
theorem _law_same_eq : ∀ (n : Nat) (a b : D) (k : Nat), ThD n a → ThD n b → (den (k + n + 2))._law_same [a, b] () = .ok (.bl (sameD n a b)) () := by
  have gen : ∀ (n : Nat) (a b : D) (k : Nat), ThD n a → ThD n b → (∀ m, n = m + 1 → ∀ (a b : D), ThD m a → ThD m b → (den (k + n + 1))._law_same [a, b] () = .ok (.bl (sameD m a b)) ()) → (den (k + n + 2))._law_same [a, b] () = .ok (.bl (sameD n a b)) () := fun n a b k ha hb ih => by
    show fnD 5 (b__law_same (den (k + n + 1))) [a, b] () = _
    have r_non : eqD (.int 0) (.int 4) = some (.bl false) := by kernel_rfl
    have t_non : eqD (.int 0) (.int 5) = some (.bl false) := by kernel_rfl
    have n_non_non : neD (.int 0) (.int 0) = some (.bl false) := by kernel_rfl
    have n_non_bl : neD (.int 0) (.int 1) = some (.bl true) := by kernel_rfl
    have n_non_int : neD (.int 0) (.int 2) = some (.bl true) := by kernel_rfl
    have n_non_str : neD (.int 0) (.int 3) = some (.bl true) := by kernel_rfl
    have n_non_row : neD (.int 0) (.int 4) = some (.bl true) := by kernel_rfl
    have n_non_tab : neD (.int 0) (.int 5) = some (.bl true) := by kernel_rfl
    have l_non : ltD (.int 0) (.int 6) = some (.bl true) := by kernel_rfl
    have r_bl : eqD (.int 1) (.int 4) = some (.bl false) := by kernel_rfl
    have t_bl : eqD (.int 1) (.int 5) = some (.bl false) := by kernel_rfl
    have n_bl_non : neD (.int 1) (.int 0) = some (.bl true) := by kernel_rfl
    have n_bl_bl : neD (.int 1) (.int 1) = some (.bl false) := by kernel_rfl
    have n_bl_int : neD (.int 1) (.int 2) = some (.bl true) := by kernel_rfl
    have n_bl_str : neD (.int 1) (.int 3) = some (.bl true) := by kernel_rfl
    have n_bl_row : neD (.int 1) (.int 4) = some (.bl true) := by kernel_rfl
    have n_bl_tab : neD (.int 1) (.int 5) = some (.bl true) := by kernel_rfl
    have l_bl : ltD (.int 1) (.int 6) = some (.bl true) := by kernel_rfl
    have r_int : eqD (.int 2) (.int 4) = some (.bl false) := by kernel_rfl
    have t_int : eqD (.int 2) (.int 5) = some (.bl false) := by kernel_rfl
    have n_int_non : neD (.int 2) (.int 0) = some (.bl true) := by kernel_rfl
    have n_int_bl : neD (.int 2) (.int 1) = some (.bl true) := by kernel_rfl
    have n_int_int : neD (.int 2) (.int 2) = some (.bl false) := by kernel_rfl
    have n_int_str : neD (.int 2) (.int 3) = some (.bl true) := by kernel_rfl
    have n_int_row : neD (.int 2) (.int 4) = some (.bl true) := by kernel_rfl
    have n_int_tab : neD (.int 2) (.int 5) = some (.bl true) := by kernel_rfl
    have l_int : ltD (.int 2) (.int 6) = some (.bl true) := by kernel_rfl
    have r_str : eqD (.int 3) (.int 4) = some (.bl false) := by kernel_rfl
    have t_str : eqD (.int 3) (.int 5) = some (.bl false) := by kernel_rfl
    have n_str_non : neD (.int 3) (.int 0) = some (.bl true) := by kernel_rfl
    have n_str_bl : neD (.int 3) (.int 1) = some (.bl true) := by kernel_rfl
    have n_str_int : neD (.int 3) (.int 2) = some (.bl true) := by kernel_rfl
    have n_str_str : neD (.int 3) (.int 3) = some (.bl false) := by kernel_rfl
    have n_str_row : neD (.int 3) (.int 4) = some (.bl true) := by kernel_rfl
    have n_str_tab : neD (.int 3) (.int 5) = some (.bl true) := by kernel_rfl
    have l_str : ltD (.int 3) (.int 6) = some (.bl true) := by kernel_rfl
    have r_row : eqD (.int 4) (.int 4) = some (.bl true) := by kernel_rfl
    have t_row : eqD (.int 4) (.int 5) = some (.bl false) := by kernel_rfl
    have n_row_non : neD (.int 4) (.int 0) = some (.bl true) := by kernel_rfl
    have n_row_bl : neD (.int 4) (.int 1) = some (.bl true) := by kernel_rfl
    have n_row_int : neD (.int 4) (.int 2) = some (.bl true) := by kernel_rfl
    have n_row_str : neD (.int 4) (.int 3) = some (.bl true) := by kernel_rfl
    have n_row_row : neD (.int 4) (.int 4) = some (.bl false) := by kernel_rfl
    have n_row_tab : neD (.int 4) (.int 5) = some (.bl true) := by kernel_rfl
    have l_row : ltD (.int 4) (.int 6) = some (.bl true) := by kernel_rfl
    have r_tab : eqD (.int 5) (.int 4) = some (.bl false) := by kernel_rfl
    have t_tab : eqD (.int 5) (.int 5) = some (.bl true) := by kernel_rfl
    have n_tab_non : neD (.int 5) (.int 0) = some (.bl true) := by kernel_rfl
    have n_tab_bl : neD (.int 5) (.int 1) = some (.bl true) := by kernel_rfl
    have n_tab_int : neD (.int 5) (.int 2) = some (.bl true) := by kernel_rfl
    have n_tab_str : neD (.int 5) (.int 3) = some (.bl true) := by kernel_rfl
    have n_tab_row : neD (.int 5) (.int 4) = some (.bl true) := by kernel_rfl
    have n_tab_tab : neD (.int 5) (.int 5) = some (.bl false) := by kernel_rfl
    have l_tab : ltD (.int 5) (.int 6) = some (.bl true) := by kernel_rfl
    have elim : ∀ {n : Nat} {d : D}, ThD n d → (∃ xs, d = .tup xs) ∨ (∃ xs, d = .kro xs) ∨ (∃ c fs, d = .exc c fs) ∨ (∃ j, d = .obj j) → False := fun {n d} h z => by
      rcases z with ⟨_, rfl⟩ | ⟨_, rfl⟩ | ⟨_, _, rfl⟩ | ⟨_, rfl⟩ <;> cases n <;> exact h
    cases a with
    | non =>
      cases b with
      | non => simp only [b__law_same, lkind_non, lkind_bl, lkind_int, lkind_str, lkind_row, lkind_tab, r_non, t_non, r_bl, t_bl, r_int, t_int, r_str, t_str, r_row, t_row, r_tab, t_tab, n_non_non, n_non_bl, n_non_int, n_non_str, n_non_row, n_non_tab, n_bl_non, n_bl_bl, n_bl_int, n_bl_str, n_bl_row, n_bl_tab, n_int_non, n_int_bl, n_int_int, n_int_str, n_int_row, n_int_tab, n_str_non, n_str_bl, n_str_int, n_str_str, n_str_row, n_str_tab, n_row_non, n_row_bl, n_row_int, n_row_str, n_row_row, n_row_tab, n_tab_non, n_tab_bl, n_tab_int, n_tab_str, n_tab_row, n_tab_tab, l_non, l_bl, l_int, l_str, l_row, l_tab, EV, Nat.reduceAdd, Nat.reduceSub, reduceIte, eqD_non]; cases n <;> rfl
      | bl y => simp only [b__law_same, lkind_non, lkind_bl, lkind_int, lkind_str, lkind_row, lkind_tab, r_non, t_non, r_bl, t_bl, r_int, t_int, r_str, t_str, r_row, t_row, r_tab, t_tab, n_non_non, n_non_bl, n_non_int, n_non_str, n_non_row, n_non_tab, n_bl_non, n_bl_bl, n_bl_int, n_bl_str, n_bl_row, n_bl_tab, n_int_non, n_int_bl, n_int_int, n_int_str, n_int_row, n_int_tab, n_str_non, n_str_bl, n_str_int, n_str_str, n_str_row, n_str_tab, n_row_non, n_row_bl, n_row_int, n_row_str, n_row_row, n_row_tab, n_tab_non, n_tab_bl, n_tab_int, n_tab_str, n_tab_row, n_tab_tab, l_non, l_bl, l_int, l_str, l_row, l_tab, EV, Nat.reduceAdd, Nat.reduceSub, reduceIte]; cases n <;> rfl
      | int y => simp only [b__law_same, lkind_non, lkind_bl, lkind_int, lkind_str, lkind_row, lkind_tab, r_non, t_non, r_bl, t_bl, r_int, t_int, r_str, t_str, r_row, t_row, r_tab, t_tab, n_non_non, n_non_bl, n_non_int, n_non_str, n_non_row, n_non_tab, n_bl_non, n_bl_bl, n_bl_int, n_bl_str, n_bl_row, n_bl_tab, n_int_non, n_int_bl, n_int_int, n_int_str, n_int_row, n_int_tab, n_str_non, n_str_bl, n_str_int, n_str_str, n_str_row, n_str_tab, n_row_non, n_row_bl, n_row_int, n_row_str, n_row_row, n_row_tab, n_tab_non, n_tab_bl, n_tab_int, n_tab_str, n_tab_row, n_tab_tab, l_non, l_bl, l_int, l_str, l_row, l_tab, EV, Nat.reduceAdd, Nat.reduceSub, reduceIte]; cases n <;> rfl
      | str y => simp only [b__law_same, lkind_non, lkind_bl, lkind_int, lkind_str, lkind_row, lkind_tab, r_non, t_non, r_bl, t_bl, r_int, t_int, r_str, t_str, r_row, t_row, r_tab, t_tab, n_non_non, n_non_bl, n_non_int, n_non_str, n_non_row, n_non_tab, n_bl_non, n_bl_bl, n_bl_int, n_bl_str, n_bl_row, n_bl_tab, n_int_non, n_int_bl, n_int_int, n_int_str, n_int_row, n_int_tab, n_str_non, n_str_bl, n_str_int, n_str_str, n_str_row, n_str_tab, n_row_non, n_row_bl, n_row_int, n_row_str, n_row_row, n_row_tab, n_tab_non, n_tab_bl, n_tab_int, n_tab_str, n_tab_row, n_tab_tab, l_non, l_bl, l_int, l_str, l_row, l_tab, EV, Nat.reduceAdd, Nat.reduceSub, reduceIte]; cases n <;> rfl
      | row y => simp only [b__law_same, lkind_non, lkind_bl, lkind_int, lkind_str, lkind_row, lkind_tab, r_non, t_non, r_bl, t_bl, r_int, t_int, r_str, t_str, r_row, t_row, r_tab, t_tab, n_non_non, n_non_bl, n_non_int, n_non_str, n_non_row, n_non_tab, n_bl_non, n_bl_bl, n_bl_int, n_bl_str, n_bl_row, n_bl_tab, n_int_non, n_int_bl, n_int_int, n_int_str, n_int_row, n_int_tab, n_str_non, n_str_bl, n_str_int, n_str_str, n_str_row, n_str_tab, n_row_non, n_row_bl, n_row_int, n_row_str, n_row_row, n_row_tab, n_tab_non, n_tab_bl, n_tab_int, n_tab_str, n_tab_row, n_tab_tab, l_non, l_bl, l_int, l_str, l_row, l_tab, EV, Nat.reduceAdd, Nat.reduceSub, reduceIte]; cases n <;> rfl
      | tab y => simp only [b__law_same, lkind_non, lkind_bl, lkind_int, lkind_str, lkind_row, lkind_tab, r_non, t_non, r_bl, t_bl, r_int, t_int, r_str, t_str, r_row, t_row, r_tab, t_tab, n_non_non, n_non_bl, n_non_int, n_non_str, n_non_row, n_non_tab, n_bl_non, n_bl_bl, n_bl_int, n_bl_str, n_bl_row, n_bl_tab, n_int_non, n_int_bl, n_int_int, n_int_str, n_int_row, n_int_tab, n_str_non, n_str_bl, n_str_int, n_str_str, n_str_row, n_str_tab, n_row_non, n_row_bl, n_row_int, n_row_str, n_row_row, n_row_tab, n_tab_non, n_tab_bl, n_tab_int, n_tab_str, n_tab_row, n_tab_tab, l_non, l_bl, l_int, l_str, l_row, l_tab, EV, Nat.reduceAdd, Nat.reduceSub, reduceIte]; cases n <;> rfl
      | tup z => exact (elim hb (.inl ⟨_, rfl⟩)).elim
      | kro z => exact (elim hb (.inr (.inl ⟨_, rfl⟩))).elim
      | exc z1 z2 => exact (elim hb (.inr (.inr (.inl ⟨_, _, rfl⟩)))).elim
      | obj z => exact (elim hb (.inr (.inr (.inr ⟨_, rfl⟩)))).elim
    | bl x =>
      cases b with
      | non => simp only [b__law_same, lkind_non, lkind_bl, lkind_int, lkind_str, lkind_row, lkind_tab, r_non, t_non, r_bl, t_bl, r_int, t_int, r_str, t_str, r_row, t_row, r_tab, t_tab, n_non_non, n_non_bl, n_non_int, n_non_str, n_non_row, n_non_tab, n_bl_non, n_bl_bl, n_bl_int, n_bl_str, n_bl_row, n_bl_tab, n_int_non, n_int_bl, n_int_int, n_int_str, n_int_row, n_int_tab, n_str_non, n_str_bl, n_str_int, n_str_str, n_str_row, n_str_tab, n_row_non, n_row_bl, n_row_int, n_row_str, n_row_row, n_row_tab, n_tab_non, n_tab_bl, n_tab_int, n_tab_str, n_tab_row, n_tab_tab, l_non, l_bl, l_int, l_str, l_row, l_tab, EV, Nat.reduceAdd, Nat.reduceSub, reduceIte]; cases n <;> rfl
      | bl y => simp only [b__law_same, lkind_non, lkind_bl, lkind_int, lkind_str, lkind_row, lkind_tab, r_non, t_non, r_bl, t_bl, r_int, t_int, r_str, t_str, r_row, t_row, r_tab, t_tab, n_non_non, n_non_bl, n_non_int, n_non_str, n_non_row, n_non_tab, n_bl_non, n_bl_bl, n_bl_int, n_bl_str, n_bl_row, n_bl_tab, n_int_non, n_int_bl, n_int_int, n_int_str, n_int_row, n_int_tab, n_str_non, n_str_bl, n_str_int, n_str_str, n_str_row, n_str_tab, n_row_non, n_row_bl, n_row_int, n_row_str, n_row_row, n_row_tab, n_tab_non, n_tab_bl, n_tab_int, n_tab_str, n_tab_row, n_tab_tab, l_non, l_bl, l_int, l_str, l_row, l_tab, EV, Nat.reduceAdd, Nat.reduceSub, reduceIte, eqD_bl]; cases n <;> rfl
      | int y => simp only [b__law_same, lkind_non, lkind_bl, lkind_int, lkind_str, lkind_row, lkind_tab, r_non, t_non, r_bl, t_bl, r_int, t_int, r_str, t_str, r_row, t_row, r_tab, t_tab, n_non_non, n_non_bl, n_non_int, n_non_str, n_non_row, n_non_tab, n_bl_non, n_bl_bl, n_bl_int, n_bl_str, n_bl_row, n_bl_tab, n_int_non, n_int_bl, n_int_int, n_int_str, n_int_row, n_int_tab, n_str_non, n_str_bl, n_str_int, n_str_str, n_str_row, n_str_tab, n_row_non, n_row_bl, n_row_int, n_row_str, n_row_row, n_row_tab, n_tab_non, n_tab_bl, n_tab_int, n_tab_str, n_tab_row, n_tab_tab, l_non, l_bl, l_int, l_str, l_row, l_tab, EV, Nat.reduceAdd, Nat.reduceSub, reduceIte]; cases n <;> rfl
      | str y => simp only [b__law_same, lkind_non, lkind_bl, lkind_int, lkind_str, lkind_row, lkind_tab, r_non, t_non, r_bl, t_bl, r_int, t_int, r_str, t_str, r_row, t_row, r_tab, t_tab, n_non_non, n_non_bl, n_non_int, n_non_str, n_non_row, n_non_tab, n_bl_non, n_bl_bl, n_bl_int, n_bl_str, n_bl_row, n_bl_tab, n_int_non, n_int_bl, n_int_int, n_int_str, n_int_row, n_int_tab, n_str_non, n_str_bl, n_str_int, n_str_str, n_str_row, n_str_tab, n_row_non, n_row_bl, n_row_int, n_row_str, n_row_row, n_row_tab, n_tab_non, n_tab_bl, n_tab_int, n_tab_str, n_tab_row, n_tab_tab, l_non, l_bl, l_int, l_str, l_row, l_tab, EV, Nat.reduceAdd, Nat.reduceSub, reduceIte]; cases n <;> rfl
      | row y => simp only [b__law_same, lkind_non, lkind_bl, lkind_int, lkind_str, lkind_row, lkind_tab, r_non, t_non, r_bl, t_bl, r_int, t_int, r_str, t_str, r_row, t_row, r_tab, t_tab, n_non_non, n_non_bl, n_non_int, n_non_str, n_non_row, n_non_tab, n_bl_non, n_bl_bl, n_bl_int, n_bl_str, n_bl_row, n_bl_tab, n_int_non, n_int_bl, n_int_int, n_int_str, n_int_row, n_int_tab, n_str_non, n_str_bl, n_str_int, n_str_str, n_str_row, n_str_tab, n_row_non, n_row_bl, n_row_int, n_row_str, n_row_row, n_row_tab, n_tab_non, n_tab_bl, n_tab_int, n_tab_str, n_tab_row, n_tab_tab, l_non, l_bl, l_int, l_str, l_row, l_tab, EV, Nat.reduceAdd, Nat.reduceSub, reduceIte]; cases n <;> rfl
      | tab y => simp only [b__law_same, lkind_non, lkind_bl, lkind_int, lkind_str, lkind_row, lkind_tab, r_non, t_non, r_bl, t_bl, r_int, t_int, r_str, t_str, r_row, t_row, r_tab, t_tab, n_non_non, n_non_bl, n_non_int, n_non_str, n_non_row, n_non_tab, n_bl_non, n_bl_bl, n_bl_int, n_bl_str, n_bl_row, n_bl_tab, n_int_non, n_int_bl, n_int_int, n_int_str, n_int_row, n_int_tab, n_str_non, n_str_bl, n_str_int, n_str_str, n_str_row, n_str_tab, n_row_non, n_row_bl, n_row_int, n_row_str, n_row_row, n_row_tab, n_tab_non, n_tab_bl, n_tab_int, n_tab_str, n_tab_row, n_tab_tab, l_non, l_bl, l_int, l_str, l_row, l_tab, EV, Nat.reduceAdd, Nat.reduceSub, reduceIte]; cases n <;> rfl
      | tup z => exact (elim hb (.inl ⟨_, rfl⟩)).elim
      | kro z => exact (elim hb (.inr (.inl ⟨_, rfl⟩))).elim
      | exc z1 z2 => exact (elim hb (.inr (.inr (.inl ⟨_, _, rfl⟩)))).elim
      | obj z => exact (elim hb (.inr (.inr (.inr ⟨_, rfl⟩)))).elim
    | int x =>
      cases b with
      | non => simp only [b__law_same, lkind_non, lkind_bl, lkind_int, lkind_str, lkind_row, lkind_tab, r_non, t_non, r_bl, t_bl, r_int, t_int, r_str, t_str, r_row, t_row, r_tab, t_tab, n_non_non, n_non_bl, n_non_int, n_non_str, n_non_row, n_non_tab, n_bl_non, n_bl_bl, n_bl_int, n_bl_str, n_bl_row, n_bl_tab, n_int_non, n_int_bl, n_int_int, n_int_str, n_int_row, n_int_tab, n_str_non, n_str_bl, n_str_int, n_str_str, n_str_row, n_str_tab, n_row_non, n_row_bl, n_row_int, n_row_str, n_row_row, n_row_tab, n_tab_non, n_tab_bl, n_tab_int, n_tab_str, n_tab_row, n_tab_tab, l_non, l_bl, l_int, l_str, l_row, l_tab, EV, Nat.reduceAdd, Nat.reduceSub, reduceIte]; cases n <;> rfl
      | bl y => simp only [b__law_same, lkind_non, lkind_bl, lkind_int, lkind_str, lkind_row, lkind_tab, r_non, t_non, r_bl, t_bl, r_int, t_int, r_str, t_str, r_row, t_row, r_tab, t_tab, n_non_non, n_non_bl, n_non_int, n_non_str, n_non_row, n_non_tab, n_bl_non, n_bl_bl, n_bl_int, n_bl_str, n_bl_row, n_bl_tab, n_int_non, n_int_bl, n_int_int, n_int_str, n_int_row, n_int_tab, n_str_non, n_str_bl, n_str_int, n_str_str, n_str_row, n_str_tab, n_row_non, n_row_bl, n_row_int, n_row_str, n_row_row, n_row_tab, n_tab_non, n_tab_bl, n_tab_int, n_tab_str, n_tab_row, n_tab_tab, l_non, l_bl, l_int, l_str, l_row, l_tab, EV, Nat.reduceAdd, Nat.reduceSub, reduceIte]; cases n <;> rfl
      | int y => simp only [b__law_same, lkind_non, lkind_bl, lkind_int, lkind_str, lkind_row, lkind_tab, r_non, t_non, r_bl, t_bl, r_int, t_int, r_str, t_str, r_row, t_row, r_tab, t_tab, n_non_non, n_non_bl, n_non_int, n_non_str, n_non_row, n_non_tab, n_bl_non, n_bl_bl, n_bl_int, n_bl_str, n_bl_row, n_bl_tab, n_int_non, n_int_bl, n_int_int, n_int_str, n_int_row, n_int_tab, n_str_non, n_str_bl, n_str_int, n_str_str, n_str_row, n_str_tab, n_row_non, n_row_bl, n_row_int, n_row_str, n_row_row, n_row_tab, n_tab_non, n_tab_bl, n_tab_int, n_tab_str, n_tab_row, n_tab_tab, l_non, l_bl, l_int, l_str, l_row, l_tab, EV, Nat.reduceAdd, Nat.reduceSub, reduceIte, eqD_int]; cases n <;> rfl
      | str y => simp only [b__law_same, lkind_non, lkind_bl, lkind_int, lkind_str, lkind_row, lkind_tab, r_non, t_non, r_bl, t_bl, r_int, t_int, r_str, t_str, r_row, t_row, r_tab, t_tab, n_non_non, n_non_bl, n_non_int, n_non_str, n_non_row, n_non_tab, n_bl_non, n_bl_bl, n_bl_int, n_bl_str, n_bl_row, n_bl_tab, n_int_non, n_int_bl, n_int_int, n_int_str, n_int_row, n_int_tab, n_str_non, n_str_bl, n_str_int, n_str_str, n_str_row, n_str_tab, n_row_non, n_row_bl, n_row_int, n_row_str, n_row_row, n_row_tab, n_tab_non, n_tab_bl, n_tab_int, n_tab_str, n_tab_row, n_tab_tab, l_non, l_bl, l_int, l_str, l_row, l_tab, EV, Nat.reduceAdd, Nat.reduceSub, reduceIte]; cases n <;> rfl
      | row y => simp only [b__law_same, lkind_non, lkind_bl, lkind_int, lkind_str, lkind_row, lkind_tab, r_non, t_non, r_bl, t_bl, r_int, t_int, r_str, t_str, r_row, t_row, r_tab, t_tab, n_non_non, n_non_bl, n_non_int, n_non_str, n_non_row, n_non_tab, n_bl_non, n_bl_bl, n_bl_int, n_bl_str, n_bl_row, n_bl_tab, n_int_non, n_int_bl, n_int_int, n_int_str, n_int_row, n_int_tab, n_str_non, n_str_bl, n_str_int, n_str_str, n_str_row, n_str_tab, n_row_non, n_row_bl, n_row_int, n_row_str, n_row_row, n_row_tab, n_tab_non, n_tab_bl, n_tab_int, n_tab_str, n_tab_row, n_tab_tab, l_non, l_bl, l_int, l_str, l_row, l_tab, EV, Nat.reduceAdd, Nat.reduceSub, reduceIte]; cases n <;> rfl
      | tab y => simp only [b__law_same, lkind_non, lkind_bl, lkind_int, lkind_str, lkind_row, lkind_tab, r_non, t_non, r_bl, t_bl, r_int, t_int, r_str, t_str, r_row, t_row, r_tab, t_tab, n_non_non, n_non_bl, n_non_int, n_non_str, n_non_row, n_non_tab, n_bl_non, n_bl_bl, n_bl_int, n_bl_str, n_bl_row, n_bl_tab, n_int_non, n_int_bl, n_int_int, n_int_str, n_int_row, n_int_tab, n_str_non, n_str_bl, n_str_int, n_str_str, n_str_row, n_str_tab, n_row_non, n_row_bl, n_row_int, n_row_str, n_row_row, n_row_tab, n_tab_non, n_tab_bl, n_tab_int, n_tab_str, n_tab_row, n_tab_tab, l_non, l_bl, l_int, l_str, l_row, l_tab, EV, Nat.reduceAdd, Nat.reduceSub, reduceIte]; cases n <;> rfl
      | tup z => exact (elim hb (.inl ⟨_, rfl⟩)).elim
      | kro z => exact (elim hb (.inr (.inl ⟨_, rfl⟩))).elim
      | exc z1 z2 => exact (elim hb (.inr (.inr (.inl ⟨_, _, rfl⟩)))).elim
      | obj z => exact (elim hb (.inr (.inr (.inr ⟨_, rfl⟩)))).elim
    | str x =>
      cases b with
      | non => simp only [b__law_same, lkind_non, lkind_bl, lkind_int, lkind_str, lkind_row, lkind_tab, r_non, t_non, r_bl, t_bl, r_int, t_int, r_str, t_str, r_row, t_row, r_tab, t_tab, n_non_non, n_non_bl, n_non_int, n_non_str, n_non_row, n_non_tab, n_bl_non, n_bl_bl, n_bl_int, n_bl_str, n_bl_row, n_bl_tab, n_int_non, n_int_bl, n_int_int, n_int_str, n_int_row, n_int_tab, n_str_non, n_str_bl, n_str_int, n_str_str, n_str_row, n_str_tab, n_row_non, n_row_bl, n_row_int, n_row_str, n_row_row, n_row_tab, n_tab_non, n_tab_bl, n_tab_int, n_tab_str, n_tab_row, n_tab_tab, l_non, l_bl, l_int, l_str, l_row, l_tab, EV, Nat.reduceAdd, Nat.reduceSub, reduceIte]; cases n <;> rfl
      | bl y => simp only [b__law_same, lkind_non, lkind_bl, lkind_int, lkind_str, lkind_row, lkind_tab, r_non, t_non, r_bl, t_bl, r_int, t_int, r_str, t_str, r_row, t_row, r_tab, t_tab, n_non_non, n_non_bl, n_non_int, n_non_str, n_non_row, n_non_tab, n_bl_non, n_bl_bl, n_bl_int, n_bl_str, n_bl_row, n_bl_tab, n_int_non, n_int_bl, n_int_int, n_int_str, n_int_row, n_int_tab, n_str_non, n_str_bl, n_str_int, n_str_str, n_str_row, n_str_tab, n_row_non, n_row_bl, n_row_int, n_row_str, n_row_row, n_row_tab, n_tab_non, n_tab_bl, n_tab_int, n_tab_str, n_tab_row, n_tab_tab, l_non, l_bl, l_int, l_str, l_row, l_tab, EV, Nat.reduceAdd, Nat.reduceSub, reduceIte]; cases n <;> rfl
      | int y => simp only [b__law_same, lkind_non, lkind_bl, lkind_int, lkind_str, lkind_row, lkind_tab, r_non, t_non, r_bl, t_bl, r_int, t_int, r_str, t_str, r_row, t_row, r_tab, t_tab, n_non_non, n_non_bl, n_non_int, n_non_str, n_non_row, n_non_tab, n_bl_non, n_bl_bl, n_bl_int, n_bl_str, n_bl_row, n_bl_tab, n_int_non, n_int_bl, n_int_int, n_int_str, n_int_row, n_int_tab, n_str_non, n_str_bl, n_str_int, n_str_str, n_str_row, n_str_tab, n_row_non, n_row_bl, n_row_int, n_row_str, n_row_row, n_row_tab, n_tab_non, n_tab_bl, n_tab_int, n_tab_str, n_tab_row, n_tab_tab, l_non, l_bl, l_int, l_str, l_row, l_tab, EV, Nat.reduceAdd, Nat.reduceSub, reduceIte]; cases n <;> rfl
      | str y => simp only [b__law_same, lkind_non, lkind_bl, lkind_int, lkind_str, lkind_row, lkind_tab, r_non, t_non, r_bl, t_bl, r_int, t_int, r_str, t_str, r_row, t_row, r_tab, t_tab, n_non_non, n_non_bl, n_non_int, n_non_str, n_non_row, n_non_tab, n_bl_non, n_bl_bl, n_bl_int, n_bl_str, n_bl_row, n_bl_tab, n_int_non, n_int_bl, n_int_int, n_int_str, n_int_row, n_int_tab, n_str_non, n_str_bl, n_str_int, n_str_str, n_str_row, n_str_tab, n_row_non, n_row_bl, n_row_int, n_row_str, n_row_row, n_row_tab, n_tab_non, n_tab_bl, n_tab_int, n_tab_str, n_tab_row, n_tab_tab, l_non, l_bl, l_int, l_str, l_row, l_tab, EV, Nat.reduceAdd, Nat.reduceSub, reduceIte, eqD_str]; cases n <;> rfl
      | row y => simp only [b__law_same, lkind_non, lkind_bl, lkind_int, lkind_str, lkind_row, lkind_tab, r_non, t_non, r_bl, t_bl, r_int, t_int, r_str, t_str, r_row, t_row, r_tab, t_tab, n_non_non, n_non_bl, n_non_int, n_non_str, n_non_row, n_non_tab, n_bl_non, n_bl_bl, n_bl_int, n_bl_str, n_bl_row, n_bl_tab, n_int_non, n_int_bl, n_int_int, n_int_str, n_int_row, n_int_tab, n_str_non, n_str_bl, n_str_int, n_str_str, n_str_row, n_str_tab, n_row_non, n_row_bl, n_row_int, n_row_str, n_row_row, n_row_tab, n_tab_non, n_tab_bl, n_tab_int, n_tab_str, n_tab_row, n_tab_tab, l_non, l_bl, l_int, l_str, l_row, l_tab, EV, Nat.reduceAdd, Nat.reduceSub, reduceIte]; cases n <;> rfl
      | tab y => simp only [b__law_same, lkind_non, lkind_bl, lkind_int, lkind_str, lkind_row, lkind_tab, r_non, t_non, r_bl, t_bl, r_int, t_int, r_str, t_str, r_row, t_row, r_tab, t_tab, n_non_non, n_non_bl, n_non_int, n_non_str, n_non_row, n_non_tab, n_bl_non, n_bl_bl, n_bl_int, n_bl_str, n_bl_row, n_bl_tab, n_int_non, n_int_bl, n_int_int, n_int_str, n_int_row, n_int_tab, n_str_non, n_str_bl, n_str_int, n_str_str, n_str_row, n_str_tab, n_row_non, n_row_bl, n_row_int, n_row_str, n_row_row, n_row_tab, n_tab_non, n_tab_bl, n_tab_int, n_tab_str, n_tab_row, n_tab_tab, l_non, l_bl, l_int, l_str, l_row, l_tab, EV, Nat.reduceAdd, Nat.reduceSub, reduceIte]; cases n <;> rfl
      | tup z => exact (elim hb (.inl ⟨_, rfl⟩)).elim
      | kro z => exact (elim hb (.inr (.inl ⟨_, rfl⟩))).elim
      | exc z1 z2 => exact (elim hb (.inr (.inr (.inl ⟨_, _, rfl⟩)))).elim
      | obj z => exact (elim hb (.inr (.inr (.inr ⟨_, rfl⟩)))).elim
    | row x =>
      cases b with
      | non => simp only [b__law_same, lkind_non, lkind_bl, lkind_int, lkind_str, lkind_row, lkind_tab, r_non, t_non, r_bl, t_bl, r_int, t_int, r_str, t_str, r_row, t_row, r_tab, t_tab, n_non_non, n_non_bl, n_non_int, n_non_str, n_non_row, n_non_tab, n_bl_non, n_bl_bl, n_bl_int, n_bl_str, n_bl_row, n_bl_tab, n_int_non, n_int_bl, n_int_int, n_int_str, n_int_row, n_int_tab, n_str_non, n_str_bl, n_str_int, n_str_str, n_str_row, n_str_tab, n_row_non, n_row_bl, n_row_int, n_row_str, n_row_row, n_row_tab, n_tab_non, n_tab_bl, n_tab_int, n_tab_str, n_tab_row, n_tab_tab, l_non, l_bl, l_int, l_str, l_row, l_tab, EV, Nat.reduceAdd, Nat.reduceSub, reduceIte]; cases n <;> rfl
      | bl y => simp only [b__law_same, lkind_non, lkind_bl, lkind_int, lkind_str, lkind_row, lkind_tab, r_non, t_non, r_bl, t_bl, r_int, t_int, r_str, t_str, r_row, t_row, r_tab, t_tab, n_non_non, n_non_bl, n_non_int, n_non_str, n_non_row, n_non_tab, n_bl_non, n_bl_bl, n_bl_int, n_bl_str, n_bl_row, n_bl_tab, n_int_non, n_int_bl, n_int_int, n_int_str, n_int_row, n_int_tab, n_str_non, n_str_bl, n_str_int, n_str_str, n_str_row, n_str_tab, n_row_non, n_row_bl, n_row_int, n_row_str, n_row_row, n_row_tab, n_tab_non, n_tab_bl, n_tab_int, n_tab_str, n_tab_row, n_tab_tab, l_non, l_bl, l_int, l_str, l_row, l_tab, EV, Nat.reduceAdd, Nat.reduceSub, reduceIte]; cases n <;> rfl
      | int y => simp only [b__law_same, lkind_non, lkind_bl, lkind_int, lkind_str, lkind_row, lkind_tab, r_non, t_non, r_bl, t_bl, r_int, t_int, r_str, t_str, r_row, t_row, r_tab, t_tab, n_non_non, n_non_bl, n_non_int, n_non_str, n_non_row, n_non_tab, n_bl_non, n_bl_bl, n_bl_int, n_bl_str, n_bl_row, n_bl_tab, n_int_non, n_int_bl, n_int_int, n_int_str, n_int_row, n_int_tab, n_str_non, n_str_bl, n_str_int, n_str_str, n_str_row, n_str_tab, n_row_non, n_row_bl, n_row_int, n_row_str, n_row_row, n_row_tab, n_tab_non, n_tab_bl, n_tab_int, n_tab_str, n_tab_row, n_tab_tab, l_non, l_bl, l_int, l_str, l_row, l_tab, EV, Nat.reduceAdd, Nat.reduceSub, reduceIte]; cases n <;> rfl
      | str y => simp only [b__law_same, lkind_non, lkind_bl, lkind_int, lkind_str, lkind_row, lkind_tab, r_non, t_non, r_bl, t_bl, r_int, t_int, r_str, t_str, r_row, t_row, r_tab, t_tab, n_non_non, n_non_bl, n_non_int, n_non_str, n_non_row, n_non_tab, n_bl_non, n_bl_bl, n_bl_int, n_bl_str, n_bl_row, n_bl_tab, n_int_non, n_int_bl, n_int_int, n_int_str, n_int_row, n_int_tab, n_str_non, n_str_bl, n_str_int, n_str_str, n_str_row, n_str_tab, n_row_non, n_row_bl, n_row_int, n_row_str, n_row_row, n_row_tab, n_tab_non, n_tab_bl, n_tab_int, n_tab_str, n_tab_row, n_tab_tab, l_non, l_bl, l_int, l_str, l_row, l_tab, EV, Nat.reduceAdd, Nat.reduceSub, reduceIte]; cases n <;> rfl
      | row y =>
        cases n with
        | zero => exact ha.elim
        | succ n =>
          have hx : lenD [.row x] = some (.int (x.length : Nat)) := rfl
          have hy : lenD [.row y] = some (.int (y.length : Nat)) := rfl
          have hr := rng_len x.length (small_size ha.1)
          by_cases hl : x.length = y.length
          · have hc : lcA (tgN 4) dYes (dCall 2 (fun ds => up ((den (k + (n + 1) + 1))._law_same ds)) (dCons (dOp ixD (dVar 0) (dVar 4)) (dCons (dOp ixD (dVar 1) (dVar 4)) dNil))) [some (.row x), some (.row y), some (.int 4), none, none] [] ((List.range x.length).map fun (j : Nat) => D.int (j : Int)) () = .ok (.row (((List.range x.length).map fun i => sameD n (x.getD i .non) (y.getD i .non)).map D.bl)) () := by
              refine lcA_range (fun i => sameD n (x.getD i .non) (y.getD i .non)) x.length fun j hj => ?_
              have e1 : ixD (.row x) (.int (j : Nat)) = some (x.getD j .non) := atI_nat x j hj
              have e2 : ixD (.row y) (.int (j : Nat)) = some (y.getD j .non) := atI_nat y j (by omega)
              have m1 : x.getD j .non ∈ x := by rw [List.getD_eq_getElem?_getD, List.getElem?_eq_getElem hj]; exact List.getElem_mem hj
              have m2 : y.getD j .non ∈ y := by rw [List.getD_eq_getElem?_getD, List.getElem?_eq_getElem (by omega : j < y.length)]; exact List.getElem_mem _
              have e3 := ih n rfl _ _ (ha.2 _ m1) (hb.2 _ m2)
              simp only [EV, Nat.reduceAdd, Nat.reduceSub, reduceIte, e1, e2, e3]
            have hs : sameD (n + 1) (.row x) (.row y) = ((List.range x.length).map fun i => sameD n (x.getD i .non) (y.getD i .non)).all id := by
              show (decide (x.length = y.length) && _) = _
              rw [decide_eq_true hl, Bool.true_and, List.all_map]; rfl
            simp only [b__law_same, lkind_non, lkind_bl, lkind_int, lkind_str, lkind_row, lkind_tab, r_non, t_non, r_bl, t_bl, r_int, t_int, r_str, t_str, r_row, t_row, r_tab, t_tab, n_non_non, n_non_bl, n_non_int, n_non_str, n_non_row, n_non_tab, n_bl_non, n_bl_bl, n_bl_int, n_bl_str, n_bl_row, n_bl_tab, n_int_non, n_int_bl, n_int_int, n_int_str, n_int_row, n_int_tab, n_str_non, n_str_bl, n_str_int, n_str_str, n_str_row, n_str_tab, n_row_non, n_row_bl, n_row_int, n_row_str, n_row_row, n_row_tab, n_tab_non, n_tab_bl, n_tab_int, n_tab_str, n_tab_row, n_tab_tab, l_non, l_bl, l_int, l_str, l_row, l_tab, EV, Nat.reduceAdd, Nat.reduceSub, reduceIte, hx, hy, hr, eqD_len, decide_eq_true hl, hs, hc, all_bls]
          · have hs : sameD (n + 1) (.row x) (.row y) = false := by
              show (decide (x.length = y.length) && _) = _
              rw [decide_eq_false hl, Bool.false_and]
            simp only [b__law_same, lkind_non, lkind_bl, lkind_int, lkind_str, lkind_row, lkind_tab, r_non, t_non, r_bl, t_bl, r_int, t_int, r_str, t_str, r_row, t_row, r_tab, t_tab, n_non_non, n_non_bl, n_non_int, n_non_str, n_non_row, n_non_tab, n_bl_non, n_bl_bl, n_bl_int, n_bl_str, n_bl_row, n_bl_tab, n_int_non, n_int_bl, n_int_int, n_int_str, n_int_row, n_int_tab, n_str_non, n_str_bl, n_str_int, n_str_str, n_str_row, n_str_tab, n_row_non, n_row_bl, n_row_int, n_row_str, n_row_row, n_row_tab, n_tab_non, n_tab_bl, n_tab_int, n_tab_str, n_tab_row, n_tab_tab, l_non, l_bl, l_int, l_str, l_row, l_tab, EV, Nat.reduceAdd, Nat.reduceSub, reduceIte, hx, hy, eqD_len, decide_eq_false hl, hs]
      | tab y => simp only [b__law_same, lkind_non, lkind_bl, lkind_int, lkind_str, lkind_row, lkind_tab, r_non, t_non, r_bl, t_bl, r_int, t_int, r_str, t_str, r_row, t_row, r_tab, t_tab, n_non_non, n_non_bl, n_non_int, n_non_str, n_non_row, n_non_tab, n_bl_non, n_bl_bl, n_bl_int, n_bl_str, n_bl_row, n_bl_tab, n_int_non, n_int_bl, n_int_int, n_int_str, n_int_row, n_int_tab, n_str_non, n_str_bl, n_str_int, n_str_str, n_str_row, n_str_tab, n_row_non, n_row_bl, n_row_int, n_row_str, n_row_row, n_row_tab, n_tab_non, n_tab_bl, n_tab_int, n_tab_str, n_tab_row, n_tab_tab, l_non, l_bl, l_int, l_str, l_row, l_tab, EV, Nat.reduceAdd, Nat.reduceSub, reduceIte]; cases n <;> rfl
      | tup z => exact (elim hb (.inl ⟨_, rfl⟩)).elim
      | kro z => exact (elim hb (.inr (.inl ⟨_, rfl⟩))).elim
      | exc z1 z2 => exact (elim hb (.inr (.inr (.inl ⟨_, _, rfl⟩)))).elim
      | obj z => exact (elim hb (.inr (.inr (.inr ⟨_, rfl⟩)))).elim
    | tab x =>
      cases b with
      | non => simp only [b__law_same, lkind_non, lkind_bl, lkind_int, lkind_str, lkind_row, lkind_tab, r_non, t_non, r_bl, t_bl, r_int, t_int, r_str, t_str, r_row, t_row, r_tab, t_tab, n_non_non, n_non_bl, n_non_int, n_non_str, n_non_row, n_non_tab, n_bl_non, n_bl_bl, n_bl_int, n_bl_str, n_bl_row, n_bl_tab, n_int_non, n_int_bl, n_int_int, n_int_str, n_int_row, n_int_tab, n_str_non, n_str_bl, n_str_int, n_str_str, n_str_row, n_str_tab, n_row_non, n_row_bl, n_row_int, n_row_str, n_row_row, n_row_tab, n_tab_non, n_tab_bl, n_tab_int, n_tab_str, n_tab_row, n_tab_tab, l_non, l_bl, l_int, l_str, l_row, l_tab, EV, Nat.reduceAdd, Nat.reduceSub, reduceIte]; cases n <;> rfl
      | bl y => simp only [b__law_same, lkind_non, lkind_bl, lkind_int, lkind_str, lkind_row, lkind_tab, r_non, t_non, r_bl, t_bl, r_int, t_int, r_str, t_str, r_row, t_row, r_tab, t_tab, n_non_non, n_non_bl, n_non_int, n_non_str, n_non_row, n_non_tab, n_bl_non, n_bl_bl, n_bl_int, n_bl_str, n_bl_row, n_bl_tab, n_int_non, n_int_bl, n_int_int, n_int_str, n_int_row, n_int_tab, n_str_non, n_str_bl, n_str_int, n_str_str, n_str_row, n_str_tab, n_row_non, n_row_bl, n_row_int, n_row_str, n_row_row, n_row_tab, n_tab_non, n_tab_bl, n_tab_int, n_tab_str, n_tab_row, n_tab_tab, l_non, l_bl, l_int, l_str, l_row, l_tab, EV, Nat.reduceAdd, Nat.reduceSub, reduceIte]; cases n <;> rfl
      | int y => simp only [b__law_same, lkind_non, lkind_bl, lkind_int, lkind_str, lkind_row, lkind_tab, r_non, t_non, r_bl, t_bl, r_int, t_int, r_str, t_str, r_row, t_row, r_tab, t_tab, n_non_non, n_non_bl, n_non_int, n_non_str, n_non_row, n_non_tab, n_bl_non, n_bl_bl, n_bl_int, n_bl_str, n_bl_row, n_bl_tab, n_int_non, n_int_bl, n_int_int, n_int_str, n_int_row, n_int_tab, n_str_non, n_str_bl, n_str_int, n_str_str, n_str_row, n_str_tab, n_row_non, n_row_bl, n_row_int, n_row_str, n_row_row, n_row_tab, n_tab_non, n_tab_bl, n_tab_int, n_tab_str, n_tab_row, n_tab_tab, l_non, l_bl, l_int, l_str, l_row, l_tab, EV, Nat.reduceAdd, Nat.reduceSub, reduceIte]; cases n <;> rfl
      | str y => simp only [b__law_same, lkind_non, lkind_bl, lkind_int, lkind_str, lkind_row, lkind_tab, r_non, t_non, r_bl, t_bl, r_int, t_int, r_str, t_str, r_row, t_row, r_tab, t_tab, n_non_non, n_non_bl, n_non_int, n_non_str, n_non_row, n_non_tab, n_bl_non, n_bl_bl, n_bl_int, n_bl_str, n_bl_row, n_bl_tab, n_int_non, n_int_bl, n_int_int, n_int_str, n_int_row, n_int_tab, n_str_non, n_str_bl, n_str_int, n_str_str, n_str_row, n_str_tab, n_row_non, n_row_bl, n_row_int, n_row_str, n_row_row, n_row_tab, n_tab_non, n_tab_bl, n_tab_int, n_tab_str, n_tab_row, n_tab_tab, l_non, l_bl, l_int, l_str, l_row, l_tab, EV, Nat.reduceAdd, Nat.reduceSub, reduceIte]; cases n <;> rfl
      | row y => simp only [b__law_same, lkind_non, lkind_bl, lkind_int, lkind_str, lkind_row, lkind_tab, r_non, t_non, r_bl, t_bl, r_int, t_int, r_str, t_str, r_row, t_row, r_tab, t_tab, n_non_non, n_non_bl, n_non_int, n_non_str, n_non_row, n_non_tab, n_bl_non, n_bl_bl, n_bl_int, n_bl_str, n_bl_row, n_bl_tab, n_int_non, n_int_bl, n_int_int, n_int_str, n_int_row, n_int_tab, n_str_non, n_str_bl, n_str_int, n_str_str, n_str_row, n_str_tab, n_row_non, n_row_bl, n_row_int, n_row_str, n_row_row, n_row_tab, n_tab_non, n_tab_bl, n_tab_int, n_tab_str, n_tab_row, n_tab_tab, l_non, l_bl, l_int, l_str, l_row, l_tab, EV, Nat.reduceAdd, Nat.reduceSub, reduceIte]; cases n <;> rfl
      | tab y =>
        cases n with
        | zero => exact ha.elim
        | succ n =>
          have tx := th_txk ha
          have ty := th_txk hb
          have hx : sortKD (.tab x) = some (.row ((sortS (kS x)).map D.str)) := by
            show (txtKeys x).map _ = _
            rw [txtKeys_of tx]; rfl
          have hy : sortKD (.tab y) = some (.row ((sortS (kS y)).map D.str)) := by
            show (txtKeys y).map _ = _
            rw [txtKeys_of ty]; rfl
          have hkd : keysD (.tab x) = some (x.map fun kv => kD kv.1) := rfl
          by_cases hl : sortS (kS x) = sortS (kS y)
          · have hc : lcA (tgN 3) dYes (dCall 2 (fun ds => up ((den (k + (n + 1) + 1))._law_same ds)) (dCons (dOp ixD (dVar 0) (dVar 3)) (dCons (dOp ixD (dVar 1) (dVar 3)) dNil))) [some (.tab x), some (.tab y), some (.int 5), none, none] [] (x.map fun kv => kD kv.1) () = .ok (.row (((kS x).map fun z => sameD n (gv x z) (gv y z)).map D.bl)) () := by
              refine lcA_keys (fun z => sameD n (gv x z) (gv y z)) tx fun z hz => ?_
              have hz2 : z ∈ kS y := (sortS_perm _).mem_iff.mp (hl ▸ (sortS_perm _).mem_iff.mpr hz)
              have e1 : ixD (.tab x) (.str z) = some (gv x z) := (gv_val tx hz).1
              have e2 : ixD (.tab y) (.str z) = some (gv y z) := (gv_val ty hz2).1
              have e3 := ih n rfl _ _ (ha.2.2 _ (gv_val tx hz).2).2 (hb.2.2 _ (gv_val ty hz2).2).2
              simp only [EV, Nat.reduceAdd, Nat.reduceSub, reduceIte, e1, e2, e3]
            have hs : sameD (n + 1) (.tab x) (.tab y) = ((kS x).map fun z => sameD n (gv x z) (gv y z)).all id := by
              show (decide (sortS (kS x) = sortS (kS y)) && _) = _
              rw [decide_eq_true hl, Bool.true_and, List.all_map]; rfl
            simp only [b__law_same, lkind_non, lkind_bl, lkind_int, lkind_str, lkind_row, lkind_tab, r_non, t_non, r_bl, t_bl, r_int, t_int, r_str, t_str, r_row, t_row, r_tab, t_tab, n_non_non, n_non_bl, n_non_int, n_non_str, n_non_row, n_non_tab, n_bl_non, n_bl_bl, n_bl_int, n_bl_str, n_bl_row, n_bl_tab, n_int_non, n_int_bl, n_int_int, n_int_str, n_int_row, n_int_tab, n_str_non, n_str_bl, n_str_int, n_str_str, n_str_row, n_str_tab, n_row_non, n_row_bl, n_row_int, n_row_str, n_row_row, n_row_tab, n_tab_non, n_tab_bl, n_tab_int, n_tab_str, n_tab_row, n_tab_tab, l_non, l_bl, l_int, l_str, l_row, l_tab, EV, Nat.reduceAdd, Nat.reduceSub, reduceIte, hx, hy, hkd, neD_rows, hl, decide_true, Bool.not_true, hs, hc, all_bls]
          · have hs : sameD (n + 1) (.tab x) (.tab y) = false := by
              show (decide (sortS (kS x) = sortS (kS y)) && _) = _
              rw [decide_eq_false hl, Bool.false_and]
            simp only [b__law_same, lkind_non, lkind_bl, lkind_int, lkind_str, lkind_row, lkind_tab, r_non, t_non, r_bl, t_bl, r_int, t_int, r_str, t_str, r_row, t_row, r_tab, t_tab, n_non_non, n_non_bl, n_non_int, n_non_str, n_non_row, n_non_tab, n_bl_non, n_bl_bl, n_bl_int, n_bl_str, n_bl_row, n_bl_tab, n_int_non, n_int_bl, n_int_int, n_int_str, n_int_row, n_int_tab, n_str_non, n_str_bl, n_str_int, n_str_str, n_str_row, n_str_tab, n_row_non, n_row_bl, n_row_int, n_row_str, n_row_row, n_row_tab, n_tab_non, n_tab_bl, n_tab_int, n_tab_str, n_tab_row, n_tab_tab, l_non, l_bl, l_int, l_str, l_row, l_tab, EV, Nat.reduceAdd, Nat.reduceSub, reduceIte, hx, hy, neD_rows, decide_eq_false hl, Bool.not_false, hs]
      | tup z => exact (elim hb (.inl ⟨_, rfl⟩)).elim
      | kro z => exact (elim hb (.inr (.inl ⟨_, rfl⟩))).elim
      | exc z1 z2 => exact (elim hb (.inr (.inr (.inl ⟨_, _, rfl⟩)))).elim
      | obj z => exact (elim hb (.inr (.inr (.inr ⟨_, rfl⟩)))).elim
    | tup z => exact (elim ha (.inl ⟨_, rfl⟩)).elim
    | kro z => exact (elim ha (.inr (.inl ⟨_, rfl⟩))).elim
    | exc z1 z2 => exact (elim ha (.inr (.inr (.inl ⟨_, _, rfl⟩)))).elim
    | obj z => exact (elim ha (.inr (.inr (.inr ⟨_, rfl⟩)))).elim
  intro n
  induction n with
  | zero => exact fun a b k ha hb => gen 0 a b k ha hb fun m e => by cases e
  | succ n ih => exact fun a b k ha hb => gen (n + 1) a b k ha hb fun m e a b ha hb => by cases e; exact ih a b k ha hb
end Nw
set_option Elab.async false
set_option linter.all false
set_option maxRecDepth 100000
set_option maxHeartbeats 4000000
namespace Nw
open PySem PySem.Spec L2
/-! ### sameness, of itself, from both sides -/
theorem gv_of {kvs : List (Key × D)} (h : TxK kvs) (nd : (kvs.map (·.1)).Nodup) {p : Key × D} (hp : p ∈ kvs) : gv kvs (keyS p.1) = p.2 := by
  have hx : keyS p.1 ∈ kS kvs := List.mem_map.mpr ⟨p, hp, rfl⟩
  have h1 := (gv_val h hx).2
  obtain ⟨x, e⟩ := h p hp
  have e2 : (Sum.inr (keyS p.1) : Key) = p.1 := by rw [e]; rfl
  rw [e2] at h1
  have key : ∀ (l : List (Key × D)), (l.map (·.1)).Nodup → ∀ a b c, (a, b) ∈ l → (a, c) ∈ l → b = c := by
    intro l
    induction l with
    | nil => intro _ a b c h; cases h
    | cons q l ih =>
      intro hn a b c h1 h2
      obtain ⟨hn1, hn2⟩ := List.nodup_cons.mp (show (q.1 :: l.map (·.1)).Nodup from hn)
      rcases List.mem_cons.mp h1 with e1 | h1 <;> rcases List.mem_cons.mp h2 with e2 | h2
      · rw [← e1] at e2; cases e2; rfl
      · exact absurd (List.mem_map.mpr ⟨_, h2, by rw [← e1]⟩) hn1
      · exact absurd (List.mem_map.mpr ⟨_, h1, by rw [← e2]⟩) hn1
      · exact ih hn2 a b c h1 h2
  exact key kvs nd p.1 _ _ h1 hp
theorem sameD_refl : ∀ (n : Nat) (d : D), ThD n d → sameD n d d = true
  | 0, d, h => by
    cases d <;> first | exact h.elim | rfl | exact decide_eq_true rfl
  | n + 1, d, h => by
    cases d with
    | row xs =>
      show (decide (xs.length = xs.length) && _) = true
      rw [decide_eq_true rfl, Bool.true_and, List.all_eq_true]
      intro i hi
      have hi := List.mem_range.mp hi
      refine sameD_refl n _ (h.2 _ ?_)
      rw [List.getD_eq_getElem?_getD, List.getElem?_eq_getElem hi]; exact List.getElem_mem hi
    | tab kvs =>
      show (decide (sortS (kS kvs) = sortS (kS kvs)) && _) = true
      rw [decide_eq_true rfl, Bool.true_and, List.all_eq_true]
      intro x hx
      exact sameD_refl n _ (h.2.2 _ (gv_val (th_txk h) hx).2).2
    | non => rfl
    | bl b => exact decide_eq_true rfl
    | int b => exact decide_eq_true rfl
    | str b => exact decide_eq_true rfl
    | _ => exact h.elim
theorem all_congr {α : Type} {f g : α → Bool} : ∀ {l : List α}, (∀ a ∈ l, f a = g a) → l.all f = l.all g
  | [], _ => rfl
  | a :: l, h => by rw [List.all_cons, List.all_cons, h a List.mem_cons_self, all_congr fun b hb => h b (List.mem_cons_of_mem _ hb)]
theorem all_perm {α : Type} {f : α → Bool} {l l' : List α} (h : l.Perm l') : l.all f = l'.all f := by
  rw [Bool.eq_iff_iff, List.all_eq_true, List.all_eq_true]
  exact ⟨fun k x hx => k x (h.mem_iff.mpr hx), fun k x hx => k x (h.mem_iff.mp hx)⟩
theorem sameD_symm : ∀ (n : Nat) (a b : D), sameD n a b = sameD n b a
  | 0, a, b => by
    cases a <;> cases b <;> first | rfl | exact decide_eq_decide.mpr ⟨Eq.symm, Eq.symm⟩
  | n + 1, a, b => by
    cases a <;> cases b <;> try first | rfl | exact decide_eq_decide.mpr ⟨Eq.symm, Eq.symm⟩
    · rename_i xs ys
      show (decide (xs.length = ys.length) && _) = (decide (ys.length = xs.length) && _)
      by_cases hl : xs.length = ys.length
      · rw [hl, decide_eq_true rfl, Bool.true_and, Bool.true_and]
        exact all_congr fun i _ => sameD_symm n _ _
      · rw [decide_eq_false hl, decide_eq_false (fun z => hl z.symm), Bool.false_and, Bool.false_and]
    · rename_i xs ys
      show (decide (sortS (kS xs) = sortS (kS ys)) && _) = (decide (sortS (kS ys) = sortS (kS xs)) && _)
      by_cases hl : sortS (kS xs) = sortS (kS ys)
      · rw [hl, decide_eq_true rfl, Bool.true_and, Bool.true_and]
        have hp : (kS xs).Perm (kS ys) := (sortS_perm _).symm.trans (hl ▸ sortS_perm _)
        rw [all_perm hp]
        exact all_congr fun i _ => sameD_symm n _ _
      · rw [decide_eq_false hl, decide_eq_false (fun z => hl z.symm), Bool.false_and, Bool.false_and]
/-! ### copies -/
theorem forL_cons {S : Type} (tg : D → Sl → Option Sl) (body : Sl → Mo S) (x : D) (xs : List D) (r : Sl) : forL tg body (x :: xs) r = optK (tg x r) fun r' s => loopK (forL tg body xs) (body r' s) := rfl
theorem putD_new {kvs : List (Key × D)} {k : Key} {d : D} (h : k ∉ kvs.map (·.1)) : putD kvs k d = kvs ++ [(k, d)] := by
  unfold putD
  have e : (kvs.any fun kv => decide (kv.1 = k)) = false := by
    rw [List.any_eq_false]
    intro p hp
    rw [decide_eq_true_eq]
    exact fun z => h (List.mem_map.mpr ⟨p, hp, z⟩)
  rw [e, if_neg Bool.false_ne_true]
theorem copy_loop {k : Nat} {kvs : List (Key × D)} (tx : TxK kvs) (nd : (kvs.map (·.1)).Nodup) (hz : kvs.length ≤ 60) (hc : ∀ p ∈ kvs, (den k)._law_copy [p.2] () = .ok p.2 ()) : ∀ (suf pre : List (Key × D)) (kk : Option D), kvs = pre ++ suf →
    ∃ kk', forL (tgN 2) (sOwn2 1 setTD (dVar 2) (dCall 1 (fun ds => up ((den k)._law_copy ds)) (dCons (dOp ixD (dVar 0) (dVar 2)) dNil))) (suf.map fun kv => kD kv.1) [some (.tab kvs), some (.tab pre), kk, none] () = some (.next [some (.tab kvs), some (.tab kvs), kk', none], ())
  | [], pre, kk, e => ⟨kk, by rw [e, List.append_nil]; rfl⟩
  | p :: suf, pre, kk, e => by
    have hp : p ∈ kvs := by rw [e]; exact List.mem_append_right _ List.mem_cons_self
    obtain ⟨x, ex⟩ := tx p hp
    have e1 : kD p.1 = .str x := by rw [ex]; rfl
    have e2 : ixD (.tab kvs) (.str x) = some p.2 := by
      have hx : x ∈ kS kvs := List.mem_map.mpr ⟨p, hp, by rw [ex]; rfl⟩
      have h1 := (gv_val tx hx).1
      have h2 := gv_of tx nd hp
      rw [ex] at h2
      have h2 : gv kvs x = p.2 := h2
      rw [h2] at h1
      exact h1
    have hn : (Sum.inr x : Key) ∉ pre.map (·.1) := fun z => by
      rw [e, List.map_append, List.map_cons] at nd
      obtain ⟨_, _, h3⟩ := List.nodup_append.mp nd
      exact h3 _ z _ List.mem_cons_self (by rw [ex])
    have hl : pre.length < sizeLine := by
      have := congrArg List.length e
      rw [List.length_append, List.length_cons] at this
      rw [sizeLine_eq]; omega
    have e3 : setTD (.tab pre) (.str x) p.2 = some (.tab (pre ++ [p])) := by
      show (if pre.length < sizeLine then some (D.tab (putD pre (.inr x) p.2)) else none) = _
      rw [if_pos hl, putD_new hn, ← ex]
    obtain ⟨kk', h⟩ := copy_loop tx nd hz hc suf (pre ++ [p]) (some (.str x)) (by rw [e, List.append_assoc]; rfl)
    refine ⟨kk', ?_⟩
    rw [← h, List.map_cons, e1, forL_cons]
    simp only [EV, Nat.reduceAdd, Nat.reduceSub, reduceIte, e2, hc p hp, e3, loopK]
theorem copy_eq : ∀ (n : Nat) (d : D) (k : Nat), ThD n d → (den (k + n + 1))._law_copy [d] () = .ok d () := by
  have leafs : ∀ (d : D) (k : Nat), okL d → (den (k + 1))._law_copy [d] () = .ok d () := fun d k h => by
    cases d with
    | non => kernel_rfl
    | bl b => kernel_rfl
    | int i => kernel_rfl
    | str x => kernel_rfl
    | _ => exact h.elim
  intro n
  induction n with
  | zero => exact fun d k h => leafs d k h
  | succ n ih =>
    intro d k h
    cases d with
    | row xs =>
      show fnD 4 (b__law_copy (den (k + n + 1))) [.row xs] () = _
      have h1 : isiD "list" (.row xs) = some (.bl true) := by kernel_rfl
      have e2 : lcA (tgN 3) dYes (dCall 1 (fun ds => up ((den (k + n + 1))._law_copy ds)) (dCons (dVar 3) dNil)) [some (.row xs), none, none, none] [] xs () = .ok (.row xs) () := by
        rw [lcA_map (fun x => x) xs [] fun x hx => ?_, List.nil_append, List.map_id']
        have := ih x k (h.2 x hx)
        simp only [EV, Nat.reduceAdd, Nat.reduceSub, reduceIte, this]
      simp only [b__law_copy, h1, e2, EV, Nat.reduceAdd, Nat.reduceSub, reduceIte]
    | tab kvs =>
      show fnD 4 (b__law_copy (den (k + n + 1))) [.tab kvs] () = _
      have h1 : isiD "list" (.tab kvs) = some (.bl false) := by kernel_rfl
      have h2 : isiD "dict" (.tab kvs) = some (.bl true) := by kernel_rfl
      have h3 : keysD (.tab kvs) = some (kvs.map fun kv => kD kv.1) := rfl
      obtain ⟨kk, e2⟩ := copy_loop (k := k + n + 1) (th_txk h) h.2.1 h.1 (fun p hp => ih p.2 k (h.2.2 p hp).2) kvs [] none rfl
      simp only [b__law_copy, h1, h2, h3, e2, EV, Nat.reduceAdd, Nat.reduceSub, reduceIte, Bool.not_true]
    | _ => exact leafs _ (k + (n + 1)) h
theorem look_eq {n : Nat} {d : D} (k : Nat) (h : ThD n d) (hn : n ≤ 12) : (den (k + n + 5)).look_thing [d] () = .ok .non () := by
  show fnD 1 (b_look_thing (den (k + n + 4))) [d] () = _
  have h1 := is_thing_eq n d 0 k h (by omega)
  have h2 : (den (k + n + 4)).is_thing [d, .int 0] () = .ok (.bl true) () := h1
  simp only [b_look_thing, h2, EV, Nat.reduceAdd, Nat.reduceSub, reduceIte, Bool.not_true]
end Nw
set_option Elab.async false
set_option linter.all false
set_option maxRecDepth 100000
set_option maxHeartbeats 4000000
namespace Nw
open PySem PySem.Spec L2
/-! ### draws -/
theorem ixN_mod {n : Nat} {i : Int} (h : 0 < n) : ixN n (i % (n : Int)) = some (i % (n : Int)).toNat := by
  have h1 := Int.emod_nonneg i (show (n : Int) ≠ 0 by omega)
  have h2 := Int.emod_lt_of_pos i (show (0 : Int) < n by omega)
  unfold ixN
  rw [if_pos h1, if_pos h2]
theorem cell_eq (ns : List Int) (k : Nat) (j : Int) : ∃ v : Int, (den (k + 1))._law_cell [scriptD ns, .int j] () = .ok (.int v) () := by
  cases ns with
  | nil => exact ⟨0, by kernel_rfl⟩
  | cons a ns =>
    have e1 : lenD [.kro ((a :: ns).map D.int)] = some (.int ((ns.length + 1 : Nat) : Int)) := by
      show some (D.int _) = _
      rw [List.length_map]; rfl
    have e2 : modD (.int j) (.int ((ns.length + 1 : Nat) : Int)) = some (.int (j % ((ns.length + 1 : Nat) : Int))) := by
      show (if 0 < ((ns.length + 1 : Nat) : Int) then _ else _) = _
      rw [if_pos (by omega)]
    have e3 : ∃ v : Int, ixD (.kro ((a :: ns).map D.int)) (.int (j % ((ns.length + 1 : Nat) : Int))) = some (.int v) := by
      have hl : ((a :: ns).map D.int).length = ns.length + 1 := by rw [List.length_map]; rfl
      have hi := ixN_mod (n := ns.length + 1) (i := j) (by omega)
      have h1 := Int.emod_nonneg j (show ((ns.length + 1 : Nat) : Int) ≠ 0 by omega)
      have h2 := Int.emod_lt_of_pos j (show (0 : Int) < ((ns.length + 1 : Nat) : Int) by omega)
      have hb : (j % ((ns.length + 1 : Nat) : Int)).toNat < (a :: ns).length := by rw [List.length_cons]; omega
      refine ⟨(a :: ns)[(j % ((ns.length + 1 : Nat) : Int)).toNat], ?_⟩
      show (ixN _ _).bind _ = _
      rw [hl, hi]
      show ((a :: ns).map D.int)[_]? = _
      rw [List.getElem?_map, List.getElem?_eq_getElem hb]; rfl
    obtain ⟨v, e3⟩ := e3
    refine ⟨v, ?_⟩
    have e4 : truD (.kro ((a :: ns).map D.int)) = some true := rfl
    show fnD 2 (b__law_cell (den k)) [.kro ((a :: ns).map D.int), .int j] () = _
    generalize D.kro ((a :: ns).map D.int) = q at e1 e3 e4 ⊢
    simp only [b__law_cell, e1, e2, e3, e4, EVw, Nat.reduceAdd, Nat.reduceSub, reduceIte]
theorem mul_l {i j : Int} (h : -(2 ^ 64) < i ∧ i < 2 ^ 64) : mulD (.int i) (.int j) = some (.int (i * j)) := by
  show (if _ then _ else _) = _
  rw [if_pos (.inl h)]
theorem mul_r {i j : Int} (h : -(2 ^ 64) < j ∧ j < 2 ^ 64) : mulD (.int i) (.int j) = some (.int (i * j)) := by
  show (if _ then _ else _) = _
  rw [if_pos (.inr h)]
theorem fdiv_pos {i j : Int} (h : 0 < j ∧ j < 1073741824) : fdivD (.int i) (.int j) = some (.int (i / j)) := by
  show (if _ then _ else _) = _
  rw [if_pos h]
theorem pow5 {i : Int} (h : i.natAbs < 2 ^ 64) : powD (.int i) (.int 5) = some (.int (i ^ 5)) := by
  show (if _ then _ else _) = _
  rw [if_pos ⟨by decide, by decide, h⟩]
  rfl
theorem mod_pos {i j : Int} (h : 0 < j) : modD (.int i) (.int j) = some (.int (i % j)) := by
  show (if _ then _ else _) = _
  rw [if_pos h]
theorem mix_eq (ns : List Int) (k : Nat) (j : Nat) : ∃ v : Int, 0 ≤ v ∧ v < 4294967231 ∧ (den (k + 2))._law_mix [scriptD ns, .int (j : Nat)] () = .ok (.int v) () := by
  obtain ⟨c, hc⟩ := cell_eq ns k (j : Nat)
  let n1 : Int := (c + 104729 * ((j : Int) + 1)) % 4294967291
  have hn1 : 0 ≤ n1 ∧ n1 < 4294967291 := ⟨Int.emod_nonneg _ (by decide), Int.emod_lt_of_pos _ (by decide)⟩
  let n2 : Int := n1 ^ 5 % 4294967279
  have hn2 : 0 ≤ n2 ∧ n2 < 4294967279 := ⟨Int.emod_nonneg _ (by decide), Int.emod_lt_of_pos _ (by decide)⟩
  refine ⟨(n2 / 64 * 69621 + n2) % 4294967231, Int.emod_nonneg _ (by decide), Int.emod_lt_of_pos _ (by decide), ?_⟩
  show fnD 3 (b__law_mix (den (k + 1))) [scriptD ns, .int (j : Nat)] () = _
  have h1 : addD (.int (j : Nat)) (.int 1) = some (.int ((j : Int) + 1)) := rfl
  have h2 : mulD (.int 104729) (.int ((j : Int) + 1)) = some (.int (104729 * ((j : Int) + 1))) := mul_l (by decide)
  have h3 : addD (.int c) (.int (104729 * ((j : Int) + 1))) = some (.int (c + 104729 * ((j : Int) + 1))) := rfl
  have h4 : modD (.int (c + 104729 * ((j : Int) + 1))) (.int 4294967291) = some (.int n1) := mod_pos (by decide)
  have h5 : powD (.int n1) (.int 5) = some (.int (n1 ^ 5)) := pow5 (by omega)
  have h6 : modD (.int (n1 ^ 5)) (.int 4294967279) = some (.int n2) := mod_pos (by decide)
  have h7 : fdivD (.int n2) (.int 64) = some (.int (n2 / 64)) := fdiv_pos (by decide)
  have h8 : mulD (.int (n2 / 64)) (.int 69621) = some (.int (n2 / 64 * 69621)) := mul_r (by decide)
  have h9 : addD (.int (n2 / 64 * 69621)) (.int n2) = some (.int (n2 / 64 * 69621 + n2)) := rfl
  have h10 : modD (.int (n2 / 64 * 69621 + n2)) (.int 4294967231) = some (.int ((n2 / 64 * 69621 + n2) % 4294967231)) := mod_pos (by decide)
  simp only [b__law_mix, hc, h1, h2, h3, h4, h5, h6, h7, h8, h9, h10, EV, Nat.reduceAdd, Nat.reduceSub, reduceIte]
theorem draw_eq (ns : List Int) (k s : Nat) (m : Int) (hm : 0 < m) (hs : s < sizeLine) : ∃ v : Int, 0 ≤ v ∧ v < m ∧ (den (k + 3))._law_draw [scriptD ns, .obj 0, .int m] s = .ok (.int v) (s + 1) := by
  obtain ⟨v, h0, h1, hv⟩ := mix_eq ns k (s + 1)
  refine ⟨v / 8 % m, Int.emod_nonneg _ (by omega), Int.emod_lt_of_pos _ hm, ?_⟩
  show fnD 3 (b__law_draw (den (k + 2))) [scriptD ns, .obj 0, .int m] s = _
  have h2 : fdivD (.int v) (.int 8) = some (.int (v / 8)) := fdiv_pos (by decide)
  have h3 : modD (.int (v / 8)) (.int m) = some (.int (v / 8 % m)) := mod_pos hm
  have h4 : isTown [some (scriptD ns), some (.obj 0), some (.int m)] 1 = true := rfl
  have h5 : sTown 1 [some (scriptD ns), some (.obj 0), some (.int m)] s = some (.next [some (scriptD ns), some (.obj 0), some (.int m)], s + 1) := by
    unfold sTown
    rw [if_pos ⟨h4, hs⟩]
  have h6 : dTown 1 [some (scriptD ns), some (.obj 0), some (.int m)] (s + 1) = .ok (.int ((s + 1 : Nat) : Int)) (s + 1) := by
    unfold dTown
    rw [if_pos h4]
  simp only [b__law_draw, h5, h6, hv, h2, h3, EV, Nat.reduceAdd, Nat.reduceSub, reduceIte]
theorem atI_in (xs : List D) (v : Int) (h0 : 0 ≤ v) (h1 : v < xs.length) : ∃ x ∈ xs, atI xs v = some x := by
  have e : v = ((v.toNat : Nat) : Int) := by omega
  have hl : v.toNat < xs.length := by omega
  refine ⟨xs.getD v.toNat .non, ?_, ?_⟩
  · rw [List.getD_eq_getElem?_getD, List.getElem?_eq_getElem hl]; exact List.getElem_mem hl
  · rw [e]; exact atI_nat xs _ hl
theorem pick_eq (ns : List Int) (k s : Nat) (xs : List D) (hx : xs ≠ []) (hs : s < sizeLine) : ∃ x ∈ xs, (den (k + 4))._law_pick [scriptD ns, .obj 0, .row xs] s = .ok x (s + 1) := by
  have hl : 0 < (xs.length : Int) := by
    cases xs with
    | nil => exact absurd rfl hx
    | cons a b => rw [List.length_cons]; omega
  obtain ⟨v, h0, h1, hv⟩ := draw_eq ns k s (xs.length : Int) hl hs
  obtain ⟨x, hm, hi⟩ := atI_in xs v h0 h1
  refine ⟨x, hm, ?_⟩
  show fnD 3 (b__law_pick (den (k + 3))) [scriptD ns, .obj 0, .row xs] s = _
  have h2 : lenD [.row xs] = some (.int (xs.length : Int)) := rfl
  have h3 : ixD (.row xs) (.int v) = some x := hi
  simp only [b__law_pick, h2, hv, h3, EV, Nat.reduceAdd, Nat.reduceSub, reduceIte]
end Nw
set_option Elab.async false
set_option linter.all false
set_option maxRecDepth 100000
set_option maxHeartbeats 4000000
namespace Nw
open PySem PySem.Spec L2
theorem lt_e (i j : Int) : ltD (.int i) (.int j) = some (.bl (decide (i < j))) := rfl
theorem gt_e (i j : Int) : gtD (.int i) (.int j) = some (.bl (decide (j < i))) := rfl
/-! ### words that are drawn -/
abbrev SG : Str := " !\"#$&'()*+,-./0123456789:;<=>?@AZ[\\]^_abcdefghijklmnopqrstuvwxyz{|}~"
theorem SG_ok : SG.cps.toList.all okC = true := by decide +kernel
theorem SG_pos : 0 < (SG.length : Int) := by decide +kernel
theorem SG_ix (v : Int) (h0 : 0 ≤ v) (h1 : v < (SG.length : Int)) : ∃ c, okC c = true ∧ ixD (.str SG) (.int v) = some (.str ⟨#[c]⟩) := by
  have hl : v.toNat < SG.cps.toList.length := by
    rw [Array.length_toList]
    have e : SG.length = SG.cps.size := rfl
    rw [e] at h1; omega
  refine ⟨SG.cps.toList[v.toNat], List.all_eq_true.mp SG_ok _ (List.getElem_mem hl), ?_⟩
  show (atI SG.cps.toList v).map _ = _
  have e2 : atI SG.cps.toList v = some SG.cps.toList[v.toNat] := by
    unfold atI ixN
    rw [if_pos h0, if_pos (by omega)]
    show SG.cps.toList[v.toNat]? = _
    rw [List.getElem?_eq_getElem hl]
  rw [e2]; rfl
theorem isW_of {w : Str} (h1 : w.length ≤ 60) (h2 : w.cps.toList.all okC = true) : isW w = true := by
  unfold isW
  rw [decide_eq_true h1, h2]; rfl
theorem word_loop (ns : List Int) (k : Nat) : ∀ (xs : List D) (w : Str) (kk : Option D) (s : Nat), w.cps.toList.all okC = true → w.length + xs.length ≤ 60 → s + xs.length ≤ sizeLine →
    ∃ w' kk', forL (tgN 4) (sAsg (tgN 3) (dOp addD (dVar 3) (dOp ixD (dVar 2) (dCall 3 (den (k + 3))._law_draw (dCons (dVar 0) (dCons (dVar 1) (dCons (dAll lenD (dCons (dVar 2) dNil)) dNil))))))) xs [some (scriptD ns), some (.obj 0), some (.str SG), some (.str w), kk] s = some (.next [some (scriptD ns), some (.obj 0), some (.str SG), some (.str w'), kk'], s + xs.length) ∧ w'.cps.toList.all okC = true ∧ w'.length = w.length + xs.length
  | [], w, kk, s, h1, h2, h3 => ⟨w, kk, rfl, h1, rfl⟩
  | x :: xs, w, kk, s, h1, h2, h3 => by
    rw [List.length_cons] at h2 h3
    obtain ⟨v, v0, v1, hv⟩ := draw_eq ns k s (SG.length : Int) SG_pos (by omega)
    obtain ⟨c, hc, hi⟩ := SG_ix v v0 v1
    have hl : lenD [.str SG] = some (.int (SG.length : Int)) := rfl
    have h1' : (⟨#[c]⟩ : Str).length = 1 := rfl
    have ha : addD (.str w) (.str ⟨#[c]⟩) = some (.str (w ++ ⟨#[c]⟩)) := by
      show (if _ then _ else _) = _
      rw [if_pos (by rw [h1', sizeLine_eq]; omega)]
    have hall : (w ++ ⟨#[c]⟩ : Str).cps.toList.all okC = true := by
      rw [str_app_cps, List.all_append, h1]
      show (true && (okC c && true)) = true
      rw [hc]; rfl
    have hlen : (w ++ ⟨#[c]⟩ : Str).length = w.length + 1 := by rw [str_app_len, h1']
    obtain ⟨w', kk', h4, h5, h6⟩ := word_loop ns k xs (w ++ ⟨#[c]⟩) (some x) (s + 1) hall (by omega) (by omega)
    refine ⟨w', kk', ?_, h5, by rw [h6, hlen, List.length_cons]; omega⟩
    rw [forL_cons, List.length_cons, show s + (xs.length + 1) = s + 1 + xs.length from by omega, ← h4]
    simp only [EV, Nat.reduceAdd, Nat.reduceSub, reduceIte, hl, hv, hi, ha, loopK]
theorem rng_int {v : Int} (h0 : 0 ≤ v) (h1 : v ≤ 100) : rngD [.int v] = some ((List.range v.toNat).map fun (j : Nat) => D.int (j : Int)) := by
  show (if 0 ≤ v ∧ v ≤ sizeLine then _ else _) = _
  rw [if_pos ⟨h0, by rw [sizeLine_eq]; omega⟩]
theorem word_eq (ns : List Int) (k s : Nat) (hs : s + 12 ≤ sizeLine) : ∃ (w : Str) (s' : Nat), (den (k + 5))._law_word [scriptD ns, .obj 0] s = .ok (.str w) s' ∧ isW w = true ∧ s' ≤ s + 11 := by
  obtain ⟨v, v0, v1, hv⟩ := draw_eq ns (k + 1) s 2 (by decide) (by omega)
  show ∃ w s', fnD 5 (b__law_word (den (k + 4))) [scriptD ns, .obj 0] s = _ ∧ _
  by_cases h : v = 0
  · subst h
    have h1 : eqD (.int 0) (.int 0) = some (.bl true) := by kernel_rfl
    obtain ⟨x, hx, hp⟩ := pick_eq ns k (s + 1) [.str "", .str "a", .str "b", .str "0", .str "1", .str "-", .str "~1", .str "a/b", .str "\"", .str "\\", .str "01"] (fun z => nomatch z) (by omega)
    have hw : ∃ w, x = .str w ∧ isW w = true := by
      simp only [List.mem_cons, List.not_mem_nil, or_false] at hx
      rcases hx with rfl | rfl | rfl | rfl | rfl | rfl | rfl | rfl | rfl | rfl | rfl <;> exact ⟨_, rfl, by decide +kernel⟩
    obtain ⟨w, rfl, hw⟩ := hw
    refine ⟨w, s + 1 + 1, ?_, hw, by omega⟩
    simp only [b__law_word, hv, h1, hp, EV, Nat.reduceAdd, Nat.reduceSub, reduceIte, show (11 : Nat) ≤ sizeLine from by decide]
  · have h1 : eqD (.int v) (.int 0) = some (.bl false) := by rw [eqD_int, decide_eq_false h]
    obtain ⟨x, hx, hp⟩ := pick_eq ns k (s + 1) [.int 1, .int 2, .int 5, .int 9] (fun z => nomatch z) (by omega)
    have hm : ∃ m : Int, x = .int m ∧ 0 ≤ m ∧ m ≤ 9 := by
      simp only [List.mem_cons, List.not_mem_nil, or_false] at hx
      rcases hx with rfl | rfl | rfl | rfl <;> exact ⟨_, rfl, by decide, by decide⟩
    obtain ⟨m, rfl, m0, m9⟩ := hm
    have hr := rng_int m0 (show m ≤ 100 by omega)
    have hll : ((List.range m.toNat).map fun (j : Nat) => D.int (j : Int)).length = m.toNat := by rw [List.length_map, List.length_range]
    obtain ⟨w', kk', h4, h5, h6⟩ := word_loop ns (k + 1) ((List.range m.toNat).map fun (j : Nat) => D.int (j : Int)) "" none (s + 1 + 1) (by decide +kernel) (by rw [hll]; show 0 + m.toNat ≤ 60; omega) (by rw [hll]; omega)
    have hlen : w'.length ≤ 60 := by
      rw [h6, hll]; show 0 + m.toNat ≤ 60; omega
    rw [hll] at h4
    refine ⟨w', s + 1 + 1 + m.toNat, ?_, isW_of hlen h5, by omega⟩
    simp only [b__law_word, hv, h1, hp, hr, h4, EV, Nat.reduceAdd, Nat.reduceSub, reduceIte, show (4 : Nat) ≤ sizeLine from by decide]
/-! ### leaves -/
theorem okL_int {i : Int} (h : -999999999999999 ≤ i ∧ i ≤ 999999999999999) : okL (.int i) := by
  show (if i < 0 then -i else i) ≤ 999999999999999
  split <;> omega
theorem leaf_eq (ns : List Int) (k s : Nat) (hs : s + 14 ≤ sizeLine) : ∃ (d : D) (s' : Nat), (den (k + 6))._law_leaf [scriptD ns, .obj 0] s = .ok d s' ∧ okL d ∧ s' ≤ s + 13 := by
  obtain ⟨v, v0, v1, hv⟩ := draw_eq ns (k + 2) s 8 (by decide) (by omega)
  show ∃ w s', fnD 4 (b__law_leaf (den (k + 5))) [scriptD ns, .obj 0] s = _ ∧ _
  by_cases h3 : v < 3
  · have h1 : decide (v < 3) = true := decide_eq_true h3
    obtain ⟨x, hx, hi⟩ := atI_in [.non, .bl true, .bl false] v v0 (by show v < 3; omega)
    have hi2 : ixD (.row [.non, .bl true, .bl false]) (.int v) = some x := hi
    have hok : okL x := by
      simp only [List.mem_cons, List.not_mem_nil, or_false] at hx
      rcases hx with rfl | rfl | rfl <;> exact trivial
    refine ⟨x, s + 1, ?_, hok, by omega⟩
    simp only [b__law_leaf, hv, lt_e, h1, hi2, EV, Nat.reduceAdd, Nat.reduceSub, reduceIte, show (3 : Nat) ≤ sizeLine from by decide]
  · have h1 : decide (v < 3) = false := decide_eq_false h3
    by_cases h6 : v < 6
    · have h2 : decide (v < 6) = true := decide_eq_true h6
      obtain ⟨u, u0, u1, hu⟩ := draw_eq ns (k + 2) (s + 1) 1000000 (by decide) (by omega)
      have hn1 : negD (.int 1) = some (.int (-1)) := rfl
      have hn2 : negD (.int 999999999999999) = some (.int (-999999999999999)) := rfl
      have hsb : subD (.int u) (.int 500000) = some (.int (u - 500000)) := rfl
      obtain ⟨x, hx, hp⟩ := pick_eq ns (k + 1) (s + 1 + 1) [.int 0, .int 1, .int (-1), .int 10, .int (u - 500000), .int 999999999999999, .int (-999999999999999)] (fun z => nomatch z) (by omega)
      have hok : okL x := by
        simp only [List.mem_cons, List.not_mem_nil, or_false] at hx
        rcases hx with rfl | rfl | rfl | rfl | rfl | rfl | rfl <;> exact okL_int (by omega)
      refine ⟨x, s + 1 + 1 + 1, ?_, hok, by omega⟩
      simp only [b__law_leaf, hv, lt_e, h1, h2, hu, hn1, hn2, hsb, hp, EV, Nat.reduceAdd, Nat.reduceSub, reduceIte, show (7 : Nat) ≤ sizeLine from by decide]
    · have h2 : decide (v < 6) = false := decide_eq_false h6
      obtain ⟨w, s', hw, hok, hs'⟩ := word_eq ns k (s + 1) (by omega)
      refine ⟨.str w, s', ?_, hok, by omega⟩
      simp only [b__law_leaf, hv, lt_e, h1, h2, hw, EV, Nat.reduceAdd, Nat.reduceSub, reduceIte]
end Nw
set_option Elab.async false
set_option linter.all false
set_option maxRecDepth 100000
set_option maxHeartbeats 4000000
namespace Nw
open PySem PySem.Spec L2
/-! ### things that are drawn -/
theorem lcA_ex {i : Nat} {f : Sl → M Nat D} {r : Sl} (P : D → Prop) (B L : Nat) : ∀ (xs acc : List D) (s : Nat), (∀ x ∈ xs, ∀ s, s + B ≤ L → ∃ d s', f (r.set i (some x)) s = .ok d s' ∧ P d ∧ s' ≤ s + B) → s + B * xs.length ≤ L →
    ∃ ys s', lcA (tgN i) dYes f r acc xs s = .ok (.row (acc ++ ys)) s' ∧ ys.length = xs.length ∧ (∀ y ∈ ys, P y) ∧ s' ≤ s + B * xs.length
  | [], acc, s, _, _ => ⟨[], s, (by rw [List.append_nil]; rfl), rfl, (fun y hy => absurd hy (by simp)), (by omega)⟩
  | x :: xs, acc, s, h, hl => by
    have hm : B * (xs.length + 1) = B * xs.length + B := by rw [Nat.mul_add, Nat.mul_one]
    rw [List.length_cons, hm] at hl
    obtain ⟨d, s1, h1, h2, h3⟩ := h x List.mem_cons_self s (by omega)
    obtain ⟨ys, s2, h4, h5, h6, h7⟩ := lcA_ex P B L xs (acc ++ [d]) s1 (fun y hy => h y (List.mem_cons_of_mem _ hy)) (by omega)
    refine ⟨d :: ys, s2, ?_, by rw [List.length_cons, List.length_cons, h5], fun y hy => ?_, by rw [List.length_cons, hm]; omega⟩
    · have e : lcA (tgN i) dYes f r acc (x :: xs) s = bnd (nox (f (r.set i (some x)))) (fun y => lcA (tgN i) dYes f r (acc ++ [y]) xs) s := rfl
      have e2 : nox (f (r.set i (some x))) s = .ok d s1 := by unfold nox; rw [h1]
      rw [e, bnd_ok e2, h4, List.append_assoc]; rfl
    · rcases List.mem_cons.mp hy with rfl | hy
      · exact h2
      · exact h6 y hy
/-- tables as they grow -/
def GoT (n : Nat) (kvs : List (Key × D)) : Prop := (kvs.map (·.1)).Nodup ∧ ∀ p ∈ kvs, (∃ x, p.1 = Sum.inr x ∧ isW x = true) ∧ ThB 3 n p.2
theorem putD_keys (kvs : List (Key × D)) (k : Key) (d : D) : (k ∈ kvs.map (·.1) ∧ (putD kvs k d).map (·.1) = kvs.map (·.1)) ∨ (k ∉ kvs.map (·.1) ∧ (putD kvs k d).map (·.1) = kvs.map (·.1) ++ [k]) := by
  by_cases h : k ∈ kvs.map (·.1)
  · refine .inl ⟨h, ?_⟩
    unfold putD
    have e : (kvs.any fun kv => decide (kv.1 = k)) = true := by
      obtain ⟨p, hp, e⟩ := List.mem_map.mp h
      exact List.any_eq_true.mpr ⟨p, hp, decide_eq_true e⟩
    rw [e, if_pos rfl, List.map_map]
    refine List.map_congr_left fun p _ => ?_
    show (if p.1 = k then (p.1, d) else p).1 = p.1
    split <;> rfl
  · refine .inr ⟨h, ?_⟩
    rw [putD_new h, List.map_append]; rfl
theorem putD_mem {kvs : List (Key × D)} {k : Key} {d : D} {p : Key × D} (h : p ∈ putD kvs k d) : p ∈ kvs ∨ p = (k, d) := by
  unfold putD at h
  split at h
  · obtain ⟨q, hq, e⟩ := List.mem_map.mp h
    by_cases hk : q.1 = k
    · rw [if_pos hk] at e; right; rw [← e, hk]
    · rw [if_neg hk] at e; left; rw [← e]; exact hq
  · rcases List.mem_append.mp h with h | h
    · exact .inl h
    · exact .inr (List.mem_singleton.mp h)
theorem GoT.put {n : Nat} {kvs : List (Key × D)} (h : GoT n kvs) {x : Str} {d : D} (hx : isW x = true) (hd : ThB 3 n d) : GoT n (putD kvs (.inr x) d) := by
  refine ⟨?_, fun p hp => ?_⟩
  · rcases putD_keys kvs (.inr x) d with ⟨_, e⟩ | ⟨hn, e⟩
    · rw [e]; exact h.1
    · rw [e, List.nodup_append]
      exact ⟨h.1, List.nodup_cons.mpr ⟨by simp, List.nodup_nil⟩, fun a ha b hb e => by
        rw [List.mem_singleton.mp hb] at e
        rw [e] at ha
        exact hn ha⟩
  · rcases putD_mem hp with hp | rfl
    · exact h.2 p hp
    · exact ⟨⟨x, rfl, hx⟩, hd⟩
end Nw
set_option Elab.async false
set_option linter.all false
set_option maxRecDepth 100000
set_option maxHeartbeats 4000000
namespace Nw
open PySem PySem.Spec L2
theorem val_some {kvs : List (Key × D)} (h : TxK kvs) (x : Str) : (valD kvs (.inr x)).isSome = decide (x ∈ kS kvs) := by
  by_cases hx : x ∈ kS kvs
  · rw [(gv_val h hx).1, decide_eq_true hx]; rfl
  · rw [decide_eq_false hx]
    cases e : valD kvs (.inr x) with
    | none => rfl
    | some d => exact absurd ((kS_mem h).mpr (List.mem_map.mpr ⟨_, valD_mem e, rfl⟩)) hx
theorem in_tab {kvs : List (Key × D)} (h : TxK kvs) (x : Str) : inD false (.str x) (.tab kvs) = some (.bl (decide (x ∈ kS kvs))) := by
  show some (D.bl (valD kvs (.inr x)).isSome) = _
  rw [val_some h]
theorem notin_tab {kvs : List (Key × D)} (h : TxK kvs) (x : Str) : inD true (.str x) (.tab kvs) = some (.bl (!decide (x ∈ kS kvs))) := by
  show some (D.bl (!(valD kvs (.inr x)).isSome)) = _
  rw [val_some h]
theorem le_e (i j : Int) : leD (.int i) (.int j) = some (.bl (decide (i ≤ j))) := rfl
theorem ge_e (i j : Int) : geD (.int i) (.int j) = some (.bl (decide (j ≤ i))) := rfl
theorem eqD_rows (as bs : List Str) : eqD (.row (as.map D.str)) (.row (bs.map D.str)) = some (.bl (decide (as = bs))) := by
  have h := neD_rows as bs
  unfold neD at h
  unfold eqD
  cases e : eqN 60 (.row (as.map D.str)) (.row (bs.map D.str)) with
  | none => rw [e] at h; cases h
  | some b =>
    rw [e] at h
    have h2 : some (D.bl (!b)) = some (D.bl (!decide (as = bs))) := h
    injection h2 with h3
    injection h3 with h4
    show some (D.bl b) = _
    rw [show b = decide (as = bs) from by cases b <;> cases hd : decide (as = bs) <;> rw [hd] at h4 <;> first | rfl | cases h4]
theorem eqAny_strs (x : Str) : ∀ ys : List Str, eqAny 60 (.str x) (ys.map D.str) = some (decide (x ∈ ys))
  | [] => by simp [eqAny]
  | y :: ys => by
    have e : eqN 60 (.str y) (.str x) = some (y == x) := rfl
    rw [List.map_cons]
    unfold eqAny
    rw [e, eqAny_strs x ys, beq_dec]
    show some (decide (y = x) || decide (x ∈ ys)) = _
    congr 1
    by_cases h1 : y = x
    · subst h1; simp
    · have h2 : ¬ x = y := fun z => h1 z.symm
      simp [h1, h2]
theorem any_bls (bs : List Bool) : anyD [.row (bs.map D.bl)] = some (.bl (bs.any id)) := by
  show (blsD (bs.map D.bl)).map _ = _
  rw [blsD_map]; rfl
theorem lcA_bl {S : Type} {i : Nat} {f : Sl → M S D} {r : Sl} {s : S} (g : D → Bool) (xs : List D) (h : ∀ x ∈ xs, f (r.set i (some x)) s = .ok (.bl (g x)) s) : lcA (tgN i) dYes f r [] xs s = .ok (.row ((xs.map g).map D.bl)) s := by
  rw [lcA_map (fun x => .bl (g x)) xs [] h, List.nil_append, List.map_map]; rfl
/-- a comprehension with a test -/
theorem lcA_if {S : Type} {i : Nat} {t : Sl → M S Bool} {f : Sl → M S D} {r : Sl} {s : S} (p : D → Bool) (g : D → D) : ∀ (xs acc : List D), (∀ x ∈ xs, t (r.set i (some x)) s = .ok (p x) s) → (∀ x ∈ xs, p x = true → f (r.set i (some x)) s = .ok (g x) s) → lcA (tgN i) t f r acc xs s = .ok (.row (acc ++ (xs.filter p).map g)) s
  | [], acc, _, _ => by rw [List.filter_nil, List.map_nil, List.append_nil]; rfl
  | x :: xs, acc, h1, h2 => by
    have e : lcA (tgN i) t f r acc (x :: xs) s = bnd (nox (t (r.set i (some x)))) (fun b => if b = true then bnd (nox (f (r.set i (some x)))) (fun y => lcA (tgN i) t f r (acc ++ [y]) xs) else lcA (tgN i) t f r acc xs) s := rfl
    have e1 : nox (t (r.set i (some x))) s = .ok (p x) s := by unfold nox; rw [h1 x List.mem_cons_self]
    rw [e, bnd_ok e1]
    cases hp : p x with
    | true =>
      have e2 : nox (f (r.set i (some x))) s = .ok (g x) s := by unfold nox; rw [h2 x List.mem_cons_self hp]
      rw [if_pos rfl, bnd_ok e2, lcA_if p g xs (acc ++ [g x]) (fun y hy => h1 y (List.mem_cons_of_mem _ hy)) (fun y hy => h2 y (List.mem_cons_of_mem _ hy)), List.filter_cons_of_pos hp, List.map_cons, List.append_assoc, List.singleton_append]
    | false =>
      rw [if_neg Bool.false_ne_true, lcA_if p g xs acc (fun y hy => h1 y (List.mem_cons_of_mem _ hy)) (fun y hy => h2 y (List.mem_cons_of_mem _ hy)), List.filter_cons_of_neg (by rw [hp]; exact Bool.false_ne_true)]
/-- a loop that checks, and leaves with a value at the first that fails -/
theorem forL_chk {S : Type} {tg : D → Sl → Option Sl} {body : Sl → Mo S} {s : S} {v : D} (I : List D → Sl → Prop) (P : D → Bool) (all : List D)
    (hs : ∀ pre x suf r, all = pre ++ x :: suf → I pre r → ∃ r', tg x r = some r' ∧ (P x = true → ∃ r'', body r' s = some (.next r'', s) ∧ I (pre ++ [x]) r'') ∧ (P x = false → body r' s = some (.rt v, s))) : ∀ (xs pre : List D) (r : Sl), all = pre ++ xs → I pre r →
    (xs.all P = true → ∃ r', forL tg body xs r s = some (.next r', s) ∧ I all r') ∧ (xs.all P = false → forL tg body xs r s = some (.rt v, s))
  | [], pre, r, ha, h => ⟨fun _ => ⟨r, rfl, by rw [ha, List.append_nil]; exact h⟩, fun z => nomatch z⟩
  | x :: xs, pre, r, ha, h => by
    obtain ⟨r', e1, h1, h2⟩ := hs pre x xs r ha h
    have e : forL tg body (x :: xs) r s = loopK (forL tg body xs) (body r' s) := by rw [forL_cons, e1]; rfl
    cases hp : P x with
    | true =>
      obtain ⟨r'', e2, h3⟩ := h1 hp
      have ih := forL_chk I P all hs xs (pre ++ [x]) r'' (by rw [ha, List.append_assoc]; rfl) h3
      rw [e, e2, List.all_cons, hp, Bool.true_and]
      exact ih
    | false =>
      rw [e, h2 hp, List.all_cons, hp, Bool.false_and]
      exact ⟨(fun z => nomatch z), fun _ => rfl⟩
/-- values that exist, by a function -/
theorem fn_of {α β : Type} [Inhabited β] (l : List α) (P : α → β → Prop) (h : ∀ x ∈ l, ∃ b, P x b) : ∃ f : α → β, ∀ x ∈ l, P x (f x) := by
  classical
  exact ⟨fun x => if hx : x ∈ l then Classical.choose (h x hx) else default, fun x hx => by
    simp only [dif_pos hx]; exact Classical.choose_spec (h x hx)⟩
theorem forL_inv {S : Type} {tg : D → Sl → Option Sl} {body : Sl → Mo S} {s : S} (I : List D → Sl → Prop) (all : List D)
    (hs : ∀ pre x suf r, all = pre ++ x :: suf → I pre r → ∃ r' r'', tg x r = some r' ∧ (body r' s = some (.next r'', s) ∨ body r' s = some (.cnt r'', s)) ∧ I (pre ++ [x]) r'') : ∀ (xs pre : List D) (r : Sl), all = pre ++ xs → I pre r → ∃ r', forL tg body xs r s = some (.next r', s) ∧ I all r'
  | [], pre, r, ha, h => ⟨r, rfl, by rw [ha, List.append_nil]; exact h⟩
  | x :: xs, pre, r, ha, h => by
    obtain ⟨r', r'', e1, h1, h2⟩ := hs pre x xs r ha h
    obtain ⟨r3, e3, h3⟩ := forL_inv I all hs xs (pre ++ [x]) r'' (by rw [ha, List.append_assoc]; rfl) h2
    refine ⟨r3, ?_, h3⟩
    rw [forL_cons, e1]
    show loopK (forL tg body xs) (body r' s) = _
    rcases h1 with h1 | h1 <;> rw [h1] <;> exact e3
theorem val_put (T : List (Key × D)) (k : Key) (d : D) (j : Key) : valD (putD T k d) j = if j = k then some d else valD T j := by
  by_cases hk : k ∈ T.map (·.1)
  · unfold putD
    have e : (T.any fun kv => decide (kv.1 = k)) = true := by
      obtain ⟨p, hp, e⟩ := List.mem_map.mp hk
      exact List.any_eq_true.mpr ⟨p, hp, decide_eq_true e⟩
    rw [e, if_pos rfl]
    clear e
    induction T with
    | nil => simp at hk
    | cons p T ih =>
      obtain ⟨a, b⟩ := p
      rw [List.map_cons]
      unfold valD
      by_cases ha : a = k
      · subst ha
        rw [if_pos rfl]
        by_cases hj : j = a
        · subst hj
          rw [if_pos rfl, List.find?_cons_of_pos (by simp)]; rfl
        · have hj' : ¬ a = j := fun z => hj z.symm
          rw [if_neg hj, List.find?_cons_of_neg (by simpa using hj'), List.find?_cons_of_neg (by simpa using hj')]
          by_cases hin : a ∈ T.map (·.1)
          · have := ih hin
            unfold valD at this
            rw [if_neg hj] at this
            exact this
          · have hmap : T.map (fun kv => if kv.1 = a then (kv.1, d) else kv) = T := by
              conv => rhs; rw [← List.map_id T]
              refine List.map_congr_left fun p hp => ?_
              rw [if_neg fun z => hin (List.mem_map.mpr ⟨p, hp, z⟩)]; rfl
            rw [hmap]
      · rw [if_neg ha]
        have hin : k ∈ T.map (·.1) := by
          rcases List.mem_cons.mp hk with z | z
          · exact absurd z.symm ha
          · exact z
        by_cases hja : a = j
        · subst hja
          rw [List.find?_cons_of_pos (by simp), List.find?_cons_of_pos (by simp), if_neg ha]
        · rw [List.find?_cons_of_neg (by simpa using hja), List.find?_cons_of_neg (by simpa using hja)]
          have := ih hin
          unfold valD at this
          exact this
  · rw [putD_new hk]
    unfold valD
    rw [List.find?_append]
    by_cases hj : j = k
    · subst hj
      rw [if_pos rfl]
      have hn : T.find? (fun kv => decide (kv.1 = j)) = none := by
        rw [List.find?_eq_none]
        intro p hp
        rw [decide_eq_true_eq]
        exact fun z => hk (List.mem_map.mpr ⟨p, hp, z⟩)
      rw [hn]; simp
    · rw [if_neg hj]
      have hj' : ¬ k = j := fun z => hj z.symm
      have : List.find? (fun kv : Key × D => decide (kv.1 = j)) [(k, d)] = none := by simp [hj']
      rw [this, Option.or_none]
theorem gv_put (T : List (Key × D)) (y : Str) (d : D) (x : Str) : gv (putD T (.inr y) d) x = if x = y then d else gv T x := by
  unfold gv
  rw [val_put]
  by_cases h : x = y
  · rw [if_pos (by rw [h]), if_pos h]; rfl
  · rw [if_neg (fun z => h (Sum.inr.inj z)), if_neg h]
theorem put_tx {T : List (Key × D)} (h : TxK T) (y : Str) (d : D) : TxK (putD T (.inr y) d) := fun p hp => by
  unfold putD at hp
  split at hp
  · obtain ⟨q, hq, e⟩ := List.mem_map.mp hp
    obtain ⟨x, ex⟩ := h q hq
    by_cases hk : q.1 = (Sum.inr y : Key)
    · rw [if_pos hk] at e; exact ⟨x, by rw [← e]; exact ex⟩
    · rw [if_neg hk] at e; exact ⟨x, by rw [← e]; exact ex⟩
  · rcases List.mem_append.mp hp with hp | hp
    · exact h p hp
    · rw [List.mem_singleton.mp hp]; exact ⟨y, rfl⟩
theorem put_kS {T : List (Key × D)} (h : TxK T) (y : Str) (d : D) (x : Str) : x ∈ kS (putD T (.inr y) d) ↔ x ∈ kS T ∨ x = y := by
  have h1 := val_some (put_tx h y d) x
  have h2 := val_some h x
  rw [val_put] at h1
  by_cases hxy : x = y
  · rw [if_pos (by rw [hxy])] at h1
    exact ⟨fun _ => .inr hxy, fun _ => of_decide_eq_true h1.symm⟩
  · rw [if_neg (fun z => hxy (Sum.inr.inj z)), h2] at h1
    have h3 := decide_eq_decide.mp h1
    exact ⟨fun z => .inl (h3.mpr z), fun z => z.elim h3.mp (fun e => absurd e hxy)⟩
theorem put_nd {T : List (Key × D)} (h : (T.map (·.1)).Nodup) (k : Key) (d : D) : ((putD T k d).map (·.1)).Nodup := by
  by_cases hk : k ∈ T.map (·.1)
  · have e : (putD T k d).map (·.1) = T.map (·.1) := by
      unfold putD
      have e : (T.any fun kv => decide (kv.1 = k)) = true := by
        obtain ⟨p, hp, e⟩ := List.mem_map.mp hk
        exact List.any_eq_true.mpr ⟨p, hp, decide_eq_true e⟩
      rw [e, if_pos rfl, List.map_map]
      refine List.map_congr_left fun p _ => ?_
      show (if p.1 = k then (p.1, d) else p).1 = p.1
      split <;> rfl
    rw [e]; exact h
  · rw [putD_new hk, List.map_append, List.nodup_append]
    exact ⟨h, List.nodup_cons.mpr ⟨by simp, List.nodup_nil⟩, fun a ha b hb e => by
      have hb : b = k := List.mem_singleton.mp hb
      rw [hb] at e
      rw [e] at ha
      exact hk ha⟩
theorem kS_nd {T : List (Key × D)} (tx : TxK T) (h : (T.map (·.1)).Nodup) : (kS T).Nodup := by
  have e : T.map (·.1) = (kS T).map Sum.inr := by
    unfold kS
    rw [List.map_map]
    refine List.map_congr_left fun p hp => ?_
    obtain ⟨x, ex⟩ := tx p hp
    show p.1 = Sum.inr (keyS p.1)
    rw [ex]; rfl
  rw [e] at h
  exact List.Pairwise.of_map Sum.inr (fun _ _ hne e => hne (congrArg Sum.inr e)) h
theorem forL_ex {tg : D → Sl → Option Sl} {body : Sl → Mo Nat} (I : List D → Sl → Prop) (B L : Nat) (all : List D)
    (hs : ∀ pre x suf r s, all = pre ++ x :: suf → I pre r → s + B ≤ L → ∃ r' r'' s', tg x r = some r' ∧ body r' s = some (.next r'', s') ∧ I (pre ++ [x]) r'' ∧ s' ≤ s + B) : ∀ (xs pre : List D) (r : Sl) (s : Nat), all = pre ++ xs → I pre r → s + B * xs.length ≤ L →
    ∃ r' s', forL tg body xs r s = some (.next r', s') ∧ I all r' ∧ s' ≤ s + B * xs.length
  | [], pre, r, s, ha, h, _ => ⟨r, s, rfl, by rw [ha, List.append_nil]; exact h, by omega⟩
  | x :: xs, pre, r, s, ha, h, hl => by
    have hm : B * (xs.length + 1) = B * xs.length + B := by rw [Nat.mul_add, Nat.mul_one]
    rw [List.length_cons, hm] at hl ⊢
    obtain ⟨r', r'', s1, e1, e2, h1, h2⟩ := hs pre x xs r s ha h (by omega)
    obtain ⟨r3, s2, e3, h3, h4⟩ := forL_ex I B L all hs xs (pre ++ [x]) r'' s1 (by rw [ha, List.append_assoc]; rfl) h1 (by omega)
    refine ⟨r3, s2, ?_, h3, by omega⟩
    rw [forL_cons, e1]
    show loopK (forL tg body xs) (body r' s) = _
    rw [e2]; exact e3
end Nw
set_option Elab.async false
set_option linter.all false
set_option maxRecDepth 100000
set_option maxHeartbeats 4000000
namespace Nw
open PySem PySem.Spec L2
/-! ### numbers as steps -/
def numS (i : Nat) : Str := toString (i : Int)
def numI (x : Str) : Int := (PySem.intText? x).getD 0
theorem num_read (i : Nat) (h : i < 1000000000) : PySem.intText? (numS i) = some (i : Int) := PySem.W.KIN.num_reads (n := (i : Int)) (by omega) (by omega)
theorem num_len (i : Nat) (h : i < 1000000000) : (numS i).length ≤ 10 := PySem.W.KT.len_num (n := (i : Int)) (by omega) (by omega)
theorem num_cps (i : Nat) : (numS i).cps.toList = (Nat.toDigits 10 i).map Char.toNat := PySem.W.KIN.signs_num i
theorem num_digits (i : Nat) : ∀ c ∈ (numS i).cps.toList, 48 ≤ c ∧ c ≤ 57 := fun c hc => by
  rw [num_cps] at hc
  obtain ⟨ch, hch, e⟩ := List.mem_map.mp hc
  have r := PyProof.Rows.digit_range (Nat.isDigit_of_mem_toDigits (by decide) (by decide) hch)
  rw [← e]; exact r
theorem num_int (i : Nat) (h : i < 1000000000) : toIntD [.str (numS i)] = some (.int (i : Int)) := by
  show (if (numS i).length ≤ 640 then (PySem.intText? (numS i)).map D.int else none) = _
  rw [if_pos (Nat.le_trans (num_len i h) (by decide)), num_read i h]; rfl
theorem num_I (i : Nat) (h : i < 1000000000) : numI (numS i) = (i : Int) := by
  unfold numI; rw [num_read i h]; rfl
theorem num_str (i : Nat) (h : i < 1000000000) : strD [.int (i : Int)] = some (.str (numS i)) := by
  have hl : (i : Int).natAbs.log2 < 1920 := by
    rw [Int.natAbs_natCast]
    by_cases h0 : i = 0
    · subst h0; decide
    · rw [Nat.log2_lt h0]
      exact Nat.lt_of_lt_of_le h (by decide)
  exact if_pos ⟨hl, Nat.le_trans (num_len i h) (by decide)⟩
theorem num_isW (i : Nat) (h : i < 1000000000) : isW (numS i) = true := by
  unfold isW
  rw [decide_eq_true (Nat.le_trans (num_len i h) (by decide)), Bool.true_and, List.all_eq_true]
  intro c hc
  have := num_digits i c hc
  unfold okC
  rw [decide_eq_true (by omega), decide_eq_true (by omega), decide_eq_false (by omega)]; rfl
theorem num_inj {i j : Nat} (hi : i < 1000000000) (hj : j < 1000000000) (e : numS i = numS j) : i = j := by
  have h := num_read i hi
  rw [e, num_read j hj] at h
  injection h with h
  omega
def stepI (x : Str) (n : Nat) : Option Nat := (List.range n).find? fun i => decide (numS i = x)
theorem stepI_some {x : Str} {n i : Nat} (h : stepI x n = some i) : i < n ∧ numS i = x := by
  have h1 := List.find?_some h
  have h2 := List.mem_of_find?_eq_some h
  exact ⟨List.mem_range.mp h2, of_decide_eq_true h1⟩
theorem stepI_num {n i : Nat} (h : i < n) (hn : n ≤ 1000000000) : stepI (numS i) n = some i := by
  cases e : stepI (numS i) n with
  | none =>
    have := List.find?_eq_none.mp e i (List.mem_range.mpr h)
    simp at this
  | some j =>
    obtain ⟨h1, h2⟩ := stepI_some e
    rw [num_inj (by omega) (by omega) h2]
theorem stepI_none {x : Str} {n : Nat} : stepI x n = none ↔ ∀ i, i < n → numS i ≠ x := by
  unfold stepI
  rw [List.find?_eq_none]
  constructor
  · intro h i hi
    have := h i (List.mem_range.mpr hi)
    rw [decide_eq_true_eq] at this
    exact this
  · intro h i hi
    rw [decide_eq_true_eq]
    exact h i (List.mem_range.mp hi)
/-- a text of figures without noughts ahead is that of its number -/
theorem canon : ∀ (m : Nat) (l : List Nat), l.length = m → (∀ c ∈ l, 48 ≤ c ∧ c ≤ 57) → l ≠ [] → (l.head? ≠ some 48 ∨ l = [48]) → (Nat.toDigits 10 (PySem.NumText.digitsVal l)).map Char.toNat = l := by
  intro m
  induction m with
  | zero => intro l hl _ hn _; exact absurd (List.length_eq_zero_iff.mp hl) hn
  | succ m ih =>
    intro l hl hd hn hc
    have el : l = l.dropLast ++ [l.getLast hn] := (List.dropLast_concat_getLast hn).symm
    obtain ⟨p, c, e⟩ : ∃ p c, l = p ++ [c] := ⟨_, _, el⟩
    subst e
    have hcd := hd c (List.mem_append_right _ List.mem_cons_self)
    have back : ∀ c : Nat, 48 ≤ c → c ≤ 57 → (Nat.digitChar (c - 48)).toNat = c := by
      intro c h1 h2
      have : c = 48 ∨ c = 49 ∨ c = 50 ∨ c = 51 ∨ c = 52 ∨ c = 53 ∨ c = 54 ∨ c = 55 ∨ c = 56 ∨ c = 57 := by omega
      rcases this with rfl | rfl | rfl | rfl | rfl | rfl | rfl | rfl | rfl | rfl <;> decide
    by_cases hp : p = []
    · subst hp
      show (Nat.toDigits 10 (PySem.NumText.digitsVal [c])).map Char.toNat = [c]
      have e : PySem.NumText.digitsVal [c] = c - 48 := by show 0 * 10 + (c - 48) = c - 48; omega
      rw [e, Nat.toDigits_of_lt_base (by omega)]
      show [(Nat.digitChar (c - 48)).toNat] = [c]
      rw [back c hcd.1 hcd.2]
    · have hl2 : p.length = m := by rw [List.length_append] at hl; simpa using hl
      have hc2 : p.head? ≠ some 48 := by
        rcases hc with hc | hc
        · intro z
          apply hc
          cases p with
          | nil => exact absurd rfl hp
          | cons a b => exact z
        · cases p with
          | nil => exact absurd rfl hp
          | cons a b => simp at hc
      have i1 := ih p hl2 (fun d hd2 => hd d (List.mem_append_left _ hd2)) hp (.inl hc2)
      have pos : 0 < PySem.NumText.digitsVal p := by
        rcases Nat.eq_zero_or_pos (PySem.NumText.digitsVal p) with z | z
        · rw [z] at i1
          have e0 : (Nat.toDigits 10 0).map Char.toNat = [48] := by decide
          rw [e0] at i1
          rw [← i1] at hc2
          exact absurd rfl hc2
        · exact z
      rw [PySem.NumText.digitsVal_snoc]
      have t : Nat.toDigits 10 (PySem.NumText.digitsVal p) ++ Nat.toDigits 10 (c - 48) = Nat.toDigits 10 (10 * PySem.NumText.digitsVal p + (c - 48)) := Nat.toDigits_append_toDigits (by decide) pos (by omega)
      rw [show PySem.NumText.digitsVal p * 10 + (c - 48) = 10 * PySem.NumText.digitsVal p + (c - 48) from by omega, ← t, List.map_append, i1, Nat.toDigits_of_lt_base (by omega)]
      show p ++ [(Nat.digitChar (c - 48)).toNat] = p ++ [c]
      rw [back c hcd.1 hcd.2]
theorem head_dig : ∀ i : Nat, 0 < i → ((Nat.toDigits 10 i).map Char.toNat).head? ≠ some 48 := by
  intro i
  induction i using Nat.strongRecOn with
  | _ i ih =>
    intro h
    by_cases h10 : i < 10
    · rw [Nat.toDigits_of_lt_base h10]
      have : i = 1 ∨ i = 2 ∨ i = 3 ∨ i = 4 ∨ i = 5 ∨ i = 6 ∨ i = 7 ∨ i = 8 ∨ i = 9 := by omega
      rcases this with rfl | rfl | rfl | rfl | rfl | rfl | rfl | rfl | rfl <;> decide
    · have t : Nat.toDigits 10 (i / 10) ++ Nat.toDigits 10 (i % 10) = Nat.toDigits 10 (10 * (i / 10) + i % 10) := Nat.toDigits_append_toDigits (by decide) (by omega) (Nat.mod_lt _ (by decide))
      rw [Nat.div_add_mod] at t
      rw [← t, List.map_append]
      have h2 := ih (i / 10) (by omega) (by omega)
      cases hd : (Nat.toDigits 10 (i / 10)).map Char.toNat with
      | nil => exact absurd (List.map_eq_nil_iff.mp hd) Nat.toDigits_ne_nil
      | cons a l => rw [hd] at h2; exact h2
end Nw
set_option Elab.async false
set_option linter.all false
set_option maxRecDepth 100000
set_option maxHeartbeats 4000000
namespace Nw
open PySem PySem.Spec L2
/-! ### statements, one by one -/
section
variable {S : Type} {c : Sl → M S Bool} {fe : Sl → M S D} {f g K : Sl → Mo S} {tg : D → Sl → Option Sl} {it : Sl → M S (List D)} {r r' : Sl} {s s' s2 : S} {d : D} {i : Nat} {xs : List D} {x : Xn}
theorem sIf_t (h : c r s = .ok true s') : sIf c f g r s = f r s' := by
  unfold sIf liftX; rw [h]; rfl
theorem sIf_f (h : c r s = .ok false s') : sIf c f g r s = g r s' := by
  unfold sIf liftX; rw [h]; rfl
theorem sIf_x (h : c r s = .exc x s') : sIf c f g r s = some (.thr x r, s') := by
  unfold sIf liftX; rw [h]
theorem sSeq_n (h : f r s = some (.next r', s')) : sSeq f g r s = g r' s' := by
  unfold sSeq; rw [h]; rfl
theorem sSeq_rt (h : f r s = some (.rt d, s')) : sSeq f g r s = some (.rt d, s') := by
  unfold sSeq; rw [h]; rfl
theorem sSeq_x (h : f r s = some (.thr x r', s')) : sSeq f g r s = some (.thr x r', s') := by
  unfold sSeq; rw [h]; rfl
theorem asg1 (h : fe r s = .ok d s') : sAsg (tgN i) fe r s = some (.next (r.set i (some d)), s') := by
  unfold sAsg liftX; rw [h]; rfl
theorem asg_n (h : fe r s = .ok d s') : sSeq (sAsg (tgN i) fe) K r s = K (r.set i (some d)) s' := sSeq_n (asg1 h)
theorem asg_x (h : fe r s = .exc x s') : sAsg tg fe r s = some (.thr x r, s') := by
  unfold sAsg liftX; rw [h]
theorem drop_n (h : fe r s = .ok d s') : sSeq (sDrop fe) K r s = K r s' := by
  refine sSeq_n ?_
  unfold sDrop liftX; rw [h]
theorem drop_x (h : fe r s = .exc x s') : sSeq (sDrop fe) K r s = some (.thr x r, s') := by
  refine sSeq_x ?_
  unfold sDrop liftX; rw [h]
theorem asgO_n (h : fe r s = .ok d s') (hr : isRT d = true) : sSeq (sAsgO i fe) K r s = K (r.set i (some d)) s' := by
  refine sSeq_n ?_
  unfold sAsgO liftX
  rw [h]
  show (if isRT d = true then _ else _) = _
  rw [if_pos hr]
theorem for1 (h : it r s = .ok xs s') (hl : forL tg f xs r s' = some (.next r', s2)) : sFor it tg f r s = some (.next r', s2) := by
  unfold sFor liftX
  rw [h]; exact hl
theorem for_any {o : Option (Flw × S)} (h : it r s = .ok xs s') (hl : forL tg f xs r s' = o) : sFor it tg f r s = o := by
  unfold sFor liftX
  rw [h]; exact hl
theorem for_n (h : it r s = .ok xs s') (hl : forL tg f xs r s' = some (.next r', s2)) : sSeq (sFor it tg f) K r s = K r' s2 := sSeq_n (for1 h hl)
theorem for_x (h : it r s = .ok xs s') (hl : forL tg f xs r s' = some (.thr x r', s2)) : sSeq (sFor it tg f) K r s = some (.thr x r', s2) := sSeq_x (for_any h hl)
theorem for_rt (h : it r s = .ok xs s') (hl : forL tg f xs r s' = some (.rt d, s2)) : sSeq (sFor it tg f) K r s = some (.rt d, s2) := sSeq_rt (for_any h hl)
theorem ret1 (h : fe r s = .ok d s') : sRet fe r s = some (.rt d, s') := by
  unfold sRet liftX; rw [h]
theorem ret_x (h : fe r s = .exc x s') : sRet fe r s = some (.thr x r, s') := by
  unfold sRet liftX; rw [h]
theorem nox1 {α : Type} {m : M S α} {a : α} (h : m s = .ok a s') : nox m s = .ok a s' := by
  unfold nox; rw [h]
theorem items1 (h : fe r s = .ok d s') (hi : itemsD d = some xs) : dItems fe r s = .ok xs s' := by
  show bnd (fe r) (fun x => lift (itemsD x)) s = _
  rw [bnd_ok h, hi]; rfl
theorem lc1 {t : Sl → M S Bool} (h : it r s = .ok xs s') : dLc it tg t fe r s = lcA tg t fe r [] xs s' := by
  unfold dLc; rw [bnd_ok h]
theorem call1 {n : Nat} {gf : List D → M S D} {fs : Sl → M S (List D)} (h : fs r s = .ok xs s') (hn : xs.length = n) : dCall n gf fs r s = gf xs s' := by
  unfold dCall
  rw [bnd_ok h, if_pos hn]
theorem var1 (h : r[i]? = some (some d)) : dVar i r s = .ok d s := by
  unfold dVar getS; rw [h]; rfl
end
theorem z0 : (0 : Nat) ≤ sizeLine := Nat.zero_le _
theorem z1 : (1 : Nat) ≤ sizeLine := by decide
theorem z2 : (2 : Nat) ≤ sizeLine := by decide
theorem z3 : (3 : Nat) ≤ sizeLine := by decide
theorem z4 : (4 : Nat) ≤ sizeLine := by decide
theorem fnD_e {S : Type} (n : Nat) (B : Sl → Mo S) (args : List D) (s : S) : fnD n B args s = endK (B (startD n args) s) := rfl
theorem forL_t {S : Type} (i : Nat) (B : Sl → Mo S) (x : D) (xs : List D) (r : Sl) (s : S) : forL (tgN i) B (x :: xs) r s = loopK (forL (tgN i) B xs) (B (r.set i (some x)) s) := rfl
theorem loopK_n {S : Type} (k : Sl → Mo S) (r : Sl) (s : S) : loopK k (some (.next r, s)) = k r s := rfl
theorem app_row {es : List D} (h : es.length < 1000) (x : D) : appD (.row es) x = some (.row (es ++ [x])) := by
  show (if es.length < sizeLine then _ else _) = _
  rw [if_pos (by rw [sizeLine_eq]; omega)]
end Nw
set_option Elab.async false
set_option linter.all false
set_option maxRecDepth 100000
set_option maxHeartbeats 4000000
namespace Nw
open PySem PySem.Spec L2
/-! ### a step, by the program -/
def optN : Option Nat → D
  | none => .non
  | some i => .int (i : Int)
theorem fig_in (c : Nat) : inD false (.str ⟨#[c]⟩) (.str "0123456789") = some (.bl (decide (48 ≤ c ∧ c ≤ 57))) := by
  show some (D.bl (!(Builtin.Str.occurrences "0123456789" ⟨#[c]⟩ 0 ("0123456789" : Str).length 1).isEmpty)) = _
  rw [PySem.StrLaws.found_one]
  congr 2
  have e : ("0123456789" : Str).cps.toList = [48, 49, 50, 51, 52, 53, 54, 55, 56, 57] := by decide +kernel
  rw [e]
  refine decide_eq_decide.mpr ?_
  simp only [List.mem_cons, List.not_mem_nil, or_false]
  omega
theorem atI_zero {α : Type} (c : α) (cs : List α) : atI (c :: cs) 0 = some c := by
  have e : ixN (c :: cs).length 0 = some 0 := by
    unfold ixN
    rw [if_pos (by decide), if_pos (by rw [List.length_cons]; omega)]; rfl
  unfold atI
  rw [e]; rfl
end Nw
set_option Elab.async false
set_option linter.all false
set_option maxRecDepth 100000
set_option maxHeartbeats 4000000
namespace Nw
open PySem PySem.Spec L2
/-! ### where a step leads -/
theorem getD_mem {xs : List D} {i : Nat} (h : i < xs.length) : xs.getD i .non ∈ xs := by
  rw [List.getD_eq_getElem?_getD, List.getElem?_eq_getElem h]; exact List.getElem_mem h
def goO : D → Str → Option D
  | .row xs, x => (stepI x xs.length).map fun i => xs.getD i .non
  | .tab kvs, x => if x ∈ kS kvs then some (gv kvs x) else none
  | _, _ => none
theorem th_len {n : Nat} {xs : List D} (h : ThD n (.row xs)) : xs.length ≤ 60 ∧ ∃ m, n = m + 1 ∧ ∀ x ∈ xs, ThD m x := by
  cases n with
  | zero => exact h.elim
  | succ n => exact ⟨h.1, n, rfl, h.2⟩
theorem th_tab {n : Nat} {kvs : List (Key × D)} (h : ThD n (.tab kvs)) : TxK kvs ∧ kvs.length ≤ 60 ∧ (kvs.map (·.1)).Nodup ∧ ∃ m, n = m + 1 ∧ ∀ p ∈ kvs, (∃ x, p.1 = Sum.inr x ∧ isW x = true) ∧ ThD m p.2 := by
  cases n with
  | zero => exact h.elim
  | succ n => exact ⟨th_txk h, h.1, h.2.1, n, rfl, h.2.2⟩
theorem go_th {n : Nat} {d : D} (h : ThD n d) {x : Str} {y : D} (e : goO d x = some y) : ∃ m, n = m + 1 ∧ ThD m y := by
  cases d with
  | row xs =>
    obtain ⟨h1, m, rfl, h2⟩ := th_len h
    obtain ⟨i, hi, rfl⟩ := map_some (show (stepI x xs.length).map (fun i => xs.getD i .non) = some y from e)
    exact ⟨m, rfl, h2 _ (getD_mem (stepI_some hi).1)⟩
  | tab kvs =>
    obtain ⟨tx, _, _, m, rfl, h2⟩ := th_tab h
    have e : (if x ∈ kS kvs then some (gv kvs x) else none) = some y := e
    by_cases hx : x ∈ kS kvs
    · rw [if_pos hx] at e
      cases e
      exact ⟨m, rfl, (h2 _ (gv_val tx hx).2).2⟩
    · rw [if_neg hx] at e; cases e
  | _ => cases e
def resO : Option D → Res Unit D
  | some y => .ok y ()
  | none => .exc ⟨.NoWay, []⟩ ()
theorem kind_leaf {d : D} (k : Nat) (h : okL d) : ∃ w : Str, (den (k + 1)).kind_of [d] () = .ok (.str w) () ∧ eqD (.str w) (.str "row") = some (.bl false) ∧ eqD (.str w) (.str "table") = some (.bl false) ∧ neD (.str w) (.str "table") = some (.bl true) ∧ neD (.str w) (.str "row") = some (.bl true) := by
  cases d with
  | non => exact ⟨"none", kind_non k, by kernel_rfl, by kernel_rfl, by kernel_rfl, by kernel_rfl⟩
  | bl b => exact ⟨"truth", kind_bl k b, by kernel_rfl, by kernel_rfl, by kernel_rfl, by kernel_rfl⟩
  | int b => exact ⟨"number", kind_int k b, by kernel_rfl, by kernel_rfl, by kernel_rfl, by kernel_rfl⟩
  | str b => exact ⟨"word", kind_str k b, by kernel_rfl, by kernel_rfl, by kernel_rfl, by kernel_rfl⟩
  | _ => exact h.elim
theorem leaf_or {n : Nat} {d : D} (h : ThD n d) : okL d ∨ (∃ xs, d = .row xs) ∨ (∃ kvs, d = .tab kvs) := by
  cases d with
  | row xs => exact .inr (.inl ⟨xs, rfl⟩)
  | tab xs => exact .inr (.inr ⟨xs, rfl⟩)
  | _ => cases n <;> exact .inl h
theorem go_leaf {d : D} (h : okL d) (x : Str) : goO d x = none := by
  cases d <;> first | rfl | exact h.elim
def ledO : D → List Str → Option D
  | d, [] => some d
  | d, x :: w => (goO d x).bind fun y => ledO y w
def tupS (w : List Str) : D := .tup (w.map D.str)
theorem led_th {n : Nat} : ∀ {w : List Str} {d y : D}, ThD n d → ledO d w = some y → ThD n y
  | [], d, y, h, e => by cases e; exact h
  | x :: w, d, y, h, e => by
    obtain ⟨z, e1, e2⟩ := bind_some (show (goO d x).bind (fun y => ledO y w) = some y from e)
    obtain ⟨m, rfl, h2⟩ := go_th h e1
    exact led_th h2.mono e2
end Nw
set_option Elab.async false
set_option linter.all false
set_option maxRecDepth 100000
set_option maxHeartbeats 4000000
namespace Nw
open PySem PySem.Spec L2
/-! ### the law's own: where a way leads -/
theorem isi_leaf {d : D} (h : okL d) : isiD "list" d = some (.bl false) ∧ isiD "dict" d = some (.bl false) := by
  cases d with
  | non => exact ⟨by kernel_rfl, by kernel_rfl⟩
  | bl b => exact ⟨by kernel_rfl, by kernel_rfl⟩
  | int i => exact ⟨by kernel_rfl, by kernel_rfl⟩
  | str x => exact ⟨by kernel_rfl, by kernel_rfl⟩
  | _ => exact h.elim
theorem isi_row (xs : List D) : isiD "list" (.row xs) = some (.bl true) ∧ isiD "dict" (.row xs) = some (.bl false) := ⟨by kernel_rfl, by kernel_rfl⟩
theorem isi_tab (xs : List (Key × D)) : isiD "list" (.tab xs) = some (.bl false) ∧ isiD "dict" (.tab xs) = some (.bl true) := ⟨by kernel_rfl, by kernel_rfl⟩
theorem lcA_rangeD {S : Type} {i : Nat} {f : Sl → M S D} {r : Sl} {s : S} (g : Nat → D) (n : Nat) (h : ∀ j, j < n → f (r.set i (some (.int (j : Nat)))) s = .ok (g j) s) :
    lcA (tgN i) dYes f r [] ((List.range n).map fun (j : Nat) => D.int (j : Int)) s = .ok (.row ((List.range n).map g)) s := by
  rw [lcA_map (fun d => match d with | .int j => g j.toNat | _ => .non) _ [] fun y hy => ?_, List.nil_append, List.map_map]
  · rfl
  · obtain ⟨j, hj, rfl⟩ := List.mem_map.mp hy
    exact h j (List.mem_range.mp hj)
theorem nums_lc {S : Type} {i : Nat} {r : Sl} {s : S} (hr : i < r.length) (n : Nat) (hn : n ≤ 1000000) : lcA (tgN i) dYes (dAll strD (dCons (dVar i) dNil)) r [] ((List.range n).map fun (j : Nat) => D.int (j : Int)) s = .ok (.row (((List.range n).map numS).map D.str)) s := by
  rw [List.map_map]
  refine lcA_rangeD (fun j => .str (numS j)) n fun j hj => ?_
  have hs := num_str j (by omega)
  have hv : (dVar i : Sl → M S D) (r.set i (some (.int (j : Nat)))) s = .ok (.int (j : Nat)) s := var1 (List.getElem?_set_self hr)
  simp only [dAll, dCons, bnd_e, hv, dNil, ret_ap, hs, lift_e]
theorem in_nums (x : Str) (n : Nat) : decide (x ∈ (List.range n).map numS) = (stepI x n).isSome := by
  cases h : stepI x n with
  | none =>
    refine decide_eq_false fun z => ?_
    obtain ⟨i, hi, e⟩ := List.mem_map.mp z
    exact stepI_none.mp h i (List.mem_range.mp hi) e
  | some i =>
    obtain ⟨h1, h2⟩ := stepI_some h
    exact decide_eq_true (List.mem_map.mpr ⟨i, List.mem_range.mpr h1, h2⟩)
abbrev llB : Sl → Mo Unit := (sIf (dTst (dUn (isiD "list") (dVar 0)) truD) (sSeq (sIf (dTst (dOp (inD true) (dVar 2) (dLc (dRange (dCons (dAll lenD (dCons (dVar 0) dNil)) dNil)) (tgN 3) dYes (dAll strD (dCons (dVar 3) dNil)))) isBl) (sRet (dAll rowD dNil)) sNil)
    (sAsg (tgN 0) (dOp ixD (dVar 0) (dAll toIntD (dCons (dVar 2) dNil))))) (sIf (tAndD (dTst (dUn (isiD "dict") (dVar 0)) truD) (dTst (dOp (inD false) (dVar 2) (dVar 0)) isBl)) (sAsg (tgN 0) (dOp ixD (dVar 0) (dVar 2))) (sRet (dAll rowD dNil))))
theorem ll_body {n : Nat} {d : D} (h : ThD n d) (tw : D) (x : Str) (f3 : Option D) : llB [some d, some tw, some (.str x), f3] () = match goO d x with
    | some z => some (.next [some z, some tw, some (.str x), f3], ())
    | none => some (.rt (.row []), ()) := by
  rcases leaf_or h with hl | ⟨xs, rfl⟩ | ⟨kvs, rfl⟩
  · obtain ⟨a1, a2⟩ := isi_leaf hl
    rw [go_leaf hl]
    refine (sIf_f (s' := ()) ?_).trans ((sIf_f (s' := ()) ?_).trans (ret1 ?_))
    · simp only [a1, EV, Nat.reduceAdd, Nat.reduceSub, reduceIte]
    · simp only [a2, EV, Nat.reduceAdd, Nat.reduceSub, reduceIte]
    · simp only [z0, EV, Nat.reduceAdd, Nat.reduceSub, reduceIte]
  · obtain ⟨b1, m, rfl, b2⟩ := th_len h
    obtain ⟨a1, a2⟩ := isi_row xs
    have hr := rng_len xs.length (small_size b1)
    have h7 : lenD [.row xs] = some (.int (xs.length : Int)) := rfl
    have hlc : (dLc (dRange (dCons (dAll lenD (dCons (dVar 0) dNil)) dNil)) (tgN 3) dYes (dAll strD (dCons (dVar 3) dNil)) : Sl → M Unit D) [some (.row xs), some tw, some (.str x), f3] () = .ok (.row (((List.range xs.length).map numS).map D.str)) () := by
      rw [lc1 (xs := (List.range xs.length).map fun (j : Nat) => D.int (j : Int)) (s' := ()) (by simp only [h7, hr, EV, Nat.reduceAdd, Nat.reduceSub, reduceIte])]
      exact nums_lc (by show 3 < 4; decide) _ (by omega)
    have hin : inD true (.str x) (.row (((List.range xs.length).map numS).map D.str)) = some (.bl (!(stepI x xs.length).isSome)) := by
      show (eqAny 60 (.str x) (((List.range xs.length).map numS).map D.str)).map _ = _
      rw [eqAny_strs, in_nums]; rfl
    refine (sIf_t (s' := ()) (by simp only [a1, EV, Nat.reduceAdd, Nat.reduceSub, reduceIte])).trans ?_
    show _ = match (stepI x xs.length).map (fun i => xs.getD i .non) with | some z => _ | none => _
    cases hs : stepI x xs.length with
    | none =>
      rw [hs] at hin
      have hin : inD true (.str x) (.row (((List.range xs.length).map numS).map D.str)) = some (.bl true) := hin
      refine sSeq_rt ((sIf_t (s' := ()) ?_).trans (ret1 ?_))
      · generalize D.row (((List.range xs.length).map numS).map D.str) = rr at hlc hin
        simp only [dTst, dOp, bnd_e, dVar, getS, List.getElem?_cons_zero, List.getElem?_cons_succ, Option.join_some, lift_e, hlc, hin, isBl]
      · simp only [z0, EV, Nat.reduceAdd, Nat.reduceSub, reduceIte]
    | some i =>
      rw [hs] at hin
      have hin : inD true (.str x) (.row (((List.range xs.length).map numS).map D.str)) = some (.bl false) := hin
      obtain ⟨hi, e⟩ := stepI_some hs
      have hix : ixD (.row xs) (.int (i : Int)) = some (xs.getD i .non) := atI_nat xs i hi
      have hint : toIntD [.str x] = some (.int (i : Int)) := by rw [← e]; exact num_int i (by omega)
      refine (sSeq_n (r' := [some (.row xs), some tw, some (.str x), f3]) (s' := ()) ((sIf_f (s' := ()) ?_).trans rfl)).trans (asg1 (d := xs.getD i .non) (s' := ()) ?_)
      · generalize D.row (((List.range xs.length).map numS).map D.str) = rr at hlc hin
        simp only [dTst, dOp, bnd_e, dVar, getS, List.getElem?_cons_zero, List.getElem?_cons_succ, Option.join_some, lift_e, hlc, hin, isBl]
      · simp only [hint, hix, EV, Nat.reduceAdd, Nat.reduceSub, reduceIte]
  · obtain ⟨tx, _, _, m, rfl, b2⟩ := th_tab h
    obtain ⟨a1, a2⟩ := isi_tab kvs
    have h4 := in_tab tx x
    refine (sIf_f (s' := ()) (by simp only [a1, EV, Nat.reduceAdd, Nat.reduceSub, reduceIte])).trans ?_
    show _ = match (if x ∈ kS kvs then some (gv kvs x) else none) with | some z => _ | none => _
    by_cases hx : x ∈ kS kvs
    · rw [decide_eq_true hx] at h4
      rw [if_pos hx]
      have h5 : ixD (.tab kvs) (.str x) = some (gv kvs x) := (gv_val tx hx).1
      refine (sIf_t (s' := ()) (by simp only [a2, h4, EV, Nat.reduceAdd, Nat.reduceSub, reduceIte])).trans (asg1 (d := gv kvs x) (s' := ()) (by simp only [h5, EV, Nat.reduceAdd, Nat.reduceSub, reduceIte]))
    · rw [decide_eq_false hx] at h4
      rw [if_neg hx]
      exact (sIf_f (s' := ()) (by simp only [a2, h4, EV, Nat.reduceAdd, Nat.reduceSub, reduceIte])).trans (ret1 (by simp only [z0, EV, Nat.reduceAdd, Nat.reduceSub, reduceIte]))
theorem ll_loop {n : Nat} (tw : D) : ∀ (w : List Str) (d : D) (f2 f3 : Option D), ThD n d →
    (∀ y, ledO d w = some y → ∃ f2', forL (tgN 2) llB (w.map D.str) [some d, some tw, f2, f3] () = some (.next [some y, some tw, f2', f3], ())) ∧
    (ledO d w = none → forL (tgN 2) llB (w.map D.str) [some d, some tw, f2, f3] () = some (.rt (.row []), ()))
  | [], d, f2, f3, h => ⟨(fun y e => by cases e; exact ⟨f2, rfl⟩), (fun e => by cases e)⟩
  | x :: w, d, f2, f3, h => by
    have hb := ll_body h tw x f3
    have step : forL (tgN 2) llB ((x :: w).map D.str) [some d, some tw, f2, f3] () = loopK (forL (tgN 2) llB (w.map D.str)) (llB [some d, some tw, some (.str x), f3] ()) := rfl
    rw [hb] at step
    cases hg : goO d x with
    | none =>
      rw [hg] at step
      have e0 : ledO d (x :: w) = none := by show (goO d x).bind _ = none; rw [hg]; rfl
      rw [e0]
      exact ⟨(fun y e => by cases e), fun _ => step⟩
    | some z =>
      rw [hg] at step
      obtain ⟨m, rfl, hz⟩ := go_th h hg
      have e0 : ledO d (x :: w) = ledO z w := by show (goO d x).bind _ = _; rw [hg]; rfl
      rw [e0]
      obtain ⟨i1, i2⟩ := ll_loop tw w z (some (.str x)) f3 hz.mono
      exact ⟨fun y e => (i1 y e).imp fun f e2 => step.trans e2, fun e => step.trans (i2 e)⟩
def optL : Option D → List D
  | some y => [y]
  | none => []
end Nw
set_option Elab.async false
set_option linter.all false
set_option maxRecDepth 100000
set_option maxHeartbeats 4000000
namespace Nw
open PySem PySem.Spec L2
/-! ### tests -/
theorem t_and {S : Type} {c e : Sl → M S Bool} {a b : Bool} {r : Sl} {st : S} (h1 : c r st = .ok a st) (h2 : a = true → e r st = .ok b st) : tAndD c e r st = .ok (a && b) st := by
  unfold tAndD
  rw [bnd_ok h1]
  cases a with
  | true => rw [if_pos rfl, h2 rfl]; rfl
  | false => rw [if_neg Bool.false_ne_true]; rfl
theorem t_or {S : Type} {c e : Sl → M S Bool} {a b : Bool} {r : Sl} {st : S} (h1 : c r st = .ok a st) (h2 : a = false → e r st = .ok b st) : tOrD c e r st = .ok (a || b) st := by
  unfold tOrD
  rw [bnd_ok h1]
  cases a with
  | true => rw [if_pos rfl]; rfl
  | false => rw [if_neg Bool.false_ne_true, h2 rfl]; rfl
theorem t_not {S : Type} {c : Sl → M S Bool} {a : Bool} {r : Sl} {st : S} (h1 : c r st = .ok a st) : tNotD c r st = .ok (!a) st := by
  unfold tNotD
  rw [bnd_ok h1]; rfl
theorem t_isi {S : Type} {T : String} {b : Bool} {i : Nat} {y : D} {r : Sl} {st : S} (h : r[i]? = some (some y)) (e : isiD T y = some (.bl b)) : (dTst (dUn (isiD T) (dVar i)) truD : Sl → M S Bool) r st = .ok b st := by
  have v : (dVar i : Sl → M S D) r st = .ok y st := var1 h
  simp only [dTst, dUn, bnd_e, v, lift_e, e, truD]
theorem if_b {S : Type} {c : Sl → M S Bool} {f g : Sl → Mo S} {b : Bool} {r : Sl} {st st' : S} (h : c r st = .ok b st') : sIf c f g r st = if b = true then f r st' else g r st' := by
  cases b with
  | true => rw [sIf_t h, if_pos rfl]
  | false => rw [sIf_f h, if_neg Bool.false_ne_true]
theorem seq_no {S : Type} {c : Sl → M S Bool} {f K : Sl → Mo S} {r : Sl} {st : S} (h : c r st = .ok false st) : sSeq (sIf c f sNil) K r st = K r st := sSeq_n ((sIf_f h).trans rfl)
theorem seq_yes {S : Type} {c : Sl → M S Bool} {f K : Sl → Mo S} {r : Sl} {st : S} {d : D} (h : c r st = .ok true st) (hf : f r st = some (.rt d, st)) : sSeq (sIf c f sNil) K r st = some (.rt d, st) := sSeq_rt ((sIf_t h).trans hf)
theorem seq_yes2 {S : Type} {c : Sl → M S Bool} {f K : Sl → Mo S} {r : Sl} {st st1 st2 : S} {d : D} (h : c r st = .ok true st1) (hf : f r st1 = some (.rt d, st2)) : sSeq (sIf c f sNil) K r st = some (.rt d, st2) := sSeq_rt ((sIf_t h).trans hf)
theorem seq_no2 {S : Type} {c : Sl → M S Bool} {f K : Sl → Mo S} {r : Sl} {st st1 : S} (h : c r st = .ok false st1) : sSeq (sIf c f sNil) K r st = K r st1 := sSeq_n ((sIf_f h).trans rfl)
end Nw
set_option Elab.async false
set_option linter.all false
set_option maxRecDepth 100000
set_option maxHeartbeats 4000000
namespace Nw
open PySem PySem.Spec L2
/-! ### copies -/
theorem copied_loop {k : Nat} {kvs : List (Key × D)} (tx : TxK kvs) (nd : (kvs.map (·.1)).Nodup) (hz : kvs.length ≤ 60) (hc : ∀ p ∈ kvs, (den k).copied [p.2] () = .ok p.2 ()) : ∀ (suf pre : List (Key × D)) (kk : Option D), kvs = pre ++ suf →
    ∃ kk', forL (tgN 2) (sOwn2 1 setTD (dVar 2) (dCall 1 (fun ds => up ((den k).copied ds)) (dCons (dOp ixD (dVar 0) (dVar 2)) dNil))) (suf.map fun kv => kD kv.1) [some (.tab kvs), some (.tab pre), kk, none] () = some (.next [some (.tab kvs), some (.tab kvs), kk', none], ())
  | [], pre, kk, e => ⟨kk, by rw [e, List.append_nil]; rfl⟩
  | p :: suf, pre, kk, e => by
    have hp : p ∈ kvs := by rw [e]; exact List.mem_append_right _ List.mem_cons_self
    obtain ⟨x, ex⟩ := tx p hp
    have e1 : kD p.1 = .str x := by rw [ex]; rfl
    have e2 : ixD (.tab kvs) (.str x) = some p.2 := by
      have hx : x ∈ kS kvs := List.mem_map.mpr ⟨p, hp, by rw [ex]; rfl⟩
      have h1 := (gv_val tx hx).1
      have h2 := gv_of tx nd hp
      rw [ex] at h2
      have h2 : gv kvs x = p.2 := h2
      rw [h2] at h1
      exact h1
    have hn : (Sum.inr x : Key) ∉ pre.map (·.1) := fun z => by
      rw [e, List.map_append, List.map_cons] at nd
      obtain ⟨_, _, h3⟩ := List.nodup_append.mp nd
      exact h3 _ z _ List.mem_cons_self (by rw [ex])
    have hl : pre.length < sizeLine := by
      have := congrArg List.length e
      rw [List.length_append, List.length_cons] at this
      rw [sizeLine_eq]; omega
    have e3 : setTD (.tab pre) (.str x) p.2 = some (.tab (pre ++ [p])) := by
      show (if pre.length < sizeLine then some (D.tab (putD pre (.inr x) p.2)) else none) = _
      rw [if_pos hl, putD_new hn, ← ex]
    obtain ⟨kk', h⟩ := copied_loop tx nd hz hc suf (pre ++ [p]) (some (.str x)) (by rw [e, List.append_assoc]; rfl)
    refine ⟨kk', ?_⟩
    rw [← h, List.map_cons, e1, forL_cons]
    simp only [EV, Nat.reduceAdd, Nat.reduceSub, reduceIte, e2, hc p hp, e3, loopK]
theorem copied_eq : ∀ (n : Nat) (d : D) (k : Nat), ThD n d → (den (k + n + 2)).copied [d] () = .ok d () := by
  have leafs : ∀ (d : D) (k : Nat), okL d → (den (k + 2)).copied [d] () = .ok d () := fun d k h => by
    obtain ⟨w, w1, w2, w3, w4, w5⟩ := kind_leaf k h
    have hs : scalD d = some d := by cases d <;> first | rfl | exact h.elim
    show endK (b_copied (den (k + 1)) [some d, none, none, none] ()) = _
    unfold b_copied
    refine (congrArg endK ((sSeq_n (r' := [some d, none, none, none]) (s' := ()) ((sIf_f (s' := ()) ?_).trans rfl)).trans (sSeq_rt ((sIf_t (s' := ()) ?_).trans (ret1 (d := d) (s' := ()) ?_))))).trans rfl
    · simp only [w1, w2, EV, Nat.reduceAdd, Nat.reduceSub, reduceIte]
    · simp only [w1, w4, EV, Nat.reduceAdd, Nat.reduceSub, reduceIte]
    · simp only [hs, EV, Nat.reduceAdd, Nat.reduceSub, reduceIte]
  intro n
  induction n with
  | zero => exact fun d k h => leafs d k h
  | succ n ih =>
    intro d k h
    have h1 : eqD (.str "row") (.str "row") = some (.bl true) := by kernel_rfl
    have h2 : eqD (.str "table") (.str "row") = some (.bl false) := by kernel_rfl
    have h3 : neD (.str "table") (.str "table") = some (.bl false) := by kernel_rfl
    cases d with
    | row xs =>
      show endK (b_copied (den (k + n + 2)) [some (.row xs), none, none, none] ()) = _
      have e2 : lcA (tgN 3) dYes (dCall 1 (fun ds => up ((den (k + n + 2)).copied ds)) (dCons (dVar 3) dNil)) [some (.row xs), none, none, none] [] xs () = .ok (.row xs) () := by
        rw [lcA_map (fun x => x) xs [] fun x hx => ?_, List.nil_append, List.map_id']
        have := ih x k (h.2 x hx)
        simp only [EV, Nat.reduceAdd, Nat.reduceSub, reduceIte, this]
      unfold b_copied
      refine (congrArg endK (sSeq_rt ((sIf_t (s' := ()) ?_).trans (ret1 (d := .row xs) (s' := ()) ?_)))).trans rfl
      · have := kind_row (k + n + 1) xs
        simp only [this, h1, EV, Nat.reduceAdd, Nat.reduceSub, reduceIte]
      · exact (lc1 (xs := xs) (s' := ()) rfl).trans e2
    | tab kvs =>
      show endK (b_copied (den (k + n + 2)) [some (.tab kvs), none, none, none] ()) = _
      obtain ⟨kk, e2⟩ := copied_loop (k := k + n + 2) (th_txk h) h.2.1 h.1 (fun p hp => ih p.2 k (h.2.2 p hp).2) kvs [] none rfl
      have hk := kind_tab (k + n + 1) kvs
      unfold b_copied
      refine (congrArg endK ((sSeq_n (r' := [some (.tab kvs), none, none, none]) (s' := ()) ((sIf_f (s' := ()) ?_).trans rfl)).trans ((sSeq_n (r' := [some (.tab kvs), none, none, none]) (s' := ()) ((sIf_f (s' := ()) ?_).trans rfl)).trans ((asgO_n (d := .tab []) (s' := ()) rfl rfl).trans (for_n (r' := [some (.tab kvs), some (.tab kvs), kk, none]) (s' := ()) (s2 := ()) (xs := kvs.map fun kv => kD kv.1) rfl e2))))).trans rfl
      · simp only [hk, h2, EV, Nat.reduceAdd, Nat.reduceSub, reduceIte]
      · simp only [hk, h3, EV, Nat.reduceAdd, Nat.reduceSub, reduceIte]
    | _ => exact leafs _ (k + (n + 1)) h
end Nw
set_option Elab.async false
set_option linter.all false
set_option maxRecDepth 100000
set_option maxHeartbeats 4000000
namespace Nw
open PySem PySem.Spec L2
/-! ### sheets, plainly -/
def isNon : D → Bool
  | .non => true
  | _ => false
theorem isNon_e {d : D} : isNon d = true ↔ d = .non := by cases d <;> simp [isNon]
theorem isN_D (d : D) : isND false d = some (.bl (isNon d)) ∧ isND true d = some (.bl (!isNon d)) := by cases d <;> exact ⟨rfl, rfl⟩
def tabOf : D → List (Key × D)
  | .tab kvs => kvs
  | _ => []
def plF (rec : D → D → D) (as bs : List (Key × D)) (acc : List (Key × D)) (x : Str) : List (Key × D) := if isNon (gv bs x) = true then dropD acc (.inr x) else putD acc (.inr x) (rec (gv as x) (gv bs x))
def pl : Nat → D → D → D
  | n + 1, a, .tab bs => .tab ((kS bs).foldl (plF (pl n) (tabOf a) bs) (tabOf a))
  | _, _, b => b
def llF1 (as bs : List (Key × D)) (acc : List (Key × D)) (x : Str) : List (Key × D) := if x ∈ kS bs then acc else putD acc (.inr x) (gv as x)
def llF2 (rec : D → D → D) (as bs : List (Key × D)) (acc : List (Key × D)) (x : Str) : List (Key × D) := if isNon (gv bs x) = true then acc else putD acc (.inr x) (rec (gv as x) (gv bs x))
def ll : Nat → D → D → D
  | n + 1, a, .tab bs => .tab ((kS bs).foldl (llF2 (ll n) (tabOf a) bs) ((kS (tabOf a)).foldl (llF1 (tabOf a) bs) []))
  | _, _, b => b
theorem val_drop2 (kvs : List (Key × D)) (k j : Key) : valD (dropD kvs k) j = if j = k then none else valD kvs j := by
  unfold valD dropD
  induction kvs with
  | nil => simp
  | cons p r ih =>
    by_cases h : p.1 = k
    · rw [List.filter_cons_of_neg (by simpa using h), ih]
      by_cases hj : j = k
      · rw [if_pos hj, if_pos hj]
      · rw [if_neg hj, if_neg hj, List.find?_cons_of_neg (by simp only [decide_eq_true_eq]; exact fun z => hj (z.symm.trans h))]
    · rw [List.filter_cons_of_pos (by simpa using h)]
      by_cases hj : p.1 = j
      · have hjk : j ≠ k := fun z => h (hj.trans z)
        rw [List.find?_cons_of_pos (by simpa using hj), List.find?_cons_of_pos (by simpa using hj), if_neg hjk]
      · rw [List.find?_cons_of_neg (by simpa using hj), List.find?_cons_of_neg (by simpa using hj)]
        exact ih
theorem fold_val {F : List (Key × D) → Str → List (Key × D)} {g : Str → Option D → Option D} (h : ∀ acc x y, valD (F acc x) (.inr y) = if y = x then g x (valD acc (.inr x)) else valD acc (.inr y)) (y : Str) : ∀ (ks : List Str) (acc : List (Key × D)), ks.Nodup → valD (ks.foldl F acc) (.inr y) = if y ∈ ks then g y (valD acc (.inr y)) else valD acc (.inr y)
  | [], acc, _ => by simp
  | x :: ks, acc, nd => by
    rw [List.nodup_cons] at nd
    rw [List.foldl_cons, fold_val h y ks (F acc x) nd.2, h]
    by_cases hx : y = x
    · subst hx
      rw [if_pos rfl, if_neg nd.1, if_pos List.mem_cons_self]
    · rw [if_neg hx]
      by_cases hm : y ∈ ks
      · rw [if_pos hm, if_pos (List.mem_cons_of_mem _ hm)]
      · rw [if_neg hm, if_neg fun z => (List.mem_cons.mp z).elim hx hm]
theorem gv_o (acc : List (Key × D)) (x : Str) : gv acc x = (valD acc (.inr x)).getD .non := rfl
theorem inr_eq {x y : Str} : ((Sum.inr y : Key) = .inr x) ↔ y = x := ⟨fun h => by cases h; rfl, fun h => by rw [h]⟩
def gP (rec : D → D → D) (as bs : List (Key × D)) : Str → Option D → Option D := fun x _ => if isNon (gv bs x) = true then none else some (rec (gv as x) (gv bs x))
def gL1 (as bs : List (Key × D)) : Str → Option D → Option D := fun x o => if x ∈ kS bs then o else some (gv as x)
def gL2 (rec : D → D → D) (as bs : List (Key × D)) : Str → Option D → Option D := fun x o => if isNon (gv bs x) = true then o else some (rec (gv as x) (gv bs x))
theorem plF_val (rec : D → D → D) (as bs : List (Key × D)) (acc : List (Key × D)) (x y : Str) : valD (plF rec as bs acc x) (.inr y) = if y = x then gP rec as bs x (valD acc (.inr x)) else valD acc (.inr y) := by
  unfold plF
  by_cases hn : isNon (gv bs x) = true
  · rw [if_pos hn, val_drop2]
    by_cases e : y = x
    · rw [if_pos (inr_eq.mpr e), if_pos e]; exact (if_pos hn).symm
    · rw [if_neg fun z => e (inr_eq.mp z), if_neg e]
  · rw [if_neg hn, val_put]
    by_cases e : y = x
    · rw [if_pos (inr_eq.mpr e), if_pos e]; exact (if_neg hn).symm
    · rw [if_neg fun z => e (inr_eq.mp z), if_neg e]
theorem llF1_val (as bs : List (Key × D)) (acc : List (Key × D)) (x y : Str) : valD (llF1 as bs acc x) (.inr y) = if y = x then gL1 as bs x (valD acc (.inr x)) else valD acc (.inr y) := by
  unfold llF1
  by_cases hn : x ∈ kS bs
  · rw [if_pos hn]
    by_cases e : y = x
    · subst e; rw [if_pos rfl]; exact (if_pos hn).symm
    · rw [if_neg e]
  · rw [if_neg hn, val_put]
    by_cases e : y = x
    · rw [if_pos (inr_eq.mpr e), if_pos e]; exact (if_neg hn).symm
    · rw [if_neg fun z => e (inr_eq.mp z), if_neg e]
theorem llF2_val (rec : D → D → D) (as bs : List (Key × D)) (acc : List (Key × D)) (x y : Str) : valD (llF2 rec as bs acc x) (.inr y) = if y = x then gL2 rec as bs x (valD acc (.inr x)) else valD acc (.inr y) := by
  unfold llF2
  by_cases hn : isNon (gv bs x) = true
  · rw [if_pos hn]
    by_cases e : y = x
    · subst e; rw [if_pos rfl]; exact (if_pos hn).symm
    · rw [if_neg e]
  · rw [if_neg hn, val_put]
    by_cases e : y = x
    · rw [if_pos (inr_eq.mpr e), if_pos e]; exact (if_neg hn).symm
    · rw [if_neg fun z => e (inr_eq.mp z), if_neg e]
/-- keys in order, what is within them -/
def OT (c m : Nat) (kvs : List (Key × D)) : Prop := (kvs.map (·.1)).Nodup ∧ ∀ p ∈ kvs, (∃ x, p.1 = Sum.inr x ∧ isW x = true) ∧ ThB c m p.2
theorem OT.tx {c m : Nat} {kvs : List (Key × D)} (h : OT c m kvs) : TxK kvs := fun p hp => let ⟨⟨x, e, _⟩, _⟩ := h.2 p hp; ⟨x, e⟩
theorem OT.nd {c m : Nat} {kvs : List (Key × D)} (h : OT c m kvs) : (kS kvs).Nodup := kS_nd h.tx h.1
theorem OT.tab {c m : Nat} {kvs : List (Key × D)} (h : OT c m kvs) (hl : kvs.length ≤ c) : ThB c (m + 1) (.tab kvs) := ⟨hl, h.1, h.2⟩
theorem OT.of {c m : Nat} {kvs : List (Key × D)} (h : ThB c (m + 1) (.tab kvs)) : OT c m kvs := ⟨h.2.1, h.2.2⟩
theorem OT.nil {c m : Nat} : OT c m [] := ⟨List.nodup_nil, fun p hp => by cases hp⟩
theorem OT.wide {c c2 m : Nat} (hc : c ≤ c2) {kvs : List (Key × D)} (h : OT c m kvs) : OT c2 m kvs := ⟨h.1, fun p hp => ⟨(h.2 p hp).1, (h.2 p hp).2.wide hc⟩⟩
theorem OT.kid {c m : Nat} {kvs : List (Key × D)} (h : OT c m kvs) {x : Str} (hx : x ∈ kS kvs) : ThB c m (gv kvs x) := (h.2 _ (gv_val h.tx hx).2).2
theorem OT.isw {c m : Nat} {kvs : List (Key × D)} (h : OT c m kvs) {x : Str} (hx : x ∈ kS kvs) : isW x = true := by
  obtain ⟨⟨y, e, hy⟩, _⟩ := h.2 _ (gv_val h.tx hx).2
  cases e; exact hy
theorem OT.put {c m : Nat} {kvs : List (Key × D)} (h : OT c m kvs) {x : Str} {d : D} (hx : isW x = true) (hd : ThB c m d) : OT c m (putD kvs (.inr x) d) := ⟨put_nd h.1 _ _, fun p hp => by
  rcases putD_mem hp with q | q
  · exact h.2 p q
  · rw [q]; exact ⟨⟨x, rfl, hx⟩, hd⟩⟩
theorem OT.drop {c m : Nat} {kvs : List (Key × D)} (h : OT c m kvs) (k : Key) : OT c m (dropD kvs k) := ⟨List.Sublist.nodup (List.Sublist.map _ List.filter_sublist) h.1, fun p hp => h.2 p (List.mem_filter.mp hp).1⟩
theorem val_in {kvs : List (Key × D)} (tx : TxK kvs) (x : Str) : (valD kvs (.inr x)).isSome = true ↔ x ∈ kS kvs := by
  refine ⟨fun h => ?_, fun h => by rw [(gv_val tx h).1]; rfl⟩
  cases e : valD kvs (.inr x) with
  | none => rw [e] at h; cases h
  | some d =>
    have := valD_mem e
    exact List.mem_map.mpr ⟨_, this, rfl⟩
theorem val_gv {kvs : List (Key × D)} (tx : TxK kvs) (x : Str) : valD kvs (.inr x) = if x ∈ kS kvs then some (gv kvs x) else none := by
  by_cases h : x ∈ kS kvs
  · rw [if_pos h]; exact (gv_val tx h).1
  · rw [if_neg h]
    cases e : valD kvs (.inr x) with
    | none => rfl
    | some d => exact absurd ((val_in tx x).mp (by rw [e]; rfl)) h
theorem gv_none {kvs : List (Key × D)} (tx : TxK kvs) {x : Str} (h : x ∉ kS kvs) : gv kvs x = .non := by
  rw [gv_o, val_gv tx, if_neg h]; rfl
theorem fold_len {F : List (Key × D) → Str → List (Key × D)} (h : ∀ acc x, (F acc x).length ≤ acc.length + 1) : ∀ (ks : List Str) (acc : List (Key × D)), (ks.foldl F acc).length ≤ acc.length + ks.length
  | [], acc => Nat.le_refl _
  | x :: ks, acc => by
    have h1 := fold_len h ks (F acc x)
    have h2 := h acc x
    rw [List.foldl_cons, List.length_cons]; omega
theorem fold_ot {c m : Nat} {F : List (Key × D) → Str → List (Key × D)} : ∀ (ks : List Str) (acc : List (Key × D)), (∀ acc x, x ∈ ks → OT c m acc → OT c m (F acc x)) → OT c m acc → OT c m (ks.foldl F acc)
  | [], acc, _, h => h
  | x :: ks, acc, hF, h => fold_ot ks (F acc x) (fun acc y hy => hF acc y (List.mem_cons_of_mem _ hy)) (hF acc x List.mem_cons_self h)
theorem plF_len (rec : D → D → D) (as bs : List (Key × D)) (acc : List (Key × D)) (x : Str) : (plF rec as bs acc x).length ≤ acc.length + 1 := by
  unfold plF
  split
  · have := dropD_len acc (.inr x); omega
  · exact putD_length _ _ _
theorem llF1_len (as bs : List (Key × D)) (acc : List (Key × D)) (x : Str) : (llF1 as bs acc x).length ≤ acc.length + 1 := by
  unfold llF1
  split
  · omega
  · exact putD_length _ _ _
theorem llF2_len (rec : D → D → D) (as bs : List (Key × D)) (acc : List (Key × D)) (x : Str) : (llF2 rec as bs acc x).length ≤ acc.length + 1 := by
  unfold llF2
  split
  · omega
  · exact putD_length _ _ _
theorem kS_len (kvs : List (Key × D)) : (kS kvs).length = kvs.length := List.length_map _
theorem tabOf_ot {c m : Nat} {a : D} (h : ThB c (m + 1) a) : OT c m (tabOf a) ∧ (tabOf a).length ≤ c := by
  cases a with
  | tab kvs => exact ⟨OT.of h, h.1⟩
  | _ => exact ⟨OT.nil, Nat.zero_le _⟩
theorem non_th (c m : Nat) : ThB c m .non := ThB.leaf trivial
theorem gv_th {c m : Nat} {kvs : List (Key × D)} (h : OT c m kvs) (x : Str) : ThB c m (gv kvs x) := by
  by_cases hx : x ∈ kS kvs
  · exact h.kid hx
  · rw [gv_none h.tx hx]; exact non_th c m
theorem wide_n {c c2 n : Nat} {d : D} (hc : c ≤ c2) (h : ThB c n d) : ThB c2 n d := h.wide hc
theorem pl_th {c1 c2 c : Nat} (hc : c1 + c2 ≤ c) : ∀ (n : Nat) (a b : D), ThB c1 n a → ThB c2 n b → ThB c n (pl n a b)
  | 0, a, b, ha, hb => by cases b <;> first | exact hb | exact hb.elim
  | n + 1, a, b, ha, hb => by
    cases b with
    | tab bs =>
      obtain ⟨o1, l1⟩ := tabOf_ot ha
      have o2 := OT.of hb
      refine OT.tab (fold_ot (c := c) (m := n) (kS bs) (tabOf a) (fun acc x hx ho => ?_) (o1.wide (by omega))) ?_
      · unfold plF
        split
        · exact ho.drop _
        · exact ho.put (o2.isw hx) (pl_th hc n _ _ (gv_th o1 x) (o2.kid hx))
      · have := fold_len (plF_len (pl n) (tabOf a) bs) (kS bs) (tabOf a)
        have := kS_len bs
        have := hb.1
        omega
    | row _ => exact hb.wide (by omega)
    | non => exact hb.wide (by omega)
    | bl _ => exact hb.wide (by omega)
    | int _ => exact hb.wide (by omega)
    | str _ => exact hb.wide (by omega)
    | _ => exact hb.elim
theorem ll_th {c1 c2 c : Nat} (hc : c1 + c2 ≤ c) : ∀ (n : Nat) (a b : D), ThB c1 n a → ThB c2 n b → ThB c n (ll n a b)
  | 0, a, b, ha, hb => by cases b <;> first | exact hb | exact hb.elim
  | n + 1, a, b, ha, hb => by
    cases b with
    | tab bs =>
      obtain ⟨o1, l1⟩ := tabOf_ot ha
      have o2 := OT.of hb
      have h1 : OT c n ((kS (tabOf a)).foldl (llF1 (tabOf a) bs) []) := fold_ot (kS (tabOf a)) [] (fun acc x hx ho => by
        unfold llF1
        split
        · exact ho
        · exact ho.put (o1.isw hx) ((o1.kid hx).wide (by omega))) OT.nil
      refine OT.tab (fold_ot (c := c) (m := n) (kS bs) _ (fun acc x hx ho => ?_) h1) ?_
      · unfold llF2
        split
        · exact ho
        · exact ho.put (o2.isw hx) (ll_th hc n _ _ (gv_th o1 x) (o2.kid hx))
      · have q1 := fold_len (llF2_len (ll n) (tabOf a) bs) (kS bs) ((kS (tabOf a)).foldl (llF1 (tabOf a) bs) [])
        have q2 := fold_len (llF1_len (tabOf a) bs) (kS (tabOf a)) []
        have := kS_len bs
        have := kS_len (tabOf a)
        have := hb.1
        rw [List.length_nil] at q2
        omega
    | row _ => exact hb.wide (by omega)
    | non => exact hb.wide (by omega)
    | bl _ => exact hb.wide (by omega)
    | int _ => exact hb.wide (by omega)
    | str _ => exact hb.wide (by omega)
    | _ => exact hb.elim
/-- what is by a key -/
theorem pl_val {c1 c2 : Nat} {n : Nat} {a : D} {bs : List (Key × D)} (ha : ThB c1 (n + 1) a) (hb : ThB c2 (n + 1) (.tab bs)) (y : Str) : valD (tabOf (pl (n + 1) a (.tab bs))) (.inr y) = if y ∈ kS bs then (if isNon (gv bs y) = true then none else some (pl n (gv (tabOf a) y) (gv bs y))) else valD (tabOf a) (.inr y) := by
  show valD ((kS bs).foldl (plF (pl n) (tabOf a) bs) (tabOf a)) (.inr y) = _
  rw [fold_val (plF_val (pl n) (tabOf a) bs) y (kS bs) (tabOf a) (OT.of hb).nd]
  rfl
theorem ll_val {c1 c2 : Nat} {n : Nat} {a : D} {bs : List (Key × D)} (ha : ThB c1 (n + 1) a) (hb : ThB c2 (n + 1) (.tab bs)) (y : Str) : valD (tabOf (ll (n + 1) a (.tab bs))) (.inr y) = if y ∈ kS bs then (if isNon (gv bs y) = true then none else some (ll n (gv (tabOf a) y) (gv bs y))) else valD (tabOf a) (.inr y) := by
  obtain ⟨o1, _⟩ := tabOf_ot ha
  show valD ((kS bs).foldl (llF2 (ll n) (tabOf a) bs) ((kS (tabOf a)).foldl (llF1 (tabOf a) bs) [])) (.inr y) = _
  rw [fold_val (llF2_val (ll n) (tabOf a) bs) y (kS bs) _ (OT.of hb).nd, fold_val (llF1_val (tabOf a) bs) y (kS (tabOf a)) [] o1.nd]
  have e0 : valD ([] : List (Key × D)) (.inr y) = none := rfl
  rw [e0]
  unfold gL1 gL2
  by_cases hy : y ∈ kS bs
  · simp only [hy, if_true]
    by_cases hn : isNon (gv bs y) = true
    · simp only [hn, if_true]
      split <;> rfl
    · simp only [hn, if_false]
      rfl
  · simp only [hy, if_false]
    rw [val_gv o1.tx]
/-! ### like tables -/
theorem same_tabV {c1 c2 n : Nat} {as bs : List (Key × D)} (oa : OT c1 n as) (ob : OT c2 n bs) (h : ∀ y, (∃ d e, valD as (.inr y) = some d ∧ valD bs (.inr y) = some e ∧ sameD n d e = true) ∨ (valD as (.inr y) = none ∧ valD bs (.inr y) = none)) : sameD (n + 1) (.tab as) (.tab bs) = true := by
  have ia := val_in oa.tx
  have ib := val_in ob.tx
  have hk : ∀ x, x ∈ kS as ↔ x ∈ kS bs := fun x => by
    rw [← ia, ← ib]
    rcases h x with ⟨d, e, e1, e2, _⟩ | ⟨e1, e2⟩
    · rw [e1, e2]; simp
    · rw [e1, e2]
  show (decide (sortS (kS as) = sortS (kS bs)) && (kS as).all fun x => sameD n (gv as x) (gv bs x)) = true
  rw [Bool.and_eq_true, decide_eq_true_eq, List.all_eq_true]
  refine ⟨pw_eq (sortS_pw _) (sortS_pw _) ((sortS_perm (kS as)).trans ((perm_of_mem oa.nd ob.nd hk).trans (sortS_perm (kS bs)).symm)), fun x hx => ?_⟩
  rcases h x with ⟨d, e, e1, e2, e3⟩ | ⟨e1, _⟩
  · rw [gv_o, gv_o, e1, e2]; exact e3
  · have := (ia x).mpr hx
    rw [e1] at this; cases this
theorem same_tabs2 {n : Nat} {as bs : List (Key × D)} (h : sameD (n + 1) (.tab as) (.tab bs) = true) : (∀ x, x ∈ kS as ↔ x ∈ kS bs) ∧ ∀ x ∈ kS as, sameD n (gv as x) (gv bs x) = true := by
  have h : (decide (sortS (kS as) = sortS (kS bs)) && (kS as).all fun x => sameD n (gv as x) (gv bs x)) = true := h
  rw [Bool.and_eq_true, decide_eq_true_eq, List.all_eq_true] at h
  exact ⟨fun x => by rw [← (sortS_perm (kS as)).mem_iff, h.1, (sortS_perm (kS bs)).mem_iff], h.2⟩
/-- the two layings agree -/
theorem pl_ll {c1 c2 : Nat} (hz : c1 + c2 ≤ 60) : ∀ (n : Nat) (a b : D), ThB c1 n a → ThB c2 n b → sameD n (pl n a b) (ll n a b) = true
  | 0, a, b, ha, hb => by
    have e1 : pl 0 a b = b := by cases b <;> rfl
    have e2 : ll 0 a b = b := by cases b <;> rfl
    rw [e1, e2]; exact sameD_refl 0 b (hb.wide (by omega))
  | n + 1, a, b, ha, hb => by
    cases b with
    | tab bs =>
      have t1 := OT.of (show ThB (c1 + c2) (n + 1) (.tab (tabOf (pl (n + 1) a (.tab bs)))) from pl_th (Nat.le_refl _) (n + 1) a (.tab bs) ha hb)
      have t2 := OT.of (show ThB (c1 + c2) (n + 1) (.tab (tabOf (ll (n + 1) a (.tab bs)))) from ll_th (Nat.le_refl _) (n + 1) a (.tab bs) ha hb)
      obtain ⟨o1, _⟩ := tabOf_ot ha
      have o2 := OT.of hb
      refine same_tabV (as := tabOf (pl (n + 1) a (.tab bs))) (bs := tabOf (ll (n + 1) a (.tab bs))) t1 t2 fun y => ?_
      rw [pl_val ha hb, ll_val ha hb]
      by_cases hy : y ∈ kS bs
      · rw [if_pos hy, if_pos hy]
        by_cases hn : isNon (gv bs y) = true
        · rw [if_pos hn, if_pos hn]; exact .inr ⟨rfl, rfl⟩
        · rw [if_neg hn, if_neg hn]
          exact .inl ⟨_, _, rfl, rfl, pl_ll hz n _ _ (gv_th o1 y) (o2.kid hy)⟩
      · rw [if_neg hy, if_neg hy, val_gv o1.tx]
        by_cases ha2 : y ∈ kS (tabOf a)
        · rw [if_pos ha2]; exact .inl ⟨_, _, rfl, rfl, sameD_refl n _ ((o1.kid ha2).wide (by omega))⟩
        · rw [if_neg ha2]; exact .inr ⟨rfl, rfl⟩
    | row xs => exact sameD_refl (n + 1) (.row xs) (hb.wide (by omega))
    | non => exact sameD_refl (n + 1) .non (hb.wide (by omega))
    | bl x => exact sameD_refl (n + 1) (.bl x) (hb.wide (by omega))
    | int x => exact sameD_refl (n + 1) (.int x) (hb.wide (by omega))
    | str x => exact sameD_refl (n + 1) (.str x) (hb.wide (by omega))
    | _ => exact hb.elim
/-- laid once more it stays -/
theorem pl_pl {c1 c2 : Nat} (hz : c1 + c2 + c2 ≤ 60) : ∀ (n : Nat) (a b : D), ThB c1 n a → ThB c2 n b → sameD n (pl n (pl n a b) b) (ll n a b) = true
  | 0, a, b, ha, hb => by
    have e1 : ∀ a, pl 0 a b = b := fun a => by cases b <;> rfl
    have e2 : ll 0 a b = b := by cases b <;> rfl
    rw [e1, e2]; exact sameD_refl 0 b (hb.wide (by omega))
  | n + 1, a, b, ha, hb => by
    cases b with
    | tab bs =>
      have hp := pl_th (Nat.le_refl (c1 + c2)) (n + 1) a (.tab bs) ha hb
      have t0 := OT.of (show ThB (c1 + c2) (n + 1) (.tab (tabOf (pl (n + 1) a (.tab bs)))) from hp)
      have t1 := OT.of (show ThB (c1 + c2 + c2) (n + 1) (.tab (tabOf (pl (n + 1) (pl (n + 1) a (.tab bs)) (.tab bs)))) from pl_th (Nat.le_refl _) (n + 1) _ (.tab bs) hp hb)
      have t2 := OT.of (show ThB (c1 + c2) (n + 1) (.tab (tabOf (ll (n + 1) a (.tab bs)))) from ll_th (Nat.le_refl _) (n + 1) a (.tab bs) ha hb)
      obtain ⟨o1, _⟩ := tabOf_ot ha
      have o2 := OT.of hb
      refine same_tabV (as := tabOf (pl (n + 1) (pl (n + 1) a (.tab bs)) (.tab bs))) (bs := tabOf (ll (n + 1) a (.tab bs))) t1 t2 fun y => ?_
      rw [pl_val hp hb, ll_val ha hb]
      by_cases hy : y ∈ kS bs
      · rw [if_pos hy, if_pos hy]
        by_cases hn : isNon (gv bs y) = true
        · rw [if_pos hn, if_pos hn]; exact .inr ⟨rfl, rfl⟩
        · rw [if_neg hn, if_neg hn]
          have e : gv (tabOf (pl (n + 1) a (.tab bs))) y = pl n (gv (tabOf a) y) (gv bs y) := by
            rw [gv_o, pl_val ha hb, if_pos hy, if_neg hn]; rfl
          rw [e]
          exact .inl ⟨_, _, rfl, rfl, pl_pl hz n _ _ (gv_th o1 y) (o2.kid hy)⟩
      · rw [if_neg hy, if_neg hy, pl_val ha hb, if_neg hy, val_gv o1.tx]
        by_cases ha2 : y ∈ kS (tabOf a)
        · rw [if_pos ha2]; exact .inl ⟨_, _, rfl, rfl, sameD_refl n _ ((o1.kid ha2).wide (by omega))⟩
        · rw [if_neg ha2]; exact .inr ⟨rfl, rfl⟩
    | row xs => exact sameD_refl (n + 1) (.row xs) (hb.wide (by omega))
    | non => exact sameD_refl (n + 1) .non (hb.wide (by omega))
    | bl x => exact sameD_refl (n + 1) (.bl x) (hb.wide (by omega))
    | int x => exact sameD_refl (n + 1) (.int x) (hb.wide (by omega))
    | str x => exact sameD_refl (n + 1) (.str x) (hb.wide (by omega))
    | _ => exact hb.elim
end Nw
set_option Elab.async false
set_option linter.all false
set_option maxRecDepth 100000
set_option maxHeartbeats 4000000
namespace Nw
open PySem PySem.Spec L2
/-! ### sheets that make the one the other -/
def hn : Nat → D → Bool
  | n + 1, .tab kvs => kvs.any fun p => isNon p.2 || hn n p.2
  | _, _ => false
def cnC (rec : D → D → Bool) (as bs : List (Key × D)) (x : Str) : Bool := (!isNon (gv bs x) || (decide (x ∈ kS as) && isNon (gv as x))) && (isNon (gv bs x) || rec (gv as x) (gv bs x))
def cn : Nat → D → D → Bool
  | n + 1, a, .tab bs => (kS bs).all (cnC (cn n) (tabOf a) bs)
  | _, _, _ => true
def sm2 (n : Nat) (as bs : List (Key × D)) (x : Str) : Bool := decide (x ∈ kS as) && sameD n (gv as x) (gv bs x)
def sfF0 (bs : List (Key × D)) (acc : List (Key × D)) (x : Str) : List (Key × D) := if x ∈ kS bs then acc else putD acc (.inr x) .non
def sfF (n : Nat) (rec : D → D → Option D) (as bs : List (Key × D)) : List Str → List (Key × D) → Option (List (Key × D))
  | [], acc => some acc
  | x :: ks, acc => if sm2 n as bs x = true then sfF n rec as bs ks acc else if isNon (gv bs x) = true then none else match rec (gv as x) (gv bs x) with
    | none => none
    | some s => sfF n rec as bs ks (putD acc (.inr x) s)
def both : D → D → Bool
  | .tab _, .tab _ => true
  | _, _ => false
def sf : Nat → D → D → Option D
  | 0, _, b => some b
  | n + 1, a, b => if both a b = true then (sfF n (sf n) (tabOf a) (tabOf b) (kS (tabOf b)) ((kS (tabOf a)).foldl (sfF0 (tabOf b)) [])).map D.tab else if hn (n + 1) b = true then none else some b
theorem any_vals {c m : Nat} {kvs : List (Key × D)} (h : OT c m kvs) (f : D → Bool) : (kvs.any fun p => f p.2) = (kS kvs).any fun x => f (gv kvs x) := by
  rw [Bool.eq_iff_iff, List.any_eq_true, List.any_eq_true]
  constructor
  · rintro ⟨p, hp, e⟩
    refine ⟨keyS p.1, List.mem_map.mpr ⟨p, hp, rfl⟩, ?_⟩
    rw [gv_of h.tx h.1 hp]; exact e
  · rintro ⟨x, hx, e⟩
    exact ⟨_, (gv_val h.tx hx).2, e⟩
theorem cn_none {c : Nat} : ∀ (n : Nat) (a b : D), tabOf a = [] → ThB c n b → cn n a b = !hn n b
  | 0, a, b, ha, hb => by cases b <;> rfl
  | n + 1, a, b, ha, hb => by
    cases b with
    | tab bs =>
      have o := OT.of hb
      have one : ∀ x ∈ kS bs, cnC (cn n) (tabOf a) bs x = !(isNon (gv bs x) || hn n (gv bs x)) := fun x hx => by
        unfold cnC
        rw [ha, cn_none n (gv [] x) (gv bs x) rfl (o.kid hx)]
        cases isNon (gv bs x) <;> cases hn n (gv bs x) <;> simp [kS]
      show (kS bs).all (cnC (cn n) (tabOf a) bs) = !(bs.any fun p => isNon p.2 || hn n p.2)
      rw [any_vals o (fun d => isNon d || hn n d)]
      have go : ∀ l : List Str, (∀ x ∈ l, x ∈ kS bs) → l.all (cnC (cn n) (tabOf a) bs) = !(l.any fun x => isNon (gv bs x) || hn n (gv bs x)) := fun l => by
        induction l with
        | nil => intro _; rfl
        | cons x l ih =>
          intro h
          rw [List.all_cons, List.any_cons, one x (h x List.mem_cons_self), ih fun y hy => h y (List.mem_cons_of_mem _ hy)]
          simp only [Bool.not_or]
      exact go _ fun _ h => h
    | _ => rfl
theorem same_non {n : Nat} {a b : D} (h : sameD n a b = true) (hb : isNon b = true) : isNon a = true := by
  rw [isNon_e] at hb
  subst hb
  cases n <;> cases a <;> first | rfl | (simp [sameD] at h; done)
theorem same_tabk {n : Nat} {a : D} {bs : List (Key × D)} (h : sameD (n + 1) a (.tab bs) = true) : ∃ as, a = .tab as := by
  cases a <;> first | exact ⟨_, rfl⟩ | (simp [sameD] at h; done)
theorem cn_same {c1 c2 : Nat} : ∀ (n : Nat) (a b : D), ThB c1 n a → ThB c2 n b → sameD n a b = true → cn n a b = true
  | 0, a, b, _, hb, _ => by cases b <;> rfl
  | n + 1, a, b, ha, hb, h => by
    cases b with
    | tab bs =>
      obtain ⟨as, rfl⟩ := same_tabk h
      have oa := OT.of ha
      have ob := OT.of hb
      obtain ⟨hk, hs⟩ := same_tabs2 h
      show (kS bs).all (cnC (cn n) as bs) = true
      rw [List.all_eq_true]
      intro x hx
      have hxa := (hk x).mpr hx
      have ih := cn_same n _ _ (oa.kid hxa) (ob.kid hx) (hs x hxa)
      unfold cnC
      rw [ih, decide_eq_true hxa]
      cases hn : isNon (gv bs x) with
      | true => rw [same_non (hs x hxa) hn]; rfl
      | false => rfl
    | _ => rfl
/-- whether there is one -/
theorem sf_cn {c1 c2 : Nat} (hz : c1 ≤ 60 ∧ c2 ≤ 60) : ∀ (n : Nat) (a b : D), ThB c1 n a → ThB c2 n b → (sf n a b).isSome = cn n a b
  | 0, a, b, _, hb => by cases b <;> rfl
  | n + 1, a, b, ha, hb => by
    have e : sf (n + 1) a b = if both a b = true then (sfF n (sf n) (tabOf a) (tabOf b) (kS (tabOf b)) ((kS (tabOf a)).foldl (sfF0 (tabOf b)) [])).map D.tab else if hn (n + 1) b = true then none else some b := rfl
    rw [e]
    cases hbo : both a b with
    | false =>
      rw [if_neg (by decide)]
      have hc : cn (n + 1) a b = !hn (n + 1) b := by
        cases b with
        | tab bs =>
          refine cn_none (n + 1) a (.tab bs) ?_ hb
          cases a <;> first | rfl | cases hbo
        | _ => rfl
      rw [hc]
      cases hn (n + 1) b <;> rfl
    | true =>
      rw [if_pos rfl]
      cases a with
      | tab as =>
        cases b with
        | tab bs =>
          have oa := OT.of ha
          have ob := OT.of hb
          show ((sfF n (sf n) as bs (kS bs) ((kS as).foldl (sfF0 bs) [])).map D.tab).isSome = (kS bs).all (cnC (cn n) as bs)
          have go : ∀ (ks : List Str) (acc : List (Key × D)), (∀ x ∈ ks, x ∈ kS bs) → (sfF n (sf n) as bs ks acc).isSome = ks.all (cnC (cn n) as bs) := fun ks => by
            induction ks with
            | nil => intro acc _; rfl
            | cons x ks ih =>
              intro acc h
              have hx := h x List.mem_cons_self
              have ih := fun acc => ih acc fun y hy => h y (List.mem_cons_of_mem _ hy)
              rw [List.all_cons]
              show (if sm2 n as bs x = true then sfF n (sf n) as bs ks acc else if isNon (gv bs x) = true then none else match sf n (gv as x) (gv bs x) with | none => none | some s => sfF n (sf n) as bs ks (putD acc (.inr x) s)).isSome = _
              by_cases hs : sm2 n as bs x = true
              · rw [if_pos hs, ih]
                unfold sm2 at hs
                rw [Bool.and_eq_true, decide_eq_true_eq] at hs
                have c1 := cn_same n _ _ (oa.kid hs.1) (ob.kid hx) hs.2
                have : cnC (cn n) as bs x = true := by
                  unfold cnC
                  rw [c1, decide_eq_true hs.1]
                  cases hn : isNon (gv bs x) with
                  | true => rw [same_non hs.2 hn]; rfl
                  | false => rfl
                rw [this, Bool.true_and]
              · rw [if_neg hs]
                by_cases hn : isNon (gv bs x) = true
                · rw [if_pos hn]
                  have : cnC (cn n) as bs x = false := by
                    unfold cnC
                    rw [hn]
                    cases hd : decide (x ∈ kS as) && isNon (gv as x) with
                    | false => rfl
                    | true =>
                      rw [Bool.and_eq_true, decide_eq_true_eq] at hd
                      refine absurd ?_ hs
                      unfold sm2
                      rw [decide_eq_true hd.1, isNon_e.mp hd.2, isNon_e.mp hn]
                      cases n <;> rfl
                  rw [this]; rfl
                · rw [if_neg hn]
                  have ihr := sf_cn hz n _ _ (gv_th oa x) (ob.kid hx)
                  have hn' : isNon (gv bs x) = false := by cases q : isNon (gv bs x) <;> first | rfl | exact absurd q hn
                  have hc : cnC (cn n) as bs x = cn n (gv as x) (gv bs x) := by unfold cnC; rw [hn']; rfl
                  rw [hc, ← ihr]
                  cases sf n (gv as x) (gv bs x) with
                  | none => rfl
                  | some s => exact (ih _).trans (Bool.true_and _).symm
          have := go (kS bs) ((kS as).foldl (sfF0 bs) []) fun _ h => h
          rw [← this]
          cases sfF n (sf n) as bs (kS bs) ((kS as).foldl (sfF0 bs) []) <;> rfl
        | _ => cases hbo
      | _ => cases hbo
/-- what is laid as it is -/
theorem ll_none {c : Nat} (hz : c ≤ 60) : ∀ (n : Nat) (a b : D) {c1 : Nat}, ThB c1 n a → tabOf a = [] → ThB c n b → hn n b = false → sameD n (ll n a b) b = true
  | 0, a, b, c1, _, ha, hb, h => by
    have e : ll 0 a b = b := by cases b <;> rfl
    rw [e]; exact sameD_refl 0 b (hb.wide hz)
  | n + 1, a, b, c1, hta, ha, hb, h => by
    cases b with
    | tab bs =>
      have o := OT.of hb
      have t1 := OT.of (show ThB (c1 + c) (n + 1) (.tab (tabOf (ll (n + 1) a (.tab bs)))) from ll_th (Nat.le_refl _) (n + 1) a (.tab bs) hta hb)
      have h : (bs.any fun p => isNon p.2 || hn n p.2) = false := h
      rw [any_vals o (fun d => isNon d || hn n d)] at h
      have hx : ∀ x ∈ kS bs, isNon (gv bs x) = false ∧ hn n (gv bs x) = false := fun x hx => by
        have := List.any_eq_false.mp h x hx
        cases q1 : isNon (gv bs x) <;> cases q2 : hn n (gv bs x) <;> first | exact ⟨rfl, rfl⟩ | (rw [q1, q2] at this; exact absurd rfl this)
      refine same_tabV (as := tabOf (ll (n + 1) a (.tab bs))) (bs := bs) t1 o fun y => ?_
      rw [ll_val hta hb, ha]
      by_cases hy : y ∈ kS bs
      · obtain ⟨h1, h2⟩ := hx y hy
        rw [if_pos hy, if_neg (by rw [h1]; decide), (gv_val o.tx hy).1]
        exact .inl ⟨_, _, rfl, rfl, ll_none hz n .non (gv bs y) (c1 := 0) (non_th 0 n) rfl (o.kid hy) h2⟩
      · rw [if_neg hy, val_gv o.tx, if_neg hy]; exact .inr ⟨rfl, rfl⟩
    | row xs => exact sameD_refl (n + 1) (.row xs) (hb.wide hz)
    | non => exact sameD_refl (n + 1) .non (hb.wide hz)
    | bl x => exact sameD_refl (n + 1) (.bl x) (hb.wide hz)
    | int x => exact sameD_refl (n + 1) (.int x) (hb.wide hz)
    | str x => exact sameD_refl (n + 1) (.str x) (hb.wide hz)
    | _ => exact hb.elim
theorem sfF_val {n : Nat} {rec : D → D → Option D} {as bs : List (Key × D)} : ∀ (ks : List Str) (acc T : List (Key × D)), ks.Nodup → sfF n rec as bs ks acc = some T → ∀ y, (y ∈ ks ∧ sm2 n as bs y = false ∧ isNon (gv bs y) = false ∧ ∃ s, rec (gv as y) (gv bs y) = some s ∧ valD T (.inr y) = some s) ∨ ((y ∉ ks ∨ sm2 n as bs y = true) ∧ valD T (.inr y) = valD acc (.inr y))
  | [], acc, T, _, h, y => by cases h; exact .inr ⟨.inl (by simp), rfl⟩
  | x :: ks, acc, T, nd, h, y => by
    rw [List.nodup_cons] at nd
    have h : (if sm2 n as bs x = true then sfF n rec as bs ks acc else if isNon (gv bs x) = true then none else match rec (gv as x) (gv bs x) with | none => none | some s => sfF n rec as bs ks (putD acc (.inr x) s)) = some T := h
    by_cases hs : sm2 n as bs x = true
    · rw [if_pos hs] at h
      rcases sfF_val ks acc T nd.2 h y with ⟨h1, h2⟩ | ⟨h1, h2⟩
      · exact .inl ⟨List.mem_cons_of_mem _ h1, h2⟩
      · refine .inr ⟨?_, h2⟩
        rcases h1 with h1 | h1
        · by_cases e : y = x
          · rw [e]; exact .inr hs
          · exact .inl fun z => (List.mem_cons.mp z).elim e h1
        · exact .inr h1
    · rw [if_neg hs] at h
      by_cases hn : isNon (gv bs x) = true
      · rw [if_pos hn] at h; cases h
      · rw [if_neg hn] at h
        cases hr : rec (gv as x) (gv bs x) with
        | none => rw [hr] at h; cases h
        | some s =>
          rw [hr] at h
          have ih := sfF_val ks (putD acc (.inr x) s) T nd.2 h y
          by_cases e : y = x
          · subst e
            rcases ih with ⟨h1, _⟩ | ⟨_, h2⟩
            · exact absurd h1 nd.1
            · rw [val_put, if_pos rfl] at h2
              exact .inl ⟨List.mem_cons_self, by cases q : sm2 n as bs y <;> first | rfl | exact absurd q hs, by cases q : isNon (gv bs y) <;> first | rfl | exact absurd q hn, s, hr, h2⟩
          · rcases ih with ⟨h1, h2⟩ | ⟨h1, h2⟩
            · exact .inl ⟨List.mem_cons_of_mem _ h1, h2⟩
            · rw [val_put, if_neg fun z => e (inr_eq.mp z)] at h2
              refine .inr ⟨?_, h2⟩
              rcases h1 with h1 | h1
              · exact .inl fun z => (List.mem_cons.mp z).elim e h1
              · exact .inr h1
theorem sfF_ot {c m n : Nat} {rec : D → D → Option D} {as bs : List (Key × D)} : ∀ (ks : List Str) (acc T : List (Key × D)), (∀ x ∈ ks, isW x = true ∧ ∀ s, rec (gv as x) (gv bs x) = some s → ThB c m s) → OT c m acc → sfF n rec as bs ks acc = some T → OT c m T ∧ T.length ≤ acc.length + ks.length
  | [], acc, T, _, ho, h => by cases h; exact ⟨ho, Nat.le_refl _⟩
  | x :: ks, acc, T, hx, ho, h => by
    have h : (if sm2 n as bs x = true then sfF n rec as bs ks acc else if isNon (gv bs x) = true then none else match rec (gv as x) (gv bs x) with | none => none | some s => sfF n rec as bs ks (putD acc (.inr x) s)) = some T := h
    have hx' : ∀ y ∈ ks, isW y = true ∧ ∀ s, rec (gv as y) (gv bs y) = some s → ThB c m s := fun y hy => hx y (List.mem_cons_of_mem _ hy)
    rw [List.length_cons]
    by_cases hs : sm2 n as bs x = true
    · rw [if_pos hs] at h
      obtain ⟨h1, h2⟩ := sfF_ot ks acc T hx' ho h
      exact ⟨h1, by omega⟩
    · rw [if_neg hs] at h
      by_cases hn : isNon (gv bs x) = true
      · rw [if_pos hn] at h; cases h
      · rw [if_neg hn] at h
        cases hr : rec (gv as x) (gv bs x) with
        | none => rw [hr] at h; cases h
        | some s =>
          rw [hr] at h
          obtain ⟨q1, q2⟩ := hx x List.mem_cons_self
          obtain ⟨h1, h2⟩ := sfF_ot ks (putD acc (.inr x) s) T hx' (ho.put q1 (q2 s hr)) h
          have := putD_length acc (.inr x) s
          exact ⟨h1, by omega⟩
def gF0 (bs : List (Key × D)) : Str → Option D → Option D := fun x o => if x ∈ kS bs then o else some .non
theorem sfF0_val (bs : List (Key × D)) (acc : List (Key × D)) (x y : Str) : valD (sfF0 bs acc x) (.inr y) = if y = x then gF0 bs x (valD acc (.inr x)) else valD acc (.inr y) := by
  unfold sfF0
  by_cases hn : x ∈ kS bs
  · rw [if_pos hn]
    by_cases e : y = x
    · subst e; rw [if_pos rfl]; exact (if_pos hn).symm
    · rw [if_neg e]
  · rw [if_neg hn, val_put]
    by_cases e : y = x
    · rw [if_pos (inr_eq.mpr e), if_pos e]; exact (if_neg hn).symm
    · rw [if_neg fun z => e (inr_eq.mp z), if_neg e]
/-- it makes the one the other -/
theorem sf_ll {c1 c2 : Nat} (hz : c1 + (c1 + c2) ≤ 60) : ∀ (n : Nat) (a b S : D), ThB c1 n a → ThB c2 n b → sf n a b = some S → ThB (c1 + c2) n S ∧ sameD n (ll n a S) b = true ∧ isNon S = isNon b
  | 0, a, b, S, ha, hb, h => by
    cases h
    have e : ll 0 a b = b := by cases b <;> rfl
    exact ⟨hb.wide (by omega), by rw [e]; exact sameD_refl 0 b (hb.wide (by omega)), rfl⟩
  | n + 1, a, b, S, ha, hb, h => by
    have h : (if both a b = true then (sfF n (sf n) (tabOf a) (tabOf b) (kS (tabOf b)) ((kS (tabOf a)).foldl (sfF0 (tabOf b)) [])).map D.tab else if hn (n + 1) b = true then none else some b) = some S := h
    cases hbo : both a b with
    | false =>
      rw [hbo, if_neg (by decide)] at h
      by_cases hh : hn (n + 1) b = true
      · rw [if_pos hh] at h; cases h
      · rw [if_neg hh] at h
        cases h
        refine ⟨hb.wide (by omega), ?_, rfl⟩
        have hh : hn (n + 1) b = false := by cases q : hn (n + 1) b <;> first | rfl | exact absurd q hh
        cases b with
        | tab bs =>
          refine ll_none (c := c2) (by omega) (n + 1) a (.tab bs) ha ?_ hb hh
          cases a <;> first | rfl | cases hbo
        | row xs => exact sameD_refl (n + 1) (.row xs) (hb.wide (by omega))
        | non => exact sameD_refl (n + 1) .non (hb.wide (by omega))
        | bl x => exact sameD_refl (n + 1) (.bl x) (hb.wide (by omega))
        | int x => exact sameD_refl (n + 1) (.int x) (hb.wide (by omega))
        | str x => exact sameD_refl (n + 1) (.str x) (hb.wide (by omega))
        | _ => exact hb.elim
    | true =>
      rw [hbo, if_pos rfl] at h
      cases a with
      | tab as =>
        cases b with
        | tab bs =>
          have oa := OT.of ha
          have ob := OT.of hb
          have h : (sfF n (sf n) as bs (kS bs) ((kS as).foldl (sfF0 bs) [])).map D.tab = some S := h
          cases hT : sfF n (sf n) as bs (kS bs) ((kS as).foldl (sfF0 bs) []) with
          | none => rw [hT] at h; cases h
          | some T =>
            rw [hT] at h
            cases h
            have h0 : OT (c1 + c2) n ((kS as).foldl (sfF0 bs) []) := fold_ot (kS as) [] (fun acc x hx ho => by
              unfold sfF0
              split
              · exact ho
              · exact ho.put (oa.isw hx) (non_th _ _)) OT.nil
            have l0 := fold_len (F := sfF0 bs) (fun acc x => by
              unfold sfF0
              split
              · omega
              · exact putD_length _ _ _) (kS as) []
            obtain ⟨oT, lT⟩ := sfF_ot (c := c1 + c2) (m := n) (kS bs) _ T (fun x hx => ⟨ob.isw hx, fun s hs => (sf_ll hz n _ _ s (gv_th oa x) (ob.kid hx) hs).1⟩) h0 hT
            have hS : ThB (c1 + c2) (n + 1) (.tab T) := oT.tab (by
              have q1 := kS_len as
              have q2 := kS_len bs
              have q3 := ha.1
              have q4 := hb.1
              rw [List.length_nil] at l0
              omega)
            refine ⟨hS, ?_, rfl⟩
            have tv := sfF_val (kS bs) _ T ob.nd hT
            have v0 : ∀ y, valD ((kS as).foldl (sfF0 bs) []) (.inr y) = if y ∈ kS as then (if y ∈ kS bs then none else some .non) else none := fun y => by
              rw [fold_val (sfF0_val bs) y (kS as) [] oa.nd]
              rfl
            have t1 := OT.of (show ThB (c1 + (c1 + c2)) (n + 1) (.tab (tabOf (ll (n + 1) (.tab as) (.tab T)))) from ll_th (Nat.le_refl _) (n + 1) (.tab as) (.tab T) ha hS)
            refine same_tabV (as := tabOf (ll (n + 1) (.tab as) (.tab T))) (bs := bs) t1 ob fun y => ?_
            rw [ll_val ha hS]
            have hT' : ∀ d, valD T (.inr y) = some d → y ∈ kS T ∧ gv T y = d := fun d e => ⟨(val_in oT.tx y).mp (by rw [e]; rfl), by rw [gv_o, e]; rfl⟩
            have hTn : valD T (.inr y) = none → y ∉ kS T := fun e z => by have := (val_in oT.tx y).mpr z; rw [e] at this; cases this
            rcases tv y with ⟨hy, hs, hnn, s, hr, e⟩ | ⟨hy, e⟩
            · obtain ⟨k1, k2⟩ := hT' s e
              obtain ⟨q1, q2, q3⟩ := sf_ll hz n _ _ s (gv_th oa y) (ob.kid hy) hr
              rw [if_pos k1, k2, if_neg (by rw [q3, hnn]; decide), (gv_val ob.tx hy).1]
              exact .inl ⟨_, _, rfl, rfl, q2⟩
            · rw [v0] at e
              by_cases hyb : y ∈ kS bs
              · have hsm := hy.resolve_left fun z => z hyb
                unfold sm2 at hsm
                rw [Bool.and_eq_true, decide_eq_true_eq] at hsm
                rw [if_pos hsm.1, if_pos hyb] at e
                rw [if_neg (hTn e), (gv_val ob.tx hyb).1]
                show (∃ d e, valD as (.inr y) = some d ∧ _) ∨ _
                exact .inl ⟨_, _, (gv_val oa.tx hsm.1).1, rfl, hsm.2⟩
              · by_cases hya : y ∈ kS as
                · rw [if_pos hya, if_neg hyb] at e
                  obtain ⟨k1, k2⟩ := hT' _ e
                  rw [if_pos k1, k2, if_pos (show isNon D.non = true from rfl), val_gv ob.tx, if_neg hyb]
                  exact .inr ⟨rfl, rfl⟩
                · rw [if_neg hya] at e
                  rw [if_neg (hTn e), val_gv ob.tx, if_neg hyb]
                  show (∃ d e, valD as (.inr y) = some d ∧ _) ∨ _
                  exact .inr ⟨by rw [show tabOf (.tab as) = as from rfl, val_gv oa.tx, if_neg hya], rfl⟩
        | _ => cases hbo
      | _ => cases hbo
end Nw
set_option Elab.async false
set_option linter.all false
set_option maxRecDepth 100000
set_option maxHeartbeats 4000000
namespace Nw
open PySem PySem.Spec L2
/-! ### laying, walked -/
theorem keys_tx {kvs : List (Key × D)} (tx : TxK kvs) : keysD (.tab kvs) = some ((kS kvs).map D.str) := by
  show some (kvs.map fun kv => kD kv.1) = _
  congr 1
  unfold kS
  rw [List.map_map]
  refine List.map_congr_left fun p hp => ?_
  obtain ⟨x, ex⟩ := tx p hp
  show kD p.1 = D.str (keyS p.1)
  rw [ex]; rfl
theorem one_arg {S : Type} {op : List D → Option D} {f : Sl → M S D} {r : Sl} {s s' : S} {d x : D} (h : f r s = .ok d s') (hx : op [d] = some x) : dAll op (dCons f dNil) r s = .ok x s' := by
  show bnd (bnd (f r) fun x => bnd (ret []) fun xs => ret (x :: xs)) (fun xs => lift (op xs)) s = _
  rw [bnd_ok (a := [d]) (s' := s') (by rw [bnd_ok h]; rfl), hx]; rfl
theorem k_row : eqD (.str "row") (.str "table") = some (.bl false) ∧ neD (.str "row") (.str "table") = some (.bl true) := ⟨by kernel_rfl, by kernel_rfl⟩
theorem k_tab : eqD (.str "table") (.str "table") = some (.bl true) ∧ neD (.str "table") (.str "table") = some (.bl false) := ⟨by kernel_rfl, by kernel_rfl⟩
/-- what a thing's kind says -/
theorem kind_any (k : Nat) {n : Nat} {d : D} (h : ThD n d) : ∃ w : Str, (den (k + 1)).kind_of [d] () = .ok (.str w) () ∧ ((∃ kvs, d = .tab kvs) ∧ eqD (.str w) (.str "table") = some (.bl true) ∧ neD (.str w) (.str "table") = some (.bl false) ∨ (∀ kvs, d ≠ .tab kvs) ∧ eqD (.str w) (.str "table") = some (.bl false) ∧ neD (.str w) (.str "table") = some (.bl true)) := by
  rcases leaf_or h with hl | ⟨xs, rfl⟩ | ⟨kvs, rfl⟩
  · obtain ⟨w, w1, w2, w3, w4, w5⟩ := kind_leaf k hl
    exact ⟨w, w1, .inr ⟨fun kvs e => by subst e; exact hl.elim, w3, w4⟩⟩
  · exact ⟨_, kind_row k xs, .inr ⟨(fun kvs e => by cases e), k_row⟩⟩
  · exact ⟨_, kind_tab k kvs, .inl ⟨⟨kvs, rfl⟩, k_tab⟩⟩
theorem hn_no {n : Nat} {d : D} (h : ∀ kvs, d ≠ .tab kvs) : hn n d = false := by
  cases n with
  | zero => cases d <;> rfl
  | succ n => cases d <;> first | rfl | exact absurd rfl (h _)
theorem has_none_eq : ∀ (n : Nat) (d : D) (k : Nat), ThD n d → (den (k + n + 2)).has_none [d] () = .ok (.bl (hn n d)) () := by
  have no : ∀ (n : Nat) (d : D) (K : Nat), ThD n d → (∀ kvs, d ≠ .tab kvs) → (den (K + 2)).has_none [d] () = .ok (.bl (hn n d)) () := fun n d K h hk => by
    obtain ⟨w, w1, w2⟩ := kind_any K h
    have w4 := (w2.resolve_left fun ⟨⟨kvs, e⟩, _⟩ => hk kvs e).2.2
    rw [hn_no hk]
    show endK (b_has_none (den (K + 1)) [some d, none] ()) = _
    unfold b_has_none
    exact (congrArg endK (seq_yes (d := .bl false) (by simp only [w1, w4, EV, Nat.reduceAdd, Nat.reduceSub, reduceIte]) (ret1 rfl))).trans rfl
  intro n
  induction n with
  | zero => exact fun d k h => no 0 d k h fun kvs e => by subst e; exact h.elim
  | succ n ih =>
    intro d k h
    rcases leaf_or h with hl | ⟨xs, rfl⟩ | ⟨kvs, rfl⟩
    · exact no (n + 1) d (k + (n + 1)) h fun kvs e => by subst e; exact hl.elim
    · exact no (n + 1) _ (k + (n + 1)) h fun kvs e => by cases e
    · have hk := kind_tab (k + n + 1) kvs
      have k2 := k_tab.2
      show endK (b_has_none (den (k + n + 2)) [some (.tab kvs), none] ()) = _
      have lc : (dLc (fun r => bnd (dVar 0 r) fun x => lift (valsD x)) (tgN 1) dYes (dOr (dUn (isND false) (dVar 1)) (dCall 1 (fun ds => up ((den (k + n + 2)).has_none ds)) (dCons (dVar 1) dNil))) : Sl → M Unit D) [some (.tab kvs), none] () = .ok (.row ((kvs.map fun p => isNon p.2 || hn n p.2).map D.bl)) () := by
        refine (lc1 (xs := kvs.map fun kv => kv.2) (s' := ()) rfl).trans ?_
        rw [lcA_map (fun x => .bl (isNon x || hn n x)) (kvs.map fun kv => kv.2) [] fun x hx => ?_, List.nil_append, List.map_map, List.map_map]
        · rfl
        obtain ⟨p, hp, rfl⟩ := List.mem_map.mp hx
        have e := ih p.2 k (h.2.2 p hp).2
        have i1 := (isN_D p.2).1
        generalize p.2 = y at e i1 ⊢
        show (dOr (dUn (isND false) (dVar 1)) (dCall 1 (fun ds => up ((den (k + n + 2)).has_none ds)) (dCons (dVar 1) dNil)) : Sl → M Unit D) [some (.tab kvs), some y] () = _
        generalize D.tab kvs = tt
        cases hn1 : isNon y with
        | true => rw [hn1] at i1; simp only [i1, EV, Nat.reduceAdd, Nat.reduceSub, reduceIte, Bool.true_or]
        | false => rw [hn1] at i1; simp only [i1, e, EV, Nat.reduceAdd, Nat.reduceSub, reduceIte, Bool.false_or]
      have ab := any_bls (kvs.map fun p => isNon p.2 || hn n p.2)
      rw [List.any_map] at ab
      unfold b_has_none
      refine (congrArg endK ((seq_no ?_).trans (ret1 (d := .bl (hn (n + 1) (.tab kvs))) (s' := ()) (one_arg lc ab)))).trans rfl
      generalize D.tab kvs = tt at hk
      simp only [hk, k2, EV, Nat.reduceAdd, Nat.reduceSub, reduceIte]
/-- the program's laying -/
abbrev plB (dn : Den) : Sl → Mo Unit := (sIf (dTst (dUn (isND false) (dOp ixD (dVar 1) (dVar 3))) isBl) (sOwn1 "dict" 2 popD2 (dVar 3)) (sOwn2 2 setTD (dVar 3) (dCall 2 (fun ds => up (dn.laid ds)) (dCons (dMt "dict" get2D (dVar 2) (dCons (dVar 3) (dCons (dC .non) dNil))) (dCons (dOp ixD (dVar 1) (dVar 3)) dNil)))))
theorem pl_step {dn : Den} {n : Nat} {a : D} {as bs acc : List (Key × D)} {x : Str} (hx : valD bs (.inr x) = some (gv bs x)) (hg : gv acc x = gv as x) (hl : acc.length < 1000) (hr : dn.laid [gv as x, gv bs x] () = .ok (pl n (gv as x) (gv bs x)) ()) (kk : Option D) :
    plB dn [some a, some (.tab bs), some (.tab acc), some (.str x)] () = some (.next [some a, some (.tab bs), some (.tab (plF (pl n) as bs acc x)), some (.str x)], ()) := by
  have i1 : ixD (.tab bs) (.str x) = some (gv bs x) := hx
  have i2 := (isN_D (gv bs x)).1
  have g1 : get2D (.tab acc) [.str x, .non] = some (gv as x) := by rw [← hg]; rfl
  have p1 : popD2 (.tab acc) (.str x) = some (.tab (dropD acc (.inr x))) := rfl
  have s1 : setTD (.tab acc) (.str x) (pl n (gv as x) (gv bs x)) = some (.tab (putD acc (.inr x) (pl n (gv as x) (gv bs x)))) := by
    show (if acc.length < sizeLine then _ else _) = _
    rw [if_pos (by rw [sizeLine_eq]; omega)]
  unfold plF
  generalize gv bs x = y at i1 i2 hr s1 ⊢
  generalize gv as x = o at g1 hr s1 ⊢
  generalize pl n o y = v at hr s1 ⊢
  have o1 : ownIs "dict" (.tab acc) = some () := rfl
  have ty : tyIs "dict" (.tab acc) = some () := rfl
  cases hn1 : isNon y with
  | true =>
    rw [hn1] at i2
    rw [if_pos rfl]
    generalize D.tab (dropD acc (.inr x)) = t2 at p1 ⊢
    generalize D.tab acc = t1 at p1 o1 ⊢
    generalize D.tab bs = tb at i1 ⊢
    refine (sIf_t (s' := ()) (by simp only [i1, i2, EV, Nat.reduceAdd, Nat.reduceSub, reduceIte])).trans ?_
    simp only [sOwn1, optK, getS, liftX, dVar, lift_e, putK2, o1, p1, List.getElem?_cons_zero, List.getElem?_cons_succ, Option.join_some, Option.bind_some, Option.map_some, List.set_cons_zero, List.set_cons_succ]
  | false =>
    rw [hn1] at i2
    rw [if_neg (by decide)]
    generalize D.tab (putD acc (.inr x) v) = t2 at s1 ⊢
    generalize D.tab acc = t1 at g1 s1 o1 ty ⊢
    generalize D.tab bs = tb at i1 ⊢
    refine (sIf_f (s' := ()) (by simp only [i1, i2, EV, Nat.reduceAdd, Nat.reduceSub, reduceIte])).trans ?_
    simp only [i1, g1, hr, s1, dMt, ty, EV, Nat.reduceAdd, Nat.reduceSub, reduceIte]
theorem pl_loop {dn : Den} {n : Nat} {a : D} {as bs : List (Key × D)} (tb : TxK bs) (hr : ∀ x ∈ kS bs, dn.laid [gv as x, gv bs x] () = .ok (pl n (gv as x) (gv bs x)) ()) : ∀ (ks : List Str) (acc : List (Key × D)) (kk : Option D), (∀ x ∈ ks, x ∈ kS bs) → ks.Nodup → (∀ x ∈ ks, valD acc (.inr x) = valD as (.inr x)) → acc.length + ks.length ≤ 900 →
    ∃ kk', forL (tgN 3) (plB dn) (ks.map D.str) [some a, some (.tab bs), some (.tab acc), kk] () = some (.next [some a, some (.tab bs), some (.tab (ks.foldl (plF (pl n) as bs) acc)), kk'], ())
  | [], acc, kk, _, _, _, _ => ⟨kk, rfl⟩
  | x :: ks, acc, kk, hk, nd, hv, hl => by
    rw [List.nodup_cons] at nd
    rw [List.length_cons] at hl
    have hx := hk x List.mem_cons_self
    have st := pl_step (dn := dn) (n := n) (a := a) (as := as) (bs := bs) (acc := acc) (x := x) (gv_val tb hx).1 (by rw [gv_o, gv_o, hv x List.mem_cons_self]) (by omega) (hr x hx) kk
    have len := plF_len (pl n) as bs acc x
    obtain ⟨kk', ih⟩ := pl_loop (a := a) tb hr ks (plF (pl n) as bs acc x) (some (.str x)) (fun y hy => hk y (List.mem_cons_of_mem _ hy)) nd.2 (fun y hy => by
      have ne : y ≠ x := fun e => nd.1 (by rw [← e]; exact hy)
      rw [plF_val, if_neg ne]
      exact hv y (List.mem_cons_of_mem _ hy)) (by omega)
    refine ⟨kk', ?_⟩
    rw [List.map_cons, forL_t]
    show loopK (forL (tgN 3) (plB dn) (ks.map D.str)) (plB dn [some a, some (.tab bs), some (.tab acc), some (.str x)] ()) = _
    rw [st, loopK_n]
    exact ih
theorem pl_leaf {n : Nat} {a b : D} (h : ∀ kvs, b ≠ .tab kvs) : pl n a b = b := by
  cases n with
  | zero => cases b <;> rfl
  | succ n => cases b <;> first | rfl | exact absurd rfl (h _)
theorem laid_eq : ∀ (n : Nat) (a b : D) (k : Nat), ThD n a → ThD n b → (den (k + n + 4)).laid [a, b] () = .ok (pl n a b) () := by
  have no : ∀ (n : Nat) (a b : D) (k : Nat), ThD n b → (∀ kvs, b ≠ .tab kvs) → (den (k + n + 4)).laid [a, b] () = .ok (pl n a b) () := fun n a b k h hk => by
    obtain ⟨w, w1, w2⟩ := kind_any (k + n + 2) h
    have w1 : (den (k + n + 3)).kind_of [b] () = .ok (.str w) () := w1
    have w4 := (w2.resolve_left fun ⟨⟨kvs, e⟩, _⟩ => hk kvs e).2.2
    have cp := copied_eq n b (k + 1) h
    rw [show k + 1 + n + 2 = k + n + 3 by omega] at cp
    rw [pl_leaf hk]
    show endK (b_laid (den (k + n + 3)) [some a, some b, none, none] ()) = _
    unfold b_laid
    exact (congrArg endK (seq_yes (d := b) (by simp only [w1, w4, EV, Nat.reduceAdd, Nat.reduceSub, reduceIte]) (ret1 (by simp only [cp, EV, Nat.reduceAdd, Nat.reduceSub, reduceIte])))).trans rfl
  intro n
  induction n with
  | zero => exact fun a b k ha hb => no 0 a b k hb fun kvs e => by subst e; exact hb.elim
  | succ n ih =>
    intro a b k ha hb
    rcases leaf_or hb with hl | ⟨xs, rfl⟩ | ⟨bs, rfl⟩
    · exact no (n + 1) a b k hb fun kvs e => by subst e; exact hl.elim
    · exact no (n + 1) a _ k hb fun kvs e => by cases e
    · obtain ⟨oa, la⟩ := tabOf_ot (c := 60) ha
      have ob := OT.of (c := 60) hb
      have hk := kind_tab (k + n + 3) bs
      have k2 := k_tab.2
      obtain ⟨w, w1, w2⟩ := kind_any (k + n + 3) ha
      have kl := kS_len bs
      have lb := hb.1
      obtain ⟨kk', lp⟩ := pl_loop (dn := den (k + n + 4)) (n := n) (a := a) (as := tabOf a) ob.tx (fun x hx => ih _ _ k (gv_th oa x) (ob.kid hx)) (kS bs) (tabOf a) none (fun _ h => h) ob.nd (fun _ _ => rfl) (by omega)
      show endK (b_laid (den (k + n + 4)) [some a, some (.tab bs), none, none] ()) = _
      have kx := keys_tx ob.tx
      have s2 : (dIf (dTst (dOp eqD (dCall 1 (fun ds => up ((den (k + n + 4)).kind_of ds)) (dCons (dVar 0) dNil)) (dC (.str "table"))) isBl) (dUn copyTD (dVar 0)) (dC (.tab [])) : Sl → M Unit D) [some a, some (.tab bs), none, none] () = .ok (.tab (tabOf a)) () := by
        rcases w2 with ⟨⟨as, rfl⟩, w3, _⟩ | ⟨hna, w3, _⟩
        · have ct : copyTD (.tab as) = some (.tab as) := rfl
          show (dIf _ _ _ : Sl → M Unit D) [some (.tab as), some (.tab bs), none, none] () = .ok (.tab as) ()
          generalize D.tab as = ta at w1 ct ⊢
          generalize D.tab bs = tb
          simp only [w1, w3, ct, EV, Nat.reduceAdd, Nat.reduceSub, reduceIte]
        · rw [show tabOf a = [] by cases a <;> first | rfl | exact absurd rfl (hna _)]
          generalize D.tab bs = tb
          simp only [w1, w3, EV, Nat.reduceAdd, Nat.reduceSub, reduceIte]
      unfold b_laid
      refine (congrArg endK ((seq_no ?_).trans ((asg_n (d := .tab (tabOf a)) (s' := ()) s2).trans ((for_n (xs := (kS bs).map D.str) (s' := ()) ?_ lp).trans (ret1 (d := .tab ((kS bs).foldl (plF (pl n) (tabOf a) bs) (tabOf a))) (s' := ()) rfl))))).trans rfl
      · generalize D.tab bs = tb at hk
        simp only [hk, k2, EV, Nat.reduceAdd, Nat.reduceSub, reduceIte]
      · generalize D.tab bs = tb at kx
        show bnd (dVar 1 [some a, some tb, some (.tab (tabOf a)), none]) _ () = _
        rw [bnd_ok (var1 rfl), kx]; rfl
end Nw
set_option Elab.async false
set_option linter.all false
set_option maxRecDepth 100000
set_option maxHeartbeats 4000000
namespace Nw
open PySem PySem.Spec L2
/-! ### the law's laying, and whether it can be -/
theorem isd_any {n : Nat} {d : D} (h : ThD n d) : ((∃ kvs, d = .tab kvs) ∧ isiD "dict" d = some (.bl true)) ∨ ((∀ kvs, d ≠ .tab kvs) ∧ tabOf d = [] ∧ isiD "dict" d = some (.bl false)) := by
  rcases leaf_or h with hl | ⟨xs, rfl⟩ | ⟨kvs, rfl⟩
  · refine .inr ⟨fun kvs e => by subst e; exact hl.elim, ?_, (isi_leaf hl).2⟩
    cases d <;> first | rfl | exact hl.elim
  · exact .inr ⟨(fun kvs e => by cases e), rfl, (isi_row xs).2⟩
  · exact .inl ⟨⟨kvs, rfl⟩, (isi_tab kvs).2⟩
abbrev l1B (dn : Den) : Sl → Mo Unit := (sIf (dTst (dOp (inD true) (dVar 3) (dVar 1)) isBl) (sOwn2 2 setTD (dVar 3) (dCall 1 (fun ds => up (dn._law_copy ds)) (dCons (dOp ixD (dVar 0) (dVar 3)) dNil))) sNil)
abbrev l2B (dn : Den) : Sl → Mo Unit := (sIf (dTst (dUn (isND true) (dOp ixD (dVar 1) (dVar 3))) isBl) (sSeq (sAsg (tgN 4) (dIf (tAndD (dTst (dUn (isiD "dict") (dVar 0)) truD) (dTst (dOp (inD false) (dVar 3) (dVar 0)) isBl)) (dOp ixD (dVar 0) (dVar 3)) (dC .non)))
    (sOwn2 2 setTD (dVar 3) (dCall 2 (fun ds => up (dn._law_laid ds)) (dCons (dVar 4) (dCons (dOp ixD (dVar 1) (dVar 3)) dNil))))) sNil)
theorem set_ok {acc : List (Key × D)} (hl : acc.length < 1000) (x : Str) (v : D) : setTD (.tab acc) (.str x) v = some (.tab (putD acc (.inr x) v)) := by
  show (if acc.length < sizeLine then _ else _) = _
  rw [if_pos (by rw [sizeLine_eq]; omega)]
theorem l1_loop {dn : Den} {as bs : List (Key × D)} (ta : TxK as) (tb : TxK bs) (hc : ∀ x ∈ kS as, dn._law_copy [gv as x] () = .ok (gv as x) ()) : ∀ (ks : List Str) (acc : List (Key × D)) (kk : Option D), (∀ x ∈ ks, x ∈ kS as) → acc.length + ks.length ≤ 900 →
    ∃ kk', forL (tgN 3) (l1B dn) (ks.map D.str) [some (.tab as), some (.tab bs), some (.tab acc), kk, none] () = some (.next [some (.tab as), some (.tab bs), some (.tab (ks.foldl (llF1 as bs) acc)), kk', none], ())
  | [], acc, kk, _, _ => ⟨kk, rfl⟩
  | x :: ks, acc, kk, hk, hl => by
    rw [List.length_cons] at hl
    have hx := hk x List.mem_cons_self
    have len := llF1_len as bs acc x
    obtain ⟨kk', ih⟩ := l1_loop ta tb hc ks (llF1 as bs acc x) (some (.str x)) (fun y hy => hk y (List.mem_cons_of_mem _ hy)) (by omega)
    refine ⟨kk', ?_⟩
    rw [List.map_cons, forL_t]
    show loopK (forL (tgN 3) (l1B dn) (ks.map D.str)) (l1B dn [some (.tab as), some (.tab bs), some (.tab acc), some (.str x), none] ()) = _
    have st : l1B dn [some (.tab as), some (.tab bs), some (.tab acc), some (.str x), none] () = some (.next [some (.tab as), some (.tab bs), some (.tab (llF1 as bs acc x)), some (.str x), none], ()) := by
      have i1 : ixD (.tab as) (.str x) = some (gv as x) := (gv_val ta hx).1
      have nt := notin_tab tb x
      have cp := hc x hx
      have s1 := set_ok (acc := acc) (by omega) x (gv as x)
      unfold llF1
      generalize gv as x = v at i1 cp s1 ⊢
      by_cases hb : x ∈ kS bs
      · rw [if_pos hb]
        rw [decide_eq_true hb] at nt
        generalize D.tab bs = tb at nt ⊢
        generalize D.tab as = ta
        exact (sIf_f (s' := ()) (by simp only [nt, EV, Nat.reduceAdd, Nat.reduceSub, reduceIte, Bool.not_true])).trans rfl
      · rw [if_neg hb]
        rw [decide_eq_false hb] at nt
        generalize D.tab (putD acc (.inr x) v) = t2 at s1 ⊢
        generalize D.tab acc = t1 at s1 ⊢
        generalize D.tab bs = tb at nt ⊢
        generalize D.tab as = ta at i1 ⊢
        refine (sIf_t (s' := ()) (by simp only [nt, EV, Nat.reduceAdd, Nat.reduceSub, reduceIte, Bool.not_false])).trans ?_
        simp only [i1, cp, s1, EV, Nat.reduceAdd, Nat.reduceSub, reduceIte]
    rw [st, loopK_n]
    exact ih
theorem l2_loop {dn : Den} {n : Nat} {a : D} {bs : List (Key × D)} {m : Nat} (ha : ThD m a) (oa : TxK (tabOf a)) (tb : TxK bs) (hr : ∀ x ∈ kS bs, dn._law_laid [gv (tabOf a) x, gv bs x] () = .ok (ll n (gv (tabOf a) x) (gv bs x)) ()) : ∀ (ks : List Str) (acc : List (Key × D)) (kk f4 : Option D), (∀ x ∈ ks, x ∈ kS bs) → acc.length + ks.length ≤ 900 →
    ∃ kk' f4', forL (tgN 3) (l2B dn) (ks.map D.str) [some a, some (.tab bs), some (.tab acc), kk, f4] () = some (.next [some a, some (.tab bs), some (.tab (ks.foldl (llF2 (ll n) (tabOf a) bs) acc)), kk', f4'], ())
  | [], acc, kk, f4, _, _ => ⟨kk, f4, rfl⟩
  | x :: ks, acc, kk, f4, hk, hl => by
    rw [List.length_cons] at hl
    have hx := hk x List.mem_cons_self
    have len := llF2_len (ll n) (tabOf a) bs acc x
    have old : (dIf (tAndD (dTst (dUn (isiD "dict") (dVar 0)) truD) (dTst (dOp (inD false) (dVar 3) (dVar 0)) isBl)) (dOp ixD (dVar 0) (dVar 3)) (dC .non) : Sl → M Unit D) [some a, some (.tab bs), some (.tab acc), some (.str x), f4] () = .ok (gv (tabOf a) x) () := by
      rcases isd_any ha with ⟨⟨as, rfl⟩, i1⟩ | ⟨_, e0, i1⟩
      · have it := in_tab oa x
        show (dIf _ _ _ : Sl → M Unit D) [some (.tab as), some (.tab bs), some (.tab acc), some (.str x), f4] () = .ok (gv as x) ()
        have it : inD false (.str x) (.tab as) = some (.bl (decide (x ∈ kS as))) := it
        by_cases hxa : x ∈ kS as
        · have i2 : ixD (.tab as) (.str x) = some (gv as x) := (gv_val oa hxa).1
          rw [decide_eq_true hxa] at it
          generalize gv as x = v at i2 ⊢
          generalize D.tab as = ta at i1 it i2 ⊢
          generalize D.tab bs = tb
          generalize D.tab acc = tc
          simp only [i1, it, i2, EV, Nat.reduceAdd, Nat.reduceSub, reduceIte]
        · rw [decide_eq_false hxa] at it
          have gn : gv as x = .non := gv_none oa hxa
          rw [gn]
          generalize D.tab as = ta at i1 it ⊢
          generalize D.tab bs = tb
          generalize D.tab acc = tc
          simp only [i1, it, EV, Nat.reduceAdd, Nat.reduceSub, reduceIte]
      · rw [e0, show gv [] x = .non from rfl]
        generalize D.tab bs = tb
        generalize D.tab acc = tc
        simp only [i1, EV, Nat.reduceAdd, Nat.reduceSub, reduceIte]
    have st : ∃ f4', l2B dn [some a, some (.tab bs), some (.tab acc), some (.str x), f4] () = some (.next [some a, some (.tab bs), some (.tab (llF2 (ll n) (tabOf a) bs acc x)), some (.str x), f4'], ()) := by
      have i1 : ixD (.tab bs) (.str x) = some (gv bs x) := (gv_val tb hx).1
      have i2 := (isN_D (gv bs x)).2
      have hr := hr x hx
      have s1 := set_ok (acc := acc) (by omega) x (ll n (gv (tabOf a) x) (gv bs x))
      unfold llF2
      generalize gv bs x = y at i1 i2 hr s1 ⊢
      generalize gv (tabOf a) x = o at old hr s1 ⊢
      generalize ll n o y = v at hr s1 ⊢
      cases hn1 : isNon y with
      | true =>
        rw [hn1] at i2
        rw [if_pos rfl]
        generalize D.tab bs = tb at i1 ⊢
        generalize D.tab acc = tc
        exact ⟨f4, (sIf_f (s' := ()) (by simp only [i1, i2, EV, Nat.reduceAdd, Nat.reduceSub, reduceIte, Bool.not_true])).trans rfl⟩
      | false =>
        rw [hn1] at i2
        rw [if_neg (by decide)]
        generalize D.tab (putD acc (.inr x) v) = t2 at s1 ⊢
        generalize D.tab acc = t1 at s1 old ⊢
        generalize D.tab bs = tb at i1 old ⊢
        refine ⟨some o, (sIf_t (s' := ()) (by simp only [i1, i2, EV, Nat.reduceAdd, Nat.reduceSub, reduceIte, Bool.not_false])).trans ((asg_n (d := o) (s' := ()) old).trans ?_)⟩
        show (sOwn2 2 setTD (dVar 3) _ : Sl → Mo Unit) [some a, some tb, some t1, some (.str x), some o] () = _
        simp only [i1, hr, s1, EV, Nat.reduceAdd, Nat.reduceSub, reduceIte]
    obtain ⟨f4', st⟩ := st
    obtain ⟨kk', f5', ih⟩ := l2_loop (a := a) (m := m) ha oa tb hr ks (llF2 (ll n) (tabOf a) bs acc x) (some (.str x)) f4' (fun y hy => hk y (List.mem_cons_of_mem _ hy)) (by omega)
    refine ⟨kk', f5', ?_⟩
    rw [List.map_cons, forL_t]
    show loopK (forL (tgN 3) (l2B dn) (ks.map D.str)) (l2B dn [some a, some (.tab bs), some (.tab acc), some (.str x), f4] ()) = _
    rw [st, loopK_n]
    exact ih
theorem ll_leaf {n : Nat} {a b : D} (h : ∀ kvs, b ≠ .tab kvs) : ll n a b = b := by
  cases n with
  | zero => cases b <;> rfl
  | succ n => cases b <;> first | rfl | exact absurd rfl (h _)
theorem llaid_eq : ∀ (n : Nat) (a b : D) (k : Nat), ThD n a → ThD n b → (den (k + n + 2))._law_laid [a, b] () = .ok (ll n a b) () := by
  have no : ∀ (n : Nat) (a b : D) (k : Nat), ThD n b → (∀ kvs, b ≠ .tab kvs) → (den (k + n + 2))._law_laid [a, b] () = .ok (ll n a b) () := fun n a b k h hk => by
    have i1 := ((isd_any h).resolve_left fun ⟨⟨kvs, e⟩, _⟩ => hk kvs e).2.2
    have cp := copy_eq n b k h
    rw [ll_leaf hk]
    show endK (b__law_laid (den (k + n + 1)) [some a, some b, none, none, none] ()) = _
    unfold b__law_laid
    exact (congrArg endK (seq_yes (d := b) (t_not (a := false) (by simp only [i1, EV, Nat.reduceAdd, Nat.reduceSub, reduceIte])) (ret1 (by simp only [cp, EV, Nat.reduceAdd, Nat.reduceSub, reduceIte])))).trans rfl
  intro n
  induction n with
  | zero => exact fun a b k ha hb => no 0 a b k hb fun kvs e => by subst e; exact hb.elim
  | succ n ih =>
    intro a b k ha hb
    rcases leaf_or hb with hl | ⟨xs, rfl⟩ | ⟨bs, rfl⟩
    · exact no (n + 1) a b k hb fun kvs e => by subst e; exact hl.elim
    · exact no (n + 1) a _ k hb fun kvs e => by cases e
    · obtain ⟨oa, la⟩ := tabOf_ot (c := 60) ha
      have ob := OT.of (c := 60) hb
      have kl := kS_len bs
      have lb := hb.1
      have i0 := (isi_tab bs).2
      have kx := keys_tx ob.tx
      have q1 := fold_len (llF1_len (tabOf a) bs) (kS (tabOf a)) []
      have q2 := kS_len (tabOf a)
      rw [List.length_nil] at q1
      obtain ⟨kk1, p1⟩ : ∃ kk1, (sIf (dTst (dUn (isiD "dict") (dVar 0)) truD) (sFor (fun r => bnd (dVar 0 r) fun x => lift (keysD x)) (tgN 3) (l1B (den (k + n + 2)))) sNil : Sl → Mo Unit) [some a, some (.tab bs), some (.tab []), none, none] () = some (.next [some a, some (.tab bs), some (.tab ((kS (tabOf a)).foldl (llF1 (tabOf a) bs) [])), kk1, none], ()) := by
        rcases isd_any ha with ⟨⟨as, rfl⟩, i1⟩ | ⟨_, e0, i1⟩
        · have oa : OT 60 n as := oa
          obtain ⟨kk, lp⟩ := l1_loop (dn := den (k + n + 2)) oa.tx ob.tx (fun x hx => by
            have := copy_eq n _ (k + 1) (oa.kid hx)
            rw [show k + 1 + n + 1 = k + n + 2 by omega] at this
            exact this) (kS as) [] none (fun _ h => h) (by have := kS_len as; have := ha.1; rw [List.length_nil]; omega)
          have kx := keys_tx oa.tx
          refine ⟨kk, (sIf_t (s' := ()) ?_).trans (for1 (xs := (kS as).map D.str) (s' := ()) ?_ lp)⟩
          · generalize D.tab as = ta at i1
            generalize D.tab bs = tb
            simp only [i1, EV, Nat.reduceAdd, Nat.reduceSub, reduceIte]
          · generalize D.tab as = ta at kx
            show bnd (dVar 0 [some ta, some (.tab bs), some (.tab []), none, none]) _ () = _
            rw [bnd_ok (var1 rfl), kx]; rfl
        · rw [e0]
          refine ⟨none, (sIf_f (s' := ()) ?_).trans rfl⟩
          generalize D.tab bs = tb
          simp only [i1, EV, Nat.reduceAdd, Nat.reduceSub, reduceIte]
      obtain ⟨kk', f4', p2⟩ := l2_loop (dn := den (k + n + 2)) (n := n) (a := a) ha oa.tx ob.tx (fun x hx => ih _ _ k (gv_th oa x) (ob.kid hx)) (kS bs) ((kS (tabOf a)).foldl (llF1 (tabOf a) bs) []) kk1 none (fun _ h => h) (by omega)
      show endK (b__law_laid (den (k + n + 2)) [some a, some (.tab bs), none, none, none] ()) = _
      unfold b__law_laid
      refine (congrArg endK ((seq_no (t_not (a := true) ?_)).trans ((asgO_n (d := .tab []) (s' := ()) rfl rfl).trans ((sSeq_n p1).trans ((for_n (xs := (kS bs).map D.str) (s' := ()) ?_ p2).trans (ret1 (d := .tab ((kS bs).foldl (llF2 (ll n) (tabOf a) bs) ((kS (tabOf a)).foldl (llF1 (tabOf a) bs) []))) (s' := ()) rfl)))))).trans rfl
      · generalize D.tab bs = tb at i0
        simp only [i0, EV, Nat.reduceAdd, Nat.reduceSub, reduceIte]
      · generalize D.tab bs = tb at kx
        show bnd (dVar 1 [some a, some tb, some (.tab ((kS (tabOf a)).foldl (llF1 (tabOf a) bs) [])), kk1, none]) _ () = _
        rw [bnd_ok (var1 rfl), kx]; rfl
/-- whether it can be -/
abbrev cnB (dn : Den) : Sl → Mo Unit := (sSeq (sAsg (tgN 3) (dAnd (dUn (isiD "dict") (dVar 0)) (dOp (inD false) (dVar 2) (dVar 0))))
    (sSeq (sIf (tAndD (dTst (dUn (isND false) (dOp ixD (dVar 1) (dVar 2))) isBl) (tNotD (tAndD (dTst (dVar 3) truD) (dTst (dUn (isND false) (dOp ixD (dVar 0) (dVar 2))) isBl)))) (sRet (dC (.bl false))) sNil)
    (sIf (tAndD (dTst (dUn (isND true) (dOp ixD (dVar 1) (dVar 2))) isBl) (tNotD (dTst (dCall 2 (fun ds => up (dn._law_can ds)) (dCons (dIf (dTst (dVar 3) truD) (dOp ixD (dVar 0) (dVar 2)) (dC .non)) (dCons (dOp ixD (dVar 1) (dVar 2)) dNil))) truD))) (sRet (dC (.bl false))) sNil)))
theorem cn_step {dn : Den} {n m : Nat} {a : D} {bs : List (Key × D)} (ha : ThD m a) (oa : TxK (tabOf a)) (tb : TxK bs) {x : Str} (hx : x ∈ kS bs) (hr : dn._law_can [gv (tabOf a) x, gv bs x] () = .ok (.bl (cn n (gv (tabOf a) x) (gv bs x))) ()) (f3 : Option D) :
    (cnC (cn n) (tabOf a) bs x = true → ∃ f3', cnB dn [some a, some (.tab bs), some (.str x), f3] () = some (.next [some a, some (.tab bs), some (.str x), f3'], ())) ∧ (cnC (cn n) (tabOf a) bs x = false → cnB dn [some a, some (.tab bs), some (.str x), f3] () = some (.rt (.bl false), ())) := by
  have i1 : ixD (.tab bs) (.str x) = some (gv bs x) := (gv_val tb hx).1
  have i2 := isN_D (gv bs x)
  have i3 := (isN_D (gv (tabOf a) x)).1
  -- what stands there
  have od : (dAnd (dUn (isiD "dict") (dVar 0)) (dOp (inD false) (dVar 2) (dVar 0)) : Sl → M Unit D) [some a, some (.tab bs), some (.str x), f3] () = .ok (.bl (decide (x ∈ kS (tabOf a)))) () ∧ (x ∈ kS (tabOf a) → ixD a (.str x) = some (gv (tabOf a) x)) ∧ (x ∉ kS (tabOf a) → gv (tabOf a) x = .non) := by
    rcases isd_any ha with ⟨⟨as, rfl⟩, j1⟩ | ⟨_, e0, j1⟩
    · have it : inD false (.str x) (.tab as) = some (.bl (decide (x ∈ kS as))) := in_tab oa x
      refine ⟨?_, fun h => (gv_val oa h).1, fun h => gv_none oa h⟩
      show (dAnd _ _ : Sl → M Unit D) [some (.tab as), some (.tab bs), some (.str x), f3] () = .ok (.bl (decide (x ∈ kS as))) ()
      generalize decide (x ∈ kS as) = bb at it ⊢
      generalize D.tab as = ta at j1 it ⊢
      generalize D.tab bs = tb
      simp only [j1, it, EV, Nat.reduceAdd, Nat.reduceSub, reduceIte]
    · rw [e0]
      refine ⟨?_, (fun h => by simp [kS] at h), fun _ => rfl⟩
      generalize D.tab bs = tb
      simp only [j1, EV, Nat.reduceAdd, Nat.reduceSub, reduceIte]
      simp [kS]
  obtain ⟨o1, o2, o3⟩ := od
  unfold cnC
  have seq : ∀ K : Sl → Mo Unit, sSeq (sAsg (tgN 3) (dAnd (dUn (isiD "dict") (dVar 0)) (dOp (inD false) (dVar 2) (dVar 0)))) K [some a, some (.tab bs), some (.str x), f3] () = K [some a, some (.tab bs), some (.str x), some (.bl (decide (x ∈ kS (tabOf a))))] () := fun K => asg_n (s' := ()) o1
  generalize gv bs x = y at i1 i2 hr ⊢
  generalize D.tab bs = tb at i1 seq ⊢
  by_cases hxa : x ∈ kS (tabOf a)
  · have i4 := o2 hxa
    rw [decide_eq_true hxa] at seq ⊢
    generalize gv (tabOf a) x = o at i3 i4 hr ⊢
    generalize cn n o y = c at hr ⊢
    cases h1 : isNon y with
    | true =>
      rw [h1] at i2
      have T1 : (tAndD (dTst (dUn (isND false) (dOp ixD (dVar 1) (dVar 2))) isBl) (tNotD (tAndD (dTst (dVar 3) truD) (dTst (dUn (isND false) (dOp ixD (dVar 0) (dVar 2))) isBl))) : Sl → M Unit Bool) [some a, some tb, some (.str x), some (.bl true)] () = .ok (!isNon o) () := by
        refine (t_and (a := true) (b := !isNon o) (by simp only [i1, i2.1, EV, Nat.reduceAdd, Nat.reduceSub, reduceIte]) fun _ => t_not (a := isNon o) ((t_and (a := true) (b := isNon o) (by simp only [EV, Nat.reduceAdd, Nat.reduceSub, reduceIte]) fun _ => by simp only [i4, i3, EV, Nat.reduceAdd, Nat.reduceSub, reduceIte]).trans (by rw [Bool.true_and]))).trans (by rw [Bool.true_and])
      refine ⟨fun hc => ⟨some (.bl true), (seq _).trans ?_⟩, fun hc => (seq _).trans ?_⟩
      · have ho : isNon o = true := by simpa using hc
        rw [ho] at T1
        refine (seq_no T1).trans ((sIf_f (s' := ()) (t_and (a := false) (b := true) ?_ fun z => nomatch z)).trans rfl)
        simp only [i1, i2.2, EV, Nat.reduceAdd, Nat.reduceSub, reduceIte, Bool.not_true]
      · have ho : isNon o = false := by simpa using hc
        rw [ho] at T1
        exact seq_yes (d := .bl false) T1 (ret1 rfl)
    | false =>
      rw [h1] at i2
      have T1 : (tAndD (dTst (dUn (isND false) (dOp ixD (dVar 1) (dVar 2))) isBl) (tNotD (tAndD (dTst (dVar 3) truD) (dTst (dUn (isND false) (dOp ixD (dVar 0) (dVar 2))) isBl))) : Sl → M Unit Bool) [some a, some tb, some (.str x), some (.bl true)] () = .ok false () := t_and (a := false) (b := true) (by simp only [i1, i2.1, EV, Nat.reduceAdd, Nat.reduceSub, reduceIte]) fun z => nomatch z
      have T2 : (tAndD (dTst (dUn (isND true) (dOp ixD (dVar 1) (dVar 2))) isBl) (tNotD (dTst (dCall 2 (fun ds => up (dn._law_can ds)) (dCons (dIf (dTst (dVar 3) truD) (dOp ixD (dVar 0) (dVar 2)) (dC .non)) (dCons (dOp ixD (dVar 1) (dVar 2)) dNil))) truD)) : Sl → M Unit Bool) [some a, some tb, some (.str x), some (.bl true)] () = .ok (!c) () := by
        refine (t_and (a := true) (b := !c) (by simp only [i1, i2.2, EV, Nat.reduceAdd, Nat.reduceSub, reduceIte, Bool.not_false]) fun _ => t_not (a := c) (by simp only [i1, i4, hr, EV, Nat.reduceAdd, Nat.reduceSub, reduceIte])).trans (by rw [Bool.true_and])
      refine ⟨fun hc => ⟨some (.bl true), (seq _).trans ((seq_no T1).trans ?_)⟩, fun hc => (seq _).trans ((seq_no T1).trans ?_)⟩
      · have ho : c = true := by simpa using hc
        rw [ho] at T2
        exact (sIf_f T2).trans rfl
      · have ho : c = false := by simpa using hc
        rw [ho] at T2
        exact (sIf_t T2).trans (ret1 rfl)
  · have i4 := o3 hxa
    rw [decide_eq_false hxa] at seq ⊢
    rw [i4] at hr ⊢
    generalize cn n .non y = c at hr ⊢
    cases h1 : isNon y with
    | true =>
      rw [h1] at i2
      have T1 : (tAndD (dTst (dUn (isND false) (dOp ixD (dVar 1) (dVar 2))) isBl) (tNotD (tAndD (dTst (dVar 3) truD) (dTst (dUn (isND false) (dOp ixD (dVar 0) (dVar 2))) isBl))) : Sl → M Unit Bool) [some a, some tb, some (.str x), some (.bl false)] () = .ok true () := t_and (a := true) (b := true) (by simp only [i1, i2.1, EV, Nat.reduceAdd, Nat.reduceSub, reduceIte]) fun _ => t_not (a := false) (t_and (a := false) (b := true) (by simp only [EV, Nat.reduceAdd, Nat.reduceSub, reduceIte]) fun z => nomatch z)
      exact ⟨(fun hc => by simp at hc), fun hc => (seq _).trans (seq_yes (d := .bl false) T1 (ret1 rfl))⟩
    | false =>
      rw [h1] at i2
      have T1 : (tAndD (dTst (dUn (isND false) (dOp ixD (dVar 1) (dVar 2))) isBl) (tNotD (tAndD (dTst (dVar 3) truD) (dTst (dUn (isND false) (dOp ixD (dVar 0) (dVar 2))) isBl))) : Sl → M Unit Bool) [some a, some tb, some (.str x), some (.bl false)] () = .ok false () := t_and (a := false) (b := true) (by simp only [i1, i2.1, EV, Nat.reduceAdd, Nat.reduceSub, reduceIte]) fun z => nomatch z
      have T2 : (tAndD (dTst (dUn (isND true) (dOp ixD (dVar 1) (dVar 2))) isBl) (tNotD (dTst (dCall 2 (fun ds => up (dn._law_can ds)) (dCons (dIf (dTst (dVar 3) truD) (dOp ixD (dVar 0) (dVar 2)) (dC .non)) (dCons (dOp ixD (dVar 1) (dVar 2)) dNil))) truD)) : Sl → M Unit Bool) [some a, some tb, some (.str x), some (.bl false)] () = .ok (!c) () := by
        refine (t_and (a := true) (b := !c) (by simp only [i1, i2.2, EV, Nat.reduceAdd, Nat.reduceSub, reduceIte, Bool.not_false]) fun _ => t_not (a := c) (by simp only [i1, hr, EV, Nat.reduceAdd, Nat.reduceSub, reduceIte])).trans (by rw [Bool.true_and])
      refine ⟨fun hc => ⟨some (.bl false), (seq _).trans ((seq_no T1).trans ?_)⟩, fun hc => (seq _).trans ((seq_no T1).trans ?_)⟩
      · have ho : c = true := by simpa using hc
        rw [ho] at T2
        exact (sIf_f T2).trans rfl
      · have ho : c = false := by simpa using hc
        rw [ho] at T2
        exact (sIf_t T2).trans (ret1 rfl)
theorem cn_loop {dn : Den} {n m : Nat} {a : D} {bs : List (Key × D)} (ha : ThD m a) (oa : TxK (tabOf a)) (tb : TxK bs) (hr : ∀ x ∈ kS bs, dn._law_can [gv (tabOf a) x, gv bs x] () = .ok (.bl (cn n (gv (tabOf a) x) (gv bs x))) ()) : ∀ (ks : List Str) (f2 f3 : Option D), (∀ x ∈ ks, x ∈ kS bs) →
    (ks.all (cnC (cn n) (tabOf a) bs) = true → ∃ f2' f3', forL (tgN 2) (cnB dn) (ks.map D.str) [some a, some (.tab bs), f2, f3] () = some (.next [some a, some (.tab bs), f2', f3'], ())) ∧ (ks.all (cnC (cn n) (tabOf a) bs) = false → forL (tgN 2) (cnB dn) (ks.map D.str) [some a, some (.tab bs), f2, f3] () = some (.rt (.bl false), ()))
  | [], f2, f3, _ => ⟨fun _ => ⟨f2, f3, rfl⟩, fun h => by cases h⟩
  | x :: ks, f2, f3, hk => by
    obtain ⟨h1, h2⟩ := cn_step (n := n) ha oa tb (hk x List.mem_cons_self) (hr x (hk x List.mem_cons_self)) f3
    have e : forL (tgN 2) (cnB dn) ((x :: ks).map D.str) [some a, some (.tab bs), f2, f3] () = loopK (forL (tgN 2) (cnB dn) (ks.map D.str)) (cnB dn [some a, some (.tab bs), some (.str x), f3] ()) := rfl
    rw [List.all_cons, e]
    cases hc : cnC (cn n) (tabOf a) bs x with
    | false =>
      refine ⟨(fun h => by cases h), fun _ => ?_⟩
      rw [h2 hc]; rfl
    | true =>
      obtain ⟨f3', st⟩ := h1 hc
      rw [st, loopK_n, Bool.true_and]
      exact cn_loop ha oa tb hr ks (some (.str x)) f3' fun y hy => hk y (List.mem_cons_of_mem _ hy)
theorem can_eq : ∀ (n : Nat) (a b : D) (k : Nat), ThD n a → ThD n b → (den (k + n + 1))._law_can [a, b] () = .ok (.bl (cn n a b)) () := by
  have no : ∀ (n : Nat) (a b : D) (K : Nat), ThD n b → (∀ kvs, b ≠ .tab kvs) → (den (K + 1))._law_can [a, b] () = .ok (.bl (cn n a b)) () := fun n a b K h hk => by
    have i1 := ((isd_any h).resolve_left fun ⟨⟨kvs, e⟩, _⟩ => hk kvs e).2.2
    have e : cn n a b = true := by
      cases n with
      | zero => cases b <;> rfl
      | succ n => cases b <;> first | rfl | exact absurd rfl (hk _)
    rw [e]
    show endK (b__law_can (den K) [some a, some b, none, none] ()) = _
    unfold b__law_can
    exact (congrArg endK (seq_yes (d := .bl true) (t_not (a := false) (by simp only [i1, EV, Nat.reduceAdd, Nat.reduceSub, reduceIte])) (ret1 rfl))).trans rfl
  intro n
  induction n with
  | zero => exact fun a b k ha hb => no 0 a b k hb fun kvs e => by subst e; exact hb.elim
  | succ n ih =>
    intro a b k ha hb
    rcases leaf_or hb with hl | ⟨xs, rfl⟩ | ⟨bs, rfl⟩
    · exact no (n + 1) a b (k + (n + 1)) hb fun kvs e => by subst e; exact hl.elim
    · exact no (n + 1) a _ (k + (n + 1)) hb fun kvs e => by cases e
    · obtain ⟨oa, la⟩ := tabOf_ot (c := 60) ha
      have ob := OT.of (c := 60) hb
      have i0 := (isi_tab bs).2
      have kx := keys_tx ob.tx
      obtain ⟨p1, p2⟩ := cn_loop (dn := den (k + n + 1)) (n := n) (a := a) ha oa.tx ob.tx (fun x hx => ih _ _ k (gv_th oa x) (ob.kid hx)) (kS bs) none none fun _ h => h
      have it : (fun r => bnd (dVar 1 r) fun x => lift (keysD x) : Sl → M Unit (List D)) [some a, some (.tab bs), none, none] () = .ok ((kS bs).map D.str) () := by
        generalize D.tab bs = tb at kx
        show bnd (dVar 1 [some a, some tb, none, none]) _ () = _
        rw [bnd_ok (var1 rfl), kx]; rfl
      have hd : ∀ K : Sl → Mo Unit, sSeq (sIf (tNotD (dTst (dUn (isiD "dict") (dVar 1)) truD)) (sRet (dC (.bl true))) sNil) K [some a, some (.tab bs), none, none] () = K [some a, some (.tab bs), none, none] () := fun K => seq_no (t_not (a := true) (by
        generalize D.tab bs = tb at i0
        simp only [i0, EV, Nat.reduceAdd, Nat.reduceSub, reduceIte]))
      show endK (b__law_can (den (k + n + 1)) [some a, some (.tab bs), none, none] ()) = .ok (.bl ((kS bs).all (cnC (cn n) (tabOf a) bs))) ()
      unfold b__law_can
      cases hc : (kS bs).all (cnC (cn n) (tabOf a) bs) with
      | true =>
        obtain ⟨f2, f3, lp⟩ := p1 hc
        exact (congrArg endK ((hd _).trans ((for_n (xs := (kS bs).map D.str) (s' := ()) it lp).trans (ret1 (d := .bl true) (s' := ()) rfl)))).trans rfl
      | false =>
        exact (congrArg endK ((hd _).trans (for_rt (xs := (kS bs).map D.str) (s' := ()) it (p2 hc)))).trans rfl
end Nw
set_option Elab.async false
set_option linter.all false
set_option maxRecDepth 100000
set_option maxHeartbeats 4000000
namespace Nw
open PySem PySem.Spec L2
/-! ### sheets between, walked -/
def optT : Option D → D
  | none => .non
  | some S => .tup [S]
abbrev s1B : Sl → Mo Unit := (sIf (dTst (dOp (inD true) (dVar 3) (dVar 1)) isBl) (sOwn2 2 setTD (dVar 3) (dC .non)) sNil)
abbrev s2B (dn : Den) : Sl → Mo Unit := (sIf (tOrD (dTst (dOp (inD true) (dVar 3) (dVar 0)) isBl) (tNotD (dTst (dCall 2 (fun ds => up (dn.is_same ds)) (dCons (dOp ixD (dVar 0) (dVar 3)) (dCons (dOp ixD (dVar 1) (dVar 3)) dNil))) truD))) (sSeq (sAsg (tgN 4) (dIf (dTst (dUn (isND false) (dOp ixD (dVar 1) (dVar 3))) isBl) (dC .non) (dCall 2 (fun ds => up (dn.sheet_for ds)) (dCons (dMt "dict" get2D (dVar 0) (dCons (dVar 3) (dCons (dC .non) dNil))) (dCons (dOp ixD (dVar 1) (dVar 3)) dNil)))))
    (sSeq (sIf (dTst (dUn (isND false) (dVar 4)) isBl) (sRet (dC .non)) sNil)
    (sOwn2 2 setTD (dVar 3) (dOp ixD (dVar 4) (dC (.int 0)))))) sNil)
theorem s1_loop {as bs : List (Key × D)} (tb : TxK bs) : ∀ (ks : List Str) (acc : List (Key × D)) (kk : Option D), acc.length + ks.length ≤ 900 →
    ∃ kk', forL (tgN 3) s1B (ks.map D.str) [some (.tab as), some (.tab bs), some (.tab acc), kk, none] () = some (.next [some (.tab as), some (.tab bs), some (.tab (ks.foldl (sfF0 bs) acc)), kk', none], ())
  | [], acc, kk, _ => ⟨kk, rfl⟩
  | x :: ks, acc, kk, hl => by
    rw [List.length_cons] at hl
    have len : (sfF0 bs acc x).length ≤ acc.length + 1 := by
      unfold sfF0
      split
      · omega
      · exact putD_length _ _ _
    obtain ⟨kk', ih⟩ := s1_loop (as := as) tb ks (sfF0 bs acc x) (some (.str x)) (by omega)
    refine ⟨kk', ?_⟩
    rw [List.map_cons, forL_t]
    show loopK (forL (tgN 3) s1B (ks.map D.str)) (s1B [some (.tab as), some (.tab bs), some (.tab acc), some (.str x), none] ()) = _
    have st : s1B [some (.tab as), some (.tab bs), some (.tab acc), some (.str x), none] () = some (.next [some (.tab as), some (.tab bs), some (.tab (sfF0 bs acc x)), some (.str x), none], ()) := by
      have nt := notin_tab tb x
      have s1 := set_ok (acc := acc) (by omega) x .non
      unfold sfF0
      by_cases hb : x ∈ kS bs
      · rw [if_pos hb]
        rw [decide_eq_true hb] at nt
        generalize D.tab bs = tb at nt ⊢
        exact (sIf_f (s' := ()) (by simp only [nt, EV, Nat.reduceAdd, Nat.reduceSub, reduceIte, Bool.not_true])).trans rfl
      · rw [if_neg hb]
        rw [decide_eq_false hb] at nt
        generalize D.tab (putD acc (.inr x) .non) = t2 at s1 ⊢
        generalize D.tab acc = t1 at s1 ⊢
        generalize D.tab bs = tb at nt ⊢
        generalize D.tab as = ta
        refine (sIf_t (s' := ()) (by simp only [nt, EV, Nat.reduceAdd, Nat.reduceSub, reduceIte, Bool.not_false])).trans ?_
        simp only [s1, EV, Nat.reduceAdd, Nat.reduceSub, reduceIte]
    rw [st, loopK_n]
    exact ih
theorem s2_loop {dn : Den} {n : Nat} {as bs : List (Key × D)} (ta : TxK as) (tb : TxK bs) (hs : ∀ x ∈ kS as, x ∈ kS bs → dn.is_same [gv as x, gv bs x] () = .ok (.bl (sameD n (gv as x) (gv bs x))) ()) (hr : ∀ x ∈ kS bs, dn.sheet_for [gv as x, gv bs x] () = .ok (optT (sf n (gv as x) (gv bs x))) ()) : ∀ (ks : List Str) (acc : List (Key × D)) (kk f4 : Option D), (∀ x ∈ ks, x ∈ kS bs) → acc.length + ks.length ≤ 900 →
    (∀ T, sfF n (sf n) as bs ks acc = some T → ∃ kk' f4', forL (tgN 3) (s2B dn) (ks.map D.str) [some (.tab as), some (.tab bs), some (.tab acc), kk, f4] () = some (.next [some (.tab as), some (.tab bs), some (.tab T), kk', f4'], ())) ∧
    (sfF n (sf n) as bs ks acc = none → forL (tgN 3) (s2B dn) (ks.map D.str) [some (.tab as), some (.tab bs), some (.tab acc), kk, f4] () = some (.rt .non, ()))
  | [], acc, kk, f4, _, _ => ⟨fun T h => by cases h; exact ⟨kk, f4, rfl⟩, fun h => by cases h⟩
  | x :: ks, acc, kk, f4, hk, hl => by
    rw [List.length_cons] at hl
    have hx := hk x List.mem_cons_self
    have hk' := fun y hy => hk y (List.mem_cons_of_mem x hy)
    have i1 : ixD (.tab bs) (.str x) = some (gv bs x) := (gv_val tb hx).1
    have i2 := (isN_D (gv bs x)).1
    have rr := hr x hx
    have g1 : get2D (.tab as) [.str x, .non] = some (gv as x) := rfl
    have nt := notin_tab ta x
    have e : forL (tgN 3) (s2B dn) ((x :: ks).map D.str) [some (.tab as), some (.tab bs), some (.tab acc), kk, f4] () = loopK (forL (tgN 3) (s2B dn) (ks.map D.str)) (s2B dn [some (.tab as), some (.tab bs), some (.tab acc), some (.str x), f4] ()) := rfl
    have tst : (tOrD (dTst (dOp (inD true) (dVar 3) (dVar 0)) isBl) (tNotD (dTst (dCall 2 (fun ds => up (dn.is_same ds)) (dCons (dOp ixD (dVar 0) (dVar 3)) (dCons (dOp ixD (dVar 1) (dVar 3)) dNil))) truD)) : Sl → M Unit Bool) [some (.tab as), some (.tab bs), some (.tab acc), some (.str x), f4] () = .ok (!sm2 n as bs x) () := by
      unfold sm2
      by_cases hxa : x ∈ kS as
      · have i3 : ixD (.tab as) (.str x) = some (gv as x) := (gv_val ta hxa).1
        have ss := hs x hxa hx
        rw [decide_eq_true hxa] at nt ⊢
        generalize sameD n (gv as x) (gv bs x) = c at ss ⊢
        generalize D.tab as = tta at nt i3 ⊢
        generalize D.tab bs = ttb at i1 ⊢
        generalize D.tab acc = ttc
        exact (t_or (a := false) (b := !c) (by simp only [nt, EV, Nat.reduceAdd, Nat.reduceSub, reduceIte, Bool.not_true]) fun _ => t_not (a := c) (by simp only [i1, i3, ss, EV, Nat.reduceAdd, Nat.reduceSub, reduceIte])).trans (by rw [Bool.false_or, Bool.true_and])
      · rw [decide_eq_false hxa] at nt ⊢
        generalize D.tab as = tta at nt ⊢
        generalize D.tab bs = ttb
        generalize D.tab acc = ttc
        exact t_or (a := true) (b := true) (by simp only [nt, EV, Nat.reduceAdd, Nat.reduceSub, reduceIte, Bool.not_false]) fun z => nomatch z
    rw [e]
    have un : sfF n (sf n) as bs (x :: ks) acc = if sm2 n as bs x = true then sfF n (sf n) as bs ks acc else if isNon (gv bs x) = true then none else match sf n (gv as x) (gv bs x) with | none => none | some s => sfF n (sf n) as bs ks (putD acc (.inr x) s) := rfl
    rw [un]
    cases hsm : sm2 n as bs x with
    | true =>
      rw [hsm] at tst
      have st : s2B dn [some (.tab as), some (.tab bs), some (.tab acc), some (.str x), f4] () = some (.next [some (.tab as), some (.tab bs), some (.tab acc), some (.str x), f4], ()) := (sIf_f tst).trans rfl
      rw [st, loopK_n, if_pos rfl]
      exact s2_loop ta tb hs hr ks acc (some (.str x)) f4 hk' (by omega)
    | false =>
      rw [hsm] at tst
      rw [if_neg (by decide)]
      have lat : (dIf (dTst (dUn (isND false) (dOp ixD (dVar 1) (dVar 3))) isBl) (dC .non) (dCall 2 (fun ds => up (dn.sheet_for ds)) (dCons (dMt "dict" get2D (dVar 0) (dCons (dVar 3) (dCons (dC .non) dNil))) (dCons (dOp ixD (dVar 1) (dVar 3)) dNil))) : Sl → M Unit D) [some (.tab as), some (.tab bs), some (.tab acc), some (.str x), f4] () = .ok (if isNon (gv bs x) = true then .non else optT (sf n (gv as x) (gv bs x))) () := by
        have ty : tyIs "dict" (.tab as) = some () := rfl
        generalize optT (sf n (gv as x) (gv bs x)) = v at rr ⊢
        generalize gv as x = o at g1 rr
        generalize gv bs x = y at i1 i2 rr ⊢
        generalize D.tab as = tta at g1 ty ⊢
        generalize D.tab bs = ttb at i1 ⊢
        generalize D.tab acc = ttc
        cases hn1 : isNon y with
        | true => rw [hn1] at i2; rw [if_pos rfl]; simp only [i1, i2, EV, Nat.reduceAdd, Nat.reduceSub, reduceIte]
        | false => rw [hn1] at i2; rw [if_neg (by decide)]; simp only [i1, i2, g1, rr, dMt, ty, EV, Nat.reduceAdd, Nat.reduceSub, reduceIte]
      by_cases hn1 : isNon (gv bs x) = true
      · rw [if_pos hn1] at lat ⊢
        have nd : isND false .non = some (.bl true) := rfl
        have st : s2B dn [some (.tab as), some (.tab bs), some (.tab acc), some (.str x), f4] () = some (.rt .non, ()) := by
          refine (sIf_t tst).trans ((asg_n (d := .non) (s' := ()) lat).trans (seq_yes (d := .non) ?_ (ret1 rfl)))
          generalize D.tab as = tta
          generalize D.tab bs = ttb
          generalize D.tab acc = ttc
          simp only [nd, EV, Nat.reduceAdd, Nat.reduceSub, reduceIte]
        rw [st]
        exact ⟨fun T h => (by cases h), fun _ => rfl⟩
      · rw [if_neg hn1] at lat ⊢
        cases hsf : sf n (gv as x) (gv bs x) with
        | none =>
          rw [hsf] at lat
          have nd : isND false .non = some (.bl true) := rfl
          have st : s2B dn [some (.tab as), some (.tab bs), some (.tab acc), some (.str x), f4] () = some (.rt .non, ()) := by
            refine (sIf_t tst).trans ((asg_n (d := .non) (s' := ()) lat).trans (seq_yes (d := .non) ?_ (ret1 rfl)))
            generalize D.tab as = tta
            generalize D.tab bs = ttb
            generalize D.tab acc = ttc
            simp only [nd, EV, Nat.reduceAdd, Nat.reduceSub, reduceIte]
          rw [st]
          exact ⟨fun T h => (by cases h), fun _ => rfl⟩
        | some s =>
          rw [hsf] at lat
          have nd : isND false (.tup [s]) = some (.bl false) := rfl
          have y0 : ixD (.tup [s]) (.int 0) = some s := rfl
          have lat : (dIf (dTst (dUn (isND false) (dOp ixD (dVar 1) (dVar 3))) isBl) (dC .non) (dCall 2 (fun ds => up (dn.sheet_for ds)) (dCons (dMt "dict" get2D (dVar 0) (dCons (dVar 3) (dCons (dC .non) dNil))) (dCons (dOp ixD (dVar 1) (dVar 3)) dNil))) : Sl → M Unit D) [some (.tab as), some (.tab bs), some (.tab acc), some (.str x), f4] () = .ok (.tup [s]) () := lat
          have s1 := set_ok (acc := acc) (by omega) x s
          have st : s2B dn [some (.tab as), some (.tab bs), some (.tab acc), some (.str x), f4] () = some (.next [some (.tab as), some (.tab bs), some (.tab (putD acc (.inr x) s)), some (.str x), some (.tup [s])], ()) := by
            refine (sIf_t tst).trans ((asg_n (d := .tup [s]) (s' := ()) lat).trans ?_)
            generalize D.tup [s] = tt at nd y0 ⊢
            generalize D.tab (putD acc (.inr x) s) = t2 at s1 ⊢
            generalize D.tab acc = ttc at s1 ⊢
            generalize D.tab as = tta
            generalize D.tab bs = ttb
            refine (seq_no (by simp only [nd, EV, Nat.reduceAdd, Nat.reduceSub, reduceIte])).trans ?_
            simp only [y0, s1, EV, Nat.reduceAdd, Nat.reduceSub, reduceIte]
          have len := putD_length acc (.inr x) s
          rw [st, loopK_n]
          exact s2_loop ta tb hs hr ks (putD acc (.inr x) s) (some (.str x)) (some (.tup [s])) hk' (by omega)
theorem sheet_for_eq : ∀ (n : Nat) (a b : D) (k : Nat), ThD n a → ThD n b → (den (k + n + 4)).sheet_for [a, b] () = .ok (optT (sf n a b)) () := by
  have no : ∀ (n : Nat) (a b : D) (k : Nat), ThD n a → ThD n b → both a b = false → sf n a b = (if hn n b = true then none else some b) → (den (k + n + 4)).sheet_for [a, b] () = .ok (optT (sf n a b)) () := fun n a b k ha hb hbo es => by
    obtain ⟨w, w1, w2⟩ := kind_any (k + n + 2) hb
    have w1 : (den (k + n + 3)).kind_of [b] () = .ok (.str w) () := w1
    obtain ⟨u, u1, u2⟩ := kind_any (k + n + 2) ha
    have u1 : (den (k + n + 3)).kind_of [a] () = .ok (.str u) () := u1
    have cp := copied_eq n b (k + 1) hb
    rw [show k + 1 + n + 2 = k + n + 3 by omega] at cp
    have hh := has_none_eq n b (k + 1) hb
    rw [show k + 1 + n + 2 = k + n + 3 by omega] at hh
    have tst : (tOrD (dTst (dOp neD (dCall 1 (fun ds => up ((den (k + n + 3)).kind_of ds)) (dCons (dVar 1) dNil)) (dC (.str "table"))) isBl) (dTst (dOp neD (dCall 1 (fun ds => up ((den (k + n + 3)).kind_of ds)) (dCons (dVar 0) dNil)) (dC (.str "table"))) isBl) : Sl → M Unit Bool) [some a, some b, none, none, none] () = .ok true () := by
      rcases w2 with ⟨⟨bs, rfl⟩, _, w4⟩ | ⟨_, _, w4⟩
      · rcases u2 with ⟨⟨as, rfl⟩, _, u4⟩ | ⟨_, _, u4⟩
        · cases hbo
        · generalize D.tab bs = tb at w1 ⊢
          exact t_or (a := false) (b := true) (by simp only [w1, w4, EV, Nat.reduceAdd, Nat.reduceSub, reduceIte]) fun _ => by simp only [u1, u4, EV, Nat.reduceAdd, Nat.reduceSub, reduceIte]
      · exact t_or (a := true) (b := true) (by simp only [w1, w4, EV, Nat.reduceAdd, Nat.reduceSub, reduceIte]) fun z => nomatch z
    show endK (b_sheet_for (den (k + n + 3)) [some a, some b, none, none, none] ()) = _
    rw [es]
    unfold b_sheet_for
    cases hnb : hn n b with
    | true =>
      rw [hnb] at hh
      rw [if_pos rfl]
      exact (congrArg endK (seq_yes (d := .non) tst (ret1 (by simp only [hh, EV, Nat.reduceAdd, Nat.reduceSub, reduceIte])))).trans rfl
    | false =>
      rw [hnb] at hh
      rw [if_neg (by decide)]
      exact (congrArg endK (seq_yes (d := .tup [b]) tst (ret1 (by simp only [hh, cp, z1, EV, Nat.reduceAdd, Nat.reduceSub, reduceIte])))).trans rfl
  intro n
  induction n with
  | zero =>
    intro a b k ha hb
    refine no 0 a b k ha hb ?_ ?_
    · cases a <;> first | rfl | exact ha.elim
    · have : hn 0 b = false := by cases b <;> rfl
      rw [this]; rfl
  | succ n ih =>
    intro a b k ha hb
    have un : sf (n + 1) a b = if both a b = true then (sfF n (sf n) (tabOf a) (tabOf b) (kS (tabOf b)) ((kS (tabOf a)).foldl (sfF0 (tabOf b)) [])).map D.tab else if hn (n + 1) b = true then none else some b := rfl
    cases hbo : both a b with
    | false =>
      refine no (n + 1) a b k ha hb hbo ?_
      rw [un, hbo, if_neg (by decide)]
    | true =>
      rw [un, hbo, if_pos rfl]
      clear un
      cases a with
      | tab as =>
        cases b with
        | tab bs =>
          have oa := OT.of (c := 60) ha
          have ob := OT.of (c := 60) hb
          have la := ha.1
          have lb := hb.1
          have ka := kS_len as
          have kb := kS_len bs
          have k1 := kind_tab (k + n + 3) as
          have k2 := kind_tab (k + n + 3) bs
          have k3 := k_tab.2
          have xa := keys_tx oa.tx
          have xb := keys_tx ob.tx
          have l0 := fold_len (F := sfF0 bs) (fun acc x => by
            unfold sfF0
            split
            · omega
            · exact putD_length _ _ _) (kS as) []
          rw [List.length_nil] at l0
          obtain ⟨kk1, p1⟩ := s1_loop (as := as) ob.tx (kS as) [] none (by rw [List.length_nil]; omega)
          obtain ⟨p2, p3⟩ := s2_loop (dn := den (k + n + 4)) (n := n) oa.tx ob.tx (fun x h1 h2 => by
            have := is_same_eq n _ _ (k + 2) (oa.kid h1) (ob.kid h2)
            rw [show k + 2 + n + 2 = k + n + 4 by omega] at this
            exact this) (fun x h2 => ih _ _ k (gv_th oa x) (ob.kid h2)) (kS bs) ((kS as).foldl (sfF0 bs) []) kk1 none (fun _ h => h) (by omega)
          have pre : ∀ K : Sl → Mo Unit, (sSeq (sIf (tOrD (dTst (dOp neD (dCall 1 (fun ds => up ((den (k + n + 4)).kind_of ds)) (dCons (dVar 1) dNil)) (dC (.str "table"))) isBl) (dTst (dOp neD (dCall 1 (fun ds => up ((den (k + n + 4)).kind_of ds)) (dCons (dVar 0) dNil)) (dC (.str "table"))) isBl)) (sRet (dIf (dTst (dCall 1 (fun ds => up ((den (k + n + 4)).has_none ds)) (dCons (dVar 1) dNil)) truD) (dC .non) (dAll tupD (dCons (dCall 1 (fun ds => up ((den (k + n + 4)).copied ds)) (dCons (dVar 1) dNil)) dNil)))) sNil)
              (sSeq (sAsgO 2 (dC (.tab [])))
              (sSeq (sFor (fun r => bnd (dVar 0 r) fun x => lift (keysD x)) (tgN 3) s1B) K))) [some (.tab as), some (.tab bs), none, none, none] () = K [some (.tab as), some (.tab bs), some (.tab ((kS as).foldl (sfF0 bs) [])), kk1, none] () := fun K => by
            refine (seq_no ?_).trans ((asgO_n (d := .tab []) (s' := ()) rfl rfl).trans (for_n (xs := (kS as).map D.str) (s' := ()) ?_ p1))
            · generalize D.tab as = ta at k1
              generalize D.tab bs = tb at k2
              exact t_or (a := false) (b := false) (by simp only [k2, k3, EV, Nat.reduceAdd, Nat.reduceSub, reduceIte]) fun _ => by simp only [k1, k3, EV, Nat.reduceAdd, Nat.reduceSub, reduceIte]
            · generalize D.tab as = ta at xa
              show bnd (dVar 0 [some ta, some (.tab bs), some (.tab []), none, none]) _ () = _
              rw [bnd_ok (var1 rfl), xa]; rfl
          have it2 : (fun r => bnd (dVar 1 r) fun x => lift (keysD x) : Sl → M Unit (List D)) [some (.tab as), some (.tab bs), some (.tab ((kS as).foldl (sfF0 bs) [])), kk1, none] () = .ok ((kS bs).map D.str) () := by
            generalize D.tab bs = tb at xb ⊢
            show bnd (dVar 1 [some (.tab as), some tb, some (.tab ((kS as).foldl (sfF0 bs) [])), kk1, none]) _ () = _
            rw [bnd_ok (var1 rfl), xb]; rfl
          show endK (b_sheet_for (den (k + n + 4)) [some (.tab as), some (.tab bs), none, none, none] ()) = .ok (optT ((sfF n (sf n) as bs (kS bs) ((kS as).foldl (sfF0 bs) [])).map D.tab)) ()
          unfold b_sheet_for
          cases hT : sfF n (sf n) as bs (kS bs) ((kS as).foldl (sfF0 bs) []) with
          | none => exact (congrArg endK ((pre _).trans (for_rt (xs := (kS bs).map D.str) (s' := ()) it2 (p3 hT)))).trans rfl
          | some T =>
            obtain ⟨kk', f4', lp⟩ := p2 T hT
            exact (congrArg endK ((pre _).trans ((for_n (xs := (kS bs).map D.str) (s' := ()) it2 lp).trans (ret1 (d := .tup [.tab T]) (s' := ()) (by
              generalize D.tab T = tT
              generalize D.tab as = ta
              generalize D.tab bs = tb
              simp only [z1, EV, Nat.reduceAdd, Nat.reduceSub, reduceIte]))))).trans rfl
        | _ => cases hbo
      | _ => cases hbo
end Nw
set_option Elab.async false
set_option linter.all false
set_option maxRecDepth 100000
set_option maxHeartbeats 4000000
namespace Nw
open PySem PySem.Spec L2
/-! ### merged, sheet_between, what is told -/
abbrev xcs : List Cl := [.NestError, .BadThing, .BadText, .BadWay, .NoWay, .NoGo, .Nothing]
theorem dropx {S : Type} {fe : Sl → M S D} {r : Sl} {s s' : S} {x : Xn} (h : fe r s = .exc x s') : sDrop fe r s = some (.thr x r, s') := by
  unfold sDrop liftX; rw [h]
theorem merged_ok (k : Nat) {a b : D} (ha : ThD 12 a) (hb : ThD 12 b) (hp : ThD 12 (pl 12 a b)) : (den (k + 99)).merged [a, b] () = .ok (pl 12 a b) () := by
  have la := look_eq (k + 81) ha (Nat.le_refl _)
  have lb := look_eq (k + 81) hb (Nat.le_refl _)
  have ld := laid_eq 12 a b (k + 82) ha hb
  have cp := copied_eq 12 (pl 12 a b) (k + 84) hp
  rw [show k + 81 + 12 + 5 = k + 98 by omega] at la lb
  rw [show k + 82 + 12 + 4 = k + 98 by omega] at ld
  rw [show k + 84 + 12 + 2 = k + 98 by omega] at cp
  show endK (b_merged (den (k + 98)) [some a, some b] ()) = _
  unfold b_merged
  generalize pl 12 a b = p at ld cp ⊢
  exact (congrArg endK ((drop_n (d := .non) (s' := ()) (by simp only [la, EV, Nat.reduceAdd, Nat.reduceSub, reduceIte])).trans ((drop_n (d := .non) (s' := ()) (by simp only [lb, EV, Nat.reduceAdd, Nat.reduceSub, reduceIte])).trans (ret1 (d := p) (s' := ()) (by simp only [ld, cp, EV, Nat.reduceAdd, Nat.reduceSub, reduceIte]))))).trans rfl
theorem between_ok {a b : D} (ha : ThD 12 a) (hb : ThD 12 b) : (den 99).sheet_between [a, b] () = .ok (optT (sf 12 a b)) () := by
  have la := look_eq 81 ha (Nat.le_refl _)
  have lb := look_eq 81 hb (Nat.le_refl _)
  have ld := sheet_for_eq 12 a b 82 ha hb
  have la : (den 98).look_thing [a] () = .ok .non () := la
  have lb : (den 98).look_thing [b] () = .ok .non () := lb
  have ld : (den 98).sheet_for [a, b] () = .ok (optT (sf 12 a b)) () := ld
  show endK (b_sheet_between (den 98) [some a, some b] ()) = _
  unfold b_sheet_between
  generalize optT (sf 12 a b) = p at ld ⊢
  exact (congrArg endK ((drop_n (d := .non) (s' := ()) (by simp only [la, EV, Nat.reduceAdd, Nat.reduceSub, reduceIte])).trans ((drop_n (d := .non) (s' := ()) (by simp only [lb, EV, Nat.reduceAdd, Nat.reduceSub, reduceIte])).trans (ret1 (d := p) (s' := ()) (by simp only [ld, EV, Nat.reduceAdd, Nat.reduceSub, reduceIte]))))).trans rfl
abbrev bdT : Xn := ⟨.BadThing, []⟩
/-- refused: the one, the other -/
theorem refuse1 {a b : D} (h : (den 98).look_thing [a] () = .exc bdT ()) : (den 99).merged [a, b] () = .exc bdT () ∧ (den 99).sheet_between [a, b] () = .exc bdT () := by
  constructor
  · show endK (b_merged (den 98) [some a, some b] ()) = _
    unfold b_merged
    exact (congrArg endK (drop_x (x := bdT) (s' := ()) (by simp only [h, EV, Nat.reduceAdd, Nat.reduceSub, reduceIte]))).trans rfl
  · show endK (b_sheet_between (den 98) [some a, some b] ()) = _
    unfold b_sheet_between
    exact (congrArg endK (drop_x (x := bdT) (s' := ()) (by simp only [h, EV, Nat.reduceAdd, Nat.reduceSub, reduceIte]))).trans rfl
theorem refuse2 {a b : D} (ha : (den 98).look_thing [a] () = .ok .non ()) (h : (den 98).look_thing [b] () = .exc bdT ()) : (den 99).merged [a, b] () = .exc bdT () ∧ (den 99).sheet_between [a, b] () = .exc bdT () := by
  constructor
  · show endK (b_merged (den 98) [some a, some b] ()) = _
    unfold b_merged
    exact (congrArg endK ((drop_n (d := .non) (s' := ()) (by simp only [ha, EV, Nat.reduceAdd, Nat.reduceSub, reduceIte])).trans (drop_x (x := bdT) (s' := ()) (by simp only [h, EV, Nat.reduceAdd, Nat.reduceSub, reduceIte])))).trans rfl
  · show endK (b_sheet_between (den 98) [some a, some b] ()) = _
    unfold b_sheet_between
    exact (congrArg endK ((drop_n (d := .non) (s' := ()) (by simp only [ha, EV, Nat.reduceAdd, Nat.reduceSub, reduceIte])).trans (drop_x (x := bdT) (s' := ()) (by simp only [h, EV, Nat.reduceAdd, Nat.reduceSub, reduceIte])))).trans rfl
abbrev tlE (dn : Den) : Sl → M Unit D := (dIf (dTst (dOp eqD (dVar 0) (dC (.int 0))) isBl) (dCall 2 (fun ds => up (dn.merged ds)) (dCons (dVar 1) (dCons (dVar 2) dNil))) (dUn scalD (dCall 2 (fun ds => up (dn.sheet_between ds)) (dCons (dVar 1) (dCons (dVar 2) dNil)))))
abbrev tlT (dn : Den) : Sl → Mo Unit := sTryHO xcs .NestError 5 3 [4] (sAsg (tgN 4) (tlE dn))
theorem tl_ok {dn : Den} {w a b r : D} (hc : tlE dn [some w, some a, some b, some .non, some .non, none] () = .ok r ()) : tlT dn [some w, some a, some b, some .non, some .non, none] () = some (.next [some w, some a, some b, some .non, some r, none], ()) := by
  unfold tlT sTryHO
  rw [asg1 (d := r) (s' := ()) hc]; rfl
theorem tl_x {dn : Den} {w a b : D} (hc : tlE dn [some w, some a, some b, some .non, some .non, none] () = .exc bdT ()) : tlT dn [some w, some a, some b, some .non, some .non, none] () = some (.next [some w, some a, some b, some (.exc .BadThing []), some .non, none], ()) := by
  unfold tlT sTryHO
  rw [asg_x (x := bdT) (s' := ()) hc]; rfl
theorem told_ok {w a b r : D} (hc : tlE (den 99) [some w, some a, some b, some .non, some .non, none] () = .ok r ()) : (den 100)._law_told [w, a, b] () = .ok (.row [r]) () := by
  have n1 : isND false .non = some (.bl true) := rfl
  rw [show (den 100)._law_told = fnD 6 (b__law_told (den 99)) from rfl, fnD_e, show startD 6 [w, a, b] = [some w, some a, some b, none, none, none] from rfl]
  unfold b__law_told
  refine (congrArg endK ((asg_n (d := .non) (s' := ()) rfl).trans ((asg_n (d := .non) (s' := ()) rfl).trans ((sSeq_n (tl_ok hc)).trans (sIf_t (s' := ()) (by simp only [n1, EV, Nat.reduceAdd, Nat.reduceSub, reduceIte])))))).trans ?_
  rfl
theorem told_x {w a b : D} (hc : tlE (den 99) [some w, some a, some b, some .non, some .non, none] () = .exc bdT ()) : (den 100)._law_told [w, a, b] () = .ok (.tup [.str "refused", .str "thing"]) () := by
  have n1 : isND false (.exc .BadThing []) = some (.bl false) := rfl
  have hr : (den 99)._law_refusal [.exc .BadThing []] () = .ok (.tup [.str "refused", .str "thing"]) () := by kernel_rfl
  have el : elD (.tup [.str "refused", .str "thing"]) = some (.tup [.str "refused", .str "thing"]) := rfl
  rw [show (den 100)._law_told = fnD 6 (b__law_told (den 99)) from rfl, fnD_e, show startD 6 [w, a, b] = [some w, some a, some b, none, none, none] from rfl]
  unfold b__law_told
  refine (congrArg endK ((asg_n (d := .non) (s' := ()) rfl).trans ((asg_n (d := .non) (s' := ()) rfl).trans ((sSeq_n (tl_x hc)).trans ?_)))).trans (b := endK (some (.rt (.tup [.str "refused", .str "thing"]), ()))) rfl
  generalize D.exc .BadThing [] = xd at n1 hr ⊢
  generalize D.tup [.str "refused", .str "thing"] = tt at hr el ⊢
  exact (sIf_f (s' := ()) (by simp only [n1, EV, Nat.reduceAdd, Nat.reduceSub, reduceIte])).trans (ret1 (by simp only [hr, el, EV, Nat.reduceAdd, Nat.reduceSub, reduceIte]))
theorem tE0 {a b : D} {o : Res Unit D} (h : (den 99).merged [a, b] () = o) (ho : (∃ r, o = .ok r ()) ∨ o = .exc bdT ()) : tlE (den 99) [some (.int 0), some a, some b, some .non, some .non, none] () = o := by
  have q : eqD (.int 0) (.int 0) = some (.bl true) := by kernel_rfl
  rcases ho with ⟨r, rfl⟩ | rfl
  · simp only [q, h, EV, Nat.reduceAdd, Nat.reduceSub, reduceIte]
  · simp only [q, h, EV, Nat.reduceAdd, Nat.reduceSub, reduceIte]
theorem tE1 {a b : D} {o : Option D} (h : (den 99).sheet_between [a, b] () = .ok (optT o) ()) : tlE (den 99) [some (.int 1), some a, some b, some .non, some .non, none] () = .ok (optT o) () := by
  have q : eqD (.int 1) (.int 0) = some (.bl false) := by kernel_rfl
  have s : scalD (optT o) = some (optT o) := by cases o <;> rfl
  generalize optT o = v at h s ⊢
  simp only [q, h, s, EV, Nat.reduceAdd, Nat.reduceSub, reduceIte]
theorem tE1x {a b : D} (h : (den 99).sheet_between [a, b] () = .exc bdT ()) : tlE (den 99) [some (.int 1), some a, some b, some .non, some .non, none] () = .exc bdT () := by
  have q : eqD (.int 1) (.int 0) = some (.bl false) := by kernel_rfl
  simp only [q, h, EV, Nat.reduceAdd, Nat.reduceSub, reduceIte]
/-! ### things drawn -/
def BS : Nat → Nat
  | 0 => 20
  | n + 1 => 30 + 4 * (BS n + 2)
theorem z6 : (6 : Nat) ≤ sizeLine := by decide
abbrev smL (dn : Den) : Sl → M Nat D := dCall 3 dn._law_pick (dCons (dVar 0) (dCons (dVar 1) (dCons (dAll rowD (dCons (dC .non) (dCons (dC .non) (dCons (dC (.int 1)) (dCons (dC (.bl true)) (dCons (dC (.str "x")) (dCons (dCall 2 dn._law_leaf (dCons (dVar 0) (dCons (dVar 1) dNil))) dNil))))))) dNil)))
theorem sm_leaf (ns : List Int) (k s : Nat) (hs : s + 16 ≤ sizeLine) : ∃ d s', (∀ (dp w : D) (f4 f5 f6 : Option D), smL (den (k + 6)) [some (scriptD ns), some (.obj 0), some dp, some w, f4, f5, f6] s = .ok d s') ∧ okL d ∧ s' ≤ s + 14 := by
  obtain ⟨l, s1, e1, hl, q1⟩ := leaf_eq ns k s (by omega)
  obtain ⟨d, hd, e2⟩ := pick_eq ns (k + 2) s1 [.non, .non, .int 1, .bl true, .str "x", l] (by simp) (by omega)
  refine ⟨d, s1 + 1, fun dp w f4 f5 f6 => ?_, ?_, by omega⟩
  · have e2 : (den (k + 6))._law_pick [scriptD ns, .obj 0, .row [.non, .non, .int 1, .bl true, .str "x", l]] s1 = .ok d (s1 + 1) := e2
    generalize scriptD ns = sc at e1 e2 ⊢
    simp only [e1, e2, z6, EV, Nat.reduceAdd, Nat.reduceSub, reduceIte]
  · simp only [List.mem_cons, List.not_mem_nil, or_false] at hd
    rcases hd with rfl | rfl | rfl | rfl | rfl | rfl
    · exact trivial
    · exact trivial
    · show (if (1 : Int) < 0 then -1 else 1) ≤ 999999999999999; decide
    · exact trivial
    · show isW "x" = true; decide +kernel
    · exact hl
abbrev smB (dn : Den) : Sl → Mo Nat := (sIf (dTst (dOp eqD (dCall 3 dn._law_draw (dCons (dVar 0) (dCons (dVar 1) (dCons (dC (.int 2)) dNil)))) (dC (.int 0))) isBl) (sOwn2 4 setTD (dVar 5) (dCall 3 dn._law_some (dCons (dVar 0) (dCons (dVar 1) (dCons (dOp subD (dVar 2) (dC (.int 1))) dNil))))) sNil)
theorem sm_loop (ns : List Int) (k n : Nat) (ih : ∀ s, s + BS n ≤ sizeLine → ∃ d s', (den (k + 6))._law_some [scriptD ns, .obj 0, .int (n : Nat)] s = .ok d s' ∧ ThB 4 n d ∧ s' ≤ s + BS n) : ∀ (ks : List Str) (kvs : List (Key × D)) (kk : Option D) (w : D) (s : Nat), (∀ x ∈ ks, isW x = true) → OT 4 n kvs → kvs.length + ks.length ≤ 100 → s + (BS n + 2) * ks.length ≤ sizeLine →
    ∃ kvs' kk' s', forL (tgN 5) (smB (den (k + 6))) (ks.map D.str) [some (scriptD ns), some (.obj 0), some (.int ((n + 1 : Nat) : Int)), some w, some (.tab kvs), kk, none] s = some (.next [some (scriptD ns), some (.obj 0), some (.int ((n + 1 : Nat) : Int)), some w, some (.tab kvs'), kk', none], s') ∧ OT 4 n kvs' ∧ kvs'.length ≤ kvs.length + ks.length ∧ s' ≤ s + (BS n + 2) * ks.length
  | [], kvs, kk, w, s, _, h1, _, _ => ⟨kvs, kk, s, rfl, h1, by rw [List.length_nil]; omega, by omega⟩
  | x :: ks, kvs, kk, w, s, hk, h1, h2, h3 => by
    have hm : (BS n + 2) * (ks.length + 1) = (BS n + 2) * ks.length + (BS n + 2) := by rw [Nat.mul_add, Nat.mul_one]
    rw [List.length_cons] at h2
    rw [List.length_cons, hm] at h3
    have hk' := fun y hy => hk y (List.mem_cons_of_mem x hy)
    obtain ⟨v, v0, v1, hv⟩ := draw_eq ns (k + 3) s 2 (by decide) (by omega)
    have hv : (den (k + 6))._law_draw [scriptD ns, .obj 0, .int 2] s = .ok (.int v) (s + 1) := hv
    have qv := eqD_int v 0
    have e : forL (tgN 5) (smB (den (k + 6))) ((x :: ks).map D.str) [some (scriptD ns), some (.obj 0), some (.int ((n + 1 : Nat) : Int)), some w, some (.tab kvs), kk, none] s = loopK (forL (tgN 5) (smB (den (k + 6))) (ks.map D.str)) (smB (den (k + 6)) [some (scriptD ns), some (.obj 0), some (.int ((n + 1 : Nat) : Int)), some w, some (.tab kvs), some (.str x), none] s) := rfl
    cases hb : decide (v = 0) with
    | false =>
      rw [hb] at qv
      obtain ⟨kvs', kk', s', f1, f2, f3, f4⟩ := sm_loop ns k n ih ks kvs (some (.str x)) w (s + 1) hk' h1 (by omega) (by omega)
      refine ⟨kvs', kk', s', ?_, f2, by rw [List.length_cons]; omega, by rw [List.length_cons, hm]; omega⟩
      have st : smB (den (k + 6)) [some (scriptD ns), some (.obj 0), some (.int ((n + 1 : Nat) : Int)), some w, some (.tab kvs), some (.str x), none] s = some (.next [some (scriptD ns), some (.obj 0), some (.int ((n + 1 : Nat) : Int)), some w, some (.tab kvs), some (.str x), none], s + 1) := by
        generalize scriptD ns = sc at hv ⊢
        generalize D.int v = dv at hv qv
        exact (sIf_f (s' := s + 1) (by simp only [hv, qv, EV, Nat.reduceAdd, Nat.reduceSub, reduceIte])).trans rfl
      rw [e, st, loopK_n]
      exact f1
    | true =>
      rw [hb] at qv
      obtain ⟨d, s1, e1, e2, e3⟩ := ih (s + 1) (by omega)
      have hsub : subD (.int ((n + 1 : Nat) : Int)) (.int 1) = some (.int (n : Nat)) := by
        show some (D.int _) = _
        congr 2; omega
      have e7 := set_ok (acc := kvs) (by omega) x d
      have e8 := putD_length kvs (.inr x) d
      obtain ⟨kvs', kk', s', f1, f2, f3, f4⟩ := sm_loop ns k n ih ks (putD kvs (.inr x) d) (some (.str x)) w s1 hk' (h1.put (hk x List.mem_cons_self) e2) (by omega) (by omega)
      refine ⟨kvs', kk', s', ?_, f2, by rw [List.length_cons]; omega, by rw [List.length_cons, hm]; omega⟩
      have st : smB (den (k + 6)) [some (scriptD ns), some (.obj 0), some (.int ((n + 1 : Nat) : Int)), some w, some (.tab kvs), some (.str x), none] s = some (.next [some (scriptD ns), some (.obj 0), some (.int ((n + 1 : Nat) : Int)), some w, some (.tab (putD kvs (.inr x) d)), some (.str x), none], s1) := by
        generalize scriptD ns = sc at hv e1 ⊢
        generalize D.int v = dv at hv qv
        generalize D.int (n : Int) = dn1 at hsub e1
        generalize D.int ((n + 1 : Nat) : Int) = dn2 at hsub ⊢
        generalize D.tab (putD kvs (.inr x) d) = t2 at e7 ⊢
        generalize D.tab kvs = t1 at e7 ⊢
        refine (sIf_t (s' := s + 1) (by simp only [hv, qv, EV, Nat.reduceAdd, Nat.reduceSub, reduceIte])).trans ?_
        simp only [hsub, e1, e7, EV, Nat.reduceAdd, Nat.reduceSub, reduceIte]
      rw [e, st, loopK_n]
      exact f1
theorem some_eq (ns : List Int) : ∀ (n k s : Nat), s + BS n ≤ sizeLine → ∃ d s', (den (k + n + 7))._law_some [scriptD ns, .obj 0, .int (n : Nat)] s = .ok d s' ∧ ThB 4 n d ∧ s' ≤ s + BS n
  | 0, k, s, hs => by
    have hs' : s + 20 ≤ sizeLine := hs
    obtain ⟨d, s', h1, h2, h3⟩ := sm_leaf ns k s (by omega)
    refine ⟨d, s', ?_, h2, by show s' ≤ s + 20; omega⟩
    have g1 : gtD (.int ((0 : Nat) : Int)) (.int 0) = some (.bl false) := by kernel_rfl
    have g2 : ltD (.int 0) (.int 2) = some (.bl true) := by kernel_rfl
    rw [show (den (k + 0 + 7))._law_some = fnD 7 (b__law_some (den (k + 6))) from rfl, fnD_e, show startD 7 [scriptD ns, .obj 0, .int ((0 : Nat) : Int)] = [some (scriptD ns), some (.obj 0), some (.int ((0 : Nat) : Int)), none, none, none, none] from rfl]
    have h1 := h1 (.int ((0 : Nat) : Int)) (.int 0) none none none
    unfold b__law_some
    refine (congrArg endK ((asg_n (d := .int 0) (s' := s) (by simp only [g1, EV, Nat.reduceAdd, Nat.reduceSub, reduceIte])).trans (seq_yes2 (d := d) (st1 := s) (st2 := s') ?_ (ret1 h1)))).trans rfl
    show (dTst (dOp ltD (dVar 3) (dC (.int 2))) isBl : Sl → M Nat Bool) [some (scriptD ns), some (.obj 0), some (.int ((0 : Nat) : Int)), some (.int 0), none, none, none] s = _
    simp only [g2, EV, Nat.reduceAdd, Nat.reduceSub, reduceIte]
  | n + 1, k, s, hs => by
    have hB : BS (n + 1) = 30 + 4 * (BS n + 2) := rfl
    rw [hB] at hs ⊢
    rw [show (den (k + (n + 1) + 7))._law_some = fnD 7 (b__law_some (den (k + n + 7))) from rfl, fnD_e, show startD 7 [scriptD ns, .obj 0, .int ((n + 1 : Nat) : Int)] = [some (scriptD ns), some (.obj 0), some (.int ((n + 1 : Nat) : Int)), none, none, none, none] from rfl]
    have g1 : gtD (.int ((n + 1 : Nat) : Int)) (.int 0) = some (.bl true) := by
      rw [gt_e, decide_eq_true (by omega)]
    obtain ⟨v, v0, v1, hv⟩ := draw_eq ns (k + n + 4) s 8 (by decide) (by omega)
    have hv : (den (k + n + 7))._law_draw [scriptD ns, .obj 0, .int 8] s = .ok (.int v) (s + 1) := hv
    have way : ∀ K : Sl → Mo Nat, sSeq (sAsg (tgN 3) (dIf (dTst (dOp gtD (dVar 2) (dC (.int 0))) isBl) (dCall 3 (den (k + n + 7))._law_draw (dCons (dVar 0) (dCons (dVar 1) (dCons (dC (.int 8)) dNil)))) (dC (.int 0)))) K [some (scriptD ns), some (.obj 0), some (.int ((n + 1 : Nat) : Int)), none, none, none, none] s = K [some (scriptD ns), some (.obj 0), some (.int ((n + 1 : Nat) : Int)), some (.int v), none, none, none] (s + 1) := fun K => by
      refine asg_n (d := .int v) (s' := s + 1) ?_
      generalize scriptD ns = sc at hv ⊢
      generalize D.int ((n + 1 : Nat) : Int) = d0 at g1 ⊢
      generalize D.int v = dv at hv ⊢
      simp only [g1, hv, EV, Nat.reduceAdd, Nat.reduceSub, reduceIte]
    have l2 := lt_e v 2
    have q2 := eqD_int v 2
    by_cases h2 : v < 2
    · rw [decide_eq_true h2] at l2
      obtain ⟨d, s', e1, e2, e3⟩ := sm_leaf ns (k + n + 1) (s + 1) (by omega)
      have e1 := e1 (.int ((n + 1 : Nat) : Int)) (.int v) none none none
      refine ⟨d, s', ?_, .leaf e2, by omega⟩
      unfold b__law_some
      refine (congrArg endK ((way _).trans (seq_yes2 (d := d) (st1 := s + 1) (st2 := s') ?_ (ret1 e1)))).trans rfl
      generalize D.int ((n + 1 : Nat) : Int) = d0
      generalize D.int v = dv at l2
      simp only [l2, EV, Nat.reduceAdd, Nat.reduceSub, reduceIte]
    · rw [decide_eq_false h2] at l2
      have no2 : ∀ K : Sl → Mo Nat, ∀ (f : Sl → Mo Nat), sSeq (sIf (dTst (dOp ltD (dVar 3) (dC (.int 2))) isBl) f sNil) K [some (scriptD ns), some (.obj 0), some (.int ((n + 1 : Nat) : Int)), some (.int v), none, none, none] (s + 1) = K [some (scriptD ns), some (.obj 0), some (.int ((n + 1 : Nat) : Int)), some (.int v), none, none, none] (s + 1) := fun K f => seq_no2 (by
        generalize D.int ((n + 1 : Nat) : Int) = d0
        generalize D.int v = dv at l2 ⊢
        simp only [l2, EV, Nat.reduceAdd, Nat.reduceSub, reduceIte])
      by_cases h3 : v = 2
      · rw [decide_eq_true h3] at q2
        obtain ⟨c, c0, c1, hc⟩ := draw_eq ns (k + n + 4) (s + 1) 3 (by decide) (by omega)
        have hc : (den (k + n + 7))._law_draw [scriptD ns, .obj 0, .int 3] (s + 1) = .ok (.int c) (s + 1 + 1) := hc
        have hr := rng_int c0 (show c ≤ 100 by omega)
        have hll : ((List.range c.toNat).map fun (j : Nat) => D.int (j : Int)).length = c.toNat := by rw [List.length_map, List.length_range]
        have hc3 : c.toNat ≤ 2 := by omega
        have hsub : subD (.int ((n + 1 : Nat) : Int)) (.int 1) = some (.int (n : Nat)) := by
          show some (D.int _) = _
          congr 2; omega
        have hmul : BS n * c.toNat ≤ BS n * 2 := Nat.mul_le_mul_left _ hc3
        obtain ⟨ys, s', e1, e2, e3, e4⟩ := lcA_ex (i := 6) (f := dCall 3 (den (k + n + 7))._law_some (dCons (dVar 0) (dCons (dVar 1) (dCons (dOp subD (dVar 2) (dC (.int 1))) dNil)))) (r := [some (scriptD ns), some (.obj 0), some (.int ((n + 1 : Nat) : Int)), some (.int v), none, none, none]) (ThB 4 n) (BS n) sizeLine ((List.range c.toNat).map fun (j : Nat) => D.int (j : Int)) [] (s + 1 + 1)
          (fun x hx s2 hs2 => by
            obtain ⟨d, s3, q1, q2, q3⟩ := some_eq ns n k s2 hs2
            exact ⟨d, s3, by simp only [hsub, q1, EV, Nat.reduceAdd, Nat.reduceSub, reduceIte], q2, q3⟩) (by rw [hll]; omega)
        rw [hll] at e2 e4
        refine ⟨.row ys, s', ?_, ⟨by omega, e3⟩, by omega⟩
        unfold b__law_some
        refine (congrArg endK ((way _).trans ((no2 _ _).trans (seq_yes2 (d := .row ys) (st1 := s + 1) (st2 := s') ?_ (ret1 ((lc1 (s' := s + 1 + 1) ?_).trans e1)))))).trans rfl
        · generalize D.int ((n + 1 : Nat) : Int) = d0
          generalize D.int v = dv at q2
          simp only [q2, EV, Nat.reduceAdd, Nat.reduceSub, reduceIte]
        · generalize scriptD ns = sc at hc ⊢
          generalize D.int ((n + 1 : Nat) : Int) = d0
          generalize D.int v = dv
          generalize D.int c = dc at hc hr
          simp only [hc, hr, EV, Nat.reduceAdd, Nat.reduceSub, reduceIte]
      · rw [decide_eq_false h3] at q2
        obtain ⟨kvs', kk', s', e1, e2, e3, e4⟩ := sm_loop ns (k + n + 1) n (fun s2 hs2 => some_eq ns n k s2 hs2) ["a", "b", "c", ""] [] none (.int v) (s + 1) (by decide +kernel) OT.nil (by decide) (by show s + 1 + (BS n + 2) * 4 ≤ sizeLine; omega)
        have e4 : s' ≤ s + 1 + (BS n + 2) * 4 := e4
        refine ⟨.tab kvs', s', ?_, e2.tab (by have : kvs'.length ≤ 0 + 4 := e3; omega), by omega⟩
        have it : (dItems (dAll rowD (dCons (dC (.str "a")) (dCons (dC (.str "b")) (dCons (dC (.str "c")) (dCons (dC (.str "")) dNil))))) : Sl → M Nat (List D)) [some (scriptD ns), some (.obj 0), some (.int ((n + 1 : Nat) : Int)), some (.int v), some (.tab []), none, none] (s + 1) = .ok ((["a", "b", "c", ""] : List Str).map D.str) (s + 1) := by
          simp only [dItems, z4, EV, Nat.reduceAdd, Nat.reduceSub, reduceIte]
        unfold b__law_some
        refine (congrArg endK ((way _).trans ((no2 _ _).trans ((seq_no2 (st1 := s + 1) ?_).trans ((asgO_n (d := .tab []) (s' := s + 1) rfl rfl).trans ((for_n it e1).trans (ret1 (d := .tab kvs') (s' := s') rfl))))))).trans rfl
        generalize D.int ((n + 1 : Nat) : Int) = d0
        generalize D.int v = dv at q2
        simp only [q2, EV, Nat.reduceAdd, Nat.reduceSub, reduceIte]
end Nw
set_option Elab.async false
set_option linter.all false
set_option maxRecDepth 100000
set_option maxHeartbeats 4000000
namespace Nw
open PySem PySem.Spec L2
/-! ### plain data -/
/-- plain -/
theorem th_pn {b : Nat} : ∀ {n : Nat} {d : D}, ThB b n d → pnD d = true := by
  intro n
  induction n with
  | zero => intro d h; cases d <;> first | rfl | exact h.elim
  | succ n ih =>
    intro d h
    cases d with
    | row xs =>
      have go : ∀ l : List D, (∀ x ∈ l, ThB b n x) → pnL l = true := fun l => by
        induction l with
        | nil => intro _; rfl
        | cons x l ihl =>
          intro hl
          show (pnD x && pnL l) = true
          rw [ih (hl x List.mem_cons_self), ihl fun y hy => hl y (List.mem_cons_of_mem _ hy)]; rfl
      exact go xs h.2
    | tab kvs =>
      have go : ∀ l : List (Key × D), (∀ x ∈ l, ThB b n x.2) → pnK l = true := fun l => by
        induction l with
        | nil => intro _; rfl
        | cons x l ihl =>
          intro hl
          show (pnD x.2 && pnK l) = true
          rw [ih (hl x List.mem_cons_self), ihl fun y hy => hl y (List.mem_cons_of_mem _ hy)]; rfl
      exact go kvs fun x hx => (h.2.2 x hx).2
    | non => rfl
    | bl _ => rfl
    | int _ => rfl
    | str _ => rfl
    | _ => exact h.elim
end Nw
set_option Elab.async false
set_option linter.all false
set_option maxRecDepth 100000
set_option maxHeartbeats 4000000
namespace Nw
open PySem PySem.Spec L2
abbrev lO (d : Den) : Sl → Mo Nat := (sSeq (sAsg (tgN 8) (dCall 3 (fun ds => up (d._law_told ds)) (dCons (dC (.int 1)) (dCons (dVar 2) (dCons (dVar 4) dNil)))))
    (sSeq (sIf (tOrD (tNotD (dTst (dUn (isiD "list") (dVar 8)) truD)) (dTst (dOp eqD (dUn (isND false) (dOp ixD (dVar 8) (dC (.int 0)))) (dCall 2 (fun ds => up (d._law_can ds)) (dCons (dVar 2) (dCons (dVar 4) dNil)))) isBl)) (sRet (dC (.bl false))) sNil)
    (sSeq (sIf (dTst (dUn (isND true) (dOp ixD (dVar 8) (dC (.int 0)))) isBl) (sSeq (sIf (tOrD (tNotD (dTst (dUn (isiD "tuple") (dOp ixD (dVar 8) (dC (.int 0)))) truD)) (dTst (dOp neD (dAll lenD (dCons (dOp ixD (dVar 8) (dC (.int 0))) dNil)) (dC (.int 1))) isBl)) (sRet (dC (.bl false))) sNil)
    (sIf (tNotD (dTst (dCall 2 (fun ds => up (d._law_same ds)) (dCons (dCall 2 (fun ds => up (d._law_laid ds)) (dCons (dVar 2) (dCons (dOp ixD (dOp ixD (dVar 8) (dC (.int 0))) (dC (.int 0))) dNil))) (dCons (dVar 4) dNil))) truD)) (sRet (dC (.bl false))) sNil)) sNil)
    (sSeq (sIf (tNotD (dTst (dCall 2 (fun ds => up (d._law_same ds)) (dCons (dAll rowD (dCons (dVar 2) (dCons (dVar 3) (dCons (dVar 4) dNil)))) (dCons (dVar 5) dNil))) truD)) (sRet (dC (.bl false))) sNil)
    (sSeq (sAsg (tgN 9) (dCall 3 d._law_pick (dCons (dVar 0) (dCons (dVar 1) (dCons (dAll rowD (dCons (dC (.str "\n")) (dCons (dAll dispD (dCons (dOp mulD (dC (.str "x")) (dC (.int 61))) (dCons (dC (.int 1)) dNil))) (dCons (dAll rowD (dCons (dC (.int 1000000000000000)) dNil)) dNil)))) dNil)))))
    (sSeq (sAsg (tgN 10) (dOp addD (dLc (dRange (dCons (dC (.int 2)) dNil)) (tgN 11) dYes (dCall 3 (fun ds => up (d._law_told ds)) (dCons (dVar 11) (dCons (dVar 9) (dCons (dVar 2) dNil))))) (dLc (dRange (dCons (dC (.int 2)) dNil)) (tgN 11) dYes (dCall 3 (fun ds => up (d._law_told ds)) (dCons (dVar 11) (dCons (dVar 2) (dCons (dVar 9) dNil)))))))
    (sRet (dOp eqD (dVar 10) (dOp mulD (dAll rowD (dCons (dAll tupD (dCons (dC (.str "refused")) (dCons (dC (.str "thing")) dNil))) dNil)) (dC (.int 4)))))))))))
abbrev lL (d : Den) : Sl → Mo Nat := (sIf (dTst (dUn (isiD "dict") (dOp ixD (dVar 6) (dC (.int 0)))) truD) (sLateP [0, 1, 2, 3, 4, 5] 6 0 "late" (.int 1)) sNil)
abbrev lZ (d : Den) : Sl → Mo Nat := (sSeq (sAsg (tgN 6) (dCall 3 (fun ds => up (d._law_told ds)) (dCons (dC (.int 0)) (dCons (dVar 2) (dCons (dVar 3) dNil)))))
    (sSeq (sAsg (tgN 7) (dCall 2 (fun ds => up (d._law_laid ds)) (dCons (dVar 2) (dCons (dVar 3) dNil))))
    (sSeq (sIf (tOrD (tNotD (dTst (dUn (isiD "list") (dVar 6)) truD)) (tOrD (tNotD (dTst (dCall 2 (fun ds => up (d._law_same ds)) (dCons (dOp ixD (dVar 6) (dC (.int 0))) (dCons (dVar 7) dNil))) truD)) (tNotD (dTst (dCall 2 (fun ds => up (d._law_same ds)) (dCons (dCall 2 (fun ds => up (d.merged ds)) (dCons (dOp ixD (dVar 6) (dC (.int 0))) (dCons (dVar 3) dNil))) (dCons (dVar 7) dNil))) truD)))) (sRet (dC (.bl false))) sNil)
    (sSeq (lL d) (sOut [0, 1, 2, 3, 4, 5] (lO d))))))
abbrev lR (d : Den) : Sl → Mo Nat := (sSeq (sAsg (tgN 5) (dAll rowD (dCons (dCall 1 (fun ds => up (d._law_copy ds)) (dCons (dVar 2) dNil)) (dCons (dCall 1 (fun ds => up (d._law_copy ds)) (dCons (dVar 3) dNil)) (dCons (dCall 1 (fun ds => up (d._law_copy ds)) (dCons (dVar 4) dNil)) dNil))))) (sZone [6] (lZ d)))
def X61 : Str := Txt.mul "x" 61
abbrev BD3 : List D := [.str "\n", .tab [(.inr X61, .int 1)], .row [.int 1000000000000000]]
theorem bad_look {x : D} (hx : x ∈ BD3) : (den 98).look_thing [x] () = .exc bdT () := by
  simp only [BD3, List.mem_cons, List.not_mem_nil, or_false] at hx
  rcases hx with rfl | rfl | rfl
  · kernel_rfl
  · kernel_rfl
  · kernel_rfl
abbrev rfT : D := .tup [.str "refused", .str "thing"]
theorem told_bad {d bad : D} (hd : ThD 12 d) (hb : bad ∈ BD3) : ∀ w : Nat, w < 2 → (den 100)._law_told [.int (w : Int), bad, d] () = .ok rfT () ∧ (den 100)._law_told [.int (w : Int), d, bad] () = .ok rfT () := by
  have lk := look_eq 81 hd (Nat.le_refl _)
  have lk : (den 98).look_thing [d] () = .ok .non () := lk
  obtain ⟨m1, s1⟩ := refuse1 (b := d) (bad_look hb)
  obtain ⟨m2, s2⟩ := refuse2 lk (bad_look hb)
  intro w hw
  match w, hw with
  | 0, _ => exact ⟨told_x (tE0 m1 (.inr rfl)), told_x (tE0 m2 (.inr rfl))⟩
  | 1, _ => exact ⟨told_x (tE1x s1), told_x (tE1x s2)⟩
theorem out_go {S : Type} {pn : List Nat} {g : Sl → Mo S} {r : Sl} {s s' : S} {d : D} (h : g (keepS pn r) s = some (.rt d, s')) : sOut pn g r s = some (.rt d, s') := by
  unfold sOut; rw [h]; rfl
theorem isN_opt (o : Option D) : isND false (optT o) = some (.bl (!o.isSome)) ∧ isND true (optT o) = some (.bl o.isSome) := by cases o <;> exact ⟨rfl, rfl⟩
theorem out_true (ns : List Int) (s : Nat) {a b o : D} (ha : ThB 4 3 a) (hb : ThB 4 3 b) (ho : ThB 8 3 o) (hs : s + 10 ≤ sizeLine) :
    ∃ s', lO (den 100) [some (scriptD ns), some (.obj 0), some a, some b, some o, some (.row [a, b, o]), none, none, none, none, none, none] s = some (.rt (.bl true), s') := by
  have a12 : ThB 4 12 a := ha.monos (by omega)
  have o12 : ThB 8 12 o := ho.monos (by omega)
  have aD : ThD 12 a := a12.wide (by omega)
  have oD : ThD 12 o := o12.wide (by omega)
  have tb := told_ok (w := .int 1) (a := a) (b := o) (tE1 (between_ok aD oD))
  have cnq := can_eq 12 a o 87 aD oD
  rw [show 87 + 12 + 1 = 100 from rfl] at cnq
  have iso := sf_cn (c1 := 4) (c2 := 8) ⟨by omega, by omega⟩ 12 a o a12 o12
  obtain ⟨in1, in2⟩ := isN_opt (sf 12 a o)
  obtain ⟨il, _⟩ := isi_row [optT (sf 12 a o)]
  have y0 : ixD (.row [optT (sf 12 a o)]) (.int 0) = some (optT (sf 12 a o)) := rfl
  rw [iso] at in1 in2
  have eqb : eqD (.bl (!cn 12 a o)) (.bl (cn 12 a o)) = some (.bl false) := by cases cn 12 a o <;> kernel_rfl
  -- what the sheet makes
  have mk : cn 12 a o = true → ∃ S, optT (sf 12 a o) = .tup [S] ∧ (den 100)._law_laid [a, S] () = .ok (ll 12 a S) () ∧ (den 100)._law_same [ll 12 a S, o] () = .ok (.bl true) () := fun hc => by
    cases hS : sf 12 a o with
    | none => rw [hS] at iso; rw [hc] at iso; cases iso
    | some S =>
      obtain ⟨h1, h2, _⟩ := sf_ll (c1 := 4) (c2 := 8) (by omega) 12 a o S a12 o12 hS
      have h3 := ll_th (c1 := 4) (c2 := 12) (c := 16) (by omega) 12 a S a12 h1
      have e1 := llaid_eq 12 a S 86 aD (h1.wide (by omega))
      rw [show 86 + 12 + 2 = 100 from rfl] at e1
      have e2 := _law_same_eq 12 (ll 12 a S) o 86 (h3.wide (by omega)) oD
      rw [h2, show 86 + 12 + 2 = 100 from rfl] at e2
      exact ⟨S, rfl, e1, e2⟩
  have tup : ∀ S : D, isiD "tuple" (.tup [S]) = some (.bl true) ∧ lenD [.tup [S]] = some (.int 1) ∧ ixD (.tup [S]) (.int 0) = some S := fun S => ⟨by kernel_rfl, rfl, rfl⟩
  have n11 : neD (.int 1) (.int 1) = some (.bl false) := by kernel_rfl
  have g3 : ThD 4 (.row [a, b, o]) := ⟨(show 3 ≤ 60 by omega), fun x hx => by
    simp only [List.mem_cons, List.not_mem_nil, or_false] at hx
    rcases hx with rfl | rfl | rfl
    · exact ha.wide (by omega)
    · exact hb.wide (by omega)
    · exact ho.wide (by omega)⟩
  have sg := _law_same_eq 4 _ _ 94 g3 g3
  rw [sameD_refl 4 _ g3, show 94 + 4 + 2 = 100 from rfl] at sg
  obtain ⟨bad, hbad, p1⟩ := pick_eq ns 96 s BD3 (by simp) (by omega)
  have p1 : (den 100)._law_pick [scriptD ns, .obj 0, .row [.str "\n", .tab [(.inr X61, .int 1)], .row [.int 1000000000000000]]] s = .ok bad (s + 1) := p1
  have m1 : mulD (.str "x") (.int 61) = some (.str X61) := by kernel_rfl
  have ds1 : dispD [.str X61, .int 1] = some (.tab [(.inr X61, .int 1)]) := by kernel_rfl
  have tbd := told_bad aD hbad
  have rg2 : rngD [.int 2] = some [.int 0, .int 1] := rng_int (v := 2) (by omega) (by omega)
  have t0 := tbd 0 (by omega)
  have t1 := tbd 1 (by omega)
  have t0 : (den 100)._law_told [.int 0, bad, a] () = .ok rfT () ∧ (den 100)._law_told [.int 0, a, bad] () = .ok rfT () := t0
  have t1 : (den 100)._law_told [.int 1, bad, a] () = .ok rfT () ∧ (den 100)._law_told [.int 1, a, bad] () = .ok rfT () := t1
  have ad : addD (.row [rfT, rfT]) (.row [rfT, rfT]) = some (.row [rfT, rfT, rfT, rfT]) := by kernel_rfl
  have mu : mulD (.row [rfT]) (.int 4) = some (.row [rfT, rfT, rfT, rfT]) := by kernel_rfl
  have fin : eqD (.row [rfT, rfT, rfT, rfT]) (.row [rfT, rfT, rfT, rfT]) = some (.bl true) := by kernel_rfl
  refine ⟨s + 1, ?_⟩
  generalize scriptD ns = sc at p1 ⊢
  have cr : (dAll rowD (dCons (dVar 2) (dCons (dVar 3) (dCons (dVar 4) dNil))) : Sl → M Nat D) [some sc, some (.obj 0), some a, some b, some o, some (.row [a, b, o]), none, none, some (.row [optT (sf 12 a o)]), none, none, none] s = .ok (.row [a, b, o]) s := by
    simp only [z3, EV, Nat.reduceAdd, Nat.reduceSub, reduceIte]
  generalize D.row [a, b, o] = G at sg cr ⊢
  have mk2 : cn 12 a o = true → ∃ S, optT (sf 12 a o) = .tup [S] ∧ (den 100)._law_laid [a, S] () = .ok (ll 12 a S) () ∧ (den 100)._law_same [ll 12 a S, o] () = .ok (.bl true) () := mk
  clear mk iso
  generalize optT (sf 12 a o) = v at tb in1 in2 il y0 cr mk2
  generalize D.row [v] = R at tb il y0 cr
  generalize cn 12 a o = c at cnq in1 in2 eqb mk2
  refine (asg_n (d := R) (s' := s) (by simp only [tb, EV, Nat.reduceAdd, Nat.reduceSub, reduceIte])).trans ?_
  refine (seq_no (t_or (a := false) (b := false) (t_not (a := true) (by simp only [il, EV, Nat.reduceAdd, Nat.reduceSub, reduceIte])) fun _ => by simp only [y0, in1, cnq, eqb, EV, Nat.reduceAdd, Nat.reduceSub, reduceIte])).trans ?_
  refine (sSeq_n (r' := [some sc, some (.obj 0), some a, some b, some o, some G, none, none, some R, none, none, none]) (s' := s) ?_).trans ?_
  · cases c with
    | false => exact (sIf_f (s' := s) (by simp only [y0, in2, EV, Nat.reduceAdd, Nat.reduceSub, reduceIte])).trans rfl
    | true =>
      obtain ⟨S, rfl, e1, e2⟩ := mk2 rfl
      obtain ⟨h1, h2, h3⟩ := tup S
      refine (sIf_t (s' := s) (by simp only [y0, in2, EV, Nat.reduceAdd, Nat.reduceSub, reduceIte])).trans ?_
      generalize D.tup [S] = ts at y0 h1 h2 h3
      refine (seq_no (t_or (a := false) (b := false) (t_not (a := true) (by simp only [y0, h1, EV, Nat.reduceAdd, Nat.reduceSub, reduceIte])) fun _ => by simp only [y0, h2, n11, EV, Nat.reduceAdd, Nat.reduceSub, reduceIte])).trans ?_
      exact (sIf_f (s' := s) (t_not (a := true) (by simp only [y0, h3, e1, e2, EV, Nat.reduceAdd, Nat.reduceSub, reduceIte]))).trans rfl
  refine (seq_no (t_not (a := true) ?_)).trans ?_
  · show (dTst (dCall 2 (fun ds => up ((den 100)._law_same ds)) (dCons (dAll rowD (dCons (dVar 2) (dCons (dVar 3) (dCons (dVar 4) dNil)))) (dCons (dVar 5) dNil))) truD : Sl → M Nat Bool) [some sc, some (.obj 0), some a, some b, some o, some G, none, none, some R, none, none, none] s = _
    generalize (dAll rowD (dCons (dVar 2) (dCons (dVar 3) (dCons (dVar 4) dNil))) : Sl → M Nat D) = ff at cr ⊢
    simp only [cr, sg, EV, Nat.reduceAdd, Nat.reduceSub, reduceIte]
  refine (asg_n (d := bad) (s' := s + 1) (by simp only [m1, ds1, p1, z1, z3, EV, Nat.reduceAdd, Nat.reduceSub, reduceIte])).trans ?_
  refine (asg_n (d := .row [rfT, rfT, rfT, rfT]) (s' := s + 1) ?_).trans ?_
  · have l1 : (dLc (dRange (dCons (dC (.int 2)) dNil)) (tgN 11) dYes (dCall 3 (fun ds => up ((den 100)._law_told ds)) (dCons (dVar 11) (dCons (dVar 9) (dCons (dVar 2) dNil)))) : Sl → M Nat D) [some sc, some (.obj 0), some a, some b, some o, some G, none, none, some R, some bad, none, none] (s + 1) = .ok (.row [rfT, rfT]) (s + 1) := by
      refine (lc1 (xs := [.int 0, .int 1]) (s' := s + 1) (by simp only [rg2, EV, Nat.reduceAdd, Nat.reduceSub, reduceIte])).trans ?_
      generalize rfT = rf at t0 t1 ⊢
      simp only [lcA, dYes, nox, t0.1, t1.1, EV, Nat.reduceAdd, Nat.reduceSub, reduceIte]
    have l2 : (dLc (dRange (dCons (dC (.int 2)) dNil)) (tgN 11) dYes (dCall 3 (fun ds => up ((den 100)._law_told ds)) (dCons (dVar 11) (dCons (dVar 2) (dCons (dVar 9) dNil)))) : Sl → M Nat D) [some sc, some (.obj 0), some a, some b, some o, some G, none, none, some R, some bad, none, none] (s + 1) = .ok (.row [rfT, rfT]) (s + 1) := by
      refine (lc1 (xs := [.int 0, .int 1]) (s' := s + 1) (by simp only [rg2, EV, Nat.reduceAdd, Nat.reduceSub, reduceIte])).trans ?_
      generalize rfT = rf at t0 t1 ⊢
      simp only [lcA, dYes, nox, t0.2, t1.2, EV, Nat.reduceAdd, Nat.reduceSub, reduceIte]
    show bnd (dLc _ _ _ _ [some sc, some (.obj 0), some a, some b, some o, some G, none, none, some R, some bad, none, none]) _ (s + 1) = _
    rw [bnd_ok l1]
    show bnd (dLc _ _ _ _ [some sc, some (.obj 0), some a, some b, some o, some G, none, none, some R, some bad, none, none]) _ (s + 1) = _
    rw [bnd_ok l2, ad]; rfl
  · have mu : mulD (.row [.tup [.str "refused", .str "thing"]]) (.int 4) = some (.row [rfT, rfT, rfT, rfT]) := mu
    refine ret1 (d := .bl true) (s' := s + 1) ?_
    show (dOp eqD (dVar 10) _ : Sl → M Nat D) [some sc, some (.obj 0), some a, some b, some o, some G, none, none, some R, some bad, some (.row [rfT, rfT, rfT, rfT]), none] (s + 1) = _
    generalize D.row [rfT, rfT, rfT, rfT] = r4 at mu fin ⊢
    simp only [mu, fin, z1, z2, EV, Nat.reduceAdd, Nat.reduceSub, reduceIte]
abbrev zSl (sc a b o G F : D) (u : Option D) : Sl := [some sc, some (.obj 0), some a, some b, some o, some G, some F, u, none, none, none, none]
theorem late_go (dn : Den) (sc a b o G L : D) {P : D} (s : Nat) (hp : ThD 12 P) (K : Sl → Mo Nat) : ∃ F u, (sSeq (lL dn) K) (zSl sc a b o G (.row [P]) (some L)) s = K (zSl sc a b o G F u) s := by
  have y0 : ixD (.row [P]) (.int 0) = some P := rfl
  rcases isd_any hp with ⟨⟨kvs, rfl⟩, i1⟩ | ⟨_, _, i1⟩
  · refine ⟨.row [.tab (putD kvs (.inr "late") (.int 1))], none, sSeq_n ?_⟩
    have la : lateAt (zSl sc a b o G (.row [.tab kvs]) (some L)) 6 0 = some (.tab kvs) := by
      show (if pnL [.tab kvs] = true ∧ lone 0 [.tab kvs] = true then some (D.tab kvs) else none) = _
      rw [if_pos ⟨by show (pnD (.tab kvs) && true) = true; rw [th_pn hp]; rfl, rfl⟩]
    have ls : lateS [0, 1, 2, 3, 4, 5] 6 0 (zSl sc a b o G (.row [.tab kvs]) (some L)) (.tab (putD kvs (.inr "late") (.int 1))) = zSl sc a b o G (.row [.tab (putD kvs (.inr "late") (.int 1))]) none := by rfl
    refine (sIf_t (s' := s) ?_).trans ?_
    · show (dTst (dUn (isiD "dict") (dOp ixD (dVar 6) (dC (.int 0)))) truD : Sl → M Nat Bool) (zSl sc a b o G (.row [.tab kvs]) (some L)) s = _
      generalize D.row [.tab kvs] = tt at y0
      generalize D.tab kvs = rx at y0 i1
      simp only [y0, i1, EV, Nat.reduceAdd, Nat.reduceSub, reduceIte]
    · show (match lateAt (zSl sc a b o G (.row [.tab kvs]) (some L)) 6 0 with | some (.tab kvs') => if kvs'.length < sizeLine then some (Flw.next (lateS [0, 1, 2, 3, 4, 5] 6 0 (zSl sc a b o G (.row [.tab kvs]) (some L)) (.tab (putD kvs' (.inr "late") (.int 1)))), s) else none | _ => none) = _
      rw [la]
      show (if kvs.length < sizeLine then some (Flw.next (lateS [0, 1, 2, 3, 4, 5] 6 0 (zSl sc a b o G (.row [.tab kvs]) (some L)) (.tab (putD kvs (.inr "late") (.int 1)))), s) else none) = _
      rw [if_pos (by rw [sizeLine_eq]; have := hp.1; omega), ls]
  · refine ⟨.row [P], some L, sSeq_n ((sIf_f (s' := s) ?_).trans rfl)⟩
    generalize D.row [P] = tt at y0
    show (dTst (dUn (isiD "dict") (dOp ixD (dVar 6) (dC (.int 0)))) truD : Sl → M Nat Bool) (zSl sc a b o G tt (some L)) s = _
    simp only [y0, i1, EV, Nat.reduceAdd, Nat.reduceSub, reduceIte]
theorem rest_true (ns : List Int) (s : Nat) {a b o : D} (ha : ThB 4 3 a) (hb : ThB 4 3 b) (ho : ThB 8 3 o) (hs : s + 10 ≤ sizeLine) :
    ∃ s', lR (den 100) [some (scriptD ns), some (.obj 0), some a, some b, some o, none, none, none, none, none, none, none] s = some (.rt (.bl true), s') := by
  have a12 : ThB 4 12 a := ha.monos (by omega)
  have b12 : ThB 4 12 b := hb.monos (by omega)
  have aD : ThD 12 a := a12.wide (by omega)
  have bD : ThD 12 b := b12.wide (by omega)
  have oD : ThD 12 o := (ho.monos (by omega)).wide (by omega)
  have ca := copy_eq 12 a 87 aD
  have cb := copy_eq 12 b 87 bD
  have co := copy_eq 12 o 87 oD
  rw [show 87 + 12 + 1 = 100 from rfl] at ca cb co
  have pB := pl_th (c1 := 4) (c2 := 4) (c := 8) (by omega) 12 a b a12 b12
  have lB := ll_th (c1 := 4) (c2 := 4) (c := 8) (by omega) 12 a b a12 b12
  have ppB := pl_th (c1 := 8) (c2 := 4) (c := 12) (by omega) 12 _ b pB b12
  have pD : ThD 12 (pl 12 a b) := pB.wide (by omega)
  have lD : ThD 12 (ll 12 a b) := lB.wide (by omega)
  have td := told_ok (w := .int 0) (a := a) (b := b) (tE0 (merged_ok 0 aD bD pD) (.inl ⟨_, rfl⟩))
  have ld := llaid_eq 12 a b 86 aD bD
  rw [show 86 + 12 + 2 = 100 from rfl] at ld
  have s1 := _law_same_eq 12 _ _ 86 pD lD
  rw [pl_ll (c1 := 4) (c2 := 4) (by omega) 12 a b a12 b12, show 86 + 12 + 2 = 100 from rfl] at s1
  have m2 := merged_ok 1 pD bD (ppB.wide (by omega))
  rw [show 1 + 99 = 100 from rfl] at m2
  have s2 := _law_same_eq 12 _ _ 86 (show ThD 12 (pl 12 (pl 12 a b) b) from ppB.wide (by omega)) lD
  rw [pl_pl (c1 := 4) (c2 := 4) (by omega) 12 a b a12 b12, show 86 + 12 + 2 = 100 from rfl] at s2
  obtain ⟨il, _⟩ := isi_row [pl 12 a b]
  have y0 : ixD (.row [pl 12 a b]) (.int 0) = some (pl 12 a b) := rfl
  obtain ⟨F, u, lt⟩ := late_go (den 100) (scriptD ns) a b o (.row [a, b, o]) (ll 12 a b) s pD (sOut [0, 1, 2, 3, 4, 5] (lO (den 100)))
  obtain ⟨s3, ot⟩ := out_true ns s ha hb ho hs
  refine ⟨s3, ?_⟩
  refine (asg_n (d := .row [a, b, o]) (s' := s) (by simp only [ca, cb, co, z3, EV, Nat.reduceAdd, Nat.reduceSub, reduceIte])).trans ?_
  show (if ([6] : List Nat).all (fun i => (getS [some (scriptD ns), some (.obj 0), some a, some b, some o, some (.row [a, b, o]), none, none, none, none, none, none] i).isNone) = true then lZ (den 100) [some (scriptD ns), some (.obj 0), some a, some b, some o, some (.row [a, b, o]), none, none, none, none, none, none] s else none) = _
  refine (if_pos (by rfl)).trans ?_
  refine (asg_n (d := .row [pl 12 a b]) (s' := s) (by
    generalize D.row [a, b, o] = G
    generalize D.row [pl 12 a b] = R at td ⊢
    simp only [td, EV, Nat.reduceAdd, Nat.reduceSub, reduceIte])).trans ?_
  refine (asg_n (d := ll 12 a b) (s' := s) (by
    generalize D.row [a, b, o] = G
    generalize D.row [pl 12 a b] = R
    generalize ll 12 a b = L at ld ⊢
    simp only [ld, EV, Nat.reduceAdd, Nat.reduceSub, reduceIte])).trans ?_
  refine (seq_no ?_).trans ?_
  · generalize D.row [a, b, o] = G
    generalize D.row [pl 12 a b] = R at il y0
    generalize pl 12 (pl 12 a b) b = PP at m2 s2
    generalize pl 12 a b = P at y0 s1 m2
    generalize ll 12 a b = L at s1 s2
    show (tOrD _ _ : Sl → M Nat Bool) [some (scriptD ns), some (.obj 0), some a, some b, some o, some G, some R, some L, none, none, none, none] s = _
    exact t_or (a := false) (b := false) (t_not (a := true) (by simp only [il, EV, Nat.reduceAdd, Nat.reduceSub, reduceIte])) fun _ => t_or (a := false) (b := false) (t_not (a := true) (by simp only [y0, s1, EV, Nat.reduceAdd, Nat.reduceSub, reduceIte])) fun _ => t_not (a := true) (by simp only [y0, m2, s2, EV, Nat.reduceAdd, Nat.reduceSub, reduceIte])
  · refine lt.trans (out_go ?_)
    have ks : keepS [0, 1, 2, 3, 4, 5] (zSl (scriptD ns) a b o (.row [a, b, o]) F u) = [some (scriptD ns), some (.obj 0), some a, some b, some o, some (.row [a, b, o]), none, none, none, none, none, none] := by rfl
    rw [ks]
    exact ot
theorem law_true (ns : List Int) (hns : ns.length ≤ 63) : ∃ s', b_law (den 100) (lawSl n_law.length ns) 0 = some (.rt (.bl true), s') := by
  have hB : BS 3 ≤ 5000 := by decide
  have big : 60000 ≤ sizeLine := by rw [sizeLine_eq]; decide
  obtain ⟨a, s1, e1, ta, b1⟩ := some_eq ns 3 90 0 (by omega)
  have e1 : (den 100)._law_some [scriptD ns, .obj 0, .int 3] 0 = .ok a s1 := e1
  obtain ⟨b, s2, e2, tb, b2⟩ := some_eq ns 3 90 s1 (by omega)
  have e2 : (den 100)._law_some [scriptD ns, .obj 0, .int 3] s1 = .ok b s2 := e2
  obtain ⟨o, s3, e3, to, b3⟩ := some_eq ns 3 90 s2 (by omega)
  have e3 : (den 100)._law_some [scriptD ns, .obj 0, .int 3] s2 = .ok o s3 := e3
  obtain ⟨v, v0, v1, dr⟩ := draw_eq ns 97 s3 2 (by omega) (by omega)
  have dr : (den 100)._law_draw [scriptD ns, .obj 0, .int 2] s3 = .ok (.int v) (s3 + 1) := dr
  have qv := eqD_int v 0
  have aD : ThD 3 a := ta.wide (by omega)
  have oD : ThD 3 o := to.wide (by omega)
  have lo := ll_th (c1 := 4) (c2 := 4) (c := 8) (by omega) 3 a o ta to
  have ld := llaid_eq 3 a o 95 aD oD
  rw [show 95 + 3 + 2 = 100 from rfl] at ld
  obtain ⟨s4, r4⟩ := rest_true ns (s3 + 1) ta tb lo (by omega)
  obtain ⟨s5, r5⟩ := rest_true ns (s3 + 1) ta tb (show ThB 8 3 o from to.wide (by omega)) (by omega)
  have pre : ∀ K : Sl → Mo Nat, (sSeq (sAsg (tgN 2) (dCall 3 (den 100)._law_some (dCons (dVar 0) (dCons (dVar 1) (dCons (dC (.int 3)) dNil))))) (sSeq (sAsg (tgN 3) (dCall 3 (den 100)._law_some (dCons (dVar 0) (dCons (dVar 1) (dCons (dC (.int 3)) dNil))))) (sSeq (sAsg (tgN 4) (dCall 3 (den 100)._law_some (dCons (dVar 0) (dCons (dVar 1) (dCons (dC (.int 3)) dNil))))) K))) [some (scriptD ns), some (.obj 0), none, none, none, none, none, none, none, none, none, none] 0 = K [some (scriptD ns), some (.obj 0), some a, some b, some o, none, none, none, none, none, none, none] s3 := fun K => by
    generalize scriptD ns = sc at e1 e2 e3 ⊢
    refine (asg_n (d := a) (s' := s1) (by simp only [e1, EV, Nat.reduceAdd, Nat.reduceSub, reduceIte])).trans ?_
    refine (asg_n (d := b) (s' := s2) (by simp only [e2, EV, Nat.reduceAdd, Nat.reduceSub, reduceIte])).trans ?_
    exact asg_n (d := o) (s' := s3) (by simp only [e3, EV, Nat.reduceAdd, Nat.reduceSub, reduceIte])
  cases hv : decide (v = 0) with
  | true =>
    rw [hv] at qv
    refine ⟨s4, ?_⟩
    show b_law (den 100) [some (scriptD ns), some (.obj 0), none, none, none, none, none, none, none, none, none, none] 0 = _
    unfold b_law
    refine (pre _).trans ?_
    generalize ll 3 a o = L at ld r4
    generalize scriptD ns = sc at dr r4 ⊢
    generalize D.int v = dv at dr qv
    exact (sSeq_n (r' := [some sc, some (.obj 0), some a, some b, some L, none, none, none, none, none, none, none]) (s' := s3 + 1) ((sIf_t (s' := s3 + 1) (by simp only [dr, qv, EV, Nat.reduceAdd, Nat.reduceSub, reduceIte])).trans ((asg1 (d := L) (s' := s3 + 1) (by simp only [ld, EV, Nat.reduceAdd, Nat.reduceSub, reduceIte])).trans rfl))).trans r4
  | false =>
    rw [hv] at qv
    refine ⟨s5, ?_⟩
    show b_law (den 100) [some (scriptD ns), some (.obj 0), none, none, none, none, none, none, none, none, none, none] 0 = _
    unfold b_law
    refine (pre _).trans ?_
    generalize scriptD ns = sc at dr r5 ⊢
    generalize D.int v = dv at dr qv
    exact (sSeq_n (r' := [some sc, some (.obj 0), some a, some b, some o, none, none, none, none, none, none, none]) (s' := s3 + 1) ((sIf_f (s' := s3 + 1) (by simp only [dr, qv, EV, Nat.reduceAdd, Nat.reduceSub, reduceIte])).trans rfl)).trans r5
end Nw
set_option Elab.async false
set_option linter.all false
set_option maxRecDepth 100000
set_option maxHeartbeats 0
namespace Nw
open PySem PySem.Spec PyProof.Rows L2
def d_kind_of : He.DefD := ⟨("kind_of", none), "kind_of", "kind_of", defArgs s_kind_of, defBody s_kind_of, defScope s_kind_of, [], []⟩
def d_is_sign : He.DefD := ⟨("is_sign", none), "is_sign", "is_sign", defArgs s_is_sign, defBody s_is_sign, defScope s_is_sign, [], []⟩
def d_is_word : He.DefD := ⟨("is_word", none), "is_word", "is_word", defArgs s_is_word, defBody s_is_word, defScope s_is_word, [], []⟩
def d_is_thing : He.DefD := ⟨("is_thing", none), "is_thing", "is_thing", defArgs s_is_thing, defBody s_is_thing, defScope s_is_thing, [], []⟩
def d_inner_things : He.DefD := ⟨("inner_things", none), "inner_things", "inner_things", defArgs s_inner_things, defBody s_inner_things, defScope s_inner_things, [], []⟩
def d_look_thing : He.DefD := ⟨("look_thing", none), "look_thing", "look_thing", defArgs s_look_thing, defBody s_look_thing, defScope s_look_thing, [], []⟩
def d_is_same : He.DefD := ⟨("is_same", none), "is_same", "is_same", defArgs s_is_same, defBody s_is_same, defScope s_is_same, [], []⟩
def d_copied : He.DefD := ⟨("copied", none), "copied", "copied", defArgs s_copied, defBody s_copied, defScope s_copied, [], []⟩
def d_laid : He.DefD := ⟨("laid", none), "laid", "laid", defArgs s_laid, defBody s_laid, defScope s_laid, [], []⟩
def d_merged : He.DefD := ⟨("merged", none), "merged", "merged", defArgs s_merged, defBody s_merged, defScope s_merged, [], []⟩
def d_has_none : He.DefD := ⟨("has_none", none), "has_none", "has_none", defArgs s_has_none, defBody s_has_none, defScope s_has_none, [], []⟩
def d_sheet_for : He.DefD := ⟨("sheet_for", none), "sheet_for", "sheet_for", defArgs s_sheet_for, defBody s_sheet_for, defScope s_sheet_for, [], []⟩
def d_sheet_between : He.DefD := ⟨("sheet_between", none), "sheet_between", "sheet_between", defArgs s_sheet_between, defBody s_sheet_between, defScope s_sheet_between, [], []⟩
def d__law_cell : He.DefD := ⟨("_law_cell", none), "_law_cell", "_law_cell", defArgs s__law_cell, defBody s__law_cell, defScope s__law_cell, [], []⟩
def d__law_mix : He.DefD := ⟨("_law_mix", none), "_law_mix", "_law_mix", defArgs s__law_mix, defBody s__law_mix, defScope s__law_mix, [], []⟩
def d__law_draw : He.DefD := ⟨("_law_draw", none), "_law_draw", "_law_draw", defArgs s__law_draw, defBody s__law_draw, defScope s__law_draw, [], []⟩
def d__law_pick : He.DefD := ⟨("_law_pick", none), "_law_pick", "_law_pick", defArgs s__law_pick, defBody s__law_pick, defScope s__law_pick, [], []⟩
def d__law_refusal : He.DefD := ⟨("_law_refusal", none), "_law_refusal", "_law_refusal", defArgs s__law_refusal, defBody s__law_refusal, defScope s__law_refusal, [], []⟩
def d__law_kind : He.DefD := ⟨("_law_kind", none), "_law_kind", "_law_kind", defArgs s__law_kind, defBody s__law_kind, defScope s__law_kind, [], []⟩
def d__law_same : He.DefD := ⟨("_law_same", none), "_law_same", "_law_same", defArgs s__law_same, defBody s__law_same, defScope s__law_same, [], []⟩
def d__law_copy : He.DefD := ⟨("_law_copy", none), "_law_copy", "_law_copy", defArgs s__law_copy, defBody s__law_copy, defScope s__law_copy, [], []⟩
def d__law_word : He.DefD := ⟨("_law_word", none), "_law_word", "_law_word", defArgs s__law_word, defBody s__law_word, defScope s__law_word, [], []⟩
def d__law_leaf : He.DefD := ⟨("_law_leaf", none), "_law_leaf", "_law_leaf", defArgs s__law_leaf, defBody s__law_leaf, defScope s__law_leaf, [], []⟩
def d__law_some : He.DefD := ⟨("_law_some", none), "_law_some", "_law_some", defArgs s__law_some, defBody s__law_some, defScope s__law_some, [], []⟩
def d__law_laid : He.DefD := ⟨("_law_laid", none), "_law_laid", "_law_laid", defArgs s__law_laid, defBody s__law_laid, defScope s__law_laid, [], []⟩
def d__law_can : He.DefD := ⟨("_law_can", none), "_law_can", "_law_can", defArgs s__law_can, defBody s__law_can, defScope s__law_can, [], []⟩
def d__law_told : He.DefD := ⟨("_law_told", none), "_law_told", "_law_told", defArgs s__law_told, defBody s__law_told, defScope s__law_told, [], []⟩
def d_law : He.DefD := ⟨("law", none), "law", "law", defArgs s_law, defBody s_law, defScope s_law, [], []⟩
def fn : List He.DefD := [d_kind_of, d_is_sign, d_is_word, d_is_thing, d_inner_things, d_look_thing, d_is_same, d_copied, d_laid, d_merged, d_has_none, d_sheet_for, d_sheet_between, d__law_cell, d__law_mix, d__law_draw, d__law_pick, d__law_refusal, d__law_kind, d__law_same, d__law_copy, d__law_word, d__law_leaf, d__law_some, d__law_laid, d__law_can, d__law_told, d_law]
def fa0 : List He.Fa := [.glo "kind_of", .glo "is_sign", .glo "is_word", .glo "is_thing", .glo "inner_things", .glo "look_thing", .glo "is_same", .glo "copied", .glo "laid", .glo "merged", .glo "has_none", .glo "sheet_for", .glo "sheet_between", .glo "_law_cell", .glo "_law_mix", .glo "_law_draw", .glo "_law_pick", .glo "_law_refusal", .glo "_law_kind", .glo "_law_same", .glo "_law_copy", .glo "_law_word", .glo "_law_leaf", .glo "_law_some", .glo "_law_laid", .glo "_law_can", .glo "_law_told", .glo "law", .glo "BadText", .glo "BadThing", .glo "BadWay", .glo "NestError", .glo "NoGo", .glo "NoWay", .glo "Nothing", .free "ValueError", .free "abs", .free "all", .free "any", .free "bool"]
def fa1 : List He.Fa := [.free "dict", .free "int", .free "isinstance", .free "len", .free "list", .free "ord", .free "range", .free "sorted", .free "str", .free "tuple", .exc "BadThing", .int "MOST_DEEP" (12), .int "MOST_NUMBER" (999999999999999), .int "MOST_SIGNS" (60)]
def fa : List He.Fa := fa0 ++ fa1
def loose0 : List PySem.Str := [("NestError" : PySem.Str), ("BadThing" : PySem.Str), ("BadText" : PySem.Str), ("BadWay" : PySem.Str), ("NoWay" : PySem.Str), ("NoGo" : PySem.Str), ("Nothing" : PySem.Str), ("MOST_NUMBER" : PySem.Str), ("MOST_SIGNS" : PySem.Str), ("MOST_DEEP" : PySem.Str), ("kind_of" : PySem.Str), ("is_sign" : PySem.Str), ("is_word" : PySem.Str), ("is_thing" : PySem.Str), ("inner_things" : PySem.Str), ("look_thing" : PySem.Str), ("is_same" : PySem.Str), ("copied" : PySem.Str), ("laid" : PySem.Str), ("merged" : PySem.Str), ("has_none" : PySem.Str), ("sheet_for" : PySem.Str), ("sheet_between" : PySem.Str), ("_law_cell" : PySem.Str), ("_law_mix" : PySem.Str), ("_law_draw" : PySem.Str), ("_law_pick" : PySem.Str), ("_law_refusal" : PySem.Str), ("_law_kind" : PySem.Str), ("_law_same" : PySem.Str), ("_law_copy" : PySem.Str), ("_law_word" : PySem.Str), ("_law_leaf" : PySem.Str), ("_law_some" : PySem.Str), ("_law_laid" : PySem.Str)]
def loose1 : List PySem.Str := [("_law_can" : PySem.Str), ("_law_told" : PySem.Str)]
def loose : List PySem.Str := loose0 ++ loose1
abbrev RR : PySem.W.OpenRow := PySem.W.OpenLaw.row PySem.Challenge.rw_nestways_k70_whole_sheets
def tabs : List He.Tab := []
def ex (K : PySem.W.Frag) : Bool := xfB K [.NestError, .BadThing, .BadText, .BadWay, .NoWay, .NoGo, .Nothing]
abbrev hookK : PySem.W.Hook := He.hookX 5 fa fn tabs [] ex
def ob (s : PySem.W.SharedT) : He.AlX := He.obsX 5 fa fn tabs [] ex (HandSHeadRun.getT s)
theorem ob_eq (s : PySem.W.SharedT) : ob s = hookK.obs s.abs := He.obsX_eq (HandSHeadRun.getT_eq s)
def fixW (w : World) (b : Bool) : World := { w with params := { w.params with followText := fun s => if s = "special-get-raises" then b else w.params.followText s } }
theorem fixW_eq (w : World) : fixW w (w.params.followText "special-get-raises") = w := by
  have h : (fun s => if s = "special-get-raises" then w.params.followText "special-get-raises" else w.params.followText s) = w.params.followText := by
    funext s
    split
    · rename_i e; rw [e]
    · rfl
  unfold fixW
  rw [h]
theorem run_t (w : World) : HandSHeadRun.RunEq RR (PySem.W.view RR.prog [41]) hookK ob 4000 loose (fixW w true) := by
  intro os
  kernel_rfl
theorem run_f (w : World) : HandSHeadRun.RunEq RR (PySem.W.view RR.prog [41]) hookK ob 4000 loose (fixW w false) := by
  intro os
  kernel_rfl
theorem run (w : World) : HandSHeadRun.RunEq RR (PySem.W.view RR.prog [41]) hookK ob 4000 loose w := by
  have h := fixW_eq w
  cases e : w.params.followText "special-get-raises" with
  | false => rw [e] at h; rw [← h]; exact run_f w
  | true => rw [e] at h; rw [← h]; exact run_t w
theorem facts {P : Program} {w : World} {K : PySem.W.Frag} {h : Heap} {mg : Str → Option Value} {f : Addr} (X : K.In h) (G : h.Ns mainGlobals mg) (hfa : mg ("law" : Str) = some (.ref f)) (c : He.SaysX fa fn tabs [] ex w h K) :
    ∃ fd : FuncData, (∀ (s : Shared) (v : Value), BindsTo s fd ⟨[v], []⟩ [("script", v)]) ∧ ∀ base : Heap, K.In base → base.Ns mainGlobals mg → FnOk P w K mg base CX0 (100 + 3) f fd ["script"] (spLaw K 63) := by
  have fx : Fx w K mg := {
    xf := xf_of c.more
    f_ValueError := He.free_ok X G (c.t.d.fact 35 (f := .free "ValueError") rfl)
    f_abs := He.free_ok X G (c.t.d.fact 36 (f := .free "abs") rfl)
    f_all := He.free_ok X G (c.t.d.fact 37 (f := .free "all") rfl)
    f_any := He.free_ok X G (c.t.d.fact 38 (f := .free "any") rfl)
    f_bool := He.free_ok X G (c.t.d.fact 39 (f := .free "bool") rfl)
    f_dict := He.free_ok X G (c.t.d.fact 40 (f := .free "dict") rfl)
    f_int := He.free_ok X G (c.t.d.fact 41 (f := .free "int") rfl)
    f_isinstance := He.free_ok X G (c.t.d.fact 42 (f := .free "isinstance") rfl)
    f_len := He.free_ok X G (c.t.d.fact 43 (f := .free "len") rfl)
    f_list := He.free_ok X G (c.t.d.fact 44 (f := .free "list") rfl)
    f_ord := He.free_ok X G (c.t.d.fact 45 (f := .free "ord") rfl)
    f_range := He.free_ok X G (c.t.d.fact 46 (f := .free "range") rfl)
    f_sorted := He.free_ok X G (c.t.d.fact 47 (f := .free "sorted") rfl)
    f_str := He.free_ok X G (c.t.d.fact 48 (f := .free "str") rfl)
    f_tuple := He.free_ok X G (c.t.d.fact 49 (f := .free "tuple") rfl)
    c_BadText := He.glo_ok X G (c.t.d.fact 28 (f := .glo "BadText") rfl)
    c_BadThing := He.glo_ok X G (c.t.d.fact 29 (f := .glo "BadThing") rfl)
    c_BadWay := He.glo_ok X G (c.t.d.fact 30 (f := .glo "BadWay") rfl)
    c_NestError := He.glo_ok X G (c.t.d.fact 31 (f := .glo "NestError") rfl)
    c_NoGo := He.glo_ok X G (c.t.d.fact 32 (f := .glo "NoGo") rfl)
    c_NoWay := He.glo_ok X G (c.t.d.fact 33 (f := .glo "NoWay") rfl)
    c_Nothing := He.glo_ok X G (c.t.d.fact 34 (f := .glo "Nothing") rfl)
    e_BadThing := (He.exc_ok (c.t.d.fact 50 (f := .exc "BadThing") rfl)).1
    k_BadThing := (He.exc_ok (c.t.d.fact 50 (f := .exc "BadThing") rfl)).2.1
    g_MOST_DEEP := He.int_ok X G (c.t.d.fact 51 (f := .int "MOST_DEEP" (12)) rfl)
    g_MOST_NUMBER := He.int_ok X G (c.t.d.fact 52 (f := .int "MOST_NUMBER" (999999999999999)) rfl)
    g_MOST_SIGNS := He.int_ok X G (c.t.d.fact 53 (f := .int "MOST_SIGNS" (60)) rfl)
  }
  have fns : Fns K mg := {
    kind_of := ⟨c.t.d.def_ 0 (d := d_kind_of) rfl, He.glo_ok X G (c.t.d.fact 0 (f := .glo "kind_of") rfl)⟩
    is_sign := ⟨c.t.d.def_ 1 (d := d_is_sign) rfl, He.glo_ok X G (c.t.d.fact 1 (f := .glo "is_sign") rfl)⟩
    is_word := ⟨c.t.d.def_ 2 (d := d_is_word) rfl, He.glo_ok X G (c.t.d.fact 2 (f := .glo "is_word") rfl)⟩
    is_thing := ⟨c.t.d.def_ 3 (d := d_is_thing) rfl, He.glo_ok X G (c.t.d.fact 3 (f := .glo "is_thing") rfl)⟩
    inner_things := ⟨c.t.d.def_ 4 (d := d_inner_things) rfl, He.glo_ok X G (c.t.d.fact 4 (f := .glo "inner_things") rfl)⟩
    look_thing := ⟨c.t.d.def_ 5 (d := d_look_thing) rfl, He.glo_ok X G (c.t.d.fact 5 (f := .glo "look_thing") rfl)⟩
    is_same := ⟨c.t.d.def_ 6 (d := d_is_same) rfl, He.glo_ok X G (c.t.d.fact 6 (f := .glo "is_same") rfl)⟩
    copied := ⟨c.t.d.def_ 7 (d := d_copied) rfl, He.glo_ok X G (c.t.d.fact 7 (f := .glo "copied") rfl)⟩
    laid := ⟨c.t.d.def_ 8 (d := d_laid) rfl, He.glo_ok X G (c.t.d.fact 8 (f := .glo "laid") rfl)⟩
    merged := ⟨c.t.d.def_ 9 (d := d_merged) rfl, He.glo_ok X G (c.t.d.fact 9 (f := .glo "merged") rfl)⟩
    has_none := ⟨c.t.d.def_ 10 (d := d_has_none) rfl, He.glo_ok X G (c.t.d.fact 10 (f := .glo "has_none") rfl)⟩
    sheet_for := ⟨c.t.d.def_ 11 (d := d_sheet_for) rfl, He.glo_ok X G (c.t.d.fact 11 (f := .glo "sheet_for") rfl)⟩
    sheet_between := ⟨c.t.d.def_ 12 (d := d_sheet_between) rfl, He.glo_ok X G (c.t.d.fact 12 (f := .glo "sheet_between") rfl)⟩
    _law_cell := ⟨c.t.d.def_ 13 (d := d__law_cell) rfl, He.glo_ok X G (c.t.d.fact 13 (f := .glo "_law_cell") rfl)⟩
    _law_mix := ⟨c.t.d.def_ 14 (d := d__law_mix) rfl, He.glo_ok X G (c.t.d.fact 14 (f := .glo "_law_mix") rfl)⟩
    _law_draw := ⟨c.t.d.def_ 15 (d := d__law_draw) rfl, He.glo_ok X G (c.t.d.fact 15 (f := .glo "_law_draw") rfl)⟩
    _law_pick := ⟨c.t.d.def_ 16 (d := d__law_pick) rfl, He.glo_ok X G (c.t.d.fact 16 (f := .glo "_law_pick") rfl)⟩
    _law_refusal := ⟨c.t.d.def_ 17 (d := d__law_refusal) rfl, He.glo_ok X G (c.t.d.fact 17 (f := .glo "_law_refusal") rfl)⟩
    _law_kind := ⟨c.t.d.def_ 18 (d := d__law_kind) rfl, He.glo_ok X G (c.t.d.fact 18 (f := .glo "_law_kind") rfl)⟩
    _law_same := ⟨c.t.d.def_ 19 (d := d__law_same) rfl, He.glo_ok X G (c.t.d.fact 19 (f := .glo "_law_same") rfl)⟩
    _law_copy := ⟨c.t.d.def_ 20 (d := d__law_copy) rfl, He.glo_ok X G (c.t.d.fact 20 (f := .glo "_law_copy") rfl)⟩
    _law_word := ⟨c.t.d.def_ 21 (d := d__law_word) rfl, He.glo_ok X G (c.t.d.fact 21 (f := .glo "_law_word") rfl)⟩
    _law_leaf := ⟨c.t.d.def_ 22 (d := d__law_leaf) rfl, He.glo_ok X G (c.t.d.fact 22 (f := .glo "_law_leaf") rfl)⟩
    _law_some := ⟨c.t.d.def_ 23 (d := d__law_some) rfl, He.glo_ok X G (c.t.d.fact 23 (f := .glo "_law_some") rfl)⟩
    _law_laid := ⟨c.t.d.def_ 24 (d := d__law_laid) rfl, He.glo_ok X G (c.t.d.fact 24 (f := .glo "_law_laid") rfl)⟩
    _law_can := ⟨c.t.d.def_ 25 (d := d__law_can) rfl, He.glo_ok X G (c.t.d.fact 25 (f := .glo "_law_can") rfl)⟩
    _law_told := ⟨c.t.d.def_ 26 (d := d__law_told) rfl, He.glo_ok X G (c.t.d.fact 26 (f := .glo "_law_told") rfl)⟩
    law := ⟨c.t.d.def_ 27 (d := d_law) rfl, He.glo_ok X G (c.t.d.fact 27 (f := .glo "law") rfl)⟩
  }
  obtain ⟨⟨fd, F⟩, e0⟩ := fns.law
  have e := hfa.symm.trans e0
  cases e
  have b := FunD.bindsA (ps := ["script"]) F fun _ _ _ _ _ _ us hl => match us, hl with | [_], _ => rfl
  exact ⟨fd, fun s v => b s [v] rfl, fun base _ _ => fn_law (N := n_law) F sc_law rfl rfl (by first | exact Or.inl rfl | exact Or.inr rfl) (fun T => rest_law fx (by omega) (hyp_all fx fns 100) T) (by rw [sizeLine_eq]; decide) (fun _ _ _ _ _ _ _ => rfl) law_true⟩
end Nw
open PySem PySem.W PySem.Calls PyProof.Rows
theorem PySem.Challenge.cw_nestways_k70_whole_sheets_holds : PySem.Challenge.rw_nestways_k70_whole_sheets.Holds := by
  w_on; o_law
  refine HandSHeadRun.head_any (r := OpenLaw.row PySem.Challenge.rw_nestways_k70_whole_sheets) (q := view (OpenLaw.row PySem.Challenge.rw_nestways_k70_whole_sheets).prog [41]) (H := Nw.hookK) (ob := Nw.ob) (M := 4000) (loose := Nw.loose) (d := HandSHeadRun.topDef (OpenLaw.row PySem.Challenge.rw_nestways_k70_whole_sheets).prog 41) (kwd := []) Nw.ob_eq
    (by kernel_rfl) (fun s => by kernel_rfl) Nw.run (by kernel_rfl) (by kernel_rfl) (by kernel_rfl) (by rfl) (by first | assumption | decide +kernel) (by decide +kernel) ⟨rfl, rfl, rfl, rfl, rfl, by decide +kernel⟩ ?hw ?hc
  case hw => w_witness2
  case hc =>
    refine L2.walk_ofE (l := PySem.Challenge.rw_nestways_k70_whole_sheets) (n := 63) (k := 100 + 3) (x := "script") (CX := L2.CX0) rfl (by decide) (by kernel_rfl) ⟨rfl, by decide, by decide⟩ ?F (fun _ _ _ _ z => z)
    intro w mg fa h Y G hmg0
    obtain ⟨K, KX, c⟩ := Y
    have hmg : mg ("law" : PySem.Str) = some (.ref fa) := by
      have e : (HandSHeadRun.topDef (OpenLaw.row PySem.Challenge.rw_nestways_k70_whole_sheets).prog 41).name = ("law" : PySem.Str) := by kernel_rfl
      rw [← e]
      exact hmg0
    obtain ⟨fd, hb, hF⟩ := Nw.facts (P := (PySem.Challenge.rw_nestways_k70_whole_sheets).prog) (w := w) KX G hmg c
    exact ⟨K, fd, Nw.spLaw K 63, KX, hb, fun H a ns hl _ hS => ⟨a, ns, rfl, hl, hS, fun _ => rfl⟩, hF⟩
